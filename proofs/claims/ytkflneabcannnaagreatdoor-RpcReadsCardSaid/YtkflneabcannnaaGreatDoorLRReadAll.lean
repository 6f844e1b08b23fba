
/- The plain part: what the printed functions compute, and that the laws hold of it. No condition. -/
import Derived.Test.YtkflneabcannnaaGreatDoorV0
import Derived.Test.YtkflneabcannnaaGreatDoorV1
import Derived.Test.YtkflneabcannnaaGreatDoorV2
import Derived.Test.YtkflneabcannnaaGreatDoorV3
import Derived.Test.YtkflneabcannnaaGreatDoorV4
import Derived.Test.YtkflneabcannnaaGreatDoorV5
import Derived.Test.YtkflneabcannnaaGreatDoorV6
import Derived.Test.YtkflneabcannnaaGreatDoorV7
import Derived.Test.YtkflneabcannnaaGreatDoorV8
import Derived.Test.YtkflneabcannnaaGreatDoorV9
import Derived.Test.YtkflneabcannnaaGreatDoorKArith
import Derived.KernelRfl
import Derived.OpenShut
import Derived.Test.YtkflneabcannnaaGreatDoorKConv
set_option linter.unusedSimpArgs false
set_option linter.unusedVariables false
set_option maxHeartbeats 8000000
namespace Go.Proofs.YtkflneabcannnaaGreatDoor.G
open Go Go.KK
def codeIn : GErr → Option Int
  | .nil => none
  | .code n => some n
  | .fault _ _ e => codeIn e
  | .other _ => none
def OfE (e : GErr) : Int := match e with | .nil => 0 | e => (codeIn e).getD 21
def WhereE : GErr → Int × Bool
  | .fault _ a _ => (a, true)
  | _ => (0, false)
@[simp] theorem OfE_nil : OfE .nil = 0 := rfl
@[simp] theorem OfE_code (n : Int) : OfE (.code n) = n := rfl
@[simp] theorem OfE_fault (o : ByteArray) (a n : Int) : OfE (.fault o a (.code n)) = n := rfl
theorem as_code_loop (old : Int) : ∀ (e : GErr), e.isNil = false → iter (f_errors_as_code_l0 old) e = some (match codeIn e with | some n => (true, n) | none => (false, old))
  | .nil, h => by cases h
  | .code n, _ => iter_stop rfl
  | .other a, _ => iter_stop rfl
  | .fault o a e, _ => by
    cases e with
    | nil => exact iter_stop rfl
    | code n => rw [iter_next (show f_errors_as_code_l0 old (.fault o a (.code n)) = some (.inl (.code n)) from rfl)]; exact iter_stop rfl
    | other b => rw [iter_next (show f_errors_as_code_l0 old (.fault o a (.other b)) = some (.inl (.other b)) from rfl)]; exact iter_stop rfl
    | fault p b e => rw [iter_next (show f_errors_as_code_l0 old (.fault o a (.fault p b e)) = some (.inl (.fault p b e)) from rfl), as_code_loop old (.fault p b e) rfl]; rfl
theorem of_eq (e : GErr) : f_fault_Of e = some (OfE e) := by
  cases e with
  | nil => rfl
  | code n => unfold f_fault_Of f_errors_As_code f_errors_as_code; rw [as_code_loop _ _ rfl]; rfl
  | other a => unfold f_fault_Of f_errors_As_code f_errors_as_code; rw [as_code_loop _ _ rfl]; rfl
  | fault o a e =>
    unfold f_fault_Of f_errors_As_code f_errors_as_code
    rw [as_code_loop _ _ rfl]
    simp only [GErr.isNil, OfE]
    cases codeIn (.fault o a e) <;> rfl
theorem as_fault_eq (old : T_api_Fault) (e : GErr) : f_errors_As_fault e old = some (match e with | .fault o a e => (true, o, a, e) | _ => (false, old.Op, old.At, old.Err)) := by
  cases e with
  | nil => rfl
  | code n => unfold f_errors_As_fault f_errors_as_fault; rw [iter_stop (show f_errors_as_fault_l0 old (.code n) = some (.inr _) from rfl)]; rfl
  | other a => unfold f_errors_As_fault f_errors_as_fault; rw [iter_stop (show f_errors_as_fault_l0 old (.other a) = some (.inr _) from rfl)]; rfl
  | fault o a e => unfold f_errors_As_fault f_errors_as_fault; rw [iter_stop (show f_errors_as_fault_l0 old (.fault o a e) = some (.inr _) from rfl)]; rfl
theorem where_eq (e : GErr) : f_fault_Where e = some (WhereE e) := by
  unfold f_fault_Where
  rw [as_fault_eq]
  cases e <;> rfl
def IsE : GErr → Int → Bool
  | .code n, c => decide (n = c)
  | .fault _ _ e, c => IsE e c
  | _, _ => false
theorem is_loop (c : Int) : ∀ (e : GErr), iter (f_errors_is_l0 c) e = some (IsE e c)
  | .nil => iter_stop rfl
  | .other _ => iter_stop rfl
  | .code n => by
    refine iter_stop ?_
    unfold f_errors_is_l0 IsE
    simp only
    by_cases h : n = c
    · rw [if_pos (decide_eq_true h), decide_eq_true h]
    · rw [if_neg (fun q => h (of_decide_eq_true q)), decide_eq_false h]
  | .fault o a e => by
    cases e with
    | nil => exact iter_stop rfl
    | other b => rw [iter_next (show f_errors_is_l0 c (.fault o a (.other b)) = some (.inl (.other b)) from rfl), is_loop c (.other b)]; rfl
    | code n => rw [iter_next (show f_errors_is_l0 c (.fault o a (.code n)) = some (.inl (.code n)) from rfl), is_loop c (.code n)]; rfl
    | fault p b e => rw [iter_next (show f_errors_is_l0 c (.fault o a (.fault p b e)) = some (.inl (.fault p b e)) from rfl), is_loop c (.fault p b e)]; rfl
theorem is_eq (e : GErr) (c : Int) : f_fault_Is e c = some (IsE e c) := by
  unfold f_fault_Is f_errors_Is f_errors_is
  rw [is_loop]
  cases e <;> rfl
def PathE : GErr → List ByteArray
  | .fault o _ e => o :: PathE e
  | _ => []
theorem path_loop : ∀ (e : GErr) (l : List ByteArray), l.length + (PathE e).length ≤ 274877906944 → iter f_fault_Path_l0 (e, l) = some (l ++ PathE e)
  | .nil, l, _ => (iter_stop (by unfold f_fault_Path_l0; rfl)).trans (by simp [PathE])
  | .code n, l, _ => (iter_stop (e := l) (by
      unfold f_fault_Path_l0
      simp only [GErr.isNil, Bool.not_false, if_true, as_fault_eq, Option.bind_some])).trans (by simp [PathE])
  | .other n, l, _ => (iter_stop (e := l) (by
      unfold f_fault_Path_l0
      simp only [GErr.isNil, Bool.not_false, if_true, as_fault_eq, Option.bind_some])).trans (by simp [PathE])
  | .fault o a e, l, h => by
    have hstep : f_fault_Path_l0 (.fault o a e, l) = some (.inl (e, l ++ [o])) := by
      unfold f_fault_Path_l0
      simp only [GErr.isNil, Bool.not_false, if_true, as_fault_eq, Option.bind_some, Bool.not_true, Bool.false_eq_true, if_false]
      rw [grd_t (by simp [PathE] at h ⊢; omega)]
    rw [iter_next hstep, path_loop e (l ++ [o]) (by simp [PathE] at h ⊢; omega)]
    simp [PathE]
theorem path_eq (e : GErr) (h : (PathE e).length ≤ 274877906944) : f_fault_Path e = some (PathE e) := by
  unfold f_fault_Path
  rw [path_loop e [] (by simpa using h)]
  simp
open Classical in
theorem under_loop (op : ByteArray) (l : List ByteArray) (hl : l.length ≤ 274877906944) : ∀ (d i : Nat), i + d = l.length → iter (f_fault_Under_l0 op l) (i : Int) = some (if op ∈ l.drop i then .inr () else .inl ())
  | 0, i, h => by
    refine iter_stop ?_
    unfold f_fault_Under_l0
    simp only
    rw [if_neg (fun q => absurd (of_decide_eq_true q) (by omega)), List.drop_of_length_le (by omega), if_neg (by simp)]
  | d + 1, i, h => by
    have hlt : i < l.length := by omega
    have e1 : rd l (i : Int) = l[i] := len_lt hlt
    by_cases g : l[i] = op
    · refine iter_stop ?_
      unfold f_fault_Under_l0
      simp only
      rw [if_pos (decide_eq_true (by omega)), grd_t ⟨by omega, by omega⟩, e1, if_pos (decide_eq_true g), List.drop_eq_getElem_cons hlt, if_pos (by simp [g])]
    · have hstep : f_fault_Under_l0 op l (i : Int) = some (.inl ((i + 1 : Nat) : Int)) := by
        unfold f_fault_Under_l0
        simp only
        rw [if_pos (decide_eq_true (by omega)), grd_t ⟨by omega, by omega⟩, e1, if_neg (fun q => g (of_decide_eq_true q)), w_i64 (by omega) (by omega)]
        rfl
      rw [iter_next hstep, under_loop op l hl d (i + 1) (by omega), List.drop_eq_getElem_cons hlt]
      have : (op ∈ l[i] :: l.drop (i + 1)) ↔ op ∈ l.drop (i + 1) := by
        simp only [List.mem_cons]
        exact ⟨fun q => q.elim (fun q => absurd q.symm g) id, .inr⟩
      simp only [this]
open Classical in
theorem under_eq (e : GErr) (op : ByteArray) (h : (PathE e).length ≤ 274877906944) : f_fault_Under e op = some (decide (op ∈ PathE e)) := by
  unfold f_fault_Under
  rw [path_eq e h]
  simp only [Option.bind_some]
  have := under_loop op (PathE e) h (PathE e).length 0 (by omega)
  rw [show ((0 : Nat) : Int) = 0 from rfl] at this
  rw [this, List.drop_zero]
  by_cases g : op ∈ PathE e
  · rw [if_pos g, decide_eq_true g]; rfl
  · rw [if_neg g, decide_eq_false g]; rfl
theorem rdn {α : Type} [Inhabited α] {xs : List α} {i : Nat} (h : i < xs.length) : rd xs (i : Int) = xs[i] := len_lt h
def okB (l : List Int) : Prop := ∀ x ∈ l, 0 ≤ x ∧ x ≤ 255
theorem okB.nil : okB [] := fun _ h => by cases h
theorem okB.append {a b : List Int} (h : okB a) (k : okB b) : okB (a ++ b) := fun x hx => (List.mem_append.1 hx).elim (h x) (k x)
theorem okB.at {l : List Int} (h : okB l) {i : Nat} (hi : i < l.length) : 0 ≤ rd l (i : Int) ∧ rd l (i : Int) ≤ 255 := by
  rw [rdn hi]; exact h _ (List.getElem_mem hi)
theorem okB.drop {l : List Int} (h : okB l) (n : Nat) : okB (l.drop n) := fun x hx => h x (List.mem_of_mem_drop hx)
theorem okB.take {l : List Int} (h : okB l) (n : Nat) : okB (l.take n) := fun x hx => h x (List.mem_of_mem_take hx)
theorem sub_end (b : List Int) (i : Nat) : sub b (i : Int) (b.length : Int) = b.drop i := by
  unfold sub
  rw [show ((i : Int)).toNat = i by omega, show ((b.length : Int)).toNat = b.length by omega]
  exact List.take_of_length_le (by simp)
theorem sub_nat {α : Type} (b : List α) (i j : Nat) : sub b (i : Int) (j : Int) = (b.drop i).take (j - i) := by
  unfold sub
  rw [show ((i : Int)).toNat = i by omega, show ((j : Int)).toNat = j by omega]
theorem rd_drop (b : List Int) (i j : Nat) : rd (b.drop i) (j : Int) = rd b ((i + j : Nat) : Int) := by
  unfold rd
  rw [show ((j : Int)).toNat = j by omega, show (((i + j : Nat) : Int)).toNat = i + j by omega]
  simp [List.getD_eq_getElem?_getD]

/-! ### operations on numbers -/
theorem fdiv_nn {a b : Int} (h : 0 < b) : a.fdiv b = a / b := Int.fdiv_eq_ediv_of_nonneg _ (Int.le_of_lt h)
theorem shr8 (n : Int) (k : Nat) (hk : k + 8 ≤ 64) : shrI .u64 n ((k + 8 : Nat) : Int) = shrI .u64 n (k : Int) / 256 := by
  unfold shrI
  rw [show min (((k + 8 : Nat) : Int)).toNat IntKind.u64.bits = k + 8 by show min _ 64 = _; omega, show min ((k : Int)).toNat IntKind.u64.bits = k by show min _ 64 = _; omega]
  rw [fdiv_nn (Int.pow_pos (by decide)), fdiv_nn (Int.pow_pos (by decide)), Int.pow_add]
  exact (Int.ediv_ediv_of_nonneg (Int.pow_nonneg (by decide))).symm
theorem shr0 (n : Int) : shrI .u64 n (0 : Int) = n := by
  unfold shrI
  show n.fdiv (2 ^ 0) = n
  rw [fdiv_nn (by decide)]
  omega
theorem s8 (n : Int) : shrI .u64 n 8 = n / 256 := by have := shr8 n 0 (by decide); rw [show ((0 : Nat) : Int) = 0 from rfl, shr0] at this; exact this
theorem s16 (n : Int) : shrI .u64 n 16 = n / 256 / 256 := by have := shr8 n 8 (by decide); rw [show ((8 : Nat) : Int) = 8 from rfl, s8] at this; exact this
theorem s24 (n : Int) : shrI .u64 n 24 = n / 256 / 256 / 256 := by have := shr8 n 16 (by decide); rw [show ((16 : Nat) : Int) = 16 from rfl, s16] at this; exact this
theorem s32 (n : Int) : shrI .u64 n 32 = n / 256 / 256 / 256 / 256 := by have := shr8 n 24 (by decide); rw [show ((24 : Nat) : Int) = 24 from rfl, s24] at this; exact this
theorem s40 (n : Int) : shrI .u64 n 40 = n / 256 / 256 / 256 / 256 / 256 := by have := shr8 n 32 (by decide); rw [show ((32 : Nat) : Int) = 32 from rfl, s32] at this; exact this
theorem s48 (n : Int) : shrI .u64 n 48 = n / 256 / 256 / 256 / 256 / 256 / 256 := by have := shr8 n 40 (by decide); rw [show ((40 : Nat) : Int) = 40 from rfl, s40] at this; exact this
theorem s56 (n : Int) : shrI .u64 n 56 = n / 256 / 256 / 256 / 256 / 256 / 256 / 256 := by have := shr8 n 48 (by decide); rw [show ((48 : Nat) : Int) = 48 from rfl, s48] at this; exact this
theorem or_tab : ∀ x : Fin 64, orI .u8 64 (x.val : Int) = 64 + x.val ∧ orI .u8 128 (x.val : Int) = 128 + x.val ∧ orI .u8 192 (x.val : Int) = 192 + x.val := by decide +kernel
theorem or64 {x : Int} (h0 : 0 ≤ x) (h1 : x < 64) : orI .u8 64 x = 64 + x ∧ orI .u8 128 x = 128 + x ∧ orI .u8 192 x = 192 + x := by
  have := or_tab ⟨x.toNat, by omega⟩
  simp only [show ((x.toNat : Nat) : Int) = x by omega] at this
  exact this
theorem head_tab : ∀ x : Fin 256, andI .u8 (x.val : Int) 63 = (x.val : Int) % 64 ∧ shrI .u8 (x.val : Int) 6 = (x.val : Int) / 64 := by decide +kernel
theorem head_eq {x : Int} (h0 : 0 ≤ x) (h1 : x ≤ 255) : andI .u8 x 63 = x % 64 ∧ shrI .u8 x 6 = x / 64 := by
  have := head_tab ⟨x.toNat, by omega⟩
  simp only [show ((x.toNat : Nat) : Int) = x by omega] at this
  exact this
theorem shl_tab : shlI .i64 1 0 = 1 ∧ shlI .i64 1 1 = 2 ∧ shlI .i64 1 2 = 4 ∧ shlI .i64 1 3 = 8 := by decide +kernel
theorem next8 {n b : Int} (h0 : 0 ≤ n) (h1 : n < 72057594037927936) (b0 : 0 ≤ b) (b1 : b ≤ 255) : orI .u64 (shlI .u64 n 8) (IntKind.u64.wrap b) = n * 256 + b := by
  rw [w_u64 b0 (by omega)]
  have e1 : shlI .u64 n 8 = n * 256 := by
    unfold shlI
    show IntKind.u64.wrap (n * 2 ^ 8) = _
    rw [w_u64 (by omega) (by omega)]; omega
  rw [e1]
  obtain ⟨N, rfl⟩ := Int.eq_ofNat_of_zero_le h0
  obtain ⟨B, rfl⟩ := Int.eq_ofNat_of_zero_le b0
  unfold orI
  show IntKind.u64.wrap (((BitVec.ofInt 64 ((N : Int) * 256)) ||| (BitVec.ofInt 64 (B : Int))).toNat : Int) = _
  have e2 : (BitVec.ofInt 64 ((N : Int) * 256)).toNat = N * 256 := by
    rw [show ((N : Int) * 256) = ((N * 256 : Nat) : Int) by omega, BitVec.ofInt_natCast, BitVec.toNat_ofNat]
    exact Nat.mod_eq_of_lt (by omega)
  have e3 : (BitVec.ofInt 64 (B : Int)).toNat = B := by
    rw [BitVec.ofInt_natCast, BitVec.toNat_ofNat]
    exact Nat.mod_eq_of_lt (by omega)
  rw [BitVec.toNat_or, e2, e3]
  have e4 : N * 256 ||| B = N * 256 + B := by
    have := Nat.shiftLeft_add_eq_or_of_lt (a := N) (b := B) (i := 8) (by omega)
    rw [Nat.shiftLeft_eq] at this
    exact this.symm
  rw [e4, w_u64 (by omega) (by omega)]
  omega

/-! ### a number as bytes -/
def top : Int := 4611686018427387903
def cap62 (n : Int) : Int := if top < n then top else n
def numC (k : Int) : List Int :=
  if k < 64 then [k]
  else if k < 16384 then [64 + k / 256, k % 256]
  else if k < 1073741824 then [128 + k / 256 / 256 / 256, k / 256 / 256 % 256, k / 256 % 256, k % 256]
  else [192 + k / 256 / 256 / 256 / 256 / 256 / 256 / 256, k / 256 / 256 / 256 / 256 / 256 / 256 % 256, k / 256 / 256 / 256 / 256 / 256 % 256, k / 256 / 256 / 256 / 256 % 256, k / 256 / 256 / 256 % 256, k / 256 / 256 % 256, k / 256 % 256, k % 256]
def numB (n : Int) : List Int := numC (cap62 n)
theorem cap62_le {n : Int} (h : 0 ≤ n) : 0 ≤ cap62 n ∧ cap62 n ≤ top := by
  unfold cap62 top
  split <;> constructor <;> (try unfold top at *) <;> omega
theorem numC_len (k : Int) : (numC k).length ≤ 8 ∧ 1 ≤ (numC k).length := by
  unfold numC
  split
  · simp
  split
  · simp
  split <;> simp
theorem numB_len (n : Int) : (numB n).length ≤ 8 ∧ 1 ≤ (numB n).length := numC_len _
theorem numC_ok {k : Int} (h0 : 0 ≤ k) (h1 : k ≤ top) : okB (numC k) := by
  unfold top at h1
  unfold numC okB
  intro x hx
  split at hx
  · simp at hx; omega
  split at hx
  · simp at hx; omega
  split at hx
  · simp at hx; omega
  · simp at hx
    have q : 0 ≤ k / 256 / 256 / 256 / 256 / 256 / 256 / 256 ∧ k / 256 / 256 / 256 / 256 / 256 / 256 / 256 < 64 := by omega
    rcases hx with h | h | h | h | h | h | h | h
    · omega
    all_goals
      subst h
      omega
theorem numB_ok {n : Int} (h0 : 0 ≤ n) : okB (numB n) := numC_ok (cap62_le h0).1 (cap62_le h0).2
theorem wnum_eq (b : List Int) (n : Int) (h0 : 0 ≤ n) (hb : b.length ≤ 274877900000) : f_wire_Num b n = some (b ++ numB n) := by
  have hc := cap62_le h0
  unfold f_wire_Num numB
  rw [show (if (4611686018427387903 : Int) < n then (4611686018427387903 : Int) else n) = cap62 n from rfl]
  generalize cap62 n = k at hc
  unfold top at hc
  unfold numC
  by_cases h1 : k < 64
  · rw [if_pos (decide_eq_true h1), if_pos h1, grd_t (by simp; omega), w_u8 (by omega) (by omega)]
  rw [if_neg (fun q => h1 (of_decide_eq_true q)), if_neg h1]
  have m0 : IntKind.u8.wrap k = k % 256 := u8_mod k
  by_cases h2 : k < 16384
  · have e1 : IntKind.u8.wrap (shrI .u64 k 8) = k / 256 := by rw [s8, w_u8 (by omega) (by omega)]
    rw [if_pos (decide_eq_true h2), if_pos h2, grd_t (by simp; omega), e1, m0, (or64 (x := k / 256) (by omega) (by omega)).1]
  rw [if_neg (fun q => h2 (of_decide_eq_true q)), if_neg h2]
  by_cases h3 : k < 1073741824
  · have e1 : IntKind.u8.wrap (shrI .u64 k 24) = k / 256 / 256 / 256 := by rw [s24, w_u8 (by omega) (by omega)]
    rw [if_pos (decide_eq_true h3), if_pos h3, grd_t (by simp; omega), e1, m0, s16, s8, u8_mod, u8_mod, (or64 (x := k / 256 / 256 / 256) (by omega) (by omega)).2.1]
  · have e1 : IntKind.u8.wrap (shrI .u64 k 56) = k / 256 / 256 / 256 / 256 / 256 / 256 / 256 := by rw [s56, w_u8 (by omega) (by omega)]
    rw [if_neg (fun q => h3 (of_decide_eq_true q)), if_neg h3, grd_t (by simp; omega), e1, m0, s48, s40, s32, s24, s16, s8, u8_mod, u8_mod, u8_mod, u8_mod, u8_mod, u8_mod,
      (or64 (x := k / 256 / 256 / 256 / 256 / 256 / 256 / 256) (by omega) (by omega)).2.2]
def intB (n : Int) : List Int := numB (if n < 0 then 0 else n)
theorem intB_len (n : Int) : (intB n).length ≤ 8 ∧ 1 ≤ (intB n).length := numB_len _
theorem intB_ok (n : Int) : okB (intB n) := numB_ok (by split <;> omega)
theorem wint_eq (b : List Int) (n : Int) (hn : n ≤ 9223372036854775807) (hb : b.length ≤ 274877900000) : f_wire_Int b n = some (b ++ intB n) := by
  unfold f_wire_Int intB
  have h : 0 ≤ (if n < 0 then (0 : Int) else n) ∧ (if n < 0 then (0 : Int) else n) ≤ 9223372036854775807 := by split <;> omega
  rw [w_u64 h.1 (by omega), wnum_eq b _ h.1 hb]
  rfl
def flagB (is : Bool) : List Int := if is = true then [1] else [0]
theorem wflag_eq (b : List Int) (is : Bool) (hb : b.length ≤ 274877900000) : f_wire_Flag b is = some (b ++ flagB is) := by
  unfold f_wire_Flag flagB
  cases is
  · rw [if_neg (by decide), grd_t (by simp only [List.length_singleton]; omega)]; rfl
  · rw [if_pos rfl, grd_t (by simp only [List.length_singleton]; omega)]; rfl
def textB (s : List Int) : List Int := intB (s.length : Int) ++ s
theorem wtext_eq (b s : List Int) (hb : b.length + s.length ≤ 274877800000) : f_wire_Text b s = some (b ++ textB s) := by
  unfold f_wire_Text textB
  rw [wint_eq b _ (by omega) (by omega)]
  simp only [Option.bind_some]
  have := intB_len (s.length : Int)
  rw [grd_t (by simp; omega), List.append_assoc]
def intsB (l : List Int) : List Int := (l.map intB).flatten
theorem intsB_cons (x : Int) (l : List Int) : intsB (x :: l) = intB x ++ intsB l := rfl
def rowB (l : List Int) : List Int := intB (l.length : Int) ++ intsB l
theorem intsB_len : ∀ (l : List Int), (intsB l).length ≤ 8 * l.length
  | [] => by simp [intsB]
  | x :: l => by
    have h1 := intsB_len l
    have h2 := (intB_len x).1
    simp only [intsB, List.map_cons, List.flatten_cons, List.length_append, List.length_cons] at *
    omega
theorem wrow_loop (l : List Int) (hl : ∀ x ∈ l, x ≤ 9223372036854775807) (hn : l.length ≤ 1000000) : ∀ (d i : Nat) (b : List Int), i + d = l.length → b.length + 8 * d ≤ 274877900000 →
    iter (f_wire_Row_l0 l) (b, (i : Int)) = some (b ++ intsB (l.drop i))
  | 0, i, b, hi, hb => by
    rw [List.drop_of_length_le (by omega)]
    refine iter_stop ?_
    unfold f_wire_Row_l0
    simp only
    rw [if_neg (fun q => absurd (of_decide_eq_true q) (by omega))]
    simp [intsB]
  | d + 1, i, b, hi, hb => by
    have hlt : i < l.length := by omega
    have hstep : f_wire_Row_l0 l (b, (i : Int)) = some (.inl (b ++ intB l[i], ((i + 1 : Nat) : Int))) := by
      unfold f_wire_Row_l0
      simp only
      rw [if_pos (decide_eq_true (by omega)), grd_t ⟨by omega, by omega⟩, rdn hlt, wint_eq _ _ (hl _ (List.getElem_mem hlt)) (by omega), w_i64 (by omega) (by omega)]
      rfl
    rw [iter_next hstep, wrow_loop l hl hn d (i + 1) _ (by omega) (by have := (intB_len l[i]).1; simp; omega), List.drop_eq_getElem_cons hlt, intsB_cons, List.append_assoc]
theorem wrow_eq (b l : List Int) (hl : ∀ x ∈ l, x ≤ 9223372036854775807) (hn : l.length ≤ 1000000) (hb : b.length ≤ 274800000000) : f_wire_Row b l = some (b ++ rowB l) := by
  unfold f_wire_Row rowB
  rw [wint_eq b _ (by omega) (by omega)]
  simp only [Option.bind_some]
  have h := wrow_loop l hl hn l.length 0 (b ++ intB (l.length : Int)) (by omega) (by have := (intB_len (l.length : Int)).1; simp; omega)
  rw [show ((0 : Nat) : Int) = 0 from rfl] at h
  rw [h]
  simp
/-! ### the reference writes -/
theorem size_eq (k : Int) : f_ref02_size k = some (if k < 64 then 1 else if k < 16384 then 2 else if k < 1073741824 then 4 else 8) := by
  unfold f_ref02_size
  by_cases h1 : k < 64
  · rw [if_pos (decide_eq_true h1), if_pos h1]
  rw [if_neg (fun q => h1 (of_decide_eq_true q)), if_neg h1]
  by_cases h2 : k < 16384
  · rw [if_pos (decide_eq_true h2), if_pos h2]
  rw [if_neg (fun q => h2 (of_decide_eq_true q)), if_neg h2]
  by_cases h3 : k < 1073741824
  · rw [if_pos (decide_eq_true h3), if_pos h3]
  rw [if_neg (fun q => h3 (of_decide_eq_true q)), if_neg h3]
theorem rsame_loop (l : List Int) (hl : l.length ≤ 274877906944) : ∀ (d m : Nat), m + d = l.length → iter (f_ref02_Same_l0 l l) (m : Int) = some (.inl ())
  | 0, m, hm => by
    refine iter_stop ?_
    unfold f_ref02_Same_l0
    simp only
    rw [if_neg (fun q => absurd (of_decide_eq_true q) (by omega))]
  | d + 1, m, hm => by
    have hstep : f_ref02_Same_l0 l l (m : Int) = some (.inl ((m + 1 : Nat) : Int)) := by
      unfold f_ref02_Same_l0
      simp only
      rw [if_pos (decide_eq_true (by omega)), grd_t ⟨by omega, by omega⟩, grd_t ⟨by omega, by omega⟩, w_i64 (by omega) (by omega)]
      simp
    rw [iter_next hstep]
    exact rsame_loop l hl d (m + 1) (by omega)
theorem rsame_eq (l : List Int) (hl : l.length ≤ 274877906944) : f_ref02_Same l l = some true := by
  unfold f_ref02_Same
  have h := rsame_loop l hl l.length 0 (by omega)
  rw [show ((0 : Nat) : Int) = 0 from rfl] at h
  rw [h, if_neg (by simp)]
  rfl

/-! ### a number read -/
def accN (b : List Int) (a : Nat) : Nat → Int
  | 0 => rd b (a : Int) % 64
  | i + 1 => accN b a i * 256 + rd b ((a + (i + 1) : Nat) : Int)
def capN : Nat → Int
  | 0 => 63
  | i + 1 => capN i * 256 + 255
theorem capN_le : ∀ i : Fin 8, capN i.val ≤ top := by decide
theorem capN_le6 : ∀ i : Fin 7, capN i.val ≤ 18014398509481983 := by decide
theorem accN_bnd {b : List Int} (hb : okB b) {a : Nat} : ∀ i : Nat, a + i < b.length → 0 ≤ accN b a i ∧ accN b a i ≤ capN i
  | 0, h => by
    have := hb.at (i := a) (by omega)
    simp only [accN, capN]
    omega
  | i + 1, h => by
    have h1 := accN_bnd (a := a) hb i (by omega)
    have h2 := hb.at (i := a + (i + 1)) h
    simp only [accN, capN]
    omega
def headK (h : Int) : Nat := if h / 64 = 0 then 1 else if h / 64 = 1 then 2 else if h / 64 = 2 then 4 else 8
def sizeK (n : Int) : Nat := if n < 64 then 1 else if n < 16384 then 2 else if n < 1073741824 then 4 else 8
def numR (b : List Int) (a : Nat) (most : Int) : Int ⊕ (Int × Nat) :=
  if b.length ≤ a then .inl 3
  else if b.length < a + headK (rd b (a : Int)) then .inl 3
  else if sizeK (accN b a (headK (rd b (a : Int)) - 1)) ≠ headK (rd b (a : Int)) then .inl 5
  else if most < accN b a (headK (rd b (a : Int)) - 1) then .inl 6
  else .inr (accN b a (headK (rd b (a : Int)) - 1), a + headK (rd b (a : Int)))
theorem size_eq' (k : Int) : f_ref02_size k = some ((sizeK k : Nat) : Int) := by
  rw [size_eq]
  unfold sizeK
  split
  · rfl
  split
  · rfl
  split <;> rfl
theorem headK_le (h : Int) : headK h ≤ 8 ∧ 1 ≤ headK h := by
  unfold headK
  split
  · simp
  split
  · simp
  split <;> simp
abbrev numOp : ByteArray := ⟨#[110, 117, 109]⟩
theorem rnum_l1 {b : List Int} (hb : okB b) (hl : b.length ≤ 1000000000000) {a : Nat} {s : T_ref02_State} (hs : s.At = (a : Int)) (k : Nat) (hk : a + k ≤ b.length) (hk8 : k ≤ 8) : ∀ (d i : Nat), i + 1 + d = k →
    iter (f_ref02_num_l1 b s (k : Int)) (accN b a i, ((i + 1 : Nat) : Int)) = some (accN b a (k - 1))
  | 0, i, h => by
    refine iter_stop ?_
    unfold f_ref02_num_l1
    simp only
    rw [if_neg (fun q => absurd (of_decide_eq_true q) (by omega)), show k - 1 = i by omega]
  | d + 1, i, h => by
    have hb1 := accN_bnd (a := a) hb i (by omega)
    have hb2 := capN_le6 ⟨i, by omega⟩
    have hb3 := hb.at (i := a + (i + 1)) (by omega)
    have ea : IntKind.i64.wrap (s.At + ((i + 1 : Nat) : Int)) = ((a + (i + 1) : Nat) : Int) := by rw [hs, w_i64 (by omega) (by omega)]; omega
    simp only at hb2
    have hstep : f_ref02_num_l1 b s (k : Int) (accN b a i, ((i + 1 : Nat) : Int)) = some (.inl (accN b a (i + 1), ((i + 1 + 1 : Nat) : Int))) := by
      unfold f_ref02_num_l1
      simp only
      rw [if_pos (decide_eq_true (by omega)), ea, grd_t ⟨by omega, by omega⟩, w_u64 (n := accN b a i * 256) (by omega) (by omega), w_u64 (n := rd b ((a + (i + 1) : Nat) : Int)) (by omega) (by omega), w_u64 (by omega) (by omega), w_i64 (by omega) (by omega)]
      rfl
    rw [iter_next hstep]
    exact rnum_l1 hb hl hs k hk hk8 d (i + 1) (by omega)
theorem rnum_l0 {h : Int} (h0 : 0 ≤ h) (h1 : h ≤ 255) : iter f_ref02_num_l0 ((1 : Int), IntKind.u8.wrap (h.tdiv 64)) = some ((headK h : Nat) : Int) := by
  rw [Int.tdiv_eq_ediv_of_nonneg h0, w_u8 (by omega) (by omega)]
  have hq : h / 64 = 0 ∨ h / 64 = 1 ∨ h / 64 = 2 ∨ h / 64 = 3 := by omega
  unfold headK
  rcases hq with q | q | q | q <;> rw [q]
  · exact iter_run 2 rfl
  · exact iter_run 3 rfl
  · exact iter_run 4 rfl
  · exact iter_run 5 rfl
theorem rbad_eq (s : T_ref02_State) (h : s.Code = 0) (o : ByteArray) (a c : Int) : f_ref02_bad s o a c = some ⟨s.At, c, o, a⟩ := by
  unfold f_ref02_bad
  rw [if_neg (fun q => absurd h (of_decide_eq_true q))]
def numS (b : List Int) (a : Nat) (most : Int) : T_ref02_State × Int :=
  match numR b a most with
  | .inl c => (⟨(a : Int), c, numOp, (a : Int)⟩, 0)
  | .inr (n, a') => (⟨(a' : Int), 0, ⟨#[]⟩, 0⟩, n)
theorem rnum_read {b : List Int} (hb : okB b) (hl : b.length ≤ 1000000000000) {a : Nat} {s : T_ref02_State} (hs : s.At = (a : Int)) (hc : s.Code = 0) (most : Int) : f_ref02_num b s most = some (numS b a most) := by
  unfold f_ref02_num numS numR
  rw [if_neg (fun q => absurd hc (of_decide_eq_true q)), hs]
  by_cases g1 : b.length ≤ a
  · rw [if_pos (decide_eq_true (by omega)), if_pos g1, rbad_eq s hc, hs]; rfl
  rw [if_neg (fun q => absurd (of_decide_eq_true q) (by omega)), if_neg g1, grd_t ⟨by omega, by omega⟩]
  have hB := hb.at (i := a) (by omega)
  rw [rnum_l0 hB.1 hB.2]
  have hK := headK_le (rd b (a : Int))
  generalize hkk : headK (rd b (a : Int)) = k at hK
  simp only [Option.bind_some]
  have ea : IntKind.i64.wrap ((a : Int) + (k : Int)) = ((a + k : Nat) : Int) := by rw [w_i64 (by omega) (by omega)]; omega
  rw [ea]
  by_cases g2 : b.length < a + k
  · rw [if_pos (decide_eq_true (by omega)), if_pos g2, rbad_eq s hc, hs]; rfl
  rw [if_neg (fun q => absurd (of_decide_eq_true q) (by omega)), if_neg g2, grd_t ⟨by omega, by omega⟩]
  have e0 : IntKind.u64.wrap ((rd b (a : Int)).tmod 64) = accN b a 0 := by
    rw [Int.tmod_eq_emod_of_nonneg hB.1, w_u64 (by omega) (by omega)]; rfl
  have hloop := rnum_l1 hb hl hs k (by omega) (by omega) (k - 1) 0 (by omega)
  rw [show ((0 + 1 : Nat) : Int) = 1 from rfl] at hloop
  rw [e0, hloop]
  simp only [Option.bind_some, size_eq']
  by_cases g3 : sizeK (accN b a (k - 1)) = k
  · rw [if_neg (fun q => absurd (of_decide_eq_true q) (by omega)), if_neg (show ¬ (sizeK (accN b a (k - 1)) ≠ k) from fun q => q g3)]
    by_cases g4 : most < accN b a (k - 1)
    · rw [if_pos (decide_eq_true g4), if_pos g4, rbad_eq s hc, hs]; rfl
    · rw [if_neg (fun q => g4 (of_decide_eq_true q)), if_neg g4]
  · rw [if_pos (decide_eq_true (by omega)), if_pos g3, rbad_eq s hc, hs]; rfl
theorem fail_bad (b : List Int) (a : Int) (e : GErr) (h : e.isNil = false) (o : ByteArray) (at_ c : Int) : f_wire_Reader_fail ⟨b, a, e⟩ o at_ c = some e := by
  unfold f_wire_Reader_fail
  simp only [h]
  rfl
theorem next1 {b : List Int} (hb : okB b) {a i : Nat} (h : a + (i + 1) < b.length) (hi : i ≤ 6) (hl : b.length ≤ 1000000000000) : f_wire_Reader_Num_1 (accN b a i) (b.drop a) ((i + 1 : Nat) : Int) = some (accN b a (i + 1), ((i + 2 : Nat) : Int)) := by
  have hb1 := accN_bnd (a := a) hb i (by omega)
  have hb2 := capN_le6 ⟨i, by omega⟩
  have hb3 := hb.at (i := a + (i + 1)) h
  simp only at hb2
  unfold f_wire_Reader_Num_1
  rw [grd_t ⟨by omega, by simp; omega⟩, rd_drop, next8 (by omega) (by omega) hb3.1 hb3.2, w_i64 (by omega) (by omega)]
  rfl
theorem shl_head {h : Int} (h0 : 0 ≤ h) (h1 : h ≤ 255) : shlI .i64 1 (shrI .u8 h 6) = ((headK h : Nat) : Int) := by
  rw [(head_eq h0 h1).2]
  have hq : h / 64 = 0 ∨ h / 64 = 1 ∨ h / 64 = 2 ∨ h / 64 = 3 := by omega
  unfold headK
  rcases hq with q | q | q | q <;> rw [q]
  · exact shl_tab.1
  · exact shl_tab.2.1
  · exact shl_tab.2.2.1
  · exact shl_tab.2.2.2
theorem headK_cases (h : Int) : headK h = 1 ∨ headK h = 2 ∨ headK h = 4 ∨ headK h = 8 := by
  unfold headK
  split
  · simp
  split
  · simp
  split <;> simp
def leastK (k : Nat) : Int := if k = 8 then 1073741824 else if k = 4 then 16384 else if k = 2 then 64 else 0
def numP (b : List Int) (a : Nat) (most : Int) : Int × Int × GErr :=
  match numR b a most with
  | .inl c => (0, (a : Int), .fault numOp (a : Int) (.code c))
  | .inr (n, a') => (n, (a' : Int), .nil)
theorem wnum_tail (b : List Int) (a k : Nat) (most n : Int) (hk : k = 1 ∨ k = 2 ∨ k = 4 ∨ k = 8) (hn : 0 ≤ n) (hc : n ≤ capN (k - 1)) (ha : a + k ≤ b.length) (hl : b.length ≤ 1000000000000) :
    (if (decide (n < leastK k)) = true then ((f_wire_Reader_fail ⟨b, (a : Int), .nil⟩ numOp (a : Int) 5).bind fun (r103 : GErr) => (some ((0 : Int), (a : Int), r103))) else (if (decide (most < n)) = true then ((f_wire_Reader_fail ⟨b, (a : Int), .nil⟩ numOp (a : Int) 6).bind fun (r108 : GErr) => (some ((0 : Int), (a : Int), r108))) else (some (n, IntKind.i64.wrap ((a : Int) + (k : Int)), GErr.nil)))) =
    some (match (if sizeK n ≠ k then Sum.inl 5 else if most < n then Sum.inl 6 else Sum.inr (n, a + k) : Int ⊕ (Int × Nat)) with
      | .inl c => (0, (a : Int), .fault numOp (a : Int) (.code c))
      | .inr (n, a') => (n, (a' : Int), .nil)) := by
  have hs : (n < leastK k) ↔ sizeK n ≠ k := by
    unfold leastK sizeK
    rcases hk with rfl | rfl | rfl | rfl
    · have : capN (1 - 1) = 63 := rfl
      simp; omega
    · have : capN (2 - 1) = 16383 := rfl
      simp
      constructor
      · intro h; rw [if_pos h]; decide
      · intro h
        by_cases g : n < 64
        · exact g
        · rw [if_neg g, if_pos (by omega)] at h; exact absurd rfl h
    · have : capN (4 - 1) = 1073741823 := rfl
      simp
      constructor
      · intro h
        by_cases g : n < 64
        · rw [if_pos g]; decide
        · rw [if_neg g, if_pos h]; decide
      · intro h
        by_cases g : n < 16384
        · exact g
        · rw [if_neg (by omega), if_neg g, if_pos (by omega)] at h; exact absurd rfl h
    · simp
      constructor
      · intro h
        by_cases g : n < 64
        · rw [if_pos g]; decide
        · rw [if_neg g]
          by_cases g2 : n < 16384
          · rw [if_pos g2]; decide
          · rw [if_neg g2, if_pos h]; decide
      · intro h
        by_cases g : n < 1073741824
        · exact g
        · rw [if_neg (by omega), if_neg (by omega), if_neg g] at h; exact absurd rfl h
  have hk8 : k ≤ 8 := by omega
  by_cases g3 : sizeK n ≠ k
  · rw [if_pos (decide_eq_true (hs.2 g3)), if_pos g3]; rfl
  · rw [if_neg (fun q => g3 (hs.1 (of_decide_eq_true q))), if_neg g3]
    by_cases g4 : most < n
    · rw [if_pos (decide_eq_true g4), if_pos g4]; rfl
    · rw [if_neg (fun q => g4 (of_decide_eq_true q)), if_neg g4, w_i64 (by omega) (by omega)]; rfl
theorem wnum_read {b : List Int} (hb : okB b) (hl : b.length ≤ 1000000000000) {a : Nat} (ha : a ≤ b.length) (most : Int) : f_wire_Reader_Num ⟨b, (a : Int), .nil⟩ most = some (numP b a most) := by
  unfold f_wire_Reader_Num numP numR
  simp only [sub_end]
  rw [if_neg (show ¬ ((!GErr.isNil GErr.nil) = true) from by decide), grd_t ⟨by omega, by omega, by omega⟩]
  by_cases g1 : b.length ≤ a
  · rw [if_pos (decide_eq_true (by simp; omega)), if_pos g1]; rfl
  have hB := hb.at (i := a) (by omega)
  have e0 : rd (b.drop a) 0 = rd b (a : Int) := rd_drop b a 0
  have hK := headK_cases (rd b (a : Int))
  have eN : IntKind.u64.wrap (andI .u8 (rd b (a : Int)) 63) = accN b a 0 := by
    rw [(head_eq hB.1 hB.2).1, w_u64 (by omega) (by omega)]; rfl
  have hsh : 0 ≤ shrI .u8 (rd b (a : Int)) 6 := by rw [(head_eq hB.1 hB.2).2]; omega
  rw [if_neg (fun q => absurd (of_decide_eq_true q) (by simp; omega)), if_neg g1, grd_t ⟨by omega, by simp; omega⟩]
  simp only [e0, shl_head hB.1 hB.2, eN]
  rw [grd_t hsh]
  generalize hkk : headK (rd b (a : Int)) = k at hK
  by_cases g2 : b.length < a + k
  · rw [if_pos (decide_eq_true (by simp; omega)), if_pos g2]; rfl
  rw [if_neg (fun q => absurd (of_decide_eq_true q) (by simp; omega)), if_neg g2, grd_t ⟨by omega, by simp; omega⟩]
  have hbn : 0 ≤ accN b a (k - 1) ∧ accN b a (k - 1) ≤ capN (k - 1) := accN_bnd hb (k - 1) (by omega)
  have tail := wnum_tail b a k most (accN b a (k - 1)) hK hbn.1 hbn.2 (by omega) hl
  rcases hK with rfl | rfl | rfl | rfl
  · rw [if_neg (by decide), if_neg (by decide), if_neg (by decide)]
    exact tail
  · have n1 : f_wire_Reader_Num_1 (accN b a 0) (b.drop a) 1 = some (accN b a 1, 2) := next1 hb (i := 0) (by omega) (by decide) hl
    rw [if_neg (by decide), if_neg (by decide), if_pos (by decide)]
    simp only [Option.bind_some, Sum.elim_inl, Sum.elim_inr, n1]
    exact tail
  · have n1 : f_wire_Reader_Num_1 (accN b a 0) (b.drop a) 1 = some (accN b a 1, 2) := next1 hb (i := 0) (by omega) (by decide) hl
    have n2 : f_wire_Reader_Num_1 (accN b a 1) (b.drop a) 2 = some (accN b a 2, 3) := next1 hb (i := 1) (by omega) (by decide) hl
    have n3 : f_wire_Reader_Num_1 (accN b a 2) (b.drop a) 3 = some (accN b a 3, 4) := next1 hb (i := 2) (by omega) (by decide) hl
    rw [if_neg (by decide), if_pos (by decide)]
    simp only [Option.bind_some, Sum.elim_inl, Sum.elim_inr, n1, n2, n3]
    exact tail
  · have n1 : f_wire_Reader_Num_1 (accN b a 0) (b.drop a) 1 = some (accN b a 1, 2) := next1 hb (i := 0) (by omega) (by decide) hl
    have n2 : f_wire_Reader_Num_1 (accN b a 1) (b.drop a) 2 = some (accN b a 2, 3) := next1 hb (i := 1) (by omega) (by decide) hl
    have n3 : f_wire_Reader_Num_1 (accN b a 2) (b.drop a) 3 = some (accN b a 3, 4) := next1 hb (i := 2) (by omega) (by decide) hl
    have n4 : f_wire_Reader_Num_1 (accN b a 3) (b.drop a) 4 = some (accN b a 4, 5) := next1 hb (i := 3) (by omega) (by decide) hl
    have n5 : f_wire_Reader_Num_1 (accN b a 4) (b.drop a) 5 = some (accN b a 5, 6) := next1 hb (i := 4) (by omega) (by decide) hl
    have n6 : f_wire_Reader_Num_1 (accN b a 5) (b.drop a) 6 = some (accN b a 6, 7) := next1 hb (i := 5) (by omega) (by decide) hl
    have n7 : f_wire_Reader_Num_1 (accN b a 6) (b.drop a) 7 = some (accN b a 7, 8) := next1 hb (i := 6) (by omega) (by decide) hl
    rw [if_pos (by decide)]
    simp only [Option.bind_some, Sum.elim_inl, Sum.elim_inr, n1, n2, n3, n4, n5, n6, n7]
    exact tail
theorem wnum_bad {b : List Int} {a : Int} {e : GErr} (h : e.isNil = false) (most : Int) : f_wire_Reader_Num ⟨b, a, e⟩ most = some (0, a, e) := by
  unfold f_wire_Reader_Num
  rw [if_pos (by simp [h])]
theorem numR_ok {b : List Int} (hb : okB b) {a : Nat} {most n : Int} {a' : Nat} (h : numR b a most = .inr (n, a')) : 0 ≤ n ∧ n ≤ top ∧ n ≤ most ∧ a < a' ∧ a' ≤ b.length ∧ a' ≤ a + 8 := by
  unfold numR at h
  have hk := headK_le (rd b (a : Int))
  split at h
  · cases h
  split at h
  · cases h
  split at h
  · cases h
  split at h
  · cases h
  · cases h
    have h1 := accN_bnd (a := a) hb (headK (rd b (a : Int)) - 1) (by omega)
    have h2 := capN_le ⟨headK (rd b (a : Int)) - 1, by omega⟩
    simp only at h2
    exact ⟨h1.1, by omega, by omega, by omega, by omega, by omega⟩
theorem numR_code {b : List Int} {a : Nat} {most c : Int} (h : numR b a most = .inl c) : c = 3 ∨ c = 5 ∨ c = 6 := by
  unfold numR at h
  split at h
  · cases h; simp
  split at h
  · cases h; simp
  split at h
  · cases h; simp
  split at h
  · cases h; simp
  · cases h
def pos0 (n : Int) : Int := if n < 0 then 0 else n
theorem wint_read {b : List Int} (hb : okB b) (hl : b.length ≤ 1000000000000) {a : Nat} (ha : a ≤ b.length) {most : Int} (hm : most ≤ 9223372036854775807) : f_wire_Reader_Int ⟨b, (a : Int), .nil⟩ most = some (numP b a (pos0 most)) := by
  unfold f_wire_Reader_Int
  have hp : 0 ≤ pos0 most ∧ pos0 most ≤ 9223372036854775807 := by unfold pos0; split <;> omega
  rw [show (if most < (0 : Int) then (0 : Int) else most) = pos0 most from rfl, w_u64 hp.1 (by omega), wnum_read hb hl ha]
  simp only [Option.bind_some]
  unfold numP
  cases h : numR b a (pos0 most) with
  | inl c => rfl
  | inr x =>
    obtain ⟨n, a'⟩ := x
    have := numR_ok hb h
    unfold top at this
    simp only
    rw [w_i64 (by omega) (by omega)]
theorem wint_bad {b : List Int} {a : Int} {e : GErr} (h : e.isNil = false) (most : Int) : f_wire_Reader_Int ⟨b, a, e⟩ most = some (0, a, e) := by
  unfold f_wire_Reader_Int
  rw [wnum_bad h]; rfl
abbrev flagOp : ByteArray := ⟨#[102, 108, 97, 103]⟩
abbrev textOp : ByteArray := ⟨#[116, 101, 120, 116]⟩
abbrev endOp : ByteArray := ⟨#[101, 110, 100]⟩
abbrev RdR (α : Type) := (Int × ByteArray × Int × Nat) ⊕ (α × Nat)
def numRR (b : List Int) (a : Nat) (most : Int) : RdR Int := match numR b a most with
  | .inl c => .inl (c, numOp, (a : Int), a)
  | .inr x => .inr x
def flagR (b : List Int) (a : Nat) : RdR Bool :=
  if b.length ≤ a then .inl (3, flagOp, (a : Int), a) else if 1 < rd b (a : Int) then .inl (5, flagOp, (a : Int), a) else .inr (decide (rd b (a : Int) = 1), a + 1)
def textR (b : List Int) (a : Nat) (most : Int) : RdR (List Int) := match numR b a (pos0 most) with
  | .inl c => .inl (c, numOp, (a : Int), a)
  | .inr (n, a') => if ((b.length - a' : Nat) : Int) < n then .inl (3, textOp, (a : Int), a) else .inr ((b.drop a').take n.toNat, a' + n.toNat)
def rowG (b : List Int) (each : Int) : Nat → Nat → List Int → RdR (List Int)
  | 0, a, l => .inr (l, a)
  | k + 1, a, l => match numR b a (pos0 each) with
    | .inl c => .inl (c, numOp, (a : Int), a)
    | .inr (n, a') => rowG b each k a' (l ++ [n])
def rowR (b : List Int) (a : Nat) (many each : Int) : RdR (List Int) := match numR b a (pos0 many) with
  | .inl c => .inl (c, numOp, (a : Int), a)
  | .inr (n, a') => rowG b each n.toNat a' []
def asP {α : Type} (z : α) : RdR α → α × Int × GErr
  | .inl (c, o, w, a) => (z, (a : Int), .fault o w (.code c))
  | .inr (x, a) => (x, (a : Int), .nil)
def asS {α : Type} (z : α) : RdR α → T_ref02_State × α
  | .inl (c, o, w, a) => (⟨(a : Int), c, o, w⟩, z)
  | .inr (x, a) => (⟨(a : Int), 0, ⟨#[]⟩, 0⟩, x)
theorem numP_as (b : List Int) (a : Nat) (most : Int) : numP b a most = asP 0 (numRR b a most) := by
  unfold numP numRR
  cases numR b a most <;> rfl
theorem numS_as (b : List Int) (a : Nat) (most : Int) : numS b a most = asS 0 (numRR b a most) := by
  unfold numS numRR
  cases numR b a most <;> rfl
theorem wflag_read {b : List Int} (hb : okB b) (hl : b.length ≤ 1000000000000) (a : Nat) : f_wire_Reader_Flag ⟨b, (a : Int), .nil⟩ = some (asP false (flagR b a)) := by
  unfold f_wire_Reader_Flag flagR
  dsimp only
  rw [if_neg (show ¬ ((!GErr.isNil GErr.nil) = true) from by decide)]
  by_cases g1 : b.length ≤ a
  · rw [if_pos (decide_eq_true (by omega)), if_pos g1]; rfl
  rw [if_neg (fun q => absurd (of_decide_eq_true q) (by omega)), if_neg g1, grd_t ⟨by omega, by omega⟩]
  by_cases g2 : 1 < rd b (a : Int)
  · rw [if_pos (decide_eq_true g2), if_pos g2]; rfl
  have e1 : IntKind.i64.wrap ((a : Int) + 1) = ((a + 1 : Nat) : Int) := by rw [w_i64 (by omega) (by omega)]; omega
  have e2 : IntKind.i64.wrap (((a + 1 : Nat) : Int) - 1) = (a : Int) := by rw [w_i64 (by omega) (by omega)]; omega
  rw [if_neg (fun q => g2 (of_decide_eq_true q)), if_neg g2]
  simp only [e1, e2]
  rw [grd_t ⟨by omega, by omega⟩]; rfl
theorem wflag_bad {b : List Int} {a : Int} {e : GErr} (h : e.isNil = false) : f_wire_Reader_Flag ⟨b, a, e⟩ = some (false, a, e) := by
  unfold f_wire_Reader_Flag
  rw [if_pos (by simp [h])]; rfl
theorem clone_eq (l : List Int) (h : l.length ≤ 1000000000) : f_slices_Clone_byte_byte l = some l := by
  unfold f_slices_Clone_byte_byte
  rw [grd_t (by simp; omega)]; simp
theorem wtext_read {b : List Int} (hb : okB b) (hl : b.length ≤ 1000000000) {a : Nat} (ha : a ≤ b.length) {most : Int} (hm : most ≤ 9223372036854775807) : f_wire_Reader_Text ⟨b, (a : Int), .nil⟩ most = some (asP [] (textR b a most)) := by
  unfold f_wire_Reader_Text textR
  rw [wint_read hb (by omega) ha hm]
  unfold numP
  cases h : numR b a (pos0 most) with
  | inl c => rfl
  | inr x =>
    obtain ⟨n, a'⟩ := x
    have hn := numR_ok hb h
    unfold top at hn
    simp only [Option.bind_some]
    rw [if_neg (show ¬ ((!GErr.isNil GErr.nil) = true) from by decide), w_i64 (n := (b.length : Int) - (a' : Int)) (by omega) (by omega)]
    by_cases g : ((b.length - a' : Nat) : Int) < n
    · rw [if_pos (decide_eq_true (by omega)), if_pos g]; rfl
    · obtain ⟨N, rfl⟩ := Int.eq_ofNat_of_zero_le hn.1
      have e1 : IntKind.i64.wrap ((a' : Int) + (N : Int)) = ((a' + N : Nat) : Int) := by rw [w_i64 (by omega) (by omega)]; omega
      have e2 : IntKind.i64.wrap (((a' + N : Nat) : Int) - (N : Int)) = (a' : Int) := by rw [w_i64 (by omega) (by omega)]; omega
      rw [if_neg (fun q => absurd (of_decide_eq_true q) (by omega)), if_neg g]
      simp only [e1, e2]
      rw [grd_t ⟨by omega, by omega, by omega⟩, sub_nat, clone_eq _ (by simp; omega)]
      rw [show a' + N - a' = N by omega]; rfl
theorem wtext_bad {b : List Int} {a : Int} {e : GErr} (h : e.isNil = false) (most : Int) : f_wire_Reader_Text ⟨b, a, e⟩ most = some ([], a, e) := by
  unfold f_wire_Reader_Text
  rw [wint_bad h]
  simp only [Option.bind_some]
  rw [if_pos (by simp [h])]
theorem wrow_rloop {b : List Int} (hb : okB b) (hl : b.length ≤ 1000000000) (r : T_wire_Reader) (hr : r.b = b) {each : Int} (he : each ≤ 9223372036854775807) (N : Nat) (hN : N ≤ 4611686018427387903) : ∀ (k i a : Nat) (l : List Int), i + k = N → a ≤ b.length → l.length ≤ a →
    ∃ l', iter (f_wire_Reader_Row_l0 r each (N : Int)) (l, (i : Int), (a : Int), .nil) = some (l', (asP [] (rowG b each k a l)).2) ∧ ((asP [] (rowG b each k a l)).2.2.isNil = true → l' = (asP [] (rowG b each k a l)).1)
  | 0, i, a, l, hi, ha, hla => by
    refine ⟨l, iter_stop ?_, fun _ => rfl⟩
    unfold f_wire_Reader_Row_l0
    simp only
    rw [if_neg (fun q => absurd (of_decide_eq_true q) (by omega))]
    rfl
  | k + 1, i, a, l, hi, ha, hla => by
    have hstep : f_wire_Reader_Row_l0 r each (N : Int) (l, (i : Int), (a : Int), .nil) = some (.inl (l ++ [(numP b a (pos0 each)).1], ((i + 1 : Nat) : Int), (numP b a (pos0 each)).2.1, (numP b a (pos0 each)).2.2)) := by
      unfold f_wire_Reader_Row_l0
      simp only
      rw [if_pos (decide_eq_true (by omega)), hr, wint_read hb (by omega) ha he]
      simp only [Option.bind_some, GErr.isNil, if_true]
      rw [grd_t (by simp; omega), w_i64 (by omega) (by omega)]
      rfl
    rw [iter_next hstep]
    unfold numP rowG
    cases h : numR b a (pos0 each) with
    | inl c =>
      refine ⟨l ++ [0], iter_stop ?_, fun q => by cases q⟩
      unfold f_wire_Reader_Row_l0
      simp only
      by_cases g : ((i + 1 : Nat) : Int) < (N : Int)
      · rw [if_pos (decide_eq_true g)]; rfl
      · rw [if_neg (fun q => g (of_decide_eq_true q))]; rfl
    | inr x =>
      obtain ⟨n, a'⟩ := x
      have hn := numR_ok hb h
      exact wrow_rloop hb hl r hr he N hN k (i + 1) a' (l ++ [n]) (by omega) (by omega) (by simp; omega)
theorem wrow_read {b : List Int} (hb : okB b) (hl : b.length ≤ 1000000000) {a : Nat} (ha : a ≤ b.length) {many each : Int} (hm : many ≤ 9223372036854775807) (he : each ≤ 9223372036854775807) : f_wire_Reader_Row ⟨b, (a : Int), .nil⟩ many each = some (asP [] (rowR b a many each)) := by
  unfold f_wire_Reader_Row rowR
  rw [wint_read hb (by omega) ha hm]
  unfold numP
  cases h : numR b a (pos0 many) with
  | inl c =>
    simp only [Option.bind_some]
    rw [iter_stop (e := ([], (a : Int), .fault numOp (a : Int) (.code c))) rfl]
    rfl
  | inr x =>
    obtain ⟨n, a'⟩ := x
    have hn := numR_ok hb h
    unfold top at hn
    obtain ⟨N, rfl⟩ := Int.eq_ofNat_of_zero_le hn.1
    simp only [Option.bind_some]
    obtain ⟨l', h1, h2⟩ := wrow_rloop hb hl ⟨b, (a : Int), .nil⟩ rfl he N (by omega) N 0 a' [] (by omega) (by omega) (by simp)
    rw [show ((0 : Nat) : Int) = 0 from rfl] at h1
    rw [h1, show ((N : Int)).toNat = N by omega]
    simp only [Option.bind_some]
    cases hr : rowG b each N a' [] with
    | inl x => rfl
    | inr x =>
      rw [hr] at h2
      rw [h2 rfl]
      rfl
theorem wrow_bad {b : List Int} {a : Int} {e : GErr} (h : e.isNil = false) (many each : Int) : f_wire_Reader_Row ⟨b, a, e⟩ many each = some ([], a, e) := by
  unfold f_wire_Reader_Row
  rw [wint_bad h]
  simp only [Option.bind_some]
  rw [iter_stop (e := ([], a, e)) (by
    unfold f_wire_Reader_Row_l0
    rfl)]
  simp [h]
theorem wend_eq (b : List Int) (a : Int) (e : GErr) : f_wire_Reader_End ⟨b, a, e⟩ = some (if a < (b.length : Int) ∧ e.isNil = true then (.fault endOp a (.code 5), .fault endOp a (.code 5)) else (e, e)) := by
  unfold f_wire_Reader_End
  by_cases g : a < (b.length : Int)
  · rw [if_pos (decide_eq_true g)]
    cases h : e.isNil with
    | true =>
      rw [if_pos ⟨g, rfl⟩]
      obtain rfl : e = .nil := by cases e <;> first | rfl | cases h
      rfl
    | false => rw [fail_bad _ _ _ h, if_neg (by simp)]; rfl
  · rw [if_neg (fun q => g (of_decide_eq_true q)), if_neg (fun q => g q.1)]; rfl

/-! ### the reference reads -/
theorem above_eq {n : Int} (h : n ≤ 9223372036854775807) : f_ref02_above n = some (pos0 n) := by
  unfold f_ref02_above pos0
  by_cases g : n < 0
  · rw [if_pos (decide_eq_true g), if_pos g]
  · rw [if_neg (fun q => g (of_decide_eq_true q)), if_neg g, w_u64 (by omega) (by omega)]
theorem rtext_read {b : List Int} (hb : okB b) (hl : b.length ≤ 1000000000) {a : Nat} {s : T_ref02_State} (hs : s.At = (a : Int)) (hc : s.Code = 0) {most : Int} (hm : most ≤ 9223372036854775807) : f_ref02_text b s most = some (asS [] (textR b a most)) := by
  unfold f_ref02_text textR
  rw [above_eq hm]
  simp only [Option.bind_some]
  rw [rnum_read hb (by omega) hs hc]
  unfold numS
  cases h : numR b a (pos0 most) with
  | inl c =>
    have hc := numR_code h
    simp only [Option.bind_some]
    rw [if_pos (decide_eq_true (by omega))]; rfl
  | inr x =>
    obtain ⟨n, a'⟩ := x
    have hn := numR_ok hb h
    unfold top at hn
    obtain ⟨N, rfl⟩ := Int.eq_ofNat_of_zero_le hn.1
    simp only [Option.bind_some]
    rw [if_neg (by simp), w_i64 (n := (b.length : Int) - (a' : Int)) (by omega) (by omega), w_u64 (by omega) (by omega), w_i64 (n := (N : Int)) (by omega) (by omega)]
    by_cases g : ((b.length - a' : Nat) : Int) < (N : Int)
    · rw [if_pos (decide_eq_true (by omega)), if_pos g, hs]; rfl
    · have e1 : IntKind.i64.wrap ((a' : Int) + (N : Int)) = ((a' + N : Nat) : Int) := by rw [w_i64 (by omega) (by omega)]; omega
      rw [if_neg (fun q => absurd (of_decide_eq_true q) (by omega)), if_neg g]
      simp only [e1]
      rw [grd_t ⟨by omega, by omega, by omega⟩, sub_nat, show a' + N - a' = N by omega]; rfl
theorem rrow_rloop {b : List Int} (hb : okB b) (hl : b.length ≤ 1000000000) {each : Int} (he : each ≤ 9223372036854775807) (N : Nat) (hN : N ≤ 4611686018427387903) : ∀ (k i a : Nat) (o : ByteArray) (w : Int) (l : List Int), i + k = N → a ≤ b.length → l.length ≤ a →
    ∃ l' o' w', iter (f_ref02_row_l0 b each (N : Int)) (l, (i : Int), (a : Int), 0, o, w) = some (l', (asS [] (rowG b each k a l)).1.At, (asS [] (rowG b each k a l)).1.Code, o', w') ∧
      ((asS [] (rowG b each k a l)).1.Code = 0 → l' = (asS [] (rowG b each k a l)).2) ∧ ((asS [] (rowG b each k a l)).1.Code ≠ 0 → o' = (asS [] (rowG b each k a l)).1.Op ∧ w' = (asS [] (rowG b each k a l)).1.Where)
  | 0, i, a, o, w, l, hi, ha, hla => by
    refine ⟨l, o, w, iter_stop ?_, fun _ => rfl, fun q => absurd rfl q⟩
    unfold f_ref02_row_l0
    simp only
    rw [if_neg (fun q => absurd (of_decide_eq_true q) (by omega))]
    rfl
  | k + 1, i, a, o, w, l, hi, ha, hla => by
    have hv : ∀ n a', numR b a (pos0 each) = .inr (n, a') → IntKind.i64.wrap n = n := fun n a' h => by
      have hn := numR_ok hb h
      unfold top at hn
      exact w_i64 (by omega) (by omega)
    have hstep : f_ref02_row_l0 b each (N : Int) (l, (i : Int), (a : Int), 0, o, w) = some (.inl (l ++ [IntKind.i64.wrap (numS b a (pos0 each)).2], ((i + 1 : Nat) : Int), (numS b a (pos0 each)).1.At, (numS b a (pos0 each)).1.Code, (numS b a (pos0 each)).1.Op, (numS b a (pos0 each)).1.Where)) := by
      unfold f_ref02_row_l0
      simp only
      rw [if_pos (decide_eq_true (by omega)), above_eq he]
      simp only [Option.bind_some]
      rw [rnum_read hb (by omega) (a := a) rfl rfl]
      simp only [Option.bind_some, decide_true, if_true]
      rw [grd_t (by simp; omega), w_u64 (by omega) (by omega)]
      rfl
    rw [iter_next hstep]
    unfold numS rowG
    cases h : numR b a (pos0 each) with
    | inl c =>
      have hc := numR_code h
      have hc0 : c ≠ 0 := by omega
      refine ⟨l ++ [0], numOp, (a : Int), iter_stop ?_, fun q => absurd q hc0, fun _ => ⟨rfl, rfl⟩⟩
      unfold f_ref02_row_l0
      simp only
      have e : (decide (c = 0)) = false := decide_eq_false hc0
      by_cases g : ((i + 1 : Nat) : Int) < (N : Int)
      · rw [if_pos (decide_eq_true g), e]; rfl
      · rw [if_neg (fun q => g (of_decide_eq_true q))]; rfl
    | inr x =>
      obtain ⟨n, a'⟩ := x
      have hn := numR_ok hb h
      simp only
      rw [hv n a' h]
      exact rrow_rloop hb hl he N hN k (i + 1) a' _ _ (l ++ [n]) (by omega) (by omega) (by simp; omega)
def sameS (s t : T_ref02_State) : Prop := s.At = t.At ∧ s.Code = t.Code ∧ (s.Code ≠ 0 → s.Op = t.Op ∧ s.Where = t.Where)
theorem sameS.refl (s : T_ref02_State) : sameS s s := ⟨rfl, rfl, fun _ => ⟨rfl, rfl⟩⟩
theorem rrow_read {b : List Int} (hb : okB b) (hl : b.length ≤ 1000000000) {a : Nat} {s : T_ref02_State} (hs : s.At = (a : Int)) (hc : s.Code = 0) {many each : Int} (hm : many ≤ 9223372036854775807) (he : each ≤ 9223372036854775807) :
    ∃ t, f_ref02_row b s many each = some (t, (asS [] (rowR b a many each)).2) ∧ sameS t (asS [] (rowR b a many each)).1 := by
  unfold f_ref02_row rowR
  rw [above_eq hm]
  simp only [Option.bind_some]
  rw [rnum_read hb (by omega) hs hc]
  unfold numS
  cases h : numR b a (pos0 many) with
  | inl c =>
    have hc := numR_code h
    have hc0 : c ≠ 0 := by omega
    simp only [Option.bind_some]
    rw [iter_stop (e := ([], (a : Int), c, numOp, (a : Int))) rfl]
    simp only [Option.bind_some]
    rw [if_pos (decide_eq_true hc0)]
    exact ⟨_, rfl, .refl _⟩
  | inr x =>
    obtain ⟨n, a'⟩ := x
    have hn := numR_ok hb h
    unfold top at hn
    obtain ⟨N, rfl⟩ := Int.eq_ofNat_of_zero_le hn.1
    simp only [Option.bind_some]
    obtain ⟨l', o', w', h1, h2, h3⟩ := rrow_rloop hb hl he N (by omega) N 0 a' ⟨#[]⟩ 0 [] (by omega) (by omega) (by simp)
    rw [show ((0 : Nat) : Int) = 0 from rfl] at h1
    rw [h1, show ((N : Int)).toNat = N by omega]
    simp only [Option.bind_some]
    generalize rowG b each N a' [] = R at h2 h3 ⊢
    by_cases g : (asS [] R).1.Code = 0
    · rw [if_neg (fun q => absurd g (of_decide_eq_true q)), h2 g]
      exact ⟨_, rfl, rfl, rfl, fun q => absurd g q⟩
    · rw [if_pos (decide_eq_true g)]
      cases R with
      | inl x => exact ⟨_, rfl, rfl, rfl, h3⟩
      | inr x => exact absurd rfl g
theorem rend_eq (b : List Int) (s : T_ref02_State) : f_ref02_End b s = some (if s.At < (b.length : Int) ∧ s.Code = 0 then ⟨s.At, 5, endOp, s.At⟩ else s) := by
  unfold f_ref02_End
  by_cases g : s.At < (b.length : Int)
  · rw [if_pos (decide_eq_true g)]
    by_cases h : s.Code = 0
    · rw [rbad_eq s h, if_pos ⟨g, h⟩]; rfl
    · rw [if_neg (fun q => h q.2)]
      unfold f_ref02_bad
      rw [if_pos (decide_eq_true h)]; rfl
  · rw [if_neg (fun q => g (of_decide_eq_true q)), if_neg (fun q => g q.1)]
/-! ### what is read was written just so -/
theorem take_rd (b : List Int) (a : Nat) : ∀ k, a + k ≤ b.length → (b.drop a).take k = (List.range k).map fun (i : Nat) => rd b ((a + i : Nat) : Int)
  | 0, _ => by simp
  | k + 1, h => by
    have hlt : k < (b.drop a).length := by simp; omega
    rw [List.take_succ_eq_append_getElem hlt, take_rd b a k (by omega), List.range_succ, List.map_append]
    congr 1
    simp only [List.map_cons, List.map_nil]
    rw [rdn (show a + k < b.length by omega)]
    simp
theorem acc_div {b : List Int} (hb : okB b) {a i : Nat} (h : a + (i + 1) < b.length) : accN b a (i + 1) / 256 = accN b a i ∧ accN b a (i + 1) % 256 = rd b ((a + (i + 1) : Nat) : Int) := by
  have h2 := hb.at (i := a + (i + 1)) h
  simp only [accN]
  constructor <;> omega
theorem num_once {b : List Int} (hb : okB b) {a : Nat} {most n : Int} {a' : Nat} (h : numR b a most = .inr (n, a')) : numB n = (b.drop a).take (a' - a) ∧ a' = a + (numB n).length := by
  have hn := numR_ok hb h
  have hcap : cap62 n = n := by unfold cap62; rw [if_neg (by omega)]
  unfold numB
  rw [hcap]
  unfold numR at h
  split at h
  · cases h
  rename_i g1
  split at h
  · cases h
  rename_i g2
  split at h
  · cases h
  rename_i g3
  split at h
  · cases h
  rename_i g4
  have hh := hb.at (i := a) (by omega)
  have hq : rd b (a : Int) / 64 = 0 ∨ rd b (a : Int) / 64 = 1 ∨ rd b (a : Int) / 64 = 2 ∨ rd b (a : Int) / 64 = 3 := by omega
  have hd0 : accN b a 0 = rd b (a : Int) % 64 := rfl
  have g3 : sizeK (accN b a (headK (rd b (a : Int)) - 1)) = headK (rd b (a : Int)) := Classical.byContradiction g3
  have key : ∀ k, headK (rd b (a : Int)) = k → a + k ≤ b.length ∧ n = accN b a (k - 1) ∧ a' = a + k ∧ sizeK (accN b a (k - 1)) = k := by
    intro k hk
    rw [hk] at g2 g3 h
    cases h
    exact ⟨by omega, rfl, rfl, g3⟩
  rcases hq with q | q | q | q
  · obtain ⟨k1, rfl, rfl, k4⟩ := key 1 (by unfold headK; rw [if_pos q])
    have e : numC (accN b a 0) = [rd b (a : Int)] := by
      unfold numC
      rw [if_pos (by omega), hd0]
      congr 1
      omega
    show numC (accN b a 0) = _ ∧ _
    rw [e, show a + 1 - a = 1 by omega, take_rd b a 1 k1]
    exact ⟨rfl, rfl⟩
  · obtain ⟨k1, rfl, rfl, k4⟩ := key 2 (by unfold headK; rw [if_neg (by omega), if_pos q])
    have d1 := acc_div hb (a := a) (i := 0) (by omega)
    have e : numC (accN b a 1) = [rd b (a : Int), rd b ((a + 1 : Nat) : Int)] := by
      have k4' : sizeK (accN b a 1) = 2 := k4
      unfold sizeK at k4'
      unfold numC
      by_cases c1 : accN b a 1 < 64
      · rw [if_pos c1] at k4'; cases k4'
      rw [if_neg c1] at k4' ⊢
      by_cases c2 : accN b a 1 < 16384
      · rw [if_pos c2, d1.1, d1.2, hd0]
        congr 1
        omega
      · rw [if_neg c2] at k4'; split at k4' <;> cases k4'
    show numC (accN b a 1) = _ ∧ _
    rw [e, show a + 2 - a = 2 by omega, take_rd b a 2 k1]
    exact ⟨rfl, rfl⟩
  · obtain ⟨k1, rfl, rfl, k4⟩ := key 4 (by unfold headK; rw [if_neg (by omega), if_neg (by omega), if_pos q])
    have d1 := acc_div hb (a := a) (i := 0) (by omega)
    have d2 := acc_div hb (a := a) (i := 1) (by omega)
    have d3 := acc_div hb (a := a) (i := 2) (by omega)
    have e : numC (accN b a 3) = [rd b (a : Int), rd b ((a + 1 : Nat) : Int), rd b ((a + 2 : Nat) : Int), rd b ((a + 3 : Nat) : Int)] := by
      have k4' : sizeK (accN b a 3) = 4 := k4
      unfold sizeK at k4'
      unfold numC
      by_cases c1 : accN b a 3 < 64
      · rw [if_pos c1] at k4'; cases k4'
      rw [if_neg c1] at k4' ⊢
      by_cases c2 : accN b a 3 < 16384
      · rw [if_pos c2] at k4'; cases k4'
      rw [if_neg c2] at k4' ⊢
      by_cases c3 : accN b a 3 < 1073741824
      · rw [if_pos c3, d3.1, d3.2, d2.1, d2.2, d1.1, d1.2, hd0]
        congr 1
        omega
      · rw [if_neg c3] at k4'; cases k4'
    show numC (accN b a 3) = _ ∧ _
    rw [e, show a + 4 - a = 4 by omega, take_rd b a 4 k1]
    exact ⟨rfl, rfl⟩
  · obtain ⟨k1, rfl, rfl, k4⟩ := key 8 (by unfold headK; rw [if_neg (by omega), if_neg (by omega), if_neg (by omega)])
    have d1 := acc_div hb (a := a) (i := 0) (by omega)
    have d2 := acc_div hb (a := a) (i := 1) (by omega)
    have d3 := acc_div hb (a := a) (i := 2) (by omega)
    have d4 := acc_div hb (a := a) (i := 3) (by omega)
    have d5 := acc_div hb (a := a) (i := 4) (by omega)
    have d6 := acc_div hb (a := a) (i := 5) (by omega)
    have d7 := acc_div hb (a := a) (i := 6) (by omega)
    have e : numC (accN b a 7) = [rd b (a : Int), rd b ((a + 1 : Nat) : Int), rd b ((a + 2 : Nat) : Int), rd b ((a + 3 : Nat) : Int), rd b ((a + 4 : Nat) : Int), rd b ((a + 5 : Nat) : Int), rd b ((a + 6 : Nat) : Int), rd b ((a + 7 : Nat) : Int)] := by
      have k4' : sizeK (accN b a 7) = 8 := k4
      unfold sizeK at k4'
      unfold numC
      by_cases c1 : accN b a 7 < 64
      · rw [if_pos c1] at k4'; cases k4'
      rw [if_neg c1] at k4' ⊢
      by_cases c2 : accN b a 7 < 16384
      · rw [if_pos c2] at k4'; cases k4'
      rw [if_neg c2] at k4' ⊢
      by_cases c3 : accN b a 7 < 1073741824
      · rw [if_pos c3] at k4'; cases k4'
      rw [if_neg c3, d7.1, d7.2, d6.1, d6.2, d5.1, d5.2, d4.1, d4.2, d3.1, d3.2, d2.1, d2.2, d1.1, d1.2, hd0]
      congr 1
      omega
    show numC (accN b a 7) = _ ∧ _
    rw [e, show a + 8 - a = 8 by omega, take_rd b a 8 k1]
    exact ⟨rfl, rfl⟩

/-! ### what is written is read -/
theorem rd_mid (pre x post : List Int) {i : Nat} (hi : i < x.length) : rd (pre ++ (x ++ post)) ((pre.length + i : Nat) : Int) = rd x (i : Int) := by
  rw [rdn (show pre.length + i < (pre ++ (x ++ post)).length by simp; omega), rdn hi]
  rw [List.getElem_append_right (by omega)]
  simp only [Nat.add_sub_cancel_left]
  rw [List.getElem_append_left hi]
theorem rd_mid0 (pre x post : List Int) (hi : 0 < x.length) : rd (pre ++ (x ++ post)) (pre.length : Int) = rd x 0 := rd_mid pre x post hi
theorem num_back (pre post : List Int) {n most : Int} (h0 : 0 ≤ n) (h1 : n ≤ top) (hm : n ≤ most) : numR (pre ++ (numB n ++ post)) pre.length most = .inr (n, pre.length + (numB n).length) := by
  have hcap : cap62 n = n := by unfold cap62; rw [if_neg (by omega)]
  have e : numB n = numC n := by unfold numB; rw [hcap]
  rw [e]
  have ht := h1
  unfold top at ht
  have key : ∀ k, (numC n).length = k → headK (rd (numC n) 0) = k → sizeK n = k → 1 ≤ k → accN (pre ++ (numC n ++ post)) pre.length (k - 1) = n → numR (pre ++ (numC n ++ post)) pre.length most = .inr (n, pre.length + (numC n).length) := by
    intro k hk hh hs hk1 ha
    unfold numR
    rw [rd_mid0 pre (numC n) post (by omega), hh, ha, hs, hk, if_neg (by simp; omega), if_neg (by simp; omega), if_neg (by simp), if_neg (by omega)]
  by_cases c1 : n < 64
  · have ec : numC n = [n] := by unfold numC; rw [if_pos c1]
    refine key 1 (by rw [ec]; rfl) ?_ (by unfold sizeK; rw [if_pos c1]) (by decide) ?_
    · rw [ec]; show headK n = 1; unfold headK; rw [if_pos (by omega)]
    · show rd _ (pre.length : Int) % 64 = n
      rw [rd_mid0 pre (numC n) post (by rw [ec]; simp), ec]
      show n % 64 = n
      omega
  by_cases c2 : n < 16384
  · have ec : numC n = [64 + n / 256, n % 256] := by unfold numC; rw [if_neg c1, if_pos c2]
    refine key 2 (by rw [ec]; rfl) ?_ (by unfold sizeK; rw [if_neg c1, if_pos c2]) (by decide) ?_
    · rw [ec]; show headK (64 + n / 256) = 2; unfold headK; rw [if_neg (by omega), if_pos (by omega)]
    · show rd _ (pre.length : Int) % 64 * 256 + rd _ ((pre.length + 1 : Nat) : Int) = n
      rw [rd_mid0 pre (numC n) post (by rw [ec]; simp), rd_mid pre (numC n) post (i := 1) (by rw [ec]; simp), ec]
      show (64 + n / 256) % 64 * 256 + n % 256 = n
      omega
  by_cases c3 : n < 1073741824
  · have ec : numC n = [128 + n / 256 / 256 / 256, n / 256 / 256 % 256, n / 256 % 256, n % 256] := by unfold numC; rw [if_neg c1, if_neg c2, if_pos c3]
    refine key 4 (by rw [ec]; rfl) ?_ (by unfold sizeK; rw [if_neg c1, if_neg c2, if_pos c3]) (by decide) ?_
    · rw [ec]; show headK (128 + n / 256 / 256 / 256) = 4; unfold headK; rw [if_neg (by omega), if_neg (by omega), if_pos (by omega)]
    · show ((rd _ (pre.length : Int) % 64 * 256 + rd _ ((pre.length + 1 : Nat) : Int)) * 256 + rd _ ((pre.length + 2 : Nat) : Int)) * 256 + rd _ ((pre.length + 3 : Nat) : Int) = n
      rw [rd_mid0 pre (numC n) post (by rw [ec]; simp), rd_mid pre (numC n) post (i := 1) (by rw [ec]; simp), rd_mid pre (numC n) post (i := 2) (by rw [ec]; simp), rd_mid pre (numC n) post (i := 3) (by rw [ec]; simp), ec]
      show (((128 + n / 256 / 256 / 256) % 64 * 256 + n / 256 / 256 % 256) * 256 + n / 256 % 256) * 256 + n % 256 = n
      rw [show (128 + n / 256 / 256 / 256) % 64 = n / 256 / 256 / 256 by omega, show n / 256 / 256 / 256 * 256 + n / 256 / 256 % 256 = n / 256 / 256 by omega, show n / 256 / 256 * 256 + n / 256 % 256 = n / 256 by omega]
      omega
  · have ec : numC n = [192 + n / 256 / 256 / 256 / 256 / 256 / 256 / 256, n / 256 / 256 / 256 / 256 / 256 / 256 % 256, n / 256 / 256 / 256 / 256 / 256 % 256, n / 256 / 256 / 256 / 256 % 256, n / 256 / 256 / 256 % 256, n / 256 / 256 % 256, n / 256 % 256, n % 256] := by unfold numC; rw [if_neg c1, if_neg c2, if_neg c3]
    have hx : 0 ≤ n / 256 / 256 / 256 / 256 / 256 / 256 / 256 ∧ n / 256 / 256 / 256 / 256 / 256 / 256 / 256 < 64 := by omega
    refine key 8 (by rw [ec]; rfl) ?_ (by unfold sizeK; rw [if_neg c1, if_neg c2, if_neg c3]) (by decide) ?_
    · rw [ec]; show headK (192 + n / 256 / 256 / 256 / 256 / 256 / 256 / 256) = 8; unfold headK
      generalize n / 256 / 256 / 256 / 256 / 256 / 256 / 256 = x at hx
      rw [if_neg (by omega), if_neg (by omega), if_neg (by omega)]
    · show ((((((rd _ (pre.length : Int) % 64 * 256 + rd _ ((pre.length + 1 : Nat) : Int)) * 256 + rd _ ((pre.length + 2 : Nat) : Int)) * 256 + rd _ ((pre.length + 3 : Nat) : Int)) * 256 + rd _ ((pre.length + 4 : Nat) : Int)) * 256 + rd _ ((pre.length + 5 : Nat) : Int)) * 256 + rd _ ((pre.length + 6 : Nat) : Int)) * 256 + rd _ ((pre.length + 7 : Nat) : Int) = n
      rw [rd_mid0 pre (numC n) post (by rw [ec]; simp), rd_mid pre (numC n) post (i := 1) (by rw [ec]; simp), rd_mid pre (numC n) post (i := 2) (by rw [ec]; simp), rd_mid pre (numC n) post (i := 3) (by rw [ec]; simp), rd_mid pre (numC n) post (i := 4) (by rw [ec]; simp), rd_mid pre (numC n) post (i := 5) (by rw [ec]; simp), rd_mid pre (numC n) post (i := 6) (by rw [ec]; simp), rd_mid pre (numC n) post (i := 7) (by rw [ec]; simp), ec]
      show (((((((192 + n / 256 / 256 / 256 / 256 / 256 / 256 / 256) % 64 * 256 + n / 256 / 256 / 256 / 256 / 256 / 256 % 256) * 256 + n / 256 / 256 / 256 / 256 / 256 % 256) * 256 + n / 256 / 256 / 256 / 256 % 256) * 256 + n / 256 / 256 / 256 % 256) * 256 + n / 256 / 256 % 256) * 256 + n / 256 % 256) * 256 + n % 256 = n
      have dm : ∀ x : Int, x / 256 * 256 + x % 256 = x := fun x => by omega
      have h64 : (192 + n / 256 / 256 / 256 / 256 / 256 / 256 / 256) % 64 = n / 256 / 256 / 256 / 256 / 256 / 256 / 256 := by
        generalize n / 256 / 256 / 256 / 256 / 256 / 256 / 256 = x at hx
        omega
      rw [h64, dm, dm, dm, dm, dm, dm, dm]
theorem int_back (pre post : List Int) {n most : Int} (h0 : 0 ≤ n) (h1 : n ≤ top) (hm : n ≤ most) : numR (pre ++ (intB n ++ post)) pre.length most = .inr (n, pre.length + (intB n).length) := by
  unfold intB
  rw [if_neg (by omega)]
  exact num_back pre post h0 h1 hm
theorem flag_back (pre post : List Int) (is : Bool) : flagR (pre ++ (flagB is ++ post)) pre.length = .inr (is, pre.length + (flagB is).length) := by
  unfold flagR
  have hl : (flagB is).length = 1 := by cases is <;> rfl
  rw [rd_mid0 pre (flagB is) post (by omega), if_neg (by simp; omega)]
  cases is <;> rfl
theorem text_back (pre post s : List Int) {most : Int} (hm : (s.length : Int) ≤ most) (hs : s.length ≤ 1000000000) : textR (pre ++ (textB s ++ post)) pre.length most = .inr (s, pre.length + (textB s).length) := by
  unfold textR textB
  have hp : pos0 most = most := by unfold pos0; rw [if_neg (by omega)]
  have e : pre ++ (intB (s.length : Int) ++ s ++ post) = pre ++ (intB (s.length : Int) ++ (s ++ post)) := by simp
  rw [e, hp, int_back pre (s ++ post) (by omega) (by unfold top; omega) hm]
  simp only
  rw [if_neg (by simp; omega)]
  congr 2
  · rw [show ((s.length : Int)).toNat = s.length by omega, ← List.append_assoc, show pre.length + (intB (s.length : Int)).length = (pre ++ intB (s.length : Int)).length by simp, List.drop_left, List.take_left]
  · simp; omega
theorem ints_back {each : Int} (he : each ≤ top) : ∀ (l pre post acc : List Int), (∀ x ∈ l, 0 ≤ x ∧ x ≤ each) → rowG (pre ++ (intsB l ++ post)) each l.length pre.length acc = .inr (acc ++ l, pre.length + (intsB l).length)
  | [], pre, post, acc, _ => by simp [rowG, intsB]
  | x :: l, pre, post, acc, h => by
    have hx := h x (by simp)
    have hp : pos0 each = each := by unfold pos0; rw [if_neg (by omega)]
    have e : pre ++ (intsB (x :: l) ++ post) = pre ++ (intB x ++ (intsB l ++ post)) := by rw [intsB_cons]; simp
    rw [e, List.length_cons]
    unfold rowG
    rw [hp, int_back pre (intsB l ++ post) hx.1 (by omega) hx.2]
    simp only
    have ih := ints_back he l (pre ++ intB x) post (acc ++ [x]) (fun y hy => h y (by simp [hy]))
    rw [show pre ++ (intB x ++ (intsB l ++ post)) = (pre ++ intB x) ++ (intsB l ++ post) by simp, show pre.length + (intB x).length = (pre ++ intB x).length by simp, ih, intsB_cons]
    simp
    omega
theorem row_back (pre post l : List Int) {many each : Int} (hm : (l.length : Int) ≤ many) (hl : l.length ≤ 1000000000) (he : each ≤ top) (h : ∀ x ∈ l, 0 ≤ x ∧ x ≤ each) : rowR (pre ++ (rowB l ++ post)) pre.length many each = .inr (l, pre.length + (rowB l).length) := by
  unfold rowR rowB
  have hp : pos0 many = many := by unfold pos0; rw [if_neg (by omega)]
  have e : pre ++ (intB (l.length : Int) ++ intsB l ++ post) = pre ++ (intB (l.length : Int) ++ (intsB l ++ post)) := by simp
  rw [e, hp, int_back pre (intsB l ++ post) (by omega) (by unfold top; omega) hm]
  simp only
  have := ints_back he l (pre ++ intB (l.length : Int)) post [] h
  rw [show ((l.length : Int)).toNat = l.length by omega, show pre ++ (intB (l.length : Int) ++ (intsB l ++ post)) = (pre ++ intB (l.length : Int)) ++ (intsB l ++ post) by simp, show pre.length + (intB (l.length : Int)).length = (pre ++ intB (l.length : Int)).length by simp, this]
  simp
  omega
abbrev RAsk := T_ref02_Ask
abbrev Got := T_ref02_Got
def got0 : Got := ⟨0, false, [], []⟩
def mapR {α β : Type} (f : α → β) : RdR α → RdR β
  | .inl x => .inl x
  | .inr (x, a) => .inr (f x, a)
def readR (b : List Int) (a : Nat) (q : RAsk) : RdR Got :=
  if q.Kind = 0 ∨ q.Kind = 1 then mapR (fun n => ⟨n, false, [], []⟩) (numRR b a (pos0 q.Most))
  else if q.Kind = 2 then mapR (fun x => ⟨0, x, [], []⟩) (flagR b a)
  else if q.Kind = 3 then mapR (fun x => ⟨0, false, x, []⟩) (textR b a q.Most)
  else mapR (fun x => ⟨0, false, [], x⟩) (rowR b a q.Most q.Each)
def okAsk (q : RAsk) : Prop := q.Most ≤ 9223372036854775807 ∧ q.Each ≤ 9223372036854775807
def leR {α : Type} (N : Nat) (P : α → Prop) : RdR α → Prop
  | .inl (c, _, _, a) => a ≤ N ∧ c ≠ 0
  | .inr (x, a) => a ≤ N ∧ P x
theorem leR.map {α β : Type} {N : Nat} {P : α → Prop} {Q : β → Prop} {f : α → β} {R : RdR α} (h : leR N P R) (k : ∀ x, P x → Q (f x)) : leR N Q (mapR f R) := by
  cases R with
  | inl x => exact h
  | inr x => exact ⟨h.1, k _ h.2⟩
theorem num_le {b : List Int} (hb : okB b) {a : Nat} (ha : a ≤ b.length) (most : Int) : leR b.length (fun n => 0 ≤ n ∧ n ≤ top) (numRR b a most) := by
  unfold numRR
  cases h : numR b a most with
  | inl c => have := numR_code h; exact ⟨ha, by omega⟩
  | inr x => have := numR_ok hb h; exact ⟨by omega, this.1, this.2.1⟩
theorem flag_le {b : List Int} {a : Nat} (ha : a ≤ b.length) : leR b.length (fun _ => True) (flagR b a) := by
  unfold flagR
  split
  · exact ⟨ha, by decide⟩
  split
  · exact ⟨ha, by decide⟩
  · exact ⟨by omega, trivial⟩
theorem text_le {b : List Int} (hb : okB b) {a : Nat} (ha : a ≤ b.length) (most : Int) : leR b.length (fun (l : List Int) => l.length ≤ b.length) (textR b a most) := by
  unfold textR
  cases h : numR b a (pos0 most) with
  | inl c => have := numR_code h; exact ⟨ha, by omega⟩
  | inr x =>
    have := numR_ok hb h
    simp only
    split
    · exact ⟨ha, by decide⟩
    · exact ⟨by omega, by simp; omega⟩
theorem rowG_le {b : List Int} (hb : okB b) (each : Int) : ∀ (k a : Nat) (l : List Int), a ≤ b.length → l.length ≤ a → leR b.length (fun (l : List Int) => l.length ≤ b.length) (rowG b each k a l)
  | 0, a, l, ha, hl => ⟨ha, by omega⟩
  | k + 1, a, l, ha, hl => by
    unfold rowG
    cases h : numR b a (pos0 each) with
    | inl c => have := numR_code h; exact ⟨ha, by omega⟩
    | inr x =>
      have := numR_ok hb h
      exact rowG_le hb each k x.2 (l ++ [x.1]) (by omega) (by simp; omega)
theorem row_le {b : List Int} (hb : okB b) {a : Nat} (ha : a ≤ b.length) (many each : Int) : leR b.length (fun (l : List Int) => l.length ≤ b.length) (rowR b a many each) := by
  unfold rowR
  cases h : numR b a (pos0 many) with
  | inl c => have := numR_code h; exact ⟨ha, by omega⟩
  | inr x =>
    have := numR_ok hb h
    exact rowG_le hb each x.1.toNat x.2 [] (by omega) (by simp)
theorem read_le {b : List Int} (hb : okB b) {a : Nat} (ha : a ≤ b.length) (q : RAsk) : leR b.length (fun (g : Got) => g.Text.length ≤ b.length ∧ g.Row.length ≤ b.length) (readR b a q) := by
  unfold readR
  split
  · exact (num_le hb ha _).map fun _ _ => ⟨Nat.zero_le _, Nat.zero_le _⟩
  split
  · exact (flag_le ha).map fun _ _ => ⟨Nat.zero_le _, Nat.zero_le _⟩
  split
  · exact (text_le hb ha _).map fun _ h => ⟨h, Nat.zero_le _⟩
  · exact (row_le hb ha _ _).map fun _ h => ⟨Nat.zero_le _, h⟩
theorem read_eq {b : List Int} (hb : okB b) (hl : b.length ≤ 1000000) {a : Nat} {s : T_ref02_State} (hs : s.At = (a : Int)) (hc : s.Code = 0) {q : RAsk} (hq : okAsk q) :
    ∃ t, f_ref02_Read b s q = some (t, (asS got0 (readR b a q)).2) ∧ sameS t (asS got0 (readR b a q)).1 := by
  unfold f_ref02_Read readR
  rw [if_neg (fun q => absurd hc (of_decide_eq_true q))]
  have ek : ∀ {c : Prop} [Decidable c], (if (decide (q.Kind = (0 : Int))) = true then (some (decide (q.Kind = (0 : Int)))) else (some (decide (q.Kind = (1 : Int))))) = some (decide (q.Kind = 0 ∨ q.Kind = 1)) := by
    intro _ _
    by_cases c0 : q.Kind = 0
    · rw [if_pos (decide_eq_true c0)]; simp [c0]
    · rw [if_neg (fun q => c0 (of_decide_eq_true q))]; simp [c0]
  rw [ek (c := True)]
  simp only [Option.bind_some]
  by_cases c01 : q.Kind = 0 ∨ q.Kind = 1
  · rw [if_pos (decide_eq_true c01), if_pos c01, above_eq hq.1]
    simp only [Option.bind_some]
    rw [rnum_read hb (by omega) hs hc, numS_as]
    cases numRR b a (pos0 q.Most) with
    | inl x => exact ⟨_, rfl, .refl _⟩
    | inr x => exact ⟨_, rfl, .refl _⟩
  rw [if_neg (fun q => c01 (of_decide_eq_true q)), if_neg c01]
  by_cases c2 : q.Kind = 2
  · rw [if_pos (decide_eq_true c2), if_pos c2]
    unfold flagR
    rw [hs]
    by_cases g1 : b.length ≤ a
    · rw [if_pos (decide_eq_true (by omega)), if_pos g1, rbad_eq s hc, hs]
      exact ⟨_, rfl, .refl _⟩
    rw [if_neg (fun q => absurd (of_decide_eq_true q) (by omega)), if_neg g1, grd_t ⟨by omega, by omega⟩]
    by_cases g2 : 1 < rd b (a : Int)
    · rw [if_pos (decide_eq_true g2), if_pos g2, rbad_eq s hc, hs]
      exact ⟨_, rfl, .refl _⟩
    rw [if_neg (fun q => g2 (of_decide_eq_true q)), if_neg g2, grd_t ⟨by omega, by omega⟩, w_i64 (by omega) (by omega)]
    exact ⟨_, rfl, by refine ⟨?_, rfl, fun q => absurd rfl q⟩; simp [asS, mapR]⟩
  rw [if_neg (fun q => c2 (of_decide_eq_true q)), if_neg c2]
  by_cases c3 : q.Kind = 3
  · rw [if_pos (decide_eq_true c3), if_pos c3, rtext_read hb (by omega) hs hc hq.1]
    cases textR b a q.Most with
    | inl x => exact ⟨_, rfl, .refl _⟩
    | inr x => exact ⟨_, rfl, .refl _⟩
  rw [if_neg (fun q => c3 (of_decide_eq_true q)), if_neg c3]
  obtain ⟨t, h1, h2⟩ := rrow_read hb (by omega) hs hc hq.1 hq.2 (many := q.Most) (each := q.Each)
  rw [h1]
  cases e : rowR b a q.Most q.Each with
  | inl x => rw [e] at h2; exact ⟨t, rfl, h2⟩
  | inr x => rw [e] at h2; exact ⟨t, rfl, h2⟩
theorem read_bad {b : List Int} {s : T_ref02_State} (hc : s.Code ≠ 0) (q : RAsk) : f_ref02_Read b s q = some (s, got0) := by
  unfold f_ref02_Read
  rw [if_pos (decide_eq_true hc)]; rfl
def cor (b : List Int) (a : Nat) (e : GErr) (s : T_ref02_State) : Prop := a ≤ b.length ∧ s.At = (a : Int) ∧ ((e = .nil ∧ s.Code = 0) ∨ (s.Code ≠ 0 ∧ e = .fault s.Op s.Where (.code s.Code)))

theorem stepI {b : List Int} (hb : okB b) (hl : b.length ≤ 1000000) {a : Nat} {e : GErr} {s : T_ref02_State} (h : cor b a e s) (m : Int) (hm : m ≤ 9223372036854775807) :
    ∃ (v : Int) (a' : Nat) (e' : GErr) (t : T_ref02_State), f_wire_Reader_Int ⟨b, (a : Int), e⟩ m = some (v, (a' : Int), e') ∧ f_ref02_Read b s ⟨1, m, 0⟩ = some (t, ⟨v, false, [], []⟩) ∧ cor b a' e' t ∧ 0 ≤ v ∧ v ≤ top ∧ v ≤ pos0 m := by
  obtain ⟨ha, hsa, ⟨rfl, hc⟩ | ⟨hc, he⟩⟩ := h
  · obtain ⟨t, h1, h2⟩ := read_eq hb hl hsa hc (q := ⟨1, m, 0⟩) ⟨hm, show (0 : Int) ≤ 9223372036854775807 by decide⟩
    have hle := read_le hb ha ⟨1, m, 0⟩
    have hn := num_le hb ha (pos0 m)
    have er : readR b a ⟨1, m, 0⟩ = mapR (fun n => ⟨n, false, [], []⟩) (numRR b a (pos0 m)) := rfl
    rw [wint_read hb (by omega) ha hm, numP_as, h1]
    rw [er] at hle h2 ⊢
    have hmost : ∀ x, numRR b a (pos0 m) = .inr x → x.1 ≤ pos0 m := by
      intro x hx
      unfold numRR at hx
      cases e2 : numR b a (pos0 m) with
      | inl c => rw [e2] at hx; cases hx
      | inr y => rw [e2] at hx; cases hx; exact (numR_ok hb e2).2.2.1
    cases e : numRR b a (pos0 m) with
    | inl x =>
      rw [e] at hle h2
      obtain ⟨c, o, w, a1⟩ := x
      obtain ⟨k1, k2, k3⟩ := h2
      have k2' : t.Code = c := k2
      have hc' : c ≠ 0 := hle.2
      have k4 := k3 (by rw [k2']; exact hc')
      refine ⟨0, a1, _, t, rfl, rfl, ⟨hle.1, k1, .inr ⟨by rw [k2']; exact hc', ?_⟩⟩, Int.le_refl _, by decide, by unfold pos0; split <;> omega⟩
      show GErr.fault o w (.code c) = _
      rw [k2', k4.1, k4.2]; rfl
    | inr x =>
      rw [e] at hle h2 hn
      exact ⟨_, x.2, _, t, rfl, rfl, ⟨hle.1, h2.1, .inl ⟨rfl, h2.2.1⟩⟩, hn.2.1, hn.2.2, hmost x e⟩
  · have hn : e.isNil = false := by rw [he]; rfl
    rw [wint_bad hn, read_bad hc]
    exact ⟨0, a, e, s, rfl, rfl, ⟨ha, hsa, .inr ⟨hc, he⟩⟩, Int.le_refl _, by decide, by unfold pos0; split <;> omega⟩
theorem stepF {b : List Int} (hb : okB b) (hl : b.length ≤ 1000000) {a : Nat} {e : GErr} {s : T_ref02_State} (h : cor b a e s) :
    ∃ (v : Bool) (a' : Nat) (e' : GErr) (t : T_ref02_State), f_wire_Reader_Flag ⟨b, (a : Int), e⟩ = some (v, (a' : Int), e') ∧ f_ref02_Read b s ⟨2, 0, 0⟩ = some (t, ⟨0, v, [], []⟩) ∧ cor b a' e' t := by
  obtain ⟨ha, hsa, ⟨rfl, hc⟩ | ⟨hc, he⟩⟩ := h
  · obtain ⟨t, h1, h2⟩ := read_eq hb hl hsa hc (q := ⟨2, 0, 0⟩) ⟨by decide, by decide⟩
    have hle := read_le hb ha ⟨2, 0, 0⟩
    have er : readR b a ⟨2, 0, 0⟩ = mapR (fun x => ⟨0, x, [], []⟩) (flagR b a) := rfl
    rw [wflag_read hb (by omega), h1]
    rw [er] at hle h2 ⊢
    cases e : flagR b a with
    | inl x =>
      rw [e] at hle h2
      obtain ⟨c, o, w, a1⟩ := x
      obtain ⟨k1, k2, k3⟩ := h2
      have k2' : t.Code = c := k2
      have hc' : c ≠ 0 := hle.2
      have k4 := k3 (by rw [k2']; exact hc')
      refine ⟨false, a1, _, t, rfl, rfl, ⟨hle.1, k1, .inr ⟨by rw [k2']; exact hc', ?_⟩⟩⟩
      show GErr.fault o w (.code c) = _
      rw [k2', k4.1, k4.2]; rfl
    | inr x =>
      rw [e] at hle h2
      exact ⟨_, x.2, _, t, rfl, rfl, ⟨hle.1, h2.1, .inl ⟨rfl, h2.2.1⟩⟩⟩
  · have hn : e.isNil = false := by rw [he]; rfl
    rw [wflag_bad hn, read_bad hc]
    exact ⟨_, a, e, s, rfl, rfl, ⟨ha, hsa, .inr ⟨hc, he⟩⟩⟩
theorem text_ok {b : List Int} (hb : okB b) {a : Nat} {m : Int} {x : List Int} {a' : Nat} (h : textR b a m = .inr (x, a')) : okB x ∧ (x.length : Int) ≤ pos0 m := by
  unfold textR at h
  cases e : numR b a (pos0 m) with
  | inl c => rw [e] at h; cases h
  | inr y =>
    rw [e] at h
    simp only at h
    have k := numR_ok hb e
    split at h
    · cases h
    · cases h
      refine ⟨(hb.drop _).take _, ?_⟩
      simp
      omega
theorem stepT {b : List Int} (hb : okB b) (hl : b.length ≤ 1000000) {a : Nat} {e : GErr} {s : T_ref02_State} (h : cor b a e s) (m : Int) (hm : m ≤ 9223372036854775807) :
    ∃ (v : List Int) (a' : Nat) (e' : GErr) (t : T_ref02_State), f_wire_Reader_Text ⟨b, (a : Int), e⟩ m = some (v, (a' : Int), e') ∧ f_ref02_Read b s ⟨3, m, 0⟩ = some (t, ⟨0, false, v, []⟩) ∧ cor b a' e' t ∧ okB v ∧ (v.length : Int) ≤ pos0 m ∧ v.length ≤ b.length := by
  obtain ⟨ha, hsa, ⟨rfl, hc⟩ | ⟨hc, he⟩⟩ := h
  · obtain ⟨t, h1, h2⟩ := read_eq hb hl hsa hc (q := ⟨3, m, 0⟩) ⟨hm, show (0 : Int) ≤ 9223372036854775807 by decide⟩
    have hle := read_le hb ha ⟨3, m, 0⟩
    have er : readR b a ⟨3, m, 0⟩ = mapR (fun x => ⟨0, false, x, []⟩) (textR b a m) := rfl
    rw [wtext_read hb (by omega) ha hm, h1]
    rw [er] at hle h2 ⊢
    cases e : textR b a m with
    | inl x =>
      rw [e] at hle h2
      obtain ⟨c, o, w, a1⟩ := x
      obtain ⟨k1, k2, k3⟩ := h2
      have k2' : t.Code = c := k2
      have hc' : c ≠ 0 := hle.2
      have k4 := k3 (by rw [k2']; exact hc')
      refine ⟨[], a1, _, t, rfl, rfl, ⟨hle.1, k1, .inr ⟨by rw [k2']; exact hc', ?_⟩⟩, okB.nil, by unfold pos0; split <;> simp <;> omega, Nat.zero_le _⟩
      show GErr.fault o w (.code c) = _
      rw [k2', k4.1, k4.2]; rfl
    | inr x =>
      rw [e] at hle h2
      have k := text_ok hb (x := x.1) (a' := x.2) e
      exact ⟨_, x.2, _, t, rfl, rfl, ⟨hle.1, h2.1, .inl ⟨rfl, h2.2.1⟩⟩, k.1, k.2, hle.2.1⟩
  · have hn : e.isNil = false := by rw [he]; rfl
    rw [wtext_bad hn, read_bad hc]
    exact ⟨_, a, e, s, rfl, rfl, ⟨ha, hsa, .inr ⟨hc, he⟩⟩, okB.nil, by unfold pos0; split <;> simp <;> omega, Nat.zero_le _⟩
theorem stepR {b : List Int} (hb : okB b) (hl : b.length ≤ 1000000) {a : Nat} {e : GErr} {s : T_ref02_State} (h : cor b a e s) (m k : Int) (hm : m ≤ 9223372036854775807) (hk : k ≤ 9223372036854775807) :
    ∃ (v : List Int) (a' : Nat) (e' : GErr) (t : T_ref02_State), f_wire_Reader_Row ⟨b, (a : Int), e⟩ m k = some (v, (a' : Int), e') ∧ f_ref02_Read b s ⟨4, m, k⟩ = some (t, ⟨0, false, [], v⟩) ∧ cor b a' e' t ∧ v.length ≤ b.length := by
  obtain ⟨ha, hsa, ⟨rfl, hc⟩ | ⟨hc, he⟩⟩ := h
  · obtain ⟨t, h1, h2⟩ := read_eq hb hl hsa hc (q := ⟨4, m, k⟩) ⟨hm, hk⟩
    have hle := read_le hb ha ⟨4, m, k⟩
    have er : readR b a ⟨4, m, k⟩ = mapR (fun x => ⟨0, false, [], x⟩) (rowR b a m k) := rfl
    rw [wrow_read hb (by omega) ha hm hk, h1]
    rw [er] at hle h2 ⊢
    cases e : rowR b a m k with
    | inl x =>
      rw [e] at hle h2
      obtain ⟨c, o, w, a1⟩ := x
      obtain ⟨k1, k2, k3⟩ := h2
      have k2' : t.Code = c := k2
      have hc' : c ≠ 0 := hle.2
      have k4 := k3 (by rw [k2']; exact hc')
      refine ⟨[], a1, _, t, rfl, rfl, ⟨hle.1, k1, .inr ⟨by rw [k2']; exact hc', ?_⟩⟩, Nat.zero_le _⟩
      show GErr.fault o w (.code c) = _
      rw [k2', k4.1, k4.2]; rfl
    | inr x =>
      rw [e] at hle h2
      exact ⟨_, x.2, _, t, rfl, rfl, ⟨hle.1, h2.1, .inl ⟨rfl, h2.2.1⟩⟩, hle.2.2⟩
  · have hn : e.isNil = false := by rw [he]; rfl
    rw [wrow_bad hn, read_bad hc]
    exact ⟨_, a, e, s, rfl, rfl, ⟨ha, hsa, .inr ⟨hc, he⟩⟩, Nat.zero_le _⟩
/-! ### what was written is read -/
theorem pos0_nn {m : Int} (h : 0 ≤ m) : pos0 m = m := by unfold pos0; rw [if_neg (by omega)]
theorem backI {b : List Int} (hb : okB b) (hl : b.length ≤ 1000000) {pre post : List Int} {n m : Int} (e : b = pre ++ (intB n ++ post)) (h0 : 0 ≤ n) (h1 : n ≤ top) (hm : n ≤ m) (hm2 : m ≤ 9223372036854775807) :
    f_wire_Reader_Int ⟨b, (pre.length : Int), .nil⟩ m = some (n, ((pre ++ intB n).length : Int), .nil) := by
  have h := int_back pre post (n := n) (most := m) h0 h1 hm
  rw [← e] at h
  rw [wint_read hb (by omega) (by rw [e]; simp) hm2, pos0_nn (by omega)]
  unfold numP
  rw [h, List.length_append]
theorem backF {b : List Int} (hb : okB b) (hl : b.length ≤ 1000000) {pre post : List Int} {n : Bool} (e : b = pre ++ (flagB n ++ post)) :
    f_wire_Reader_Flag ⟨b, (pre.length : Int), .nil⟩ = some (n, ((pre ++ flagB n).length : Int), .nil) := by
  have h := flag_back pre post n
  rw [← e] at h
  rw [wflag_read hb (by omega), h, List.length_append]
  rfl
theorem backT {b : List Int} (hb : okB b) (hl : b.length ≤ 1000000) {pre post s : List Int} {m : Int} (e : b = pre ++ (textB s ++ post)) (hm : (s.length : Int) ≤ m) (hm2 : m ≤ 9223372036854775807) :
    f_wire_Reader_Text ⟨b, (pre.length : Int), .nil⟩ m = some (s, ((pre ++ textB s).length : Int), .nil) := by
  have hs : s.length ≤ b.length := by rw [e]; unfold textB; simp; omega
  have h := text_back pre post s (most := m) hm (by omega)
  rw [← e] at h
  rw [wtext_read hb (by omega) (by rw [e]; simp) hm2, h, List.length_append]
  rfl
theorem intsB_ge : ∀ (l : List Int), l.length ≤ (intsB l).length
  | [] => Nat.le_refl _
  | x :: l => by
    rw [intsB_cons]
    have h1 := intsB_ge l
    have h2 := (intB_len x).2
    simp only [List.length_cons, List.length_append]
    omega
theorem backE {b : List Int} {a : Nat} (h : a = b.length) : f_wire_Reader_End ⟨b, (a : Int), .nil⟩ = some (.nil, .nil) := by
  rw [wend_eq, if_neg (by omega)]

/-! ### what is read was written in just that way -/
def onceS (b : List Int) (a : Nat) (e : GErr) (a' : Nat) (e' : GErr) (w : List Int) : Prop := a' ≤ b.length ∧ (e'.isNil = true → e.isNil = true ∧ b.take a' = b.take a ++ w)
theorem isNil_iff {e : GErr} : e.isNil = true ↔ e = .nil := by cases e <;> simp [GErr.isNil]
theorem num_once2 {b : List Int} (hb : okB b) {a : Nat} {m n : Int} {a' : Nat} (h : numR b a m = .inr (n, a')) : b.take a' = b.take a ++ intB n ∧ 0 ≤ n ∧ n ≤ top ∧ n ≤ m ∧ a' ≤ b.length := by
  obtain ⟨h1, h2⟩ := num_once hb h
  have h3 := numR_ok hb h
  refine ⟨?_, h3.1, h3.2.1, h3.2.2.1, h3.2.2.2.2.1⟩
  unfold intB
  rw [if_neg (by omega), h1, show a' = a + (a' - a) by omega, List.take_add]
  congr 2
  omega
theorem onceI {b : List Int} (hb : okB b) (hl : b.length ≤ 1000000) {a : Nat} (ha : a ≤ b.length) (e : GErr) (m : Int) (hm : m ≤ 9223372036854775807) :
    ∃ (v : Int) (a' : Nat) (e' : GErr), f_wire_Reader_Int ⟨b, (a : Int), e⟩ m = some (v, (a' : Int), e') ∧ onceS b a e a' e' (intB v) ∧ 0 ≤ v ∧ v ≤ top ∧ v ≤ pos0 m := by
  have hz : (0 : Int) ≤ pos0 m := by unfold pos0; split <;> omega
  cases he : e.isNil with
  | false => exact ⟨0, a, e, wint_bad he m, ⟨ha, fun h => by rw [he] at h; cases h⟩, Int.le_refl _, by decide, hz⟩
  | true =>
    rw [isNil_iff.1 he, wint_read hb (by omega) ha hm]
    unfold numP
    cases h : numR b a (pos0 m) with
    | inl c => exact ⟨0, a, _, rfl, ⟨ha, fun h => by cases h⟩, Int.le_refl _, by decide, hz⟩
    | inr x =>
      have k := num_once2 hb (n := x.1) (a' := x.2) h
      exact ⟨x.1, x.2, _, rfl, ⟨k.2.2.2.2, fun _ => ⟨rfl, k.1⟩⟩, k.2.1, k.2.2.1, k.2.2.2.1⟩
theorem onceT {b : List Int} (hb : okB b) (hl : b.length ≤ 1000000) {a : Nat} (ha : a ≤ b.length) (e : GErr) (m : Int) (hm : m ≤ 9223372036854775807) :
    ∃ (v : List Int) (a' : Nat) (e' : GErr), f_wire_Reader_Text ⟨b, (a : Int), e⟩ m = some (v, (a' : Int), e') ∧ onceS b a e a' e' (textB v) ∧ okB v ∧ (v.length : Int) ≤ pos0 m ∧ v.length ≤ b.length := by
  have hz : (0 : Int) ≤ pos0 m := by unfold pos0; split <;> omega
  cases he : e.isNil with
  | false => exact ⟨[], a, e, wtext_bad he m, ⟨ha, fun h => by rw [he] at h; cases h⟩, okB.nil, hz, Nat.zero_le _⟩
  | true =>
    rw [isNil_iff.1 he, wtext_read hb (by omega) ha hm]
    unfold textR
    cases h : numR b a (pos0 m) with
    | inl c => exact ⟨[], a, _, rfl, ⟨ha, fun h => by cases h⟩, okB.nil, hz, Nat.zero_le _⟩
    | inr x =>
      obtain ⟨n, a1⟩ := x
      have k := num_once2 hb (n := n) (a' := a1) h
      simp only
      by_cases g : ((b.length - a1 : Nat) : Int) < n
      · rw [if_pos g]; exact ⟨[], a, _, rfl, ⟨ha, fun h => by cases h⟩, okB.nil, hz, Nat.zero_le _⟩
      · rw [if_neg g]
        have hlen : ((b.drop a1).take n.toNat).length = n.toNat := by rw [List.length_take, List.length_drop]; omega
        refine ⟨_, a1 + n.toNat, _, rfl, ⟨by omega, fun _ => ⟨rfl, ?_⟩⟩, (hb.drop _).take _, by rw [hlen]; omega, by rw [hlen]; omega⟩
        rw [List.take_add, k.1]
        unfold textB
        rw [hlen, List.append_assoc, show ((n.toNat : Nat) : Int) = n by omega]
theorem rd_take {b : List Int} {c i : Nat} (h : i < c) : rd (b.take c) (i : Int) = rd b (i : Int) := by
  unfold rd
  simp only [Int.toNat_natCast, List.getD_eq_getElem?_getD, List.getElem?_take, if_pos h]
theorem accN_take {b : List Int} {c a : Nat} : ∀ i : Nat, a + i < c → accN (b.take c) a i = accN b a i
  | 0, h => by show rd _ _ % 64 = rd _ _ % 64; rw [rd_take (by omega)]
  | i + 1, h => by
    show accN _ _ i * 256 + rd _ _ = accN _ _ i * 256 + rd _ _
    rw [accN_take i (by omega), rd_take h]
theorem headK_pos (h : Int) : 1 ≤ headK h := by unfold headK; split; omega; split; omega; split <;> omega
theorem numR_take {b : List Int} {a c : Nat} (hc : c ≤ b.length) {most n : Int} {a' : Nat} (h : numR b a most = .inr (n, a')) : a < a' ∧ numR (b.take c) a most = if a' ≤ c then .inr (n, a') else .inl 3 := by
  have hlen : (b.take c).length = c := by rw [List.length_take]; omega
  unfold numR at h ⊢
  split at h
  · cases h
  rename_i g1
  split at h
  · cases h
  rename_i g2
  split at h
  · cases h
  rename_i g3
  split at h
  · cases h
  rename_i g4
  have hp := headK_pos (rd b (a : Int))
  cases h
  refine ⟨by omega, ?_⟩
  rw [hlen]
  by_cases k1 : c ≤ a
  · rw [if_pos k1, if_neg (by omega)]
  rw [if_neg k1, rd_take (by omega)]
  by_cases k2 : c < a + headK (rd b (a : Int))
  · rw [if_pos k2, if_neg (by omega)]
  rw [if_neg k2, accN_take _ (by omega), if_neg g3, if_neg g4, if_pos (by omega)]
theorem flagR_take {b : List Int} {a c : Nat} (hc : c ≤ b.length) {x : Bool} {a' : Nat} (h : flagR b a = .inr (x, a')) : a < a' ∧ ((a' ≤ c → flagR (b.take c) a = .inr (x, a')) ∧ (c < a' → ∃ o w k, flagR (b.take c) a = .inl (3, o, w, k))) := by
  have hlen : (b.take c).length = c := by rw [List.length_take]; omega
  unfold flagR at h ⊢
  split at h
  · cases h
  split at h
  · cases h
  rename_i g2
  cases h
  refine ⟨by omega, fun k => ?_, fun k => ?_⟩
  · rw [hlen, if_neg (by omega), rd_take (by omega), if_neg g2]
  · rw [hlen, if_pos (by omega)]; exact ⟨_, _, _, rfl⟩
theorem textR_take {b : List Int} (hb : okB b) {a c : Nat} (hc : c ≤ b.length) {m : Int} {x : List Int} {a' : Nat} (h : textR b a m = .inr (x, a')) : a < a' ∧ ((a' ≤ c → textR (b.take c) a m = .inr (x, a')) ∧ (c < a' → ∃ o w k, textR (b.take c) a m = .inl (3, o, w, k))) := by
  have hlen : (b.take c).length = c := by rw [List.length_take]; omega
  unfold textR at h ⊢
  cases e : numR b a (pos0 m) with
  | inl k => rw [e] at h; cases h
  | inr y =>
    obtain ⟨n, a1⟩ := y
    rw [e] at h
    simp only at h
    have hn := numR_ok hb (n := n) (a' := a1) e
    obtain ⟨t1, t2⟩ := numR_take (c := c) hc e
    split at h
    · cases h
    rename_i g
    cases h
    refine ⟨by omega, fun k => ?_, fun k => ?_⟩
    · rw [t2, if_pos (by omega)]
      simp only
      rw [hlen, if_neg (by omega), List.drop_take, List.take_take, Nat.min_eq_left (by omega)]
    · rw [t2]
      by_cases k1 : a1 ≤ c
      · rw [if_pos k1]
        simp only
        rw [hlen, if_pos (by omega)]
        exact ⟨_, _, _, rfl⟩
      · rw [if_neg k1]; exact ⟨_, _, _, rfl⟩
theorem rowG_take {b : List Int} (hb : okB b) {c : Nat} (hc : c ≤ b.length) (each : Int) : ∀ (k a : Nat) (l l' : List Int) (a' : Nat), rowG b each k a l = .inr (l', a') → a ≤ a' ∧ ((a' ≤ c → rowG (b.take c) each k a l = .inr (l', a')) ∧ (c < a' → a ≤ c → ∃ o w k', rowG (b.take c) each k a l = .inl (3, o, w, k')))
  | 0, a, l, l', a', h => by
    unfold rowG at h
    cases h
    exact ⟨Nat.le_refl _, fun _ => rfl, fun k k' => absurd k' (by omega)⟩
  | k + 1, a, l, l', a', h => by
    unfold rowG at h
    cases e : numR b a (pos0 each) with
    | inl x => rw [e] at h; cases h
    | inr x =>
      obtain ⟨n, a1⟩ := x
      rw [e] at h
      simp only at h
      obtain ⟨t1, t2⟩ := numR_take (c := c) hc e
      obtain ⟨r1, r2, r3⟩ := rowG_take hb hc each k a1 (l ++ [n]) l' a' h
      refine ⟨by omega, fun q => ?_, fun q q' => ?_⟩
      · unfold rowG
        rw [t2, if_pos (by omega)]
        exact r2 q
      · unfold rowG
        rw [t2]
        by_cases k1 : a1 ≤ c
        · rw [if_pos k1]; exact r3 q k1
        · rw [if_neg k1]; exact ⟨_, _, _, rfl⟩
theorem rowR_take {b : List Int} (hb : okB b) {a c : Nat} (hc : c ≤ b.length) {m each : Int} {x : List Int} {a' : Nat} (h : rowR b a m each = .inr (x, a')) : a < a' ∧ ((a' ≤ c → rowR (b.take c) a m each = .inr (x, a')) ∧ (c < a' → ∃ o w k, rowR (b.take c) a m each = .inl (3, o, w, k))) := by
  unfold rowR at h ⊢
  cases e : numR b a (pos0 m) with
  | inl k => rw [e] at h; cases h
  | inr y =>
    obtain ⟨n, a1⟩ := y
    rw [e] at h
    simp only at h
    obtain ⟨t1, t2⟩ := numR_take (c := c) hc e
    obtain ⟨r1, r2, r3⟩ := rowG_take hb hc each n.toNat a1 [] x a' h
    refine ⟨by omega, fun k => ?_, fun k => ?_⟩
    · rw [t2, if_pos (by omega)]; exact r2 k
    · rw [t2]
      by_cases k1 : a1 ≤ c
      · rw [if_pos k1]; exact r3 k k1
      · rw [if_neg k1]; exact ⟨_, _, _, rfl⟩
structure stC (c : Nat) (pre : List Int) (a : Int) (e : GErr) : Prop where
  whole : pre.length ≤ c → a = (pre.length : Int) ∧ e = .nil
  short : c < pre.length → ∃ o w, e = .fault o w (.code 3)
theorem stC.bad {c : Nat} {pre : List Int} {a : Int} {e : GErr} (h : stC c pre a e) (g : c < pre.length) : e.isNil = false := by obtain ⟨o, w, rfl⟩ := h.short g; rfl
theorem stC.on {c : Nat} {pre x : List Int} {a : Int} {e : GErr} (h : stC c pre a e) (g : c < pre.length) : stC c (pre ++ x) a e := ⟨fun k => by rw [List.length_append] at k; omega, fun _ => h.short g⟩
theorem stC.no {c : Nat} {pre : List Int} {a : Int} {e : GErr} (h : stC c pre a e) : stC c (pre ++ []) a e := by rw [List.append_nil]; exact h
section
variable {b : List Int} {c : Nat} {pre post : List Int} {a : Int} {e : GErr}
theorem take_ok (hb : okB b) : okB (b.take c) := hb.take _
theorem take_le (hc : c ≤ b.length) : (b.take c).length = c := by rw [List.length_take]; omega
theorem cutI (hb : okB b) (hl : b.length ≤ 1000000) (hc : c ≤ b.length) {n m : Int} (e0 : b = pre ++ (intB n ++ post)) (h0 : 0 ≤ n) (h1 : n ≤ top) (hm : n ≤ m) (hm2 : m ≤ 9223372036854775807) (h : stC c pre a e) :
    ∃ v a' e', f_wire_Reader_Int ⟨b.take c, a, e⟩ m = some (v, a', e') ∧ stC c (pre ++ intB n) a' e' ∧ ((pre ++ intB n).length ≤ c → v = n) ∧ (c < (pre ++ intB n).length → v = 0) := by
  by_cases g : pre.length ≤ c
  · obtain ⟨rfl, rfl⟩ := h.whole g
    have k := int_back pre post (n := n) (most := m) h0 h1 hm
    rw [← e0] at k
    obtain ⟨t1, t2⟩ := numR_take (c := c) hc k
    rw [wint_read (take_ok hb) (by rw [take_le hc]; omega) (by rw [take_le hc]; exact g) hm2, pos0_nn (by omega)]
    unfold numP
    rw [t2]
    by_cases g2 : pre.length + (intB n).length ≤ c
    · rw [if_pos g2]
      exact ⟨n, _, _, rfl, ⟨fun _ => ⟨by rw [List.length_append], rfl⟩, fun k => by rw [List.length_append] at k; omega⟩, fun _ => rfl, fun k => by rw [List.length_append] at k; omega⟩
    · rw [if_neg g2]
      exact ⟨0, _, _, rfl, ⟨fun k => by rw [List.length_append] at k; omega, fun _ => ⟨_, _, rfl⟩⟩, fun k => by rw [List.length_append] at k; omega, fun _ => rfl⟩
  · have g' : c < pre.length := by omega
    exact ⟨0, a, e, wint_bad (h.bad g') m, h.on g', fun k => by rw [List.length_append] at k; omega, fun _ => rfl⟩
theorem cutF (hb : okB b) (hl : b.length ≤ 1000000) (hc : c ≤ b.length) {n : Bool} (e0 : b = pre ++ (flagB n ++ post)) (h : stC c pre a e) :
    ∃ v a' e', f_wire_Reader_Flag ⟨b.take c, a, e⟩ = some (v, a', e') ∧ stC c (pre ++ flagB n) a' e' ∧ ((pre ++ flagB n).length ≤ c → v = n) := by
  by_cases g : pre.length ≤ c
  · obtain ⟨rfl, rfl⟩ := h.whole g
    have k := flag_back pre post n
    rw [← e0] at k
    obtain ⟨t1, t2, t3⟩ := flagR_take (c := c) hc k
    rw [wflag_read (take_ok hb) (by rw [take_le hc]; omega)]
    by_cases g2 : pre.length + (flagB n).length ≤ c
    · rw [t2 g2]
      exact ⟨n, _, _, rfl, ⟨fun _ => ⟨by rw [List.length_append], rfl⟩, fun k => by rw [List.length_append] at k; omega⟩, fun _ => rfl⟩
    · obtain ⟨o, w, k, t4⟩ := t3 (by omega)
      rw [t4]
      exact ⟨false, _, _, rfl, ⟨fun k => by rw [List.length_append] at k; omega, fun _ => ⟨_, _, rfl⟩⟩, fun k => by rw [List.length_append] at k; omega⟩
  · have g' : c < pre.length := by omega
    exact ⟨false, a, e, wflag_bad (h.bad g'), h.on g', fun k => by rw [List.length_append] at k; omega⟩
theorem cutT (hb : okB b) (hl : b.length ≤ 1000000) (hc : c ≤ b.length) {s : List Int} {m : Int} (e0 : b = pre ++ (textB s ++ post)) (hm : (s.length : Int) ≤ m) (hm2 : m ≤ 9223372036854775807) (h : stC c pre a e) :
    ∃ v a' e', f_wire_Reader_Text ⟨b.take c, a, e⟩ m = some (v, a', e') ∧ stC c (pre ++ textB s) a' e' ∧ ((pre ++ textB s).length ≤ c → v = s) := by
  by_cases g : pre.length ≤ c
  · obtain ⟨rfl, rfl⟩ := h.whole g
    have hs : s.length ≤ b.length := by rw [e0]; unfold textB; simp; omega
    have k := text_back pre post s (most := m) hm (by omega)
    rw [← e0] at k
    obtain ⟨t1, t2, t3⟩ := textR_take hb (c := c) hc k
    rw [wtext_read (take_ok hb) (by rw [take_le hc]; omega) (by rw [take_le hc]; exact g) hm2]
    by_cases g2 : pre.length + (textB s).length ≤ c
    · rw [t2 g2]
      exact ⟨s, _, _, rfl, ⟨fun _ => ⟨by rw [List.length_append], rfl⟩, fun k => by rw [List.length_append] at k; omega⟩, fun _ => rfl⟩
    · obtain ⟨o, w, k, t4⟩ := t3 (by omega)
      rw [t4]
      exact ⟨[], _, _, rfl, ⟨fun k => by rw [List.length_append] at k; omega, fun _ => ⟨_, _, rfl⟩⟩, fun k => by rw [List.length_append] at k; omega⟩
  · have g' : c < pre.length := by omega
    exact ⟨[], a, e, wtext_bad (h.bad g') m, h.on g', fun k => by rw [List.length_append] at k; omega⟩
theorem cutR (hb : okB b) (hl : b.length ≤ 1000000) (hc : c ≤ b.length) {s : List Int} {m k : Int} (e0 : b = pre ++ (rowB s ++ post)) (hm : (s.length : Int) ≤ m) (hm2 : m ≤ 9223372036854775807) (hk : k ≤ top) (hs : ∀ x ∈ s, 0 ≤ x ∧ x ≤ k) (h : stC c pre a e) :
    ∃ v a' e', f_wire_Reader_Row ⟨b.take c, a, e⟩ m k = some (v, a', e') ∧ stC c (pre ++ rowB s) a' e' ∧ ((pre ++ rowB s).length ≤ c → v = s) := by
  by_cases g : pre.length ≤ c
  · obtain ⟨rfl, rfl⟩ := h.whole g
    have hsl : s.length ≤ b.length := by
      have := intsB_ge s
      rw [e0]; unfold rowB; simp only [List.length_append]; omega
    have q := row_back pre post s (many := m) (each := k) hm (by omega) hk hs
    rw [← e0] at q
    obtain ⟨t1, t2, t3⟩ := rowR_take hb (c := c) hc q
    rw [wrow_read (take_ok hb) (by rw [take_le hc]; omega) (by rw [take_le hc]; exact g) hm2 (by unfold top at hk; omega)]
    by_cases g2 : pre.length + (rowB s).length ≤ c
    · rw [t2 g2]
      exact ⟨s, _, _, rfl, ⟨fun _ => ⟨by rw [List.length_append], rfl⟩, fun k => by rw [List.length_append] at k; omega⟩, fun _ => rfl⟩
    · obtain ⟨o, w, k', t4⟩ := t3 (by omega)
      rw [t4]
      exact ⟨[], _, _, rfl, ⟨fun k => by rw [List.length_append] at k; omega, fun _ => ⟨_, _, rfl⟩⟩, fun k => by rw [List.length_append] at k; omega⟩
  · have g' : c < pre.length := by omega
    exact ⟨[], a, e, wrow_bad (h.bad g') m k, h.on g', fun k => by rw [List.length_append] at k; omega⟩
end
theorem rdnA {α : Type} [Inhabited α] {xs : List α} {i : Nat} (h : i < xs.length) : rd xs (i : Int) = xs[i] := len_lt h
theorem newA (o : ByteArray) (a c : Int) : f_fault_New o a c = some (.fault o a (.code c)) := rfl

/-! ### brokers -/
def brOk (l : List Int) : Prop := l.length ≤ 7 ∧ ∀ i (h : i < l.length), 1 ≤ l[i] ∧ l[i] ≤ 64 ∧ l[i] ∉ l.take i
theorem index_loop (l : List Int) (x : Int) (hl : l.length ≤ 1000000) : ∀ (d i : Nat), i + d = l.length → (x ∉ l.take i) →
    (x ∈ l ∧ ∃ j : Nat, iter (f_slices_Index_int_int_l0 l x) (i : Int) = some (.inr (j : Int))) ∨ (x ∉ l ∧ iter (f_slices_Index_int_int_l0 l x) (i : Int) = some (.inl ()))
  | 0, i, hi, hx => by
    rw [List.take_of_length_le (by omega)] at hx
    refine .inr ⟨hx, iter_stop ?_⟩
    unfold f_slices_Index_int_int_l0
    simp only
    rw [if_neg (fun q => absurd (of_decide_eq_true q) (by omega))]
  | d + 1, i, hi, hx => by
    have hlt : i < l.length := by omega
    by_cases g : x = l[i]
    · refine .inl ⟨by rw [g]; exact List.getElem_mem hlt, i, iter_stop ?_⟩
      unfold f_slices_Index_int_int_l0
      simp only
      rw [if_pos (decide_eq_true (by omega)), grd_t ⟨by omega, by omega⟩, rdnA hlt, if_pos (decide_eq_true g)]
    · have hstep : f_slices_Index_int_int_l0 l x (i : Int) = some (.inl ((i + 1 : Nat) : Int)) := by
        unfold f_slices_Index_int_int_l0
        simp only
        rw [if_pos (decide_eq_true (by omega)), grd_t ⟨by omega, by omega⟩, rdnA hlt, if_neg (fun q => g (of_decide_eq_true q)), w_i64 (by omega) (by omega)]
        rfl
      rw [iter_next hstep]
      refine index_loop l x hl d (i + 1) (by omega) ?_
      rw [List.take_succ_eq_append_getElem hlt, List.mem_append, List.mem_singleton]
      exact fun q => q.elim hx g
theorem contains_eq (l : List Int) (x : Int) (hl : l.length ≤ 1000000) : f_slices_Contains_int_int l x = some (decide (x ∈ l)) := by
  unfold f_slices_Contains_int_int f_slices_Index_int_int
  have h := index_loop l x hl l.length 0 (by omega) (by simp)
  rw [show ((0 : Nat) : Int) = 0 from rfl] at h
  rcases h with ⟨h1, j, h2⟩ | ⟨h1, h2⟩
  · rw [h2, decide_eq_true h1]
    simp
  · rw [h2, decide_eq_false h1]
    rfl
theorem sub_take (l : List Int) (i : Nat) : sub l 0 (i : Int) = l.take i := by
  unfold sub
  rw [show (0 : Int).toNat = 0 from rfl, show ((i : Int)).toNat = i by omega]
  simp
theorem pbrok_loop (l : List Int) (hl : l.length ≤ 7) : ∀ (d i : Nat), i + d = l.length → (∀ j (h : j < l.length), j < i → 1 ≤ l[j] ∧ l[j] ≤ 64 ∧ l[j] ∉ l.take j) →
    (brOk l ∧ iter (f_record_Brokers_l0 l) (i : Int) = some (.inl ())) ∨ (¬ brOk l ∧ iter (f_record_Brokers_l0 l) (i : Int) = some (.inr ()))
  | 0, i, hi, hp => by
    refine .inl ⟨⟨hl, fun j hj => hp j hj (by omega)⟩, iter_stop ?_⟩
    unfold f_record_Brokers_l0
    simp only
    rw [if_neg (fun q => absurd (of_decide_eq_true q) (by omega))]
  | d + 1, i, hi, hp => by
    have hlt : i < l.length := by omega
    have e : f_record_Brokers_l0 l (i : Int) = if 1 ≤ l[i] ∧ l[i] ≤ 64 ∧ l[i] ∉ l.take i then some (.inl ((i + 1 : Nat) : Int)) else some (.inr (.inr ())) := by
      unfold f_record_Brokers_l0
      simp only
      rw [if_pos (decide_eq_true (by omega)), grd_t ⟨by omega, by omega⟩, rdnA hlt]
      by_cases g1 : l[i] < 1
      · rw [if_pos (decide_eq_true g1), if_neg (show ¬ (1 ≤ l[i] ∧ l[i] ≤ 64 ∧ l[i] ∉ l.take i) from fun q => by omega)]; rfl
      rw [if_neg (fun q => g1 (of_decide_eq_true q))]
      by_cases g2 : 64 < l[i]
      · rw [if_pos (decide_eq_true g2), if_neg (show ¬ (1 ≤ l[i] ∧ l[i] ≤ 64 ∧ l[i] ∉ l.take i) from fun q => by omega)]; rfl
      rw [if_neg (fun q => g2 (of_decide_eq_true q)), grd_t ⟨by omega, by omega, by omega⟩, sub_take, contains_eq _ _ (by simp; omega)]
      simp only [Option.bind_some]
      by_cases g3 : l[i] ∈ l.take i
      · rw [decide_eq_true g3, if_pos rfl, if_neg (show ¬ (1 ≤ l[i] ∧ l[i] ≤ 64 ∧ l[i] ∉ l.take i) from fun q => q.2.2 g3)]
      · rw [decide_eq_false g3, if_neg (by decide), if_pos (show 1 ≤ l[i] ∧ l[i] ≤ 64 ∧ l[i] ∉ l.take i from ⟨by omega, by omega, g3⟩), w_i64 (by omega) (by omega)]; rfl
    by_cases g : 1 ≤ l[i] ∧ l[i] ≤ 64 ∧ l[i] ∉ l.take i
    · rw [if_pos g] at e
      rw [iter_next e]
      refine pbrok_loop l hl d (i + 1) (by omega) fun j hj hji => ?_
      by_cases ej : j = i
      · subst ej; exact g
      · exact hp j hj (by omega)
    · rw [if_neg g] at e
      exact .inr ⟨fun q => g (q.2 i hlt), iter_stop e⟩
/-! ### what a kind is about -/
theorem rbrok_in (l : List Int) (hl : l.length ≤ 7) (i : Nat) (hi : i < l.length) : ∀ (d j : Nat), j + d = i → l[i] ∉ l.take j →
    (l[i] ∉ l.take i ∧ iter (f_ref05_Brokers_l1 l (i : Int)) (j : Int) = some (.inl ())) ∨ (l[i] ∈ l.take i ∧ iter (f_ref05_Brokers_l1 l (i : Int)) (j : Int) = some (.inr ()))
  | 0, j, hj, hx => by
    have e : j = i := by omega
    subst e
    refine .inl ⟨hx, iter_stop ?_⟩
    unfold f_ref05_Brokers_l1
    simp only
    rw [if_neg (fun q => absurd (of_decide_eq_true q) (by omega))]
  | d + 1, j, hj, hx => by
    have hlt : j < l.length := by omega
    by_cases g : l[j] = l[i]
    · refine .inr ⟨?_, iter_stop ?_⟩
      · rw [← g]
        exact List.mem_take_iff_getElem.2 ⟨j, by omega, rfl⟩
      · unfold f_ref05_Brokers_l1
        simp only
        rw [if_pos (decide_eq_true (by omega)), grd_t ⟨by omega, by omega⟩, grd_t ⟨by omega, by omega⟩, rdnA hlt, rdnA hi, if_pos (decide_eq_true g)]
    · have hstep : f_ref05_Brokers_l1 l (i : Int) (j : Int) = some (.inl ((j + 1 : Nat) : Int)) := by
        unfold f_ref05_Brokers_l1
        simp only
        rw [if_pos (decide_eq_true (by omega)), grd_t ⟨by omega, by omega⟩, grd_t ⟨by omega, by omega⟩, rdnA hlt, rdnA hi, if_neg (fun q => g (of_decide_eq_true q)), w_i64 (by omega) (by omega)]
        rfl
      rw [iter_next hstep]
      refine rbrok_in l hl i hi d (j + 1) (by omega) ?_
      rw [List.take_succ_eq_append_getElem hlt, List.mem_append, List.mem_singleton]
      exact fun q => q.elim hx fun q => g q.symm
theorem rbrok_loop (l : List Int) (hl : l.length ≤ 7) : ∀ (d i : Nat), i + d = l.length → (∀ j (h : j < l.length), j < i → 1 ≤ l[j] ∧ l[j] ≤ 64 ∧ l[j] ∉ l.take j) →
    (brOk l ∧ iter (f_ref05_Brokers_l0 l) (i : Int) = some (.inl ())) ∨ (¬ brOk l ∧ iter (f_ref05_Brokers_l0 l) (i : Int) = some (.inr ()))
  | 0, i, hi, hp => by
    refine .inl ⟨⟨hl, fun j hj => hp j hj (by omega)⟩, iter_stop ?_⟩
    unfold f_ref05_Brokers_l0
    simp only
    rw [if_neg (fun q => absurd (of_decide_eq_true q) (by omega))]
  | d + 1, i, hi, hp => by
    have hlt : i < l.length := by omega
    have e : f_ref05_Brokers_l0 l (i : Int) = if 1 ≤ l[i] ∧ l[i] ≤ 64 ∧ l[i] ∉ l.take i then some (.inl ((i + 1 : Nat) : Int)) else some (.inr (.inr ())) := by
      unfold f_ref05_Brokers_l0
      simp only
      rw [if_pos (decide_eq_true (by omega)), grd_t ⟨by omega, by omega⟩, rdnA hlt]
      by_cases g1 : l[i] < 1
      · rw [if_pos (decide_eq_true g1), if_neg (show ¬ (1 ≤ l[i] ∧ l[i] ≤ 64 ∧ l[i] ∉ l.take i) from fun q => by omega)]; rfl
      rw [if_neg (fun q => g1 (of_decide_eq_true q)), grd_t ⟨by omega, by omega⟩]
      simp only [Option.bind_some]
      by_cases g2 : 64 < l[i]
      · rw [if_pos (decide_eq_true g2), if_neg (show ¬ (1 ≤ l[i] ∧ l[i] ≤ 64 ∧ l[i] ∉ l.take i) from fun q => by omega)]; rfl
      rw [if_neg (fun q => g2 (of_decide_eq_true q))]
      have h := rbrok_in l hl i hlt i 0 (by omega) (by simp)
      rw [show ((0 : Nat) : Int) = 0 from rfl] at h
      rcases h with ⟨h1, h2⟩ | ⟨h1, h2⟩
      · rw [h2, if_pos (show 1 ≤ l[i] ∧ l[i] ≤ 64 ∧ l[i] ∉ l.take i from ⟨by omega, by omega, h1⟩), w_i64 (by omega) (by omega)]; rfl
      · rw [h2, if_neg (show ¬ (1 ≤ l[i] ∧ l[i] ≤ 64 ∧ l[i] ∉ l.take i) from fun q => q.2.2 h1)]; rfl
    by_cases g : 1 ≤ l[i] ∧ l[i] ≤ 64 ∧ l[i] ∉ l.take i
    · rw [if_pos g] at e
      rw [iter_next e]
      refine rbrok_loop l hl d (i + 1) (by omega) fun j hj hji => ?_
      by_cases ej : j = i
      · subst ej; exact g
      · exact hp j hj (by omega)
    · rw [if_neg g] at e
      exact .inr ⟨fun q => g (q.2 i hlt), iter_stop e⟩
theorem brokers_eq (l : List Int) : ∃ b : Bool, f_record_Brokers l = some b ∧ f_ref05_Brokers l = some b ∧ (b = true ↔ brOk l) := by
  unfold f_record_Brokers f_ref05_Brokers
  by_cases h : 7 < l.length
  · rw [if_pos (decide_eq_true (by omega)), if_pos (decide_eq_true (by omega))]
    exact ⟨false, rfl, rfl, fun q => (by cases q), fun q => absurd q.1 (by omega)⟩
  · rw [if_neg (fun q => absurd (of_decide_eq_true q) (by omega)), if_neg (fun q => absurd (of_decide_eq_true q) (by omega))]
    have h1 := pbrok_loop l (by omega) l.length 0 (by omega) (fun j hj hji => by omega)
    have h2 := rbrok_loop l (by omega) l.length 0 (by omega) (fun j hj hji => by omega)
    rw [show ((0 : Nat) : Int) = 0 from rfl] at h1 h2
    rcases h1 with ⟨a1, b1⟩ | ⟨a1, b1⟩
    · rcases h2 with ⟨a2, b2⟩ | ⟨a2, b2⟩
      · exact ⟨true, by rw [b1]; rfl, by rw [b2]; rfl, fun _ => a1, fun _ => rfl⟩
      · exact absurd a1 a2
    · rcases h2 with ⟨a2, b2⟩ | ⟨a2, b2⟩
      · exact absurd a2 a1
      · exact ⟨false, by rw [b1]; rfl, by rw [b2]; rfl, fun q => (by cases q), fun q => absurd q a1⟩

theorem some3 {a b : Bool} {X : Option Bool} (h : ∃ x, X = some x) : ∃ x, (if a = true then some b else X) = some x := by
  cases a
  · exact h
  · exact ⟨b, rfl⟩
theorem bytesOf_ok (s : ByteArray) : okB (bytesOf s) := by
  intro x hx
  unfold bytesOf at hx
  obtain ⟨b, _, rfl⟩ := List.mem_map.1 hx
  have := b.toNat_lt
  omega
theorem str_bytes (s : ByteArray) : strOfNums (bytesOf s) = s := by
  unfold bytesOf strOfNums
  rw [List.map_map]
  have : ∀ x ∈ s.data.toList, ((fun n => UInt8.ofNat n.toNat) ∘ fun (b : UInt8) => (b.toNat : Int)) x = x := by
    intro x _
    show UInt8.ofNat ((x.toNat : Int)).toNat = x
    rw [Int.toNat_natCast]
    simp
  rw [List.map_congr_left this, List.map_id']
/-! ### what may be sent -/
theorem bindQ {α β : Type} {x : Option α} {y : α} {f : α → Option β} (h : x = some y) : x.bind f = f y := by rw [h]; rfl
def cI (f : Bool) (n : Int) : List Int := if f = true then intB n else []
def cT (f : Bool) (s : ByteArray) : List Int := if f = true then textB (bytesOf s) else []
def cR (f : Bool) (l : List Int) : List Int := if f = true then rowB l else []
theorem flagB_len (x : Bool) : (flagB x).length = 1 := by cases x <;> rfl
theorem flagB_ok (x : Bool) : okB (flagB x) := by cases x <;> (intro y hy; unfold flagB at hy; simp at hy; omega)
theorem textB_len (s : List Int) : (textB s).length ≤ 8 + s.length := by unfold textB; rw [List.length_append]; have := (intB_len (s.length : Int)).1; omega
theorem textB_ok {s : List Int} (h : okB s) : okB (textB s) := (intB_ok _).append h
theorem intsB_ok : ∀ (l : List Int), okB (intsB l)
  | [] => okB.nil
  | x :: l => by rw [intsB_cons]; exact (intB_ok x).append (intsB_ok l)
theorem rowB_ok (l : List Int) : okB (rowB l) := (intB_ok _).append (intsB_ok l)
theorem rowB_len (l : List Int) : (rowB l).length ≤ 8 + 8 * l.length := by unfold rowB; rw [List.length_append]; have := (intB_len (l.length : Int)).1; have := intsB_len l; omega
theorem cI_len (f : Bool) (n : Int) : (cI f n).length ≤ 8 := by unfold cI; split; exact (intB_len n).1; exact Nat.zero_le _
theorem cI_ok (f : Bool) (n : Int) : okB (cI f n) := by unfold cI; split; exact intB_ok n; exact okB.nil
theorem cT_ok (f : Bool) (s : ByteArray) : okB (cT f s) := by unfold cT; split; exact textB_ok (bytesOf_ok s); exact okB.nil
theorem cR_len {f : Bool} {l : List Int} (h : l.length ≤ 7) : (cR f l).length ≤ 64 := by unfold cR; split; have := rowB_len l; omega; exact Nat.zero_le _
theorem cR_ok (f : Bool) (l : List Int) : okB (cR f l) := by unfold cR; split; exact rowB_ok l; exact okB.nil
/-! ### written -/
theorem nxt {b pre x post : List Int} (h : b = pre ++ (x ++ post)) : b = (pre ++ x) ++ post := by rw [List.append_assoc]; exact h
/-! ### what was written is read -/
/-! ### the example -/
theorem curI {b : List Int} (hb : okB b) (hl : b.length ≤ 1000000) {a : Nat} {e : GErr} {s : T_ref02_State} (h : cor b a e s) (m : Int) (hm : m ≤ 9223372036854775807) :
    ∃ (v : Int) (a' : Nat) (e' : GErr) (t : T_ref02_State), f_wire_Reader_Int ⟨b, (a : Int), e⟩ m = some (v, (a' : Int), e') ∧ f_ref05_Cursor_Int ⟨b, ⟨s.At, s.Code, s.Op, s.Where⟩⟩ m = some (v, t.At, t.Code, t.Op, t.Where) ∧ cor b a' e' t := by
  obtain ⟨v, a', e', t, h1, h2, h3, h4, h5, _⟩ := stepI hb hl h m hm
  refine ⟨v, a', e', t, h1, ?_, h3⟩
  have h2' : f_ref02_Read b ⟨s.At, s.Code, s.Op, s.Where⟩ ⟨1, m, 0⟩ = some (t, ⟨v, false, [], []⟩) := h2
  unfold top at h5
  unfold f_ref05_Cursor_Int
  simp only [h2', Option.bind_some]
  rw [w_i64 (by omega) (by omega)]
theorem curF {b : List Int} (hb : okB b) (hl : b.length ≤ 1000000) {a : Nat} {e : GErr} {s : T_ref02_State} (h : cor b a e s) :
    ∃ (v : Bool) (a' : Nat) (e' : GErr) (t : T_ref02_State), f_wire_Reader_Flag ⟨b, (a : Int), e⟩ = some (v, (a' : Int), e') ∧ f_ref05_Cursor_Flag ⟨b, ⟨s.At, s.Code, s.Op, s.Where⟩⟩ = some (v, t.At, t.Code, t.Op, t.Where) ∧ cor b a' e' t := by
  obtain ⟨v, a', e', t, h1, h2, h3⟩ := stepF hb hl h
  exact ⟨v, a', e', t, h1, (by
    have h2' : f_ref02_Read b ⟨s.At, s.Code, s.Op, s.Where⟩ ⟨2, 0, 0⟩ = some (t, ⟨0, v, [], []⟩) := h2
    unfold f_ref05_Cursor_Flag
    simp only [h2', Option.bind_some]), h3⟩
theorem curT {b : List Int} (hb : okB b) (hl : b.length ≤ 1000000) {a : Nat} {e : GErr} {s : T_ref02_State} (h : cor b a e s) (m : Int) (hm : m ≤ 9223372036854775807) :
    ∃ (v : List Int) (a' : Nat) (e' : GErr) (t : T_ref02_State), f_wire_Reader_Text ⟨b, (a : Int), e⟩ m = some (v, (a' : Int), e') ∧ f_ref05_Cursor_Text ⟨b, ⟨s.At, s.Code, s.Op, s.Where⟩⟩ m = some (v, t.At, t.Code, t.Op, t.Where) ∧ cor b a' e' t := by
  obtain ⟨v, a', e', t, h1, h2, h3, _⟩ := stepT hb hl h m hm
  exact ⟨v, a', e', t, h1, (by
    have h2' : f_ref02_Read b ⟨s.At, s.Code, s.Op, s.Where⟩ ⟨3, m, 0⟩ = some (t, ⟨0, false, v, []⟩) := h2
    unfold f_ref05_Cursor_Text
    simp only [h2', Option.bind_some]), h3⟩
theorem curR {b : List Int} (hb : okB b) (hl : b.length ≤ 1000000) {a : Nat} {e : GErr} {s : T_ref02_State} (h : cor b a e s) (m k : Int) (hm : m ≤ 9223372036854775807) (hk : k ≤ 9223372036854775807) :
    ∃ (v : List Int) (a' : Nat) (e' : GErr) (t : T_ref02_State), f_wire_Reader_Row ⟨b, (a : Int), e⟩ m k = some (v, (a' : Int), e') ∧ f_ref05_Cursor_Row ⟨b, ⟨s.At, s.Code, s.Op, s.Where⟩⟩ m k = some (v, t.At, t.Code, t.Op, t.Where) ∧ cor b a' e' t ∧ v.length ≤ b.length := by
  obtain ⟨v, a', e', t, h1, h2, h3, h4⟩ := stepR hb hl h m k hm hk
  exact ⟨v, a', e', t, h1, (by
    have h2' : f_ref02_Read b ⟨s.At, s.Code, s.Op, s.Where⟩ ⟨4, m, k⟩ = some (t, ⟨0, false, [], v⟩) := h2
    unfold f_ref05_Cursor_Row
    simp only [h2', Option.bind_some]), h3, h4⟩
abbrev Rec := T_api_Record
/-! ### what a kind is about -/
def aboutR (k : Int) : Int := if k = 2 then 1027 else if k = 3 ∨ k = 4 ∨ k = 5 ∨ k = 6 then 3 else if k = 7 then 132 else if k = 8 then 6172 else if k = 9 then 14366 else if k = 10 then 836 else if k = 11 then 4 else if k = 12 then 32 else 0
def hasR (k bit : Int) : Bool := decide (andI .i64 (aboutR k) bit ≠ 0)
theorem kindsR (k : Int) : (k = 2 ∨ k = 3 ∨ k = 4 ∨ k = 5 ∨ k = 6 ∨ k = 7 ∨ k = 8 ∨ k = 9 ∨ k = 10 ∨ k = 11 ∨ k = 12) ∨ (k ≠ 2 ∧ k ≠ 3 ∧ k ≠ 4 ∧ k ≠ 5 ∧ k ≠ 6 ∧ k ≠ 7 ∧ k ≠ 8 ∧ k ≠ 9 ∧ k ≠ 10 ∧ k ≠ 11 ∧ k ≠ 12) := by omega
theorem about_none {k : Int} (h : k ≠ 2 ∧ k ≠ 3 ∧ k ≠ 4 ∧ k ≠ 5 ∧ k ≠ 6 ∧ k ≠ 7 ∧ k ≠ 8 ∧ k ≠ 9 ∧ k ≠ 10 ∧ k ≠ 11 ∧ k ≠ 12) : aboutR k = 0 := by unfold aboutR; simp [h]
theorem about_eqR (k : Int) : f_record_about k = some (aboutR k) := by
  rcases kindsR k with (rfl | rfl | rfl | rfl | rfl | rfl | rfl | rfl | rfl | rfl | rfl) | h
  all_goals first
    | rfl
    | (rw [about_none h]
       unfold f_record_about
       simp [h])
theorem has_runR {k l : Int} {s : ByteArray} {e : Unit ⊕ Unit} (h : f_ref05_has k l = (((iter (f_ref05_has_l0 l s) (0 : Int)).bind (Sum.elim (fun _ => (some (Sum.inl ()))) (fun _ => (((some true)).bind fun r => some (Sum.inr r))))) : Option (Unit ⊕ Bool)).bind (Sum.elim (fun _ => (some false)) some)) (n : Nat) (hr : runK n (f_ref05_has_l0 l s) 0 = some e) : f_ref05_has k l = some (match e with | .inl _ => false | .inr _ => true) := by
  rw [h, iter_run n hr]
  cases e <;> rfl
theorem has_none {k : Int} (h : k ≠ 2 ∧ k ≠ 3 ∧ k ≠ 4 ∧ k ≠ 5 ∧ k ≠ 6 ∧ k ≠ 7 ∧ k ≠ 8 ∧ k ≠ 9 ∧ k ≠ 10 ∧ k ≠ 11 ∧ k ≠ 12) (l : Int) : f_ref05_has k l = some false := by
  refine has_runR (s := ⟨#[]⟩) (e := .inl ()) ?_ 1 rfl
  unfold f_ref05_has
  simp only [decide_eq_false h.1, decide_eq_false h.2.1, decide_eq_false h.2.2.1, decide_eq_false h.2.2.2.1, decide_eq_false h.2.2.2.2.1, decide_eq_false h.2.2.2.2.2.1, decide_eq_false h.2.2.2.2.2.2.1, decide_eq_false h.2.2.2.2.2.2.2.1, decide_eq_false h.2.2.2.2.2.2.2.2.1, decide_eq_false h.2.2.2.2.2.2.2.2.2.1, decide_eq_false h.2.2.2.2.2.2.2.2.2.2, Bool.false_eq_true, if_false, Option.bind_some]
theorem has_eqR (k : Int) : f_ref05_has k 98 = some (hasR k 1) ∧ f_ref05_has k 101 = some (hasR k 2) ∧ f_ref05_has k 116 = some (hasR k 4) ∧ f_ref05_has k 112 = some (hasR k 8) ∧ f_ref05_has k 108 = some (hasR k 16) ∧ f_ref05_has k 97 = some (hasR k 32) ∧ f_ref05_has k 102 = some (hasR k 64) ∧ f_ref05_has k 110 = some (hasR k 128) ∧ f_ref05_has k 107 = some (hasR k 256) ∧ f_ref05_has k 118 = some (hasR k 512) ∧ f_ref05_has k 114 = some (hasR k 1024) ∧ f_ref05_has k 105 = some (hasR k 2048) ∧ f_ref05_has k 109 = some (hasR k 4096) ∧ f_ref05_has k 120 = some (hasR k 8192) := by
  rcases kindsR k with (rfl | rfl | rfl | rfl | rfl | rfl | rfl | rfl | rfl | rfl | rfl) | h
  case inr =>
    simp only [has_none h, hasR, about_none h]
    decide
  all_goals
    refine ⟨?_, ?_, ?_, ?_, ?_, ?_, ?_, ?_, ?_, ?_, ?_, ?_, ?_, ?_⟩
    all_goals first
      | exact (has_runR (e := .inr ()) rfl 8 rfl).trans (by decide +kernel)
      | exact (has_runR (e := .inl ()) rfl 8 rfl).trans (by decide +kernel)
/-! ### names -/
def okC (c : Int) : Bool := (decide (97 ≤ c) && decide (c ≤ 122)) || (decide (48 ≤ c) && decide (c ≤ 57)) || decide (c = 46) || decide (c = 45)
def nameV (s : ByteArray) : Bool := decide (1 ≤ s.size) && decide (s.size ≤ 40) && !decide (s = ⟨#[46]⟩) && !decide (s = ⟨#[46, 46]⟩) && (bytesOf s).all okC
theorem btAt_rd {s : ByteArray} {i : Nat} (h : i < s.size) : btAt s (i : Int) = rd (bytesOf s) (i : Int) := by
  have hd : i < s.data.size := h
  have e1 : s[i]? = some s[i] := getElem?_pos s i h
  have e2 : (bytesOf s)[i]? = some ((s.data[i].toNat : Nat) : Int) := by
    unfold bytesOf
    rw [List.getElem?_map, Array.getElem?_toList, Array.getElem?_eq_getElem hd]
    rfl
  unfold btAt rd
  rw [Int.toNat_natCast, e1, List.getD_eq_getElem?_getD, e2]
  rfl
theorem name_step {c : Int} : (((if (decide ((97 : Int) ≤ c)) = true then (if (decide ((48 : Int) ≤ c)) = true then (some (decide (c ≤ (122 : Int)), decide (c ≤ (57 : Int)))) else (some (decide (c ≤ (122 : Int)), false))) else (if (decide ((48 : Int) ≤ c)) = true then (some (false, decide (c ≤ (57 : Int)))) else (some (false, false)))) : Option (Bool × Bool)).bind fun (x41, x42) => (if (!x41) = true then (if (!x42) = true then (if (decide (c ≠ (46 : Int))) = true then (some (decide (c ≠ (45 : Int)))) else (some false)) else (some false)) else (some false))) = some (!okC c) := by
  unfold okC
  simp only [ne_eq, decide_not]
  generalize decide (97 ≤ c) = b1
  generalize decide (c ≤ 122) = b2
  generalize decide (48 ≤ c) = b3
  generalize decide (c ≤ 57) = b4
  generalize decide (c = 46) = b5
  generalize decide (c = 45) = b6
  cases b1 <;> cases b2 <;> cases b3 <;> cases b4 <;> cases b5 <;> cases b6 <;> rfl
theorem name_step2 {c : Int} : (if (decide ((97 : Int) ≤ c)) = true then (if (decide (c ≤ (122 : Int))) = true then (some true) else (if (decide ((48 : Int) ≤ c)) = true then (if (decide (c ≤ (57 : Int))) = true then (some true) else (if (decide (c = (46 : Int))) = true then (some true) else (some (decide (c = (45 : Int)))))) else (if (decide (c = (46 : Int))) = true then (some true) else (some (decide (c = (45 : Int))))))) else (if (decide ((48 : Int) ≤ c)) = true then (if (decide (c ≤ (57 : Int))) = true then (some true) else (if (decide (c = (46 : Int))) = true then (some true) else (some (decide (c = (45 : Int)))))) else (if (decide (c = (46 : Int))) = true then (some true) else (some (decide (c = (45 : Int))))))) = some (okC c) := by
  unfold okC
  generalize decide (97 ≤ c) = b1
  generalize decide (c ≤ 122) = b2
  generalize decide (48 ≤ c) = b3
  generalize decide (c ≤ 57) = b4
  generalize decide (c = 46) = b5
  generalize decide (c = 45) = b6
  cases b1 <;> cases b2 <;> cases b3 <;> cases b4 <;> cases b5 <;> cases b6 <;> rfl
theorem drop_all {l : List Int} {i : Nat} (h : i < l.length) : (l.drop i).all okC = (okC (rd l (i : Int)) && (l.drop (i + 1)).all okC) := by
  rw [List.drop_eq_getElem_cons h, List.all_cons, rdnA h]
theorem pname_loop (s : ByteArray) (hs : s.size ≤ 1000000) : ∀ (d i : Nat), i + d = (bytesOf s).length → iter (f_record_Name_l0 s) (i : Int) = some (if ((bytesOf s).drop i).all okC = true then .inl () else .inr ())
  | 0, i, hi => by
    refine iter_stop ?_
    rw [List.drop_eq_nil_of_le (by omega)]
    unfold f_record_Name_l0
    simp only
    rw [if_neg (fun q => absurd (of_decide_eq_true q) (by omega))]
    rfl
  | d + 1, i, hi => by
    have hlt : i < (bytesOf s).length := by omega
    have hsz := bytesOf_len s
    rw [drop_all hlt]
    have e : f_record_Name_l0 s (i : Int) = if (!okC (rd (bytesOf s) (i : Int))) = true then some (.inr (.inr ())) else some (.inl ((i + 1 : Nat) : Int)) := by
      unfold f_record_Name_l0
      simp only
      rw [if_pos (decide_eq_true (by omega)), grd_t ⟨by omega, by omega⟩, w_i64 (by omega) (by omega)]
      have k := name_step (c := rd (bytesOf s) (i : Int))
      generalize rd (bytesOf s) (i : Int) = c at k ⊢
      refine Eq.trans ?_ (bindQ (f := fun (x47 : Bool) => if x47 = true then some (Sum.inr (Sum.inr ())) else some (Sum.inl ((i : Int) + 1))) k)
      rw [Option.bind_assoc]
    cases g : okC (rd (bytesOf s) (i : Int))
    · rw [g] at e
      exact iter_stop e
    · rw [g] at e
      rw [iter_next e]
      exact pname_loop s hs d (i + 1) (by omega)
theorem rname_loop (s : ByteArray) (hs : s.size ≤ 1000000) : ∀ (d i : Nat), i + d = (bytesOf s).length → iter (f_ref05_Name_l0 s) (i : Int) = some (if ((bytesOf s).drop i).all okC = true then .inl () else .inr ())
  | 0, i, hi => by
    have hsz := bytesOf_len s
    refine iter_stop ?_
    rw [List.drop_eq_nil_of_le (by omega)]
    unfold f_ref05_Name_l0
    simp only
    rw [if_neg (fun q => absurd (of_decide_eq_true q) (by omega))]
    rfl
  | d + 1, i, hi => by
    have hlt : i < (bytesOf s).length := by omega
    have hsz := bytesOf_len s
    rw [drop_all hlt]
    have e : f_ref05_Name_l0 s (i : Int) = if (!okC (rd (bytesOf s) (i : Int))) = true then some (.inr (.inr ())) else some (.inl ((i + 1 : Nat) : Int)) := by
      unfold f_ref05_Name_l0
      simp only
      rw [if_pos (decide_eq_true (by omega)), grd_t ⟨by omega, by omega⟩, w_i64 (by omega) (by omega), btAt_rd (by omega)]
      exact bindQ name_step2
    cases g : okC (rd (bytesOf s) (i : Int))
    · rw [g] at e
      exact iter_stop e
    · rw [g] at e
      rw [iter_next e]
      exact rname_loop s hs d (i + 1) (by omega)
theorem size0 {s : ByteArray} : decide (s = (⟨#[]⟩ : ByteArray)) = !decide (1 ≤ s.size) := by
  by_cases h : s = ⟨#[]⟩
  · subst h; rfl
  · rw [decide_eq_false h]
    have : 1 ≤ s.size := by
      refine Classical.byContradiction fun z => h ?_
      have h0 : s.data.size = 0 := by have : s.size = s.data.size := rfl; omega
      obtain ⟨d⟩ := s
      congr 1
      exact Array.eq_empty_of_size_eq_zero h0
    rw [decide_eq_true this]; rfl
theorem name_tail (b1 b2 b3 b4 t : Bool) {X : Option (Unit ⊕ Unit)} (h : b2 = true → X = some (if t = true then .inl () else .inr ())) :
    ((((if b1 = false then (some true) else (if b2 = false then (some true) else (if b3 = true then (some true) else (some b4)))) : Option Bool).bind fun (x21 : Bool) => (if x21 = true then (some false) else (((X.bind (Sum.elim (fun _ => (some (Sum.inl ()))) (fun _ => (((some false)).bind fun r => some (Sum.inr r))))) : Option (Unit ⊕ Bool)).bind (Sum.elim (fun _ => (some true)) some))))) = some (b1 && b2 && !b3 && !b4 && t) := by
  cases b1
  · rfl
  cases b2
  · rfl
  rw [h rfl]
  cases b3
  · cases b4
    · cases t <;> rfl
    · rfl
  · rfl
theorem pname_eq (s : ByteArray) : f_record_Name s = some (nameV s) := by
  have e1 : (decide (s = (⟨#[]⟩ : ByteArray)) = true) = (decide (1 ≤ s.size) = false) := by rw [size0]; cases decide (1 ≤ s.size) <;> simp
  have e2 : (decide ((40 : Int) < (s.size : Int)) = true) = (decide (s.size ≤ 40) = false) := by
    rw [decide_eq_true_eq, decide_eq_false_iff_not]; exact propext ⟨fun h => by omega, fun h => by omega⟩
  unfold f_record_Name nameV
  simp only [e1, e2]
  refine name_tail _ _ _ _ _ fun h => ?_
  have h := of_decide_eq_true h
  have k := pname_loop s (by omega) (bytesOf s).length 0 (by omega)
  rw [List.drop_zero] at k
  exact k
theorem rname_eq (s : ByteArray) : f_ref05_Name s = some (nameV s) := by
  have e1 : (decide ((s.size : Int) < 1) = true) = (decide (1 ≤ s.size) = false) := by
    rw [decide_eq_true_eq, decide_eq_false_iff_not]; exact propext ⟨fun h => by omega, fun h => by omega⟩
  have e2 : (decide ((40 : Int) < (s.size : Int)) = true) = (decide (s.size ≤ 40) = false) := by
    rw [decide_eq_true_eq, decide_eq_false_iff_not]; exact propext ⟨fun h => by omega, fun h => by omega⟩
  unfold f_ref05_Name nameV
  simp only [e1, e2]
  refine name_tail _ _ _ _ _ fun h => ?_
  have h := of_decide_eq_true h
  have k := rname_loop s (by omega) (bytesOf s).length 0 (by omega)
  rw [List.drop_zero] at k
  exact k
theorem nameV_size {s : ByteArray} (h : nameV s = true) : 1 ≤ s.size ∧ s.size ≤ 40 := by
  unfold nameV at h
  simp only [Bool.and_eq_true, decide_eq_true_eq] at h
  exact ⟨h.1.1.1.1, h.1.1.1.2⟩
/-! ### whether a record may be -/
def numW (n : Int) (has : Bool) (least most : Int) : Bool := if has = true then decide (least ≤ n ∧ n ≤ most) else decide (n = 0)
theorem num_if (n least most : Int) : (if (decide (least ≤ n)) = true then (some (decide (n ≤ most))) else (some false)) = some (decide (least ≤ n ∧ n ≤ most)) := by
  by_cases h : least ≤ n <;> simp [h]
theorem pnumR (n : Int) (h : Bool) (a c : Int) : f_record_number n h a c = some (numW n h a c) := by
  unfold f_record_number numW
  rw [num_if]
  cases h <;> rfl
theorem rnumR (n : Int) (h : Bool) (a c : Int) : f_ref05_num n h a c = some (numW n h a c) := by
  unfold f_ref05_num numW
  rw [num_if]
  cases h <;> rfl
def textN (s : ByteArray) (has : Bool) : Bool := if has = true then nameV s else decide (s = ⟨#[]⟩)
def textW (s : ByteArray) (has : Bool) : Bool := if has = true then decide ((s.size : Int) ≤ 256) else decide (s = ⟨#[]⟩)
theorem ptextN (s : ByteArray) (h : Bool) : f_record_text_116 s h = some (textN s h) := by
  unfold f_record_text_116 textN
  rw [pname_eq]
  cases h <;> rfl
theorem ptextW (s : ByteArray) (h : Bool) : f_record_text_113 s h = some (textW s h) := by
  unfold f_record_text_113 textW f_record_Check_2
  cases h <;> rfl
theorem rtextN (s : ByteArray) (h : Bool) : f_ref05_name s h = some (textN s h) := by
  unfold f_ref05_name textN
  rw [rname_eq]
  cases h <;> rfl
open Classical in
noncomputable def brB (l : List Int) : Bool := decide (brOk l)
theorem brB_t {l : List Int} : brB l = true ↔ brOk l := by unfold brB; simp
theorem brB_eq (l : List Int) : f_record_Brokers l = some (brB l) ∧ f_ref05_Brokers l = some (brB l) := by
  obtain ⟨b, h1, h2, h3⟩ := brokers_eq l
  have : b = brB l := by rw [Bool.eq_iff_iff, h3, brB_t]
  rw [← this]
  exact ⟨h1, h2⟩
theorem brB_f {l : List Int} (h : ¬ brOk l) : brB l = false := by
  cases hb : brB l
  · rfl
  · exact absurd (brB_t.1 hb) h
theorem pbrB (l : List Int) : f_record_Brokers l = some (brB l) := by
  unfold f_record_Brokers
  by_cases h : 7 < l.length
  · rw [if_pos (decide_eq_true (by omega))]
    rw [brB_f (fun q => absurd q.1 (by omega))]
  · rw [if_neg (fun q => absurd (of_decide_eq_true q) (by omega))]
    have h1 := pbrok_loop l (by omega) l.length 0 (by omega) (fun j hj hji => by omega)
    rw [show ((0 : Nat) : Int) = 0 from rfl] at h1
    rcases h1 with ⟨a1, b1⟩ | ⟨a1, b1⟩
    · rw [b1, brB_t.2 a1]; rfl
    · rw [b1, brB_f a1]; rfl
noncomputable def rowV (l : List Int) (has : Bool) : Bool := if has = true then brB l else decide ((l.length : Int) = 0)
theorem prowR (l : List Int) (h : Bool) : f_record_row l h = some (rowV l h) := by
  unfold f_record_row rowV
  rw [pbrB]
  cases h <;> rfl
theorem rrowR (l : List Int) (h : Bool) : f_ref05_row l h = some (rowV l h) := by
  unfold f_ref05_row rowV
  rw [(brB_eq l).2]
  cases h <;> rfl
def leastR (k : Int) : Int := if k = 10 then 0 else 1
theorem pleast (k : Int) : (((if (decide (k ≠ (10 : Int))) = true then (some (1 : Int)) else (some (0 : Int))) : Option Int)) = some (leastR k) := by
  unfold leastR
  by_cases h : k = 10 <;> simp [h]
theorem rleast (k : Int) : (((if (decide (k = (10 : Int))) = true then (some (0 : Int)) else (some (1 : Int))) : Option Int)) = some (leastR k) := by
  unfold leastR
  by_cases h : k = 10 <;> simp [h]
theorem pcheck1 (bit : Int) (r : Rec) : f_record_Check_1 bit r = some (hasR r.Kind bit) := by
  unfold f_record_Check_1
  rw [about_eqR]
  rfl
theorem exI {c : Bool} {A : GErr} {R : Option GErr} (h : ∃ e, R = some e) : ∃ e, (if c = true then some A else R) = some e := by
  cases c
  · exact h
  · exact ⟨A, rfl⟩
theorem exB {X : Option Bool} {A : GErr} {R : Option GErr} (hX : ∃ x, X = some x) (h : ∃ e, R = some e) : ∃ e, (X.bind fun x => if x = true then some A else R) = some e := by
  obtain ⟨x, rfl⟩ := hX
  exact exI h
theorem checkT (r : Rec) : ∃ e, f_record_Check r = some e := by
  unfold f_record_Check
  simp only [pleast, pcheck1, pnumR, ptextN, ptextW, prowR, newA, Option.bind_some]
  refine exB (some3 ⟨_, rfl⟩) ?_
  refine exI (exI (exI (exI (exI ?_))))
  refine exB (some3 (some3 ⟨_, rfl⟩)) ?_
  refine exB (by cases r.Flag <;> cases hasR r.Kind 64 <;> exact ⟨_, rfl⟩) ?_
  refine exB (some3 (some3 ⟨_, rfl⟩)) ?_
  refine exB ?_ ?_
  · refine some3 ?_
    cases decide (r.Value = ⟨#[]⟩) <;> cases r.Flag <;> exact ⟨_, rfl⟩
  refine exB (some3 (some3 (some3 ⟨_, rfl⟩))) ?_
  exact ⟨_, rfl⟩
def toE5 (w : T_ref05_Wrong) : GErr := if w.Code = 0 then .nil else .fault w.Op w.At (.code w.Code)
def Like (K : Option GErr) (R : Option T_ref05_Wrong) (R' : Option GErr) : Prop := ∃ w, R = some w ∧ R' = if w.Code = 0 then K else some (toE5 w)
theorem likeI {K : Option GErr} {c : Bool} {A : T_ref05_Wrong} {R : Option T_ref05_Wrong} {A' : GErr} {R' : Option GErr} (hA : A' = toE5 A) (h0 : A.Code ≠ 0) (h : Like K R R') : Like K (if c = true then some A else R) (if c = true then some A' else R') := by
  cases c
  · exact h
  · exact ⟨A, rfl, by rw [if_neg h0, hA]; rfl⟩
theorem likeB {K : Option GErr} {X Y : Option Bool} {A : T_ref05_Wrong} {R : Option T_ref05_Wrong} {A' : GErr} {R' : Option GErr} (hX : ∃ x, X = some x) (hY : Y = X) (hA : A' = toE5 A) (h0 : A.Code ≠ 0) (h : Like K R R') : Like K (X.bind fun x => if x = true then some A else R) (Y.bind fun x => if x = true then some A' else R') := by
  subst hY
  obtain ⟨x, hx⟩ := hX
  rw [hx]
  exact likeI hA h0 h
theorem likeT {K : Option GErr} {A : T_ref05_Wrong} (h : A.Code = 0) : Like K (some A) K := ⟨A, rfl, by rw [if_pos h]⟩
theorem likeN {K : Option GErr} {R1 : Option T_ref05_Wrong} {Q : Option GErr} {R : Option T_ref05_Wrong} (h : Like Q R1 K) (h2 : Like (some .nil) R Q) : Like (some .nil) (R1.bind fun w => if decide (w.Code ≠ 0) = true then some w else R) K := by
  obtain ⟨w, h1, h3⟩ := h
  rw [h1]
  by_cases g : w.Code = 0
  · rw [if_pos g] at h3
    show Like _ (if decide (w.Code ≠ 0) = true then some w else R) K
    rw [if_neg (by simp [g]), h3]
    exact h2
  · rw [if_neg g] at h3
    show Like _ (if decide (w.Code ≠ 0) = true then some w else R) K
    rw [if_pos (by simp [g]), h3]
    exact ⟨w, rfl, by rw [if_neg g]⟩
theorem nz1 : (1 : Int) ≠ 0 := by decide
theorem nz2 : (2 : Int) ≠ 0 := by decide
theorem nz5 : (5 : Int) ≠ 0 := by decide
theorem nz6 : (6 : Int) ≠ 0 := by decide
theorem nz18 : (18 : Int) ≠ 0 := by decide
theorem check_like (r : Rec) : Like (some .nil) (f_ref05_Check r) (f_record_Check r) := by
  obtain ⟨hb, he, ht, hp, hl, ha, hf, hn, hk, hv, hr, hi, hm, hx⟩ := has_eqR r.Kind
  unfold f_ref05_Check f_record_Check f_ref05_numbers
  simp only [pleast, rleast, pcheck1, hb, he, ht, hp, hl, ha, hf, hn, hk, hv, hr, hi, hm, hx, pnumR, rnumR, ptextN, rtextN, ptextW, prowR, rrowR, newA, Option.bind_some]
  refine likeB (some3 ⟨_, rfl⟩) rfl rfl ?_ ?_
  exact nz5
  refine @likeN _ _ ?Q _ ?_ ?_
  rotate_left 1
  · refine likeI rfl ?_ ?_
    exact nz2
    refine likeI rfl ?_ ?_
    exact nz2
    refine likeI rfl ?_ ?_
    exact nz2
    refine likeI rfl ?_ ?_
    exact nz2
    refine likeI rfl ?_ ?_
    exact nz2
    refine likeB (some3 (some3 ⟨_, rfl⟩)) rfl rfl ?_ ?_
    exact nz2
    exact likeT (A := ⟨⟨#[]⟩, 0, 0⟩) rfl
  · refine likeB (by cases r.Flag <;> exact ⟨_, rfl⟩) (by cases r.Flag <;> cases hasR r.Kind 64 <;> rfl) rfl ?_ ?_
    exact nz1
    refine likeB (some3 (some3 ⟨_, rfl⟩)) rfl rfl ?_ ?_
    exact nz1
    refine likeB ?_ ?_ rfl ?_ ?_
    rotate_left 2
    · exact nz6
    rotate_left 1
    · refine some3 ?_
      cases decide (r.Value = ⟨#[]⟩) <;> cases r.Flag <;> exact ⟨_, rfl⟩
    · unfold textW
      by_cases g : r.Value = ⟨#[]⟩
      · rw [g]; cases r.Flag <;> cases hasR r.Kind 512 <;> rfl
      · rw [decide_eq_false g]
        by_cases g2 : (256 : Int) < (r.Value.size : Int)
        · rw [decide_eq_true g2, decide_eq_false (show ¬ ((r.Value.size : Int) ≤ 256) by omega)]
          cases r.Flag <;> cases hasR r.Kind 512 <;> rfl
        · rw [decide_eq_false g2, decide_eq_true (show ((r.Value.size : Int) ≤ 256) by omega)]
          cases r.Flag <;> cases hasR r.Kind 512 <;> rfl
    refine likeB (some3 (some3 (some3 ⟨_, rfl⟩))) rfl rfl ?_ ?_
    exact nz18
    exact likeT (A := ⟨⟨#[]⟩, 0, 0⟩) rfl
theorem check_eqR (r : Rec) : ∃ w, f_ref05_Check r = some w ∧ f_record_Check r = some (toE5 w) := by
  obtain ⟨w, h1, h2⟩ := check_like r
  refine ⟨w, h1, ?_⟩
  rw [h2]
  by_cases g : w.Code = 0
  · rw [if_pos g]; unfold toE5; rw [if_pos g]
  · rw [if_neg g]
structure okRec (r : Rec) : Prop where
  kind : 1 ≤ r.Kind ∧ r.Kind ≤ 12
  broker : numW r.Broker (hasR r.Kind 1) 1 64 = true
  epoch : numW r.Epoch (hasR r.Kind 2) 0 1073741824 = true
  topic : numW r.Topic (hasR r.Kind 4) (leastR r.Kind) 1073741824 = true
  part : numW r.Part (hasR r.Kind 8) 0 255 = true
  leader : numW r.Leader (hasR r.Kind 16) 0 64 = true
  client : numW r.Client (hasR r.Kind 32) 1 1073741824 = true
  serial : numW r.Serial (hasR r.Kind 32) 1 1073741824 = true
  code : numW r.Code (hasR r.Kind 32) 0 21 = true
  flag : hasR r.Kind 64 = false → r.Flag = false
  name : textN r.Name (hasR r.Kind 128) = true
  key : textN r.Key (hasR r.Kind 256) = true
  rack : textN r.Rack (hasR r.Kind 1024) = true
  value : textW r.Value (hasR r.Kind 512) = true
  ids : rowV r.Ids (hasR r.Kind 2048) = true
  isr : rowV r.Isr (hasR r.Kind 4096) = true
  add : rowV r.Add (hasR r.Kind 8192) = true
  drop : rowV r.Drop (hasR r.Kind 8192) = true
theorem ifF {c : Bool} {A : GErr} {R : Option GErr} (hA : A.isNil = false) (h : (if c = true then some A else R) = some .nil) : c = false ∧ R = some .nil := by
  cases c
  · exact ⟨rfl, h⟩
  · have : A = .nil := Option.some.inj h
    rw [this] at hA
    cases hA
theorem bndF {X : Option Bool} {A : GErr} {R : Option GErr} (hA : A.isNil = false) (h : (X.bind fun x => if x = true then some A else R) = some .nil) : X = some false ∧ R = some .nil := by
  cases X with
  | none => cases h
  | some x => obtain ⟨h1, h2⟩ := ifF hA h; rw [h1]; exact ⟨rfl, h2⟩
theorem or2F {a b : Bool} (h : (if a = true then some true else some b) = some false) : a = false ∧ b = false := by
  cases a
  · exact ⟨rfl, Option.some.inj h⟩
  · cases h
theorem orF {a : Bool} {X : Option Bool} (h : (if a = true then some true else X) = some false) : a = false ∧ X = some false := by
  cases a
  · exact ⟨rfl, h⟩
  · cases h
theorem notF {a : Bool} (h : (!a) = false) : a = true := by cases a; cases h; rfl
theorem check_okR {r : Rec} (h : f_record_Check r = some .nil) : okRec r := by
  unfold f_record_Check at h
  simp only [pleast, pcheck1, pnumR, ptextN, ptextW, prowR, newA, Option.bind_some] at h
  obtain ⟨g0, h⟩ := bndF rfl h
  obtain ⟨g1, h⟩ := ifF rfl h
  obtain ⟨g2, h⟩ := ifF rfl h
  obtain ⟨g3, h⟩ := ifF rfl h
  obtain ⟨g4, h⟩ := ifF rfl h
  obtain ⟨g5, h⟩ := ifF rfl h
  obtain ⟨g6, h⟩ := bndF rfl h
  obtain ⟨g7, h⟩ := bndF rfl h
  obtain ⟨g8, h⟩ := bndF rfl h
  obtain ⟨g9, h⟩ := bndF rfl h
  obtain ⟨g10, h⟩ := bndF rfl h
  obtain ⟨a1, a2⟩ := or2F g0
  obtain ⟨b1, g6⟩ := orF g6
  obtain ⟨b2, b3⟩ := or2F g6
  obtain ⟨c1, g8⟩ := orF g8
  obtain ⟨c2, c3⟩ := or2F g8
  obtain ⟨d1, d2⟩ := orF g9
  obtain ⟨f1, g10⟩ := orF g10
  obtain ⟨f2, g10⟩ := orF g10
  obtain ⟨f3, f4⟩ := or2F g10
  have a1 := of_decide_eq_false a1
  have a2 := of_decide_eq_false a2
  refine ⟨⟨by omega, by omega⟩, notF g1, notF g2, notF g3, notF g4, notF g5, notF b1, notF b2, notF b3, ?_, notF c1, notF c2, notF c3, notF d1, notF f1, notF f2, notF f3, notF f4⟩
  intro e
  rw [e] at g7
  exact Option.some.inj g7
theorem numW_t {n : Int} {h : Bool} {a m : Int} (k : numW n h a m = true) : (h = true → a ≤ n ∧ n ≤ m) ∧ (h = false → n = 0) := by
  unfold numW at k
  cases h
  · exact ⟨fun q => (by cases q), fun _ => of_decide_eq_true (by simpa using k)⟩
  · exact ⟨fun _ => of_decide_eq_true (by simpa using k), fun q => (by cases q)⟩
theorem leastR_nn (k : Int) : 0 ≤ leastR k := by unfold leastR; split <;> omega
theorem numW_b {n : Int} {h : Bool} {a m : Int} (k : numW n h a m = true) (ha : 0 ≤ a) (hm : 0 ≤ m) : 0 ≤ n ∧ n ≤ m := by
  have := numW_t k
  cases h
  · have := this.2 rfl; omega
  · have := this.1 rfl; omega
theorem textN_W {s : ByteArray} {h : Bool} (k : textN s h = true) : textW s h = true := by
  unfold textN at k
  unfold textW
  cases h
  · exact k
  · have := nameV_size (s := s) (by simpa using k)
    simp only [if_true]
    exact decide_eq_true (by omega)
theorem textW_t {s : ByteArray} {h : Bool} (k : textW s h = true) : (h = true → s.size ≤ 256) ∧ (h = false → s = ⟨#[]⟩) := by
  unfold textW at k
  cases h
  · exact ⟨fun q => (by cases q), fun _ => of_decide_eq_true (by simpa using k)⟩
  · exact ⟨fun _ => by have := of_decide_eq_true (p := (s.size : Int) ≤ 256) (by simpa using k); omega, fun q => (by cases q)⟩
theorem rowV_t {l : List Int} {h : Bool} (k : rowV l h = true) : brOk l ∧ (h = false → l = []) := by
  unfold rowV at k
  cases h
  · have : (l.length : Int) = 0 := of_decide_eq_true (by simpa using k)
    have : l = [] := List.eq_nil_of_length_eq_zero (by omega)
    subst this
    exact ⟨⟨by simp, fun i h => by simp at h⟩, fun _ => rfl⟩
  · exact ⟨brB_t.1 (by simpa using k), fun q => (by cases q)⟩
theorem brOk_le {l : List Int} (h : brOk l) : ∀ x ∈ l, 1 ≤ x ∧ x ≤ 64 := by
  intro x hx
  obtain ⟨i, hi, rfl⟩ := List.getElem_of_mem hx
  exact ⟨(h.2 i hi).1, (h.2 i hi).2.1⟩
/-! ### the bytes -/
def cF (f : Bool) (x : Bool) : List Int := if f = true then flagB x else []
theorem cF_len (f x : Bool) : (cF f x).length ≤ 1 := by unfold cF; split; exact Nat.le_of_eq (flagB_len x); exact Nat.zero_le _
theorem cF_ok (f x : Bool) : okB (cF f x) := by unfold cF; split; exact flagB_ok x; exact okB.nil
theorem cT_lenW {f : Bool} {s : ByteArray} (h : textW s f = true) : (cT f s).length ≤ 264 := by
  unfold cT
  cases f
  · exact Nat.zero_le _
  · rw [if_pos rfl]
    have := textB_len (bytesOf s)
    rw [bytesOf_len] at this
    have := (textW_t h).1 rfl
    omega
def enc5 (r : Rec) : List Int :=
  intB r.Kind ++ (cI (hasR r.Kind 1) r.Broker ++ (cI (hasR r.Kind 2) r.Epoch ++ (cI (hasR r.Kind 4) r.Topic ++ (cI (hasR r.Kind 8) r.Part ++ (cI (hasR r.Kind 16) r.Leader ++ (cI (hasR r.Kind 32) r.Client ++ (cI (hasR r.Kind 32) r.Serial ++ (cI (hasR r.Kind 32) r.Code ++ (cF (hasR r.Kind 64) r.Flag ++ (cT (hasR r.Kind 128) r.Name ++ (cT (hasR r.Kind 256) r.Key ++ (cT (hasR r.Kind 512) r.Value ++ (cT (hasR r.Kind 1024) r.Rack ++ (cR (hasR r.Kind 2048) r.Ids ++ (cR (hasR r.Kind 4096) r.Isr ++ (cR (hasR r.Kind 8192) r.Add ++ (cR (hasR r.Kind 8192) r.Drop)))))))))))))))))
theorem enc5_ok (r : Rec) : okB (enc5 r) := ((intB_ok _).append ((cI_ok _ _).append ((cI_ok _ _).append ((cI_ok _ _).append ((cI_ok _ _).append ((cI_ok _ _).append ((cI_ok _ _).append ((cI_ok _ _).append ((cI_ok _ _).append ((cF_ok _ _).append ((cT_ok _ _).append ((cT_ok _ _).append ((cT_ok _ _).append ((cT_ok _ _).append ((cR_ok _ _).append ((cR_ok _ _).append ((cR_ok _ _).append (cR_ok _ _))))))))))))))))))
theorem kindB {k : Int} (h : 1 ≤ k ∧ k ≤ 12) : [IntKind.u8.wrap k] = intB k := by
  have : k = 1 ∨ k = 2 ∨ k = 3 ∨ k = 4 ∨ k = 5 ∨ k = 6 ∨ k = 7 ∨ k = 8 ∨ k = 9 ∨ k = 10 ∨ k = 11 ∨ k = 12 := by omega
  rcases this with rfl | rfl | rfl | rfl | rfl | rfl | rfl | rfl | rfl | rfl | rfl | rfl <;> decide
theorem kindB_len {k : Int} (h : 1 ≤ k ∧ k ≤ 12) : (intB k).length = 1 := by rw [← kindB h]; rfl
theorem lens5 {r : Rec} (h : okRec r) : (intB r.Kind).length = 1 ∧ (cI (hasR r.Kind 1) r.Broker).length ≤ 8 ∧ (cI (hasR r.Kind 2) r.Epoch).length ≤ 8 ∧ (cI (hasR r.Kind 4) r.Topic).length ≤ 8 ∧ (cI (hasR r.Kind 8) r.Part).length ≤ 8 ∧ (cI (hasR r.Kind 16) r.Leader).length ≤ 8 ∧ (cI (hasR r.Kind 32) r.Client).length ≤ 8 ∧ (cI (hasR r.Kind 32) r.Serial).length ≤ 8 ∧ (cI (hasR r.Kind 32) r.Code).length ≤ 8 ∧ (cF (hasR r.Kind 64) r.Flag).length ≤ 1 ∧ (cT (hasR r.Kind 128) r.Name).length ≤ 264 ∧ (cT (hasR r.Kind 256) r.Key).length ≤ 264 ∧ (cT (hasR r.Kind 512) r.Value).length ≤ 264 ∧ (cT (hasR r.Kind 1024) r.Rack).length ≤ 264 ∧ (cR (hasR r.Kind 2048) r.Ids).length ≤ 64 ∧ (cR (hasR r.Kind 4096) r.Isr).length ≤ 64 ∧ (cR (hasR r.Kind 8192) r.Add).length ≤ 64 ∧ (cR (hasR r.Kind 8192) r.Drop).length ≤ 64 :=
  ⟨kindB_len h.kind, cI_len _ _, cI_len _ _, cI_len _ _, cI_len _ _, cI_len _ _, cI_len _ _, cI_len _ _, cI_len _ _, cF_len _ _, cT_lenW (textN_W h.name), cT_lenW (textN_W h.key), cT_lenW h.value, cT_lenW (textN_W h.rack), cR_len (rowV_t h.ids).1.1, cR_len (rowV_t h.isr).1.1, cR_len (rowV_t h.add).1.1, cR_len (rowV_t h.drop).1.1⟩
theorem enc5_len {r : Rec} (h : okRec r) : (enc5 r).length ≤ 2000 := by
  obtain ⟨l0, l1, l2, l3, l4, l5, l6, l7, l8, l9, l10, l11, l12, l13, l14, l15, l16, l17⟩ := lens5 h
  unfold enc5
  simp only [List.length_append]
  omega
/-! ### put -/
theorem pI5 {bit n k : Int} {b : List Int} (hn : n ≤ 9223372036854775807) (hb : b.length ≤ 2000000) : f_record_Put_1 bit n (aboutR k) b = some (b ++ cI (hasR k bit) n) := by
  unfold f_record_Put_1
  show (if hasR k bit = true then _ else _) = _
  unfold cI
  cases hasR k bit
  · simp
  · simp only [if_true]
    rw [wint_eq b n hn (by omega)]
    rfl
theorem pT5 {bit k : Int} {b : List Int} {s : ByteArray} (h : textW s (hasR k bit) = true) (hb : b.length ≤ 2000000) : f_record_Put_2 bit s (aboutR k) b = some (b ++ cT (hasR k bit) s) := by
  unfold f_record_Put_2
  show (if hasR k bit = true then _ else _) = _
  unfold cT
  cases hf : hasR k bit
  · simp
  · rw [hf] at h
    have := (textW_t h).1 rfl
    simp only [if_true]
    rw [wtext_eq b _ (by rw [bytesOf_len]; omega)]
    rfl
theorem pR5 {bit k : Int} {b l : List Int} (h : rowV l (hasR k bit) = true) (hb : b.length ≤ 2000000) : f_record_Put_3 bit l (aboutR k) b = some (b ++ cR (hasR k bit) l) := by
  have hr := (rowV_t h).1
  unfold f_record_Put_3
  show (if hasR k bit = true then _ else _) = _
  unfold cR
  cases hasR k bit
  · simp
  · simp only [if_true]
    rw [wrow_eq b l (fun x hx => by have := brOk_le hr x hx; omega) (by have := hr.1; omega) (by have := hr.1; omega)]
    rfl
theorem pF5 {k : Int} {b : List Int} {x : Bool} (hb : b.length ≤ 2000000) : (if (decide ((andI .i64 (aboutR k) (64 : Int)) ≠ (0 : Int))) = true then ((f_wire_Flag b x).bind fun (r102 : (List Int)) => (some r102)) else (some b)) = some (b ++ cF (hasR k 64) x) := by
  show (if hasR k 64 = true then _ else _) = _
  unfold cF
  cases hasR k 64
  · simp
  · simp only [if_true]
    rw [wflag_eq b _ (by omega)]
    rfl
theorem put5 {r : Rec} (hc : f_record_Check r = some .nil) {b : List Int} (hb : b.length ≤ 1000000) : f_record_Put b r = some (b ++ enc5 r, .nil) := by
  have h := check_okR hc
  obtain ⟨l0, l1, l2, l3, l4, l5, l6, l7, l8, l9, l10, l11, l12, l13, l14, l15, l16, l17⟩ := lens5 h
  have m0 := (numW_b h.broker (by decide) (by decide)).2
  have m1 := (numW_b h.epoch (by decide) (by decide)).2
  have m2 := (numW_b h.topic (leastR_nn _) (by decide)).2
  have m3 := (numW_b h.part (by decide) (by decide)).2
  have m4 := (numW_b h.leader (by decide) (by decide)).2
  have m5 := (numW_b h.client (by decide) (by decide)).2
  have m6 := (numW_b h.serial (by decide) (by decide)).2
  have m7 := (numW_b h.code (by decide) (by decide)).2
  unfold f_record_Put
  refine (bindQ hc).trans ?_
  refine (if_neg (by decide)).trans ?_
  refine (bindQ (about_eqR r.Kind)).trans ?_
  refine (grd_t (by show b.length + 1 ≤ _; omega)).trans ?_
  rw [kindB h.kind]
  refine (bindQ (pI5 (k := r.Kind) (bit := 1) (n := r.Broker) (by omega) (by simp only [List.length_append]; omega))).trans ?_
  refine (bindQ (pI5 (k := r.Kind) (bit := 2) (n := r.Epoch) (by omega) (by simp only [List.length_append]; omega))).trans ?_
  refine (bindQ (pI5 (k := r.Kind) (bit := 4) (n := r.Topic) (by omega) (by simp only [List.length_append]; omega))).trans ?_
  refine (bindQ (pI5 (k := r.Kind) (bit := 8) (n := r.Part) (by omega) (by simp only [List.length_append]; omega))).trans ?_
  refine (bindQ (pI5 (k := r.Kind) (bit := 16) (n := r.Leader) (by omega) (by simp only [List.length_append]; omega))).trans ?_
  refine (bindQ (pI5 (k := r.Kind) (bit := 32) (n := r.Client) (by omega) (by simp only [List.length_append]; omega))).trans ?_
  refine (bindQ (pI5 (k := r.Kind) (bit := 32) (n := r.Serial) (by omega) (by simp only [List.length_append]; omega))).trans ?_
  refine (bindQ (pI5 (k := r.Kind) (bit := 32) (n := r.Code) (by omega) (by simp only [List.length_append]; omega))).trans ?_
  refine (bindQ (pF5 (k := r.Kind) (x := r.Flag) (by simp only [List.length_append]; omega))).trans ?_
  refine (bindQ (pT5 (k := r.Kind) (bit := 128) (s := r.Name) (textN_W h.name) (by simp only [List.length_append]; omega))).trans ?_
  refine (bindQ (pT5 (k := r.Kind) (bit := 256) (s := r.Key) (textN_W h.key) (by simp only [List.length_append]; omega))).trans ?_
  refine (bindQ (pT5 (k := r.Kind) (bit := 512) (s := r.Value) h.value (by simp only [List.length_append]; omega))).trans ?_
  refine (bindQ (pT5 (k := r.Kind) (bit := 1024) (s := r.Rack) (textN_W h.rack) (by simp only [List.length_append]; omega))).trans ?_
  refine (bindQ (pR5 (k := r.Kind) (bit := 2048) (l := r.Ids) h.ids (by simp only [List.length_append]; omega))).trans ?_
  refine (bindQ (pR5 (k := r.Kind) (bit := 4096) (l := r.Isr) h.isr (by simp only [List.length_append]; omega))).trans ?_
  refine (bindQ (pR5 (k := r.Kind) (bit := 8192) (l := r.Add) h.add (by simp only [List.length_append]; omega))).trans ?_
  refine (bindQ (pR5 (k := r.Kind) (bit := 8192) (l := r.Drop) h.drop (by simp only [List.length_append]; omega))).trans ?_
  unfold enc5
  simp only [List.append_assoc]
theorem ints_self (l : List Int) (hl : l.length ≤ 1000000) : f_ref02_Ints l l = some true := by
  unfold f_ref02_Ints
  rw [if_neg (by simp)]
  have go : ∀ (d i : Nat), i + d = l.length → iter (f_ref02_Ints_l0 l l) (i : Int) = some (.inl ()) := by
    intro d
    induction d with
    | zero =>
      intro i h
      refine iter_stop ?_
      unfold f_ref02_Ints_l0
      simp only
      rw [if_neg (fun z => absurd (of_decide_eq_true z) (by omega))]
    | succ d ih =>
      intro i h
      have hs : f_ref02_Ints_l0 l l (i : Int) = some (.inl ((i + 1 : Nat) : Int)) := by
        unfold f_ref02_Ints_l0
        simp only
        rw [if_pos (decide_eq_true (by omega)), grd_t (by omega), grd_t (by omega), if_neg (by simp), w_i64 (by omega) (by omega)]
        rfl
      rw [iter_next hs]
      exact ih (i + 1) (by omega)
  have := go l.length 0 (by omega)
  rw [show ((0 : Nat) : Int) = 0 from rfl] at this
  rw [this]
  rfl
theorem same_self (a : Rec) (h1 : a.Ids.length ≤ 1000000) (h2 : a.Isr.length ≤ 1000000) (h3 : a.Add.length ≤ 1000000) (h4 : a.Drop.length ≤ 1000000) : f_ref05_Same a a = some true := by
  unfold f_ref05_Same
  simp [ints_self _ h1, ints_self _ h2, ints_self _ h3, ints_self _ h4]
def rz : Rec := ⟨0, 0, 0, 0, 0, 0, 0, 0, 0, false, ⟨#[]⟩, ⟨#[]⟩, ⟨#[]⟩, ⟨#[]⟩, [], [], [], []⟩
theorem same_zero : f_ref05_Same rz rz = some true := same_self rz (Nat.zero_le _) (Nat.zero_le _) (Nat.zero_le _) (Nat.zero_le _)
noncomputable def kindX (b : List Int) (a : Int) (e : GErr) (k : Int) : Option GErr :=
  ((((f_wire_Reader_Err (⟨b, a, e⟩ : T_wire_Reader)).bind fun (r35 : GErr) => (if r35.isNil = true then (if (decide (k < (1 : Int))) = true then (some true) else (some (decide ((12 : Int) < k)))) else (some false))) : Option Bool).bind fun (x33 : Bool) => (if x33 = true then ((f_wire_Reader_Refuse (⟨b, a, e⟩ : T_wire_Reader) (⟨#[107, 105, 110, 100]⟩ : ByteArray) (5 : Int)).bind fun (r43 : GErr) => (some r43)) else (some e)))
theorem kindX_ok {b : List Int} {a k : Int} (h : 1 ≤ k ∧ k ≤ 12) : kindX b a .nil k = some .nil := by
  unfold kindX
  refine (bindQ (y := false) ?_).trans rfl
  refine (bindQ (y := GErr.nil) rfl).trans ?_
  refine (if_pos rfl).trans ?_
  rw [decide_eq_false (show ¬ k < 1 by omega), decide_eq_false (show ¬ 12 < k by omega)]
  rfl
theorem kindX_bad {b : List Int} {a k : Int} {e : GErr} (h : e.isNil = false) : kindX b a e k = some e := by
  unfold kindX
  refine (bindQ (y := false) ?_).trans rfl
  refine (bindQ (y := e) rfl).trans ?_
  exact if_neg (by rw [h]; decide)
theorem kindX_no {b : List Int} {a k : Int} (h : k < 1 ∨ 12 < k) : kindX b a .nil k = some (.fault ⟨#[107, 105, 110, 100]⟩ a (.code 5)) := by
  unfold kindX
  refine (bindQ (y := true) ?_).trans ?_
  · refine (bindQ (y := GErr.nil) rfl).trans ?_
    refine (if_pos rfl).trans ?_
    by_cases g : k < 1
    · rw [decide_eq_true g]; rfl
    · rw [decide_eq_false g, decide_eq_true (show 12 < k by omega)]; rfl
  · rfl
noncomputable def flagX (g : Int) (b : List Int) (a : Int) (e : GErr) : Option (Bool × Int × GErr) :=
  (if (decide ((andI .i64 g (64 : Int)) ≠ (0 : Int))) = true then ((f_wire_Reader_Flag (⟨b, a, e⟩ : T_wire_Reader)).bind fun (r114, r115, r116) => (some (r114, r115, r116))) else (some (false, a, e)))
noncomputable def tail5 (x : Rec) (b : List Int) (a : Int) (e : GErr) : Option (Rec × Int × GErr) :=
  (((f_wire_Reader_Err (⟨b, a, e⟩ : T_wire_Reader)).bind fun (r179 : GErr) => (if r179.isNil = true then ((f_record_Check x).bind fun (r185 : GErr) => (if (!r185.isNil) = true then ((f_fault_Of r185).bind fun (r203 : Int) => ((f_wire_Reader_Refuse (⟨b, a, e⟩ : T_wire_Reader) (⟨#[114, 101, 99, 111, 114, 100]⟩ : ByteArray) r203).bind fun (r208 : GErr) => (some r208))) else (some e))) else (some e))) : Option GErr).bind fun (x177 : GErr) => ((f_wire_Reader_Err (⟨b, a, x177⟩ : T_wire_Reader)).bind fun (r212 : GErr) => (if (!r212.isNil) = true then (some (rz, a, x177)) else (some (x, a, x177))))
theorem tail5_ok {x : Rec} {b : List Int} {a : Int} (h : f_record_Check x = some .nil) : tail5 x b a .nil = some (x, a, .nil) := by
  unfold tail5
  refine (bindQ (y := GErr.nil) ?_).trans rfl
  refine (bindQ (y := GErr.nil) rfl).trans ?_
  refine (if_pos rfl).trans ?_
  exact (bindQ h).trans rfl
theorem tail5_bad {x : Rec} {b : List Int} {a : Int} {e : GErr} (h : e.isNil = false) : tail5 x b a e = some (rz, a, e) := by
  unfold tail5
  refine (bindQ (y := e) ?_).trans ?_
  · refine (bindQ (y := e) rfl).trans ?_
    exact if_neg (by rw [h]; decide)
  · refine (bindQ (y := e) rfl).trans ?_
    exact if_pos (by rw [h]; rfl)
theorem tail5_no {x : Rec} {b : List Int} {a : Int} {c : GErr} {n : Int} (h : f_record_Check x = some c) (hn : c.isNil = false) (ho : f_fault_Of c = some n) : tail5 x b a .nil = some (rz, a, .fault ⟨#[114, 101, 99, 111, 114, 100]⟩ a (.code n)) := by
  unfold tail5
  refine (bindQ (y := .fault ⟨#[114, 101, 99, 111, 114, 100]⟩ a (.code n)) ?_).trans rfl
  refine (bindQ (y := GErr.nil) rfl).trans ?_
  refine (if_pos rfl).trans ?_
  refine (bindQ h).trans ?_
  refine (if_pos (by rw [hn]; rfl)).trans ?_
  exact (bindQ ho).trans rfl
theorem read5_eq (b : List Int) {a k a0 a1 a2 a3 a4 a5 a6 a7 a8 a9 a10 a11 a12 a13 a14 a15 a16 a17 : Int} {e x e0 e1 e2 e3 e4 e5 e6 e7 e8 e9 e10 e11 e12 e13 e14 e15 e16 e17 : GErr} {v1 : Int} {v2 : Int} {v3 : Int} {v4 : Int} {v5 : Int} {v6 : Int} {v7 : Int} {v8 : Int} {v9 : Bool} {v10 : ByteArray} {v11 : ByteArray} {v12 : ByteArray} {v13 : ByteArray} {v14 : List Int} {v15 : List Int} {v16 : List Int} {v17 : List Int} (h0 : f_wire_Reader_Int ⟨b, a, e⟩ 63 = some (k, a0, e0)) (hx : kindX b a0 e0 k = some x)
    (h1 : f_record_Read_1 1 (aboutR k) ⟨b, a0, x⟩ = some (v1, a1, e1)) (h2 : f_record_Read_1 2 (aboutR k) ⟨b, a1, e1⟩ = some (v2, a2, e2)) (h3 : f_record_Read_1 4 (aboutR k) ⟨b, a2, e2⟩ = some (v3, a3, e3)) (h4 : f_record_Read_1 8 (aboutR k) ⟨b, a3, e3⟩ = some (v4, a4, e4)) (h5 : f_record_Read_1 16 (aboutR k) ⟨b, a4, e4⟩ = some (v5, a5, e5)) (h6 : f_record_Read_1 32 (aboutR k) ⟨b, a5, e5⟩ = some (v6, a6, e6)) (h7 : f_record_Read_1 32 (aboutR k) ⟨b, a6, e6⟩ = some (v7, a7, e7)) (h8 : f_record_Read_1 32 (aboutR k) ⟨b, a7, e7⟩ = some (v8, a8, e8)) (h9 : flagX (aboutR k) b a8 e8 = some (v9, a9, e9)) (h10 : f_record_Read_2 128 (aboutR k) ⟨b, a9, e9⟩ = some (v10, a10, e10)) (h11 : f_record_Read_2 256 (aboutR k) ⟨b, a10, e10⟩ = some (v11, a11, e11)) (h12 : f_record_Read_2 512 (aboutR k) ⟨b, a11, e11⟩ = some (v12, a12, e12)) (h13 : f_record_Read_2 1024 (aboutR k) ⟨b, a12, e12⟩ = some (v13, a13, e13)) (h14 : f_record_Read_3 2048 (aboutR k) ⟨b, a13, e13⟩ = some (v14, a14, e14)) (h15 : f_record_Read_3 4096 (aboutR k) ⟨b, a14, e14⟩ = some (v15, a15, e15)) (h16 : f_record_Read_3 8192 (aboutR k) ⟨b, a15, e15⟩ = some (v16, a16, e16)) (h17 : f_record_Read_3 8192 (aboutR k) ⟨b, a16, e16⟩ = some (v17, a17, e17)) : f_record_Read ⟨b, a, e⟩ = tail5 ⟨k, v1, v2, v3, v4, v5, v6, v7, v8, v9, v10, v11, v12, v13, v14, v15, v16, v17⟩ b a17 e17 := by
  unfold f_record_Read
  refine (bindQ h0).trans ?_
  refine (bindQ hx).trans ?_
  refine (bindQ (about_eqR k)).trans ?_
  refine (bindQ h1).trans ?_
  refine (bindQ h2).trans ?_
  refine (bindQ h3).trans ?_
  refine (bindQ h4).trans ?_
  refine (bindQ h5).trans ?_
  refine (bindQ h6).trans ?_
  refine (bindQ h7).trans ?_
  refine (bindQ h8).trans ?_
  refine (bindQ h9).trans ?_
  refine (bindQ h10).trans ?_
  refine (bindQ h11).trans ?_
  refine (bindQ h12).trans ?_
  refine (bindQ h13).trans ?_
  refine (bindQ h14).trans ?_
  refine (bindQ h15).trans ?_
  refine (bindQ h16).trans ?_
  refine (bindQ h17).trans ?_
  rfl
/-! ### from the first bytes -/
theorem has_f {k bit : Int} (h : hasR k bit = false) : decide (andI .i64 (aboutR k) bit = 0) = true := by
  unfold hasR at h
  exact decide_eq_true (Classical.byContradiction fun z => absurd (of_decide_eq_false h) (fun y => y z))
theorem has_tt {k bit : Int} (h : hasR k bit = true) : ¬ decide (andI .i64 (aboutR k) bit = 0) = true := by
  unfold hasR at h
  exact fun z => (of_decide_eq_true h) (of_decide_eq_true z)
theorem r1F {k bit : Int} (h : hasR k bit = false) (b : List Int) (a : Int) (e : GErr) : f_record_Read_1 bit (aboutR k) ⟨b, a, e⟩ = some (0, a, e) := by
  unfold f_record_Read_1; exact if_pos (has_f h)
theorem r2F {k bit : Int} (h : hasR k bit = false) (b : List Int) (a : Int) (e : GErr) : f_record_Read_2 bit (aboutR k) ⟨b, a, e⟩ = some (⟨#[]⟩, a, e) := by
  unfold f_record_Read_2; exact if_pos (has_f h)
theorem r3F {k bit : Int} (h : hasR k bit = false) (b : List Int) (a : Int) (e : GErr) : f_record_Read_3 bit (aboutR k) ⟨b, a, e⟩ = some ([], a, e) := by
  unfold f_record_Read_3; exact if_pos (has_f h)
theorem rfF {k : Int} (h : hasR k 64 = false) (b : List Int) (a : Int) (e : GErr) : flagX (aboutR k) b a e = some (false, a, e) := by
  unfold flagX; exact if_neg (fun z => by have : hasR k 64 = true := z; rw [h] at this; cases this)
theorem r1T {k bit : Int} (h : hasR k bit = true) {b : List Int} {a : Int} {e : GErr} {v a' : Int} {e' : GErr} (q : f_wire_Reader_Int ⟨b, a, e⟩ 1073741824 = some (v, a', e')) : f_record_Read_1 bit (aboutR k) ⟨b, a, e⟩ = some (v, a', e') := by
  unfold f_record_Read_1; exact (if_neg (has_tt h)).trans ((bindQ q).trans rfl)
theorem r2T {k bit : Int} (h : hasR k bit = true) {b : List Int} {a : Int} {e : GErr} {v : List Int} {a' : Int} {e' : GErr} (q : f_wire_Reader_Text ⟨b, a, e⟩ 256 = some (v, a', e')) : f_record_Read_2 bit (aboutR k) ⟨b, a, e⟩ = some (strOfNums v, a', e') := by
  unfold f_record_Read_2; exact (if_neg (has_tt h)).trans ((bindQ q).trans rfl)
theorem r3T {k bit : Int} (h : hasR k bit = true) {b : List Int} {a : Int} {e : GErr} {v : List Int} {a' : Int} {e' : GErr} (q : f_wire_Reader_Row ⟨b, a, e⟩ 7 64 = some (v, a', e')) : f_record_Read_3 bit (aboutR k) ⟨b, a, e⟩ = some (v, a', e') := by
  unfold f_record_Read_3; exact (if_neg (has_tt h)).trans ((bindQ q).trans rfl)
theorem rfT {k : Int} (h : hasR k 64 = true) {b : List Int} {a : Int} {e : GErr} {v : Bool} {a' : Int} {e' : GErr} (q : f_wire_Reader_Flag ⟨b, a, e⟩ = some (v, a', e')) : flagX (aboutR k) b a e = some (v, a', e') := by
  unfold flagX; exact (if_pos h).trans ((bindQ q).trans rfl)
theorem onK {k' k : Int} {c : Nat} {pre x : List Int} (h : k' = k ∨ (k' = 0 ∧ c < pre.length)) : k' = k ∨ (k' = 0 ∧ c < (pre ++ x).length) := h.imp id fun h => ⟨h.1, by rw [List.length_append]; omega⟩
theorem le_pre {pre x : List Int} {c : Nat} (h : (pre ++ x).length ≤ c) : pre.length ≤ c := by rw [List.length_append] at h; omega
section
variable {b : List Int} {c : Nat} {pre post : List Int} {a : Int} {e : GErr} {k k' bit : Int}
theorem cut1 (hb : okB b) (hl : b.length ≤ 1000000) (hc : c ≤ b.length) {n lo m : Int} (e0 : b = pre ++ (cI (hasR k bit) n ++ post)) (hn : numW n (hasR k bit) lo m = true) (hlo : 0 ≤ lo) (hm : m ≤ 1073741824) (hz : hasR 0 bit = false) (hk : k' = k ∨ (k' = 0 ∧ c < pre.length)) (h : stC c pre a e) :
    ∃ v a' e', f_record_Read_1 bit (aboutR k') ⟨b.take c, a, e⟩ = some (v, a', e') ∧ stC c (pre ++ cI (hasR k bit) n) a' e' ∧ ((pre ++ cI (hasR k bit) n).length ≤ c → v = n) := by
  rcases hk with rfl | ⟨rfl, g⟩
  · cases hf : hasR k' bit
    · rw [hf] at hn
      exact ⟨0, a, e, r1F hf _ _ _, h.no, fun _ => ((numW_t hn).2 rfl).symm⟩
    · rw [hf] at e0 hn
      have hn := (numW_t hn).1 rfl
      obtain ⟨v, a', e', h1, h2, h3, _⟩ := cutI hb hl hc (n := n) (m := 1073741824) e0 (by omega) (by unfold top; omega) (by omega) (by decide) h
      exact ⟨v, a', e', r1T hf h1, h2, h3⟩
  · exact ⟨0, a, e, r1F hz _ _ _, h.on g, fun q => by have := le_pre q; omega⟩
theorem cut2 (hb : okB b) (hl : b.length ≤ 1000000) (hc : c ≤ b.length) {s : ByteArray} (e0 : b = pre ++ (cT (hasR k bit) s ++ post)) (hn : textW s (hasR k bit) = true) (hz : hasR 0 bit = false) (hk : k' = k ∨ (k' = 0 ∧ c < pre.length)) (h : stC c pre a e) :
    ∃ v a' e', f_record_Read_2 bit (aboutR k') ⟨b.take c, a, e⟩ = some (v, a', e') ∧ stC c (pre ++ cT (hasR k bit) s) a' e' ∧ ((pre ++ cT (hasR k bit) s).length ≤ c → v = s) := by
  rcases hk with rfl | ⟨rfl, g⟩
  · cases hf : hasR k' bit
    · rw [hf] at hn
      exact ⟨⟨#[]⟩, a, e, r2F hf _ _ _, h.no, fun _ => ((textW_t hn).2 rfl).symm⟩
    · rw [hf] at e0 hn
      have hn := (textW_t hn).1 rfl
      obtain ⟨v, a', e', h1, h2, h3⟩ := cutT hb hl hc (s := bytesOf s) (m := 256) e0 (by rw [bytesOf_len]; omega) (by decide) h
      exact ⟨strOfNums v, a', e', r2T hf h1, h2, fun q => by rw [h3 q, str_bytes]⟩
  · exact ⟨⟨#[]⟩, a, e, r2F hz _ _ _, h.on g, fun q => by have := le_pre q; omega⟩
theorem cut3 (hb : okB b) (hl : b.length ≤ 1000000) (hc : c ≤ b.length) {l : List Int} (e0 : b = pre ++ (cR (hasR k bit) l ++ post)) (hn : rowV l (hasR k bit) = true) (hz : hasR 0 bit = false) (hk : k' = k ∨ (k' = 0 ∧ c < pre.length)) (h : stC c pre a e) :
    ∃ v a' e', f_record_Read_3 bit (aboutR k') ⟨b.take c, a, e⟩ = some (v, a', e') ∧ stC c (pre ++ cR (hasR k bit) l) a' e' ∧ ((pre ++ cR (hasR k bit) l).length ≤ c → v = l) := by
  have hr := rowV_t hn
  rcases hk with rfl | ⟨rfl, g⟩
  · cases hf : hasR k' bit
    · exact ⟨[], a, e, r3F hf _ _ _, h.no, fun _ => (hr.2 hf).symm⟩
    · rw [hf] at e0
      obtain ⟨v, a', e', h1, h2, h3⟩ := cutR hb hl hc (s := l) (m := 7) (k := 64) e0 (by have := hr.1.1; omega) (by decide) (by decide) (fun x hx => by have := brOk_le hr.1 x hx; omega) h
      exact ⟨v, a', e', r3T hf h1, h2, h3⟩
  · exact ⟨[], a, e, r3F hz _ _ _, h.on g, fun q => by have := le_pre q; omega⟩
theorem cutf (hb : okB b) (hl : b.length ≤ 1000000) (hc : c ≤ b.length) {n : Bool} (e0 : b = pre ++ (cF (hasR k 64) n ++ post)) (hn : hasR k 64 = false → n = false) (hk : k' = k ∨ (k' = 0 ∧ c < pre.length)) (h : stC c pre a e) :
    ∃ v a' e', flagX (aboutR k') (b.take c) a e = some (v, a', e') ∧ stC c (pre ++ cF (hasR k 64) n) a' e' ∧ ((pre ++ cF (hasR k 64) n).length ≤ c → v = n) := by
  rcases hk with rfl | ⟨rfl, g⟩
  · cases hf : hasR k' 64
    · exact ⟨false, a, e, rfF hf _ _ _, h.no, fun _ => (hn hf).symm⟩
    · rw [hf] at e0
      obtain ⟨v, a', e', h1, h2, h3⟩ := cutF hb hl hc (n := n) e0 h
      exact ⟨v, a', e', rfT hf h1, h2, h3⟩
  · exact ⟨false, a, e, rfF (by decide) _ _ _, h.on g, fun q => by have := le_pre q; omega⟩
end
theorem read5_cut' {r : Rec} (hc : f_record_Check r = some .nil) {b : List Int} (hb : okB b) (hl : b.length ≤ 1000000) {c : Nat} (hcb : c ≤ b.length) {pre post : List Int} (hp : pre.length ≤ c)
    (p0 : b = pre ++ (intB r.Kind ++ (cI (hasR r.Kind 1) r.Broker ++ (cI (hasR r.Kind 2) r.Epoch ++ (cI (hasR r.Kind 4) r.Topic ++ (cI (hasR r.Kind 8) r.Part ++ (cI (hasR r.Kind 16) r.Leader ++ (cI (hasR r.Kind 32) r.Client ++ (cI (hasR r.Kind 32) r.Serial ++ (cI (hasR r.Kind 32) r.Code ++ (cF (hasR r.Kind 64) r.Flag ++ (cT (hasR r.Kind 128) r.Name ++ (cT (hasR r.Kind 256) r.Key ++ (cT (hasR r.Kind 512) r.Value ++ (cT (hasR r.Kind 1024) r.Rack ++ (cR (hasR r.Kind 2048) r.Ids ++ (cR (hasR r.Kind 4096) r.Isr ++ (cR (hasR r.Kind 8192) r.Add ++ (cR (hasR r.Kind 8192) r.Drop ++ post))))))))))))))))))) :
    ∃ x a' e', f_record_Read ⟨b.take c, (pre.length : Int), .nil⟩ = some (x, a', e') ∧ stC c ((((((((((((((((((pre ++ intB r.Kind) ++ cI (hasR r.Kind 1) r.Broker) ++ cI (hasR r.Kind 2) r.Epoch) ++ cI (hasR r.Kind 4) r.Topic) ++ cI (hasR r.Kind 8) r.Part) ++ cI (hasR r.Kind 16) r.Leader) ++ cI (hasR r.Kind 32) r.Client) ++ cI (hasR r.Kind 32) r.Serial) ++ cI (hasR r.Kind 32) r.Code) ++ cF (hasR r.Kind 64) r.Flag) ++ cT (hasR r.Kind 128) r.Name) ++ cT (hasR r.Kind 256) r.Key) ++ cT (hasR r.Kind 512) r.Value) ++ cT (hasR r.Kind 1024) r.Rack) ++ cR (hasR r.Kind 2048) r.Ids) ++ cR (hasR r.Kind 4096) r.Isr) ++ cR (hasR r.Kind 8192) r.Add) ++ cR (hasR r.Kind 8192) r.Drop) a' e' ∧ (((((((((((((((((((pre ++ intB r.Kind) ++ cI (hasR r.Kind 1) r.Broker) ++ cI (hasR r.Kind 2) r.Epoch) ++ cI (hasR r.Kind 4) r.Topic) ++ cI (hasR r.Kind 8) r.Part) ++ cI (hasR r.Kind 16) r.Leader) ++ cI (hasR r.Kind 32) r.Client) ++ cI (hasR r.Kind 32) r.Serial) ++ cI (hasR r.Kind 32) r.Code) ++ cF (hasR r.Kind 64) r.Flag) ++ cT (hasR r.Kind 128) r.Name) ++ cT (hasR r.Kind 256) r.Key) ++ cT (hasR r.Kind 512) r.Value) ++ cT (hasR r.Kind 1024) r.Rack) ++ cR (hasR r.Kind 2048) r.Ids) ++ cR (hasR r.Kind 4096) r.Isr) ++ cR (hasR r.Kind 8192) r.Add) ++ cR (hasR r.Kind 8192) r.Drop).length ≤ c → x = r) ∧ (c < ((((((((((((((((((pre ++ intB r.Kind) ++ cI (hasR r.Kind 1) r.Broker) ++ cI (hasR r.Kind 2) r.Epoch) ++ cI (hasR r.Kind 4) r.Topic) ++ cI (hasR r.Kind 8) r.Part) ++ cI (hasR r.Kind 16) r.Leader) ++ cI (hasR r.Kind 32) r.Client) ++ cI (hasR r.Kind 32) r.Serial) ++ cI (hasR r.Kind 32) r.Code) ++ cF (hasR r.Kind 64) r.Flag) ++ cT (hasR r.Kind 128) r.Name) ++ cT (hasR r.Kind 256) r.Key) ++ cT (hasR r.Kind 512) r.Value) ++ cT (hasR r.Kind 1024) r.Rack) ++ cR (hasR r.Kind 2048) r.Ids) ++ cR (hasR r.Kind 4096) r.Isr) ++ cR (hasR r.Kind 8192) r.Add) ++ cR (hasR r.Kind 8192) r.Drop).length → x = rz) := by
  have h := check_okR hc
  have tp : (1073741824 : Int) ≤ top := by decide
  have ht : (0 : Int) ≤ leastR r.Kind := leastR_nn _
  have p1 := nxt p0
  have p2 := nxt p1
  have p3 := nxt p2
  have p4 := nxt p3
  have p5 := nxt p4
  have p6 := nxt p5
  have p7 := nxt p6
  have p8 := nxt p7
  have p9 := nxt p8
  have p10 := nxt p9
  have p11 := nxt p10
  have p12 := nxt p11
  have p13 := nxt p12
  have p14 := nxt p13
  have p15 := nxt p14
  have p16 := nxt p15
  have p17 := nxt p16
  have s : stC c pre (pre.length : Int) .nil := ⟨fun _ => ⟨rfl, rfl⟩, fun q => by omega⟩
  obtain ⟨k, a0, e0, h0, s0, q0, z0⟩ := cutI hb hl hcb (m := 63) p0 (by have := h.kind; omega) (by have := h.kind; omega) (by have := h.kind; omega) (by decide) s
  have hk : k = r.Kind ∨ (k = 0 ∧ c < (pre ++ intB r.Kind).length) := by
    by_cases g : (pre ++ intB r.Kind).length ≤ c
    · exact .inl (q0 g)
    · exact .inr ⟨z0 (by omega), by omega⟩
  have hx : kindX (b.take c) a0 e0 k = some e0 := by
    by_cases g : (pre ++ intB r.Kind).length ≤ c
    · rw [q0 g, (s0.whole g).2]; exact kindX_ok h.kind
    · exact kindX_bad (s0.bad (by omega))
  obtain ⟨v1, a1, e1, h1, s1, q1⟩ := cut1 hb hl hcb p1 h.broker (by decide) (by decide) (by decide) hk s0
  obtain ⟨v2, a2, e2, h2, s2, q2⟩ := cut1 hb hl hcb p2 h.epoch (by decide) (by decide) (by decide) (onK hk) s1
  obtain ⟨v3, a3, e3, h3, s3, q3⟩ := cut1 hb hl hcb p3 h.topic ht (by decide) (by decide) (onK (onK hk)) s2
  obtain ⟨v4, a4, e4, h4, s4, q4⟩ := cut1 hb hl hcb p4 h.part (by decide) (by decide) (by decide) (onK (onK (onK hk))) s3
  obtain ⟨v5, a5, e5, h5, s5, q5⟩ := cut1 hb hl hcb p5 h.leader (by decide) (by decide) (by decide) (onK (onK (onK (onK hk)))) s4
  obtain ⟨v6, a6, e6, h6, s6, q6⟩ := cut1 hb hl hcb p6 h.client (by decide) (by decide) (by decide) (onK (onK (onK (onK (onK hk))))) s5
  obtain ⟨v7, a7, e7, h7, s7, q7⟩ := cut1 hb hl hcb p7 h.serial (by decide) (by decide) (by decide) (onK (onK (onK (onK (onK (onK hk)))))) s6
  obtain ⟨v8, a8, e8, h8, s8, q8⟩ := cut1 hb hl hcb p8 h.code (by decide) (by decide) (by decide) (onK (onK (onK (onK (onK (onK (onK hk))))))) s7
  obtain ⟨v9, a9, e9, h9, s9, q9⟩ := cutf hb hl hcb p9 h.flag (onK (onK (onK (onK (onK (onK (onK (onK hk)))))))) s8
  obtain ⟨v10, a10, e10, h10, s10, q10⟩ := cut2 hb hl hcb p10 (textN_W h.name) (by decide) (onK (onK (onK (onK (onK (onK (onK (onK (onK hk))))))))) s9
  obtain ⟨v11, a11, e11, h11, s11, q11⟩ := cut2 hb hl hcb p11 (textN_W h.key) (by decide) (onK (onK (onK (onK (onK (onK (onK (onK (onK (onK hk)))))))))) s10
  obtain ⟨v12, a12, e12, h12, s12, q12⟩ := cut2 hb hl hcb p12 h.value (by decide) (onK (onK (onK (onK (onK (onK (onK (onK (onK (onK (onK hk))))))))))) s11
  obtain ⟨v13, a13, e13, h13, s13, q13⟩ := cut2 hb hl hcb p13 (textN_W h.rack) (by decide) (onK (onK (onK (onK (onK (onK (onK (onK (onK (onK (onK (onK hk)))))))))))) s12
  obtain ⟨v14, a14, e14, h14, s14, q14⟩ := cut3 hb hl hcb p14 h.ids (by decide) (onK (onK (onK (onK (onK (onK (onK (onK (onK (onK (onK (onK (onK hk))))))))))))) s13
  obtain ⟨v15, a15, e15, h15, s15, q15⟩ := cut3 hb hl hcb p15 h.isr (by decide) (onK (onK (onK (onK (onK (onK (onK (onK (onK (onK (onK (onK (onK (onK hk)))))))))))))) s14
  obtain ⟨v16, a16, e16, h16, s16, q16⟩ := cut3 hb hl hcb p16 h.add (by decide) (onK (onK (onK (onK (onK (onK (onK (onK (onK (onK (onK (onK (onK (onK (onK hk))))))))))))))) s15
  obtain ⟨v17, a17, e17, h17, s17, q17⟩ := cut3 hb hl hcb p17 h.drop (by decide) (onK (onK (onK (onK (onK (onK (onK (onK (onK (onK (onK (onK (onK (onK (onK (onK hk)))))))))))))))) s16
  have H := read5_eq (b.take c) h0 hx h1 h2 h3 h4 h5 h6 h7 h8 h9 h10 h11 h12 h13 h14 h15 h16 h17
  by_cases g : ((((((((((((((((((pre ++ intB r.Kind) ++ cI (hasR r.Kind 1) r.Broker) ++ cI (hasR r.Kind 2) r.Epoch) ++ cI (hasR r.Kind 4) r.Topic) ++ cI (hasR r.Kind 8) r.Part) ++ cI (hasR r.Kind 16) r.Leader) ++ cI (hasR r.Kind 32) r.Client) ++ cI (hasR r.Kind 32) r.Serial) ++ cI (hasR r.Kind 32) r.Code) ++ cF (hasR r.Kind 64) r.Flag) ++ cT (hasR r.Kind 128) r.Name) ++ cT (hasR r.Kind 256) r.Key) ++ cT (hasR r.Kind 512) r.Value) ++ cT (hasR r.Kind 1024) r.Rack) ++ cR (hasR r.Kind 2048) r.Ids) ++ cR (hasR r.Kind 4096) r.Isr) ++ cR (hasR r.Kind 8192) r.Add) ++ cR (hasR r.Kind 8192) r.Drop).length ≤ c
  · have g17 := g
    have g16 := le_pre g17
    have g15 := le_pre g16
    have g14 := le_pre g15
    have g13 := le_pre g14
    have g12 := le_pre g13
    have g11 := le_pre g12
    have g10 := le_pre g11
    have g9 := le_pre g10
    have g8 := le_pre g9
    have g7 := le_pre g8
    have g6 := le_pre g7
    have g5 := le_pre g6
    have g4 := le_pre g5
    have g3 := le_pre g4
    have g2 := le_pre g3
    have g1 := le_pre g2
    have g0 := le_pre g1
    obtain ⟨t1, t2⟩ := s17.whole g
    have er : (⟨k, v1, v2, v3, v4, v5, v6, v7, v8, v9, v10, v11, v12, v13, v14, v15, v16, v17⟩ : Rec) = r := by
      rw [q0 g0, q1 g1, q2 g2, q3 g3, q4 g4, q5 g5, q6 g6, q7 g7, q8 g8, q9 g9, q10 g10, q11 g11, q12 g12, q13 g13, q14 g14, q15 g15, q16 g16, q17 g17]
    rw [t2, er] at H
    rw [t2] at s17
    exact ⟨r, a17, .nil, H.trans (tail5_ok hc), s17, fun _ => rfl, fun q => by omega⟩
  · exact ⟨rz, a17, e17, H.trans (tail5_bad (s17.bad (by omega))), s17, fun q => absurd q g, fun _ => rfl⟩
section
variable {k bit : Int} {b : List Int} {a : Nat}
end
theorem wread_eq (b : List Int) : f_wire_Read b = some ⟨b, ((([] : List Int).length : Nat) : Int), .nil⟩ := rfl
theorem okB8 {b : List Int} (h : ∀ x ∈ b, (Lit.int .u8 x).wf = true) : okB b := by
  intro x hx
  have := h x hx
  simp [Lit.wf, IntKind.min, IntKind.max, IntKind.signed, IntKind.bits] at this
  omega
/-! ### the example -/
def r8 : Rec := ⟨8, 0, 0, 5, 2, 1, 0, 0, 0, false, ⟨#[]⟩, ⟨#[]⟩, ⟨#[]⟩, ⟨#[]⟩, [1, 2, 3], [1], [], []⟩
def r7 : Rec := ⟨7, 0, 0, 1, 0, 0, 0, 0, 0, false, ⟨#[65]⟩, ⟨#[]⟩, ⟨#[]⟩, ⟨#[]⟩, [], [], [], []⟩
abbrev curS (b : List Int) (s : T_ref02_State) : T_ref05_Cursor := ⟨b, ⟨s.At, s.Code, s.Op, s.Where⟩⟩
noncomputable def kindY (b : List Int) (s : T_ref02_State) (k : Int) : Option (Int × ByteArray × Int) :=
  ((((if (decide (s.Code = (0 : Int))) = true then (if (decide (k < (1 : Int))) = true then (some true) else (some (decide ((12 : Int) < k)))) else (some false)) : Option Bool).bind fun (x36 : Bool) => (if x36 = true then ((f_ref05_Cursor_Refuse (curS b s) (⟨#[107, 105, 110, 100]⟩ : ByteArray) (5 : Int)).bind fun (r41, r42, r43) => (some (r41, r42, r43))) else (some (s.Code, s.Op, s.Where)))))
theorem kind_cor {b : List Int} {a : Nat} {e : GErr} {s : T_ref02_State} (h : cor b a e s) (k : Int) :
    ∃ (x : GErr) (t : T_ref02_State), kindX b (a : Int) e k = some x ∧ kindY b s k = some (t.Code, t.Op, t.Where) ∧ t.At = s.At ∧ cor b a x t := by
  obtain ⟨ha, hs, ⟨rfl, hc⟩ | ⟨hc, he⟩⟩ := h
  · by_cases g : 1 ≤ k ∧ k ≤ 12
    · refine ⟨.nil, s, kindX_ok g, ?_, rfl, ha, hs, .inl ⟨rfl, hc⟩⟩
      unfold kindY
      refine (bindQ (y := false) ?_).trans rfl
      refine (if_pos (decide_eq_true hc)).trans ?_
      rw [decide_eq_false (show ¬ k < 1 by omega), decide_eq_false (show ¬ 12 < k by omega)]
      rfl
    · refine ⟨_, ⟨s.At, 5, ⟨#[107, 105, 110, 100]⟩, s.At⟩, kindX_no (by omega), ?_, rfl, ha, hs, .inr ⟨show (5 : Int) ≠ 0 by decide, by rw [← hs]⟩⟩
      unfold kindY
      refine (bindQ (y := true) ?_).trans ?_
      · refine (if_pos (decide_eq_true hc)).trans ?_
        by_cases g : k < 1
        · rw [decide_eq_true g]; rfl
        · rw [decide_eq_false g, decide_eq_true (show 12 < k by omega)]; rfl
      · refine (if_pos rfl).trans ?_
        refine (bindQ (y := (5, ⟨#[107, 105, 110, 100]⟩, s.At)) ?_).trans rfl
        exact if_pos (decide_eq_true hc)
  · have hn : e.isNil = false := by rw [he]; rfl
    refine ⟨e, s, kindX_bad hn, ?_, rfl, ha, hs, .inr ⟨hc, he⟩⟩
    unfold kindY
    refine (bindQ (y := false) ?_).trans rfl
    exact if_neg (by simp [hc])
noncomputable def tailY (x : Rec) (b : List Int) (s : T_ref02_State) : Option (Rec × Int × Int × ByteArray × Int) :=
  (((if (decide (s.Code = (0 : Int))) = true then ((f_ref05_Check x).bind fun (r297 : T_ref05_Wrong) => (if (decide (r297.Code ≠ (0 : Int))) = true then ((f_ref05_Cursor_Refuse (curS b s) (⟨#[114, 101, 99, 111, 114, 100]⟩ : ByteArray) r297.Code).bind fun (r316, r317, r318) => (some (r316, r317, r318))) else (some (s.Code, s.Op, s.Where)))) else (some (s.Code, s.Op, s.Where))) : Option (Int × ByteArray × Int)).bind fun (x292, x293, x294) => (if (decide (x292 ≠ (0 : Int))) = true then (some (rz, s.At, x292, x293, x294)) else (some (x, s.At, x292, x293, x294))))
theorem tail_cor {b : List Int} {a : Nat} {e : GErr} {s : T_ref02_State} (h : cor b a e s) (x : Rec) :
    ∃ (y : Rec) (e' : GErr) (t : T_ref02_State), tail5 x b (a : Int) e = some (y, (a : Int), e') ∧ tailY x b s = some (y, t.At, t.Code, t.Op, t.Where) ∧ cor b a e' t ∧ (y = x ∨ y = rz) := by
  obtain ⟨w, hw1, hw2⟩ := check_eqR x
  obtain ⟨ha, hs, ⟨rfl, hc⟩ | ⟨hc, he⟩⟩ := h
  · by_cases g : w.Code = 0
    · have hn : toE5 w = .nil := by unfold toE5; rw [if_pos g]
      rw [hn] at hw2
      refine ⟨x, .nil, s, tail5_ok hw2, ?_, ⟨ha, hs, .inl ⟨rfl, hc⟩⟩, .inl rfl⟩
      unfold tailY
      refine (bindQ (y := (s.Code, s.Op, s.Where)) ?_).trans ?_
      · refine (if_pos (decide_eq_true hc)).trans ?_
        refine (bindQ hw1).trans ?_
        exact if_neg (by simp [g])
      · exact if_neg (by simp [hc])
    · have hn : (toE5 w).isNil = false := by unfold toE5; rw [if_neg g]; rfl
      have ho : f_fault_Of (toE5 w) = some w.Code := by rw [of_eq]; unfold toE5; rw [if_neg g]; rfl
      refine ⟨rz, _, ⟨s.At, w.Code, ⟨#[114, 101, 99, 111, 114, 100]⟩, s.At⟩, tail5_no hw2 hn ho, ?_, ⟨ha, hs, .inr ⟨g, by rw [← hs]⟩⟩, .inr rfl⟩
      unfold tailY
      refine (bindQ (y := (w.Code, ⟨#[114, 101, 99, 111, 114, 100]⟩, s.At)) ?_).trans ?_
      · refine (if_pos (decide_eq_true hc)).trans ?_
        refine (bindQ hw1).trans ?_
        refine (if_pos (decide_eq_true g)).trans ?_
        refine (bindQ (y := (w.Code, ⟨#[114, 101, 99, 111, 114, 100]⟩, s.At)) ?_).trans rfl
        exact if_pos (decide_eq_true hc)
      · exact if_pos (decide_eq_true g)
  · have hn : e.isNil = false := by rw [he]; rfl
    refine ⟨rz, e, s, tail5_bad hn, ?_, ⟨ha, hs, .inr ⟨hc, he⟩⟩, .inr rfl⟩
    unfold tailY
    refine (bindQ (y := (s.Code, s.Op, s.Where)) ?_).trans ?_
    · exact if_neg (by simp [hc])
    · exact if_pos (decide_eq_true hc)
section
variable {k bit : Int} {b : List Int} {a : Nat} {e : GErr} {s : T_ref02_State}
theorem cor1 (hb : okB b) (hl : b.length ≤ 1000000) (h : cor b a e s) :
    ∃ (v : Int) (a' : Nat) (e' : GErr) (t : T_ref02_State), f_record_Read_1 bit (aboutR k) ⟨b, (a : Int), e⟩ = some (v, (a' : Int), e') ∧ f_ref05_Cursor_some (curS b s) (hasR k bit) = some (v, t.At, t.Code, t.Op, t.Where) ∧ cor b a' e' t := by
  unfold f_ref05_Cursor_some
  cases hf : hasR k bit
  · exact ⟨0, a, e, s, r1F hf _ _ _, rfl, h⟩
  · obtain ⟨v, a', e', t, h1, h2, h3⟩ := curI hb hl h 1073741824 (by decide)
    exact ⟨v, a', e', t, r1T hf h1, (bindQ h2).trans rfl, h3⟩
theorem cor2 (hb : okB b) (hl : b.length ≤ 1000000) (h : cor b a e s) :
    ∃ (v : ByteArray) (a' : Nat) (e' : GErr) (t : T_ref02_State), f_record_Read_2 bit (aboutR k) ⟨b, (a : Int), e⟩ = some (v, (a' : Int), e') ∧ f_ref05_Cursor_word (curS b s) (hasR k bit) = some (v, t.At, t.Code, t.Op, t.Where) ∧ cor b a' e' t := by
  unfold f_ref05_Cursor_word
  cases hf : hasR k bit
  · exact ⟨⟨#[]⟩, a, e, s, r2F hf _ _ _, rfl, h⟩
  · obtain ⟨v, a', e', t, h1, h2, h3⟩ := curT hb hl h 256 (by decide)
    exact ⟨strOfNums v, a', e', t, r2T hf h1, (bindQ h2).trans rfl, h3⟩
theorem cor3 (hb : okB b) (hl : b.length ≤ 1000000) (h : cor b a e s) :
    ∃ (v : List Int) (a' : Nat) (e' : GErr) (t : T_ref02_State), f_record_Read_3 bit (aboutR k) ⟨b, (a : Int), e⟩ = some (v, (a' : Int), e') ∧ f_ref05_Cursor_brokers (curS b s) (hasR k bit) = some (v, t.At, t.Code, t.Op, t.Where) ∧ cor b a' e' t ∧ v.length ≤ b.length := by
  unfold f_ref05_Cursor_brokers
  cases hf : hasR k bit
  · exact ⟨[], a, e, s, r3F hf _ _ _, rfl, h, Nat.zero_le _⟩
  · obtain ⟨v, a', e', t, h1, h2, h3, h4⟩ := curR hb hl h 7 64 (by decide) (by decide)
    exact ⟨v, a', e', t, r3T hf h1, (bindQ h2).trans rfl, h3, h4⟩
theorem corf (hb : okB b) (hl : b.length ≤ 1000000) (h : cor b a e s) :
    ∃ (v : Bool) (a' : Nat) (e' : GErr) (t : T_ref02_State), flagX (aboutR k) b (a : Int) e = some (v, (a' : Int), e') ∧ (if hasR k 64 = true then ((f_ref05_Cursor_Flag (curS b s)).bind fun (r171, r172, r173, r174, r175) => (some (r171, r172, r173, r174, r175))) else (some (false, s.At, s.Code, s.Op, s.Where))) = some (v, t.At, t.Code, t.Op, t.Where) ∧ cor b a' e' t := by
  cases hf : hasR k 64
  · exact ⟨false, a, e, s, rfF hf _ _ _, rfl, h⟩
  · obtain ⟨v, a', e', t, h1, h2, h3⟩ := curF hb hl h
    exact ⟨v, a', e', t, rfT hf h1, (if_pos rfl).trans ((bindQ h2).trans rfl), h3⟩
end
theorem read5_cor {b : List Int} (hb : okB b) (hl : b.length ≤ 1000000) {a : Nat} {e : GErr} {s : T_ref02_State} (h : cor b a e s) :
    ∃ (x : Rec) (a' : Nat) (e' : GErr) (t : T_ref02_State), f_record_Read ⟨b, (a : Int), e⟩ = some (x, (a' : Int), e') ∧ f_ref05_Read (curS b s) = some (x, t.At, t.Code, t.Op, t.Where) ∧ cor b a' e' t ∧ f_ref05_Same x x = some true := by
  obtain ⟨k, a0, e0, s0, h0, k0, c0⟩ := curI hb hl h 63 (by decide)
  obtain ⟨hb', he, ht, hp, hl', ha, hf, hn, hk, hv, hr, hi, hm, hx⟩ := has_eqR k
  obtain ⟨x, t0, hx1, hx2, hx3, c0⟩ := kind_cor c0 k
  obtain ⟨v1, a1, e1, s1, h1, k1, c1⟩ := cor1 (k := k) (bit := 1) hb hl c0
  obtain ⟨v2, a2, e2, s2, h2, k2, c2⟩ := cor1 (k := k) (bit := 2) hb hl c1
  obtain ⟨v3, a3, e3, s3, h3, k3, c3⟩ := cor1 (k := k) (bit := 4) hb hl c2
  obtain ⟨v4, a4, e4, s4, h4, k4, c4⟩ := cor1 (k := k) (bit := 8) hb hl c3
  obtain ⟨v5, a5, e5, s5, h5, k5, c5⟩ := cor1 (k := k) (bit := 16) hb hl c4
  obtain ⟨v6, a6, e6, s6, h6, k6, c6⟩ := cor1 (k := k) (bit := 32) hb hl c5
  obtain ⟨v7, a7, e7, s7, h7, k7, c7⟩ := cor1 (k := k) (bit := 32) hb hl c6
  obtain ⟨v8, a8, e8, s8, h8, k8, c8⟩ := cor1 (k := k) (bit := 32) hb hl c7
  obtain ⟨v9, a9, e9, s9, h9, k9, c9⟩ := corf (k := k) hb hl c8
  obtain ⟨v10, a10, e10, s10, h10, k10, c10⟩ := cor2 (k := k) (bit := 128) hb hl c9
  obtain ⟨v11, a11, e11, s11, h11, k11, c11⟩ := cor2 (k := k) (bit := 256) hb hl c10
  obtain ⟨v12, a12, e12, s12, h12, k12, c12⟩ := cor2 (k := k) (bit := 512) hb hl c11
  obtain ⟨v13, a13, e13, s13, h13, k13, c13⟩ := cor2 (k := k) (bit := 1024) hb hl c12
  obtain ⟨v14, a14, e14, s14, h14, k14, c14, n14⟩ := cor3 (k := k) (bit := 2048) hb hl c13
  obtain ⟨v15, a15, e15, s15, h15, k15, c15, n15⟩ := cor3 (k := k) (bit := 4096) hb hl c14
  obtain ⟨v16, a16, e16, s16, h16, k16, c16, n16⟩ := cor3 (k := k) (bit := 8192) hb hl c15
  obtain ⟨v17, a17, e17, s17, h17, k17, c17, n17⟩ := cor3 (k := k) (bit := 8192) hb hl c16
  have H := read5_eq b h0 hx1 h1 h2 h3 h4 h5 h6 h7 h8 h9 h10 h11 h12 h13 h14 h15 h16 h17
  obtain ⟨y, e', t, q1, q2, q3, q4⟩ := tail_cor c17 ⟨k, v1, v2, v3, v4, v5, v6, v7, v8, v9, v10, v11, v12, v13, v14, v15, v16, v17⟩
  refine ⟨y, a17, e', t, H.trans q1, ?_, q3, ?_⟩
  · unfold f_ref05_Read
    refine (bindQ k0).trans ?_
    refine (bindQ hx2).trans ?_
    rw [← hx3]
    refine (bindQ hb').trans ?_
    refine (bindQ k1).trans ?_
    refine (bindQ he).trans ?_
    refine (bindQ k2).trans ?_
    refine (bindQ ht).trans ?_
    refine (bindQ k3).trans ?_
    refine (bindQ hp).trans ?_
    refine (bindQ k4).trans ?_
    refine (bindQ hl').trans ?_
    refine (bindQ k5).trans ?_
    refine (bindQ ha).trans ?_
    refine (bindQ k6).trans ?_
    refine (bindQ ha).trans ?_
    refine (bindQ k7).trans ?_
    refine (bindQ ha).trans ?_
    refine (bindQ k8).trans ?_
    refine (bindQ ((bindQ hf).trans k9)).trans ?_
    refine (bindQ hn).trans ?_
    refine (bindQ k10).trans ?_
    refine (bindQ hk).trans ?_
    refine (bindQ k11).trans ?_
    refine (bindQ hv).trans ?_
    refine (bindQ k12).trans ?_
    refine (bindQ hr).trans ?_
    refine (bindQ k13).trans ?_
    refine (bindQ hi).trans ?_
    refine (bindQ k14).trans ?_
    refine (bindQ hm).trans ?_
    refine (bindQ k15).trans ?_
    refine (bindQ hx).trans ?_
    refine (bindQ k16).trans ?_
    refine (bindQ hx).trans ?_
    refine (bindQ k17).trans ?_
    exact q2
  · rcases q4 with rfl | rfl
    · exact same_self _ (show v14.length ≤ 1000000 by omega) (show v15.length ≤ 1000000 by omega) (show v16.length ≤ 1000000 by omega) (show v17.length ≤ 1000000 by omega)
    · exact same_zero
def bad5 (t : T_ref02_State) : T_ref05_Wrong := ⟨t.Op, t.Where, t.Code⟩
theorem end5 {b : List Int} {a : Nat} {e : GErr} {s : T_ref02_State} (h : cor b a e s) :
    ∃ t, f_wire_Reader_End ⟨b, (a : Int), e⟩ = some (toE5 (bad5 t), toE5 (bad5 t)) ∧ f_ref05_Cursor_End (curS b s) = some (t.At, t.Code, t.Op, t.Where) := by
  obtain ⟨ha, hs, h⟩ := h
  unfold f_ref05_Cursor_End
  have er : f_ref02_End b ⟨s.At, s.Code, s.Op, s.Where⟩ = some (if s.At < (b.length : Int) ∧ s.Code = 0 then ⟨s.At, 5, endOp, s.At⟩ else s) := rend_eq b s
  rw [wend_eq]
  rcases h with ⟨rfl, hc⟩ | ⟨hc, he⟩
  · by_cases g : (a : Int) < (b.length : Int)
    · rw [if_pos (by omega)] at er
      refine ⟨⟨s.At, 5, endOp, s.At⟩, ?_, (bindQ er).trans rfl⟩
      rw [if_pos ⟨g, rfl⟩, ← hs]
      rfl
    · rw [if_neg (by omega)] at er
      refine ⟨s, ?_, (bindQ er).trans rfl⟩
      rw [if_neg (fun z => g z.1)]
      unfold toE5 bad5
      rw [if_pos hc]
  · have hn : e.isNil = false := by rw [he]; rfl
    rw [if_neg (fun z => hc z.2)] at er
    refine ⟨s, ?_, (bindQ er).trans rfl⟩
    rw [if_neg (fun z => by rw [hn] at z; cases z.2)]
    unfold toE5 bad5
    rw [if_neg hc, he]
theorem start5 {b : List Int} : cor b 0 .nil ⟨0, 0, ⟨#[]⟩, 0⟩ := ⟨Nat.zero_le _, rfl, .inl ⟨rfl, rfl⟩⟩
abbrev Bat := T_api_Batch
abbrev recOp : ByteArray := ⟨#[114, 101, 99, 111, 114, 100]⟩
theorem rdR {α : Type} [Inhabited α] {l : List α} {i : Nat} (h : i < l.length) : rd l (i : Int) = l[i] := len_lt h
theorem wrapB (o : ByteArray) (a : Int) {e : GErr} (h : e.isNil = false) : f_fault_Wrap o a e = some (.fault o a e) := by
  unfold f_fault_Wrap
  rw [h]
  rfl
/-! ### not more than is waited for -/
def shortR (r : Rec) : Prop := r.Ids.length ≤ 60 ∧ r.Isr.length ≤ 60 ∧ r.Add.length ≤ 60 ∧ r.Drop.length ≤ 60
/-! ### whether a batch may be -/
def relE6 (w : T_ref06_Wrong) (e : GErr) : Prop :=
  if w.W.Code = 0 then e = .nil else if w.Record < 0 then e = .fault w.W.Op w.W.At (.code w.W.Code) else ∃ a, e = .fault recOp w.W.At (.fault w.W.Op a (.code w.W.Code))
def zW : T_ref06_Wrong := ⟨⟨⟨#[]⟩, 0, 0⟩, -1⟩
theorem check6_loop (b : Bat) (hl : b.Records.length ≤ 64) : ∀ (d i : Nat), i + d = b.Records.length → (∀ j (h : j < b.Records.length), j < i → f_record_Check b.Records[j] = some .nil) →
    (iter (f_ref06_Check_l0 b) (i : Int) = some (.inl ()) ∧ iter (f_batch_Check_l0 b) (i : Int) = some (.inl ()) ∧ ∀ r ∈ b.Records, f_record_Check r = some .nil) ∨
    ∃ (j : Int) (w : T_ref05_Wrong), 0 ≤ j ∧ w.Code ≠ 0 ∧ iter (f_ref06_Check_l0 b) (i : Int) = some (.inr (w.Op, j, w.Code, j)) ∧ iter (f_batch_Check_l0 b) (i : Int) = some (.inr (.fault recOp j (.fault w.Op w.At (.code w.Code))))
  | 0, i, h, hj => by
    refine .inl ⟨iter_stop ?_, iter_stop ?_, fun r hr => ?_⟩
    · unfold f_ref06_Check_l0
      simp only
      rw [if_neg (fun z => absurd (of_decide_eq_true z) (by omega))]
    · unfold f_batch_Check_l0
      simp only
      rw [if_neg (fun z => absurd (of_decide_eq_true z) (by omega))]
    · obtain ⟨j, hj', rfl⟩ := List.getElem_of_mem hr
      exact hj j hj' (by omega)
  | d + 1, i, h, hj => by
    have hlt : i < b.Records.length := by omega
    obtain ⟨w, h1, h2⟩ := check_eqR b.Records[i]
    by_cases g : w.Code = 0
    · have hn : toE5 w = .nil := by unfold toE5; rw [if_pos g]
      rw [hn] at h2
      have hs1 : f_ref06_Check_l0 b (i : Int) = some (.inl ((i + 1 : Nat) : Int)) := by
        unfold f_ref06_Check_l0
        simp only
        rw [if_pos (decide_eq_true (by omega)), grd_t (by omega), rdR hlt, w_i64 (by omega) (by omega)]
        refine (bindQ h1).trans ?_
        exact (if_neg (by simp [g])).trans rfl
      have hs2 : f_batch_Check_l0 b (i : Int) = some (.inl ((i + 1 : Nat) : Int)) := by
        unfold f_batch_Check_l0
        simp only
        rw [if_pos (decide_eq_true (by omega)), grd_t (by omega), rdR hlt, w_i64 (by omega) (by omega)]
        exact (bindQ h2).trans rfl
      rw [iter_next hs1, iter_next hs2]
      refine check6_loop b hl d (i + 1) (by omega) fun j hj' hji => ?_
      by_cases ej : j = i
      · subst ej; exact h2
      · exact hj j hj' (by omega)
    · have hn : (toE5 w).isNil = false := by unfold toE5; rw [if_neg g]; rfl
      refine .inr ⟨(i : Int), w, by omega, g, iter_stop ?_, iter_stop ?_⟩
      · unfold f_ref06_Check_l0
        simp only
        rw [if_pos (decide_eq_true (by omega)), grd_t (by omega), rdR hlt]
        refine (bindQ h1).trans ?_
        exact if_pos (decide_eq_true g)
      · unfold f_batch_Check_l0
        simp only
        rw [if_pos (decide_eq_true (by omega)), grd_t (by omega), rdR hlt]
        refine (bindQ h2).trans ?_
        refine (if_pos (by rw [hn]; rfl)).trans ?_
        refine (bindQ (wrapB _ _ hn)).trans ?_
        unfold toE5
        rw [if_neg g]
structure okBat (b : Bat) : Prop where
  term : 1 ≤ b.Term ∧ b.Term ≤ 1073741824
  base : 0 ≤ b.Base ∧ b.Base ≤ 1073741824
  many : 1 ≤ b.Records.length ∧ b.Records.length ≤ 64
  recs : ∀ r ∈ b.Records, f_record_Check r = some .nil
theorem or2_t {p q : Prop} [Decidable p] [Decidable q] (h : p ∨ q) : (if decide p = true then (some true) else (some (decide q))) = some true := by
  by_cases g : p
  · exact if_pos (decide_eq_true g)
  · refine (if_neg (fun z => g (of_decide_eq_true z))).trans ?_
    rw [decide_eq_true (h.resolve_left g)]
theorem or2_f {p q : Prop} [Decidable p] [Decidable q] (h : ¬ p ∧ ¬ q) : (if decide p = true then (some true) else (some (decide q))) = some false := by
  refine (if_neg (fun z => h.1 (of_decide_eq_true z))).trans ?_
  rw [decide_eq_false h.2]
theorem check6P_loop (b : Bat) (hl : b.Records.length ≤ 64) : ∀ (d i : Nat), i + d = b.Records.length → (∀ j (h : j < b.Records.length), j < i → f_record_Check b.Records[j] = some .nil) →
    (iter (f_batch_Check_l0 b) (i : Int) = some (.inl ()) ∧ ∀ r ∈ b.Records, f_record_Check r = some .nil) ∨ ∃ e : GErr, e.isNil = false ∧ iter (f_batch_Check_l0 b) (i : Int) = some (.inr e) ∧ ¬ ∀ r ∈ b.Records, f_record_Check r = some .nil
  | 0, i, h, hj => by
    refine .inl ⟨iter_stop ?_, fun r hr => ?_⟩
    · unfold f_batch_Check_l0
      simp only
      rw [if_neg (fun z => absurd (of_decide_eq_true z) (by omega))]
    · obtain ⟨j, hj', rfl⟩ := List.getElem_of_mem hr
      exact hj j hj' (by omega)
  | d + 1, i, h, hj => by
    have hlt : i < b.Records.length := by omega
    obtain ⟨e, h2⟩ := checkT b.Records[i]
    cases hn : e.isNil
    · refine .inr ⟨.fault recOp (i : Int) e, rfl, iter_stop ?_, fun q => ?_⟩
      · unfold f_batch_Check_l0
        simp only
        rw [if_pos (decide_eq_true (by omega)), grd_t (by omega), rdR hlt]
        refine (bindQ h2).trans ?_
        refine (if_pos (by rw [hn]; rfl)).trans ?_
        exact (bindQ (wrapB _ _ hn)).trans rfl
      · rw [q _ (List.getElem_mem hlt)] at h2
        cases h2
        cases hn
    · have e0 : e = .nil := by cases e <;> simp [GErr.isNil] at hn ⊢
      rw [e0] at h2
      have hs2 : f_batch_Check_l0 b (i : Int) = some (.inl ((i + 1 : Nat) : Int)) := by
        unfold f_batch_Check_l0
        simp only
        rw [if_pos (decide_eq_true (by omega)), grd_t (by omega), rdR hlt, w_i64 (by omega) (by omega)]
        exact (bindQ h2).trans rfl
      rw [iter_next hs2]
      refine check6P_loop b hl d (i + 1) (by omega) fun j hj' hji => ?_
      by_cases ej : j = i
      · subst ej; exact h2
      · exact hj j hj' (by omega)
theorem check6P (b : Bat) : ∃ e, f_batch_Check b = some e ∧ (e.isNil = true ↔ okBat b) := by
  unfold f_batch_Check
  by_cases g1 : b.Term < 1 ∨ 1073741824 < b.Term
  · exact ⟨_, (bindQ (or2_t g1)).trans rfl, fun q => (by cases q), fun q => absurd q.term (by omega)⟩
  by_cases g2 : b.Base < 0 ∨ 1073741824 < b.Base
  · refine ⟨.fault ⟨#[98, 97, 115, 101]⟩ b.Base (.code 2), ?_, fun q => (by cases q), fun q => absurd q.base (by omega)⟩
    refine (bindQ (or2_f (by omega))).trans ?_
    refine (if_neg (by decide)).trans ?_
    exact (bindQ (or2_t g2)).trans rfl
  by_cases g3 : (b.Records.length : Int) < 1 ∨ (64 : Int) < (b.Records.length : Int)
  · refine ⟨.fault ⟨#[114, 101, 99, 111, 114, 100, 115]⟩ (b.Records.length : Int) (.code 6), ?_, fun q => (by cases q), fun q => absurd q.many (by omega)⟩
    refine (bindQ (or2_f (by omega))).trans ?_
    refine (if_neg (by decide)).trans ?_
    refine (bindQ (or2_f (by omega))).trans ?_
    refine (if_neg (by decide)).trans ?_
    exact (bindQ (or2_t g3)).trans rfl
  rcases check6P_loop b (by omega) b.Records.length 0 (by omega) (fun j h q => by omega) with ⟨h2, h3⟩ | ⟨e, hn, h2, h3⟩
  · rw [show ((0 : Nat) : Int) = 0 from rfl] at h2
    refine ⟨.nil, ?_, fun _ => ⟨by omega, by omega, by omega, h3⟩, fun _ => rfl⟩
    refine (bindQ (or2_f (by omega))).trans ?_
    refine (if_neg (by decide)).trans ?_
    refine (bindQ (or2_f (by omega))).trans ?_
    refine (if_neg (by decide)).trans ?_
    refine (bindQ (or2_f (by omega))).trans ?_
    refine (if_neg (by decide)).trans ?_
    rw [h2]
    rfl
  · rw [show ((0 : Nat) : Int) = 0 from rfl] at h2
    refine ⟨e, ?_, fun q => (by rw [hn] at q; cases q), fun q => absurd q.recs h3⟩
    refine (bindQ (or2_f (by omega))).trans ?_
    refine (if_neg (by decide)).trans ?_
    refine (bindQ (or2_f (by omega))).trans ?_
    refine (if_neg (by decide)).trans ?_
    refine (bindQ (or2_f (by omega))).trans ?_
    refine (if_neg (by decide)).trans ?_
    rw [h2]
    rfl
theorem check6_okP {b : Bat} (h : okBat b) : f_batch_Check b = some .nil := by
  obtain ⟨e, h1, h2⟩ := check6P b
  have := h2.2 h
  have e0 : e = .nil := by cases e <;> simp [GErr.isNil] at this ⊢
  rw [h1, e0]
theorem check6 (b : Bat) : ∃ w e, f_ref06_Check b = some w ∧ f_batch_Check b = some e ∧ relE6 w e ∧ (w.W.Code = 0 → okBat b ∧ w = zW) := by
  unfold f_ref06_Check f_batch_Check
  by_cases g1 : b.Term < 1 ∨ 1073741824 < b.Term
  · exact ⟨_, _, (bindQ (or2_t g1)).trans rfl, (bindQ (or2_t g1)).trans rfl, by simp [relE6], fun q => by cases q⟩
  by_cases g2 : b.Base < 0 ∨ 1073741824 < b.Base
  · refine ⟨⟨⟨⟨#[98, 97, 115, 101]⟩, b.Base, 2⟩, -1⟩, .fault ⟨#[98, 97, 115, 101]⟩ b.Base (.code 2), ?_, ?_, ?_, fun q => by cases q⟩
    rotate_left
    · refine (bindQ (or2_f (by omega))).trans ?_
      refine (if_neg (by decide)).trans ?_
      exact (bindQ (or2_t g2)).trans rfl
    · simp [relE6]
    · refine (bindQ (or2_f (by omega))).trans ?_
      refine (if_neg (by decide)).trans ?_
      exact (bindQ (or2_t g2)).trans rfl
  by_cases g3 : (b.Records.length : Int) < 1 ∨ (64 : Int) < (b.Records.length : Int)
  · refine ⟨⟨⟨⟨#[114, 101, 99, 111, 114, 100, 115]⟩, (b.Records.length : Int), 6⟩, -1⟩, .fault ⟨#[114, 101, 99, 111, 114, 100, 115]⟩ (b.Records.length : Int) (.code 6), ?_, ?_, ?_, fun q => by cases q⟩
    rotate_left
    · refine (bindQ (or2_f (by omega))).trans ?_
      refine (if_neg (by decide)).trans ?_
      refine (bindQ (or2_f (by omega))).trans ?_
      refine (if_neg (by decide)).trans ?_
      exact (bindQ (or2_t g3)).trans rfl
    · simp [relE6]
    · refine (bindQ (or2_f (by omega))).trans ?_
      refine (if_neg (by decide)).trans ?_
      refine (bindQ (or2_f (by omega))).trans ?_
      refine (if_neg (by decide)).trans ?_
      exact (bindQ (or2_t g3)).trans rfl
  rcases check6_loop b (by omega) b.Records.length 0 (by omega) (fun j h q => by omega) with ⟨h1, h2, h3⟩ | ⟨j, w, h0, hw, h1, h2⟩
  · rw [show ((0 : Nat) : Int) = 0 from rfl] at h1 h2
    refine ⟨zW, .nil, ?_, ?_, by simp [relE6, zW], fun _ => ⟨⟨by omega, by omega, by omega, h3⟩, rfl⟩⟩
    · refine (bindQ (or2_f (by omega))).trans ?_
      refine (if_neg (by decide)).trans ?_
      refine (bindQ (or2_f (by omega))).trans ?_
      refine (if_neg (by decide)).trans ?_
      refine (bindQ (or2_f (by omega))).trans ?_
      refine (if_neg (by decide)).trans ?_
      rw [h1]
      rfl
    · refine (bindQ (or2_f (by omega))).trans ?_
      refine (if_neg (by decide)).trans ?_
      refine (bindQ (or2_f (by omega))).trans ?_
      refine (if_neg (by decide)).trans ?_
      refine (bindQ (or2_f (by omega))).trans ?_
      refine (if_neg (by decide)).trans ?_
      rw [h2]
      rfl
  · rw [show ((0 : Nat) : Int) = 0 from rfl] at h1 h2
    refine ⟨⟨⟨w.Op, j, w.Code⟩, j⟩, .fault recOp j (.fault w.Op w.At (.code w.Code)), ?_, ?_, ?_, fun q => absurd q hw⟩
    · refine (bindQ (or2_f (by omega))).trans ?_
      refine (if_neg (by decide)).trans ?_
      refine (bindQ (or2_f (by omega))).trans ?_
      refine (if_neg (by decide)).trans ?_
      refine (bindQ (or2_f (by omega))).trans ?_
      refine (if_neg (by decide)).trans ?_
      rw [h1]
      rfl
    · refine (bindQ (or2_f (by omega))).trans ?_
      refine (if_neg (by decide)).trans ?_
      refine (bindQ (or2_f (by omega))).trans ?_
      refine (if_neg (by decide)).trans ?_
      refine (bindQ (or2_f (by omega))).trans ?_
      refine (if_neg (by decide)).trans ?_
      rw [h2]
      rfl
    · unfold relE6
      rw [if_neg hw, if_neg (show ¬ j < 0 by omega)]
      exact ⟨_, rfl⟩
/-! ### two the same -/
theorem same6_self (a : Bat) (hm : a.Records.length ≤ 1000000) (hr : ∀ r ∈ a.Records, shortR r) : f_ref06_Same a a = some true := by
  have go : ∀ (d i : Nat), i + d = a.Records.length → iter (f_ref06_Same_l0 a a) (i : Int) = some (.inl ()) := by
    intro d
    induction d with
    | zero =>
      intro i h
      refine iter_stop ?_
      unfold f_ref06_Same_l0
      simp only
      rw [if_neg (fun z => absurd (of_decide_eq_true z) (by omega))]
    | succ d ih =>
      intro i h
      have hlt : i < a.Records.length := by omega
      have hs := hr _ (List.getElem_mem hlt)
      unfold shortR at hs
      have e2 : f_ref06_Same_l0 a a (i : Int) = some (.inl ((i + 1 : Nat) : Int)) := by
        unfold f_ref06_Same_l0
        simp only
        rw [if_pos (decide_eq_true (by omega)), grd_t (by omega), grd_t (by omega), rdR hlt, w_i64 (by omega) (by omega)]
        exact (bindQ (same_self _ (by omega) (by omega) (by omega) (by omega))).trans rfl
      rw [iter_next e2]
      exact ih (i + 1) (by omega)
  have := go a.Records.length 0 (by omega)
  rw [show ((0 : Nat) : Int) = 0 from rfl] at this
  unfold f_ref06_Same
  simp [this]
theorem shortR_ok {r : Rec} (h : f_record_Check r = some .nil) : shortR r := by
  have h := check_okR h
  have h1 := (rowV_t h.ids).1.1
  have h2 := (rowV_t h.isr).1.1
  have h3 := (rowV_t h.add).1.1
  have h4 := (rowV_t h.drop).1.1
  exact ⟨by omega, by omega, by omega, by omega⟩
/-! ### in new memory -/
theorem clone5 (l : List Int) (h : l.length ≤ 60) : f_slices_Clone_int_int l = some l := by
  unfold f_slices_Clone_int_int
  rw [grd_t (by show 0 + l.length ≤ _; omega)]
  rfl
theorem one6 (r : Rec) (h : shortR r) : f_batch_one r = some r := by
  unfold f_batch_one
  unfold shortR at h
  rw [clone5 _ h.1]
  simp only [Option.bind_some]
  rw [clone5 _ h.2.1]
  simp only [Option.bind_some]
  rw [clone5 _ h.2.2.1]
  simp only [Option.bind_some]
  rw [clone5 _ h.2.2.2]
  rfl
theorem of_loop (l : List Rec) (hl : l.length ≤ 1000000) (hr : ∀ r ∈ l, shortR r) : ∀ (d i : Nat), i + d = l.length → iter (f_batch_Of_l0 l) ((i : Int), l.take i) = some l
  | 0, i, h => by
    refine iter_stop ?_
    unfold f_batch_Of_l0
    simp only
    rw [if_neg (fun z => absurd (of_decide_eq_true z) (by omega)), List.take_of_length_le (by omega)]
  | d + 1, i, h => by
    have hlt : i < l.length := by omega
    have hs : f_batch_Of_l0 l ((i : Int), l.take i) = some (.inl (((i + 1 : Nat) : Int), l.take (i + 1))) := by
      unfold f_batch_Of_l0
      simp only
      rw [if_pos (decide_eq_true (by omega)), grd_t (by omega), rdR hlt, w_i64 (by omega) (by omega)]
      refine (bindQ (one6 _ (hr _ (List.getElem_mem hlt)))).trans ?_
      refine (grd_t (by rw [List.length_take]; show min i l.length + 1 ≤ _; omega)).trans ?_
      rw [List.take_succ_eq_append_getElem hlt]
      rfl
    rw [iter_next hs]
    exact of_loop l hl hr d (i + 1) (by omega)
theorem of6 (t s : Int) (l : List Rec) (hl : l.length ≤ 1000000) (hr : ∀ r ∈ l, shortR r) : f_batch_Of t s l = some ⟨t, s, l⟩ := by
  unfold f_batch_Of
  have := of_loop l hl hr l.length 0 (by omega)
  rw [List.take_zero, show ((0 : Nat) : Int) = 0 from rfl] at this
  rw [this]
  rfl
def recsB : List Rec → List Int
  | [] => []
  | r :: l => enc5 r ++ recsB l
theorem recsB_append : ∀ (l m : List Rec), recsB (l ++ m) = recsB l ++ recsB m
  | [], _ => rfl
  | r :: l, m => by simp [recsB, recsB_append l m]
theorem recsB_one (r : Rec) : recsB [r] = enc5 r := by simp [recsB]
theorem recsB_ok : ∀ (l : List Rec), okB (recsB l)
  | [] => okB.nil
  | r :: l => (enc5_ok r).append (recsB_ok l)
theorem recsB_len : ∀ (l : List Rec), (∀ r ∈ l, f_record_Check r = some .nil) → (recsB l).length ≤ 2000 * l.length
  | [], _ => by simp [recsB]
  | r :: l, h => by
    have h1 := enc5_len (check_okR (h r (by simp)))
    have h2 := recsB_len l (fun q hq => h q (by simp [hq]))
    simp only [recsB, List.length_append, List.length_cons]
    omega
def encB (b : Bat) : List Int := intB b.Term ++ (intB b.Base ++ (intB (b.Records.length : Int) ++ recsB b.Records))
theorem encB_ok (b : Bat) : okB (encB b) := (intB_ok _).append ((intB_ok _).append ((intB_ok _).append (recsB_ok _)))
theorem encB_len {b : Bat} (h : okBat b) : (encB b).length ≤ 130000 := by
  have h1 := (intB_len b.Term).1
  have h2 := (intB_len b.Base).1
  have h3 := (intB_len (b.Records.length : Int)).1
  have h4 := recsB_len b.Records h.recs
  have h5 := h.many
  unfold encB
  simp only [List.length_append]
  omega
theorem take_next {α : Type} {l : List α} {i : Nat} (h : i < l.length) : l.take (i + 1) = l.take i ++ [l[i]] := List.take_succ_eq_append_getElem h
theorem put6_loop {b : Bat} (h : okBat b) {pre : List Int} (hp : pre.length ≤ 100) : ∀ (d i : Nat), i + d = b.Records.length → iter (f_batch_Put_l0 b) (pre ++ recsB (b.Records.take i), (i : Int)) = some (.inl (pre ++ recsB b.Records))
  | 0, i, hi => by
    have hm := h.many
    refine iter_stop ?_
    unfold f_batch_Put_l0
    simp only
    rw [if_neg (fun z => absurd (of_decide_eq_true z) (by omega)), List.take_of_length_le (by omega)]
  | d + 1, i, hi => by
    have hm := h.many
    have hlt : i < b.Records.length := by omega
    have hc := h.recs _ (List.getElem_mem hlt)
    have hle := recsB_len (b.Records.take i) (fun r hr => h.recs r (List.mem_of_mem_take hr))
    rw [List.length_take] at hle
    have hs : f_batch_Put_l0 b (pre ++ recsB (b.Records.take i), (i : Int)) = some (.inl (pre ++ recsB (b.Records.take (i + 1)), ((i + 1 : Nat) : Int))) := by
      unfold f_batch_Put_l0
      simp only
      rw [if_pos (decide_eq_true (by omega)), grd_t (by omega), rdR hlt, w_i64 (by omega) (by omega)]
      refine (bindQ (put5 hc (by rw [List.length_append]; omega))).trans ?_
      refine (if_neg Bool.false_ne_true).trans ?_
      rw [take_next hlt, recsB_append, recsB_one, List.append_assoc]
      rfl
    rw [iter_next hs]
    exact put6_loop h hp d (i + 1) (by omega)
abbrev batOp : ByteArray := ⟨#[98, 97, 116, 99, 104]⟩
theorem put6 {b : Bat} (h : okBat b) : f_batch_Put b = some (if 16384 < (encB b).length then ([], .fault batOp ((encB b).length : Int) (.code 6)) else (encB b, .nil)) := by
  have hm := h.many
  have ht := h.term
  have hs := h.base
  have h1 := (intB_len b.Term).1
  have h2 := (intB_len b.Base).1
  have h3 := (intB_len (b.Records.length : Int)).1
  unfold f_batch_Put
  refine (bindQ (check6_okP h)).trans ?_
  refine (if_neg (by decide)).trans ?_
  refine (bindQ (wint_eq [] _ (by omega) (by simp))).trans ?_
  refine (bindQ (wint_eq _ _ (by omega) (by rw [List.nil_append]; omega))).trans ?_
  refine (bindQ (wint_eq _ _ (by omega) (by rw [List.nil_append, List.length_append]; omega))).trans ?_
  have hl := put6_loop h (pre := [] ++ intB b.Term ++ intB b.Base ++ intB (b.Records.length : Int)) (by rw [List.nil_append, List.length_append, List.length_append]; omega) b.Records.length 0 (by omega)
  rw [List.take_zero, show ((0 : Nat) : Int) = 0 from rfl] at hl
  have e : [] ++ intB b.Term ++ intB b.Base ++ intB (b.Records.length : Int) ++ recsB b.Records = encB b := by unfold encB; rw [List.nil_append, List.append_assoc, List.append_assoc]
  rw [e] at hl
  have e0 : [] ++ intB b.Term ++ intB b.Base ++ intB (b.Records.length : Int) ++ recsB [] = [] ++ intB b.Term ++ intB b.Base ++ intB (b.Records.length : Int) := List.append_nil _
  rw [e0] at hl
  refine (bindQ (y := .inl (encB b)) ((bindQ hl).trans rfl)).trans ?_
  refine (Sum.elim_inl _ _ _).trans ?_
  by_cases g : 16384 < (encB b).length
  · rw [if_pos g]
    exact (if_pos (decide_eq_true (by omega))).trans rfl
  · rw [if_neg g]
    exact if_neg (fun z => g (by have := of_decide_eq_true z; omega))
/-! ### read: step by step -/
noncomputable def refX (b : List Int) (a : Int) (e : GErr) (t n : Int) : Option GErr :=
  ((((f_wire_Reader_Err (⟨b, a, e⟩ : T_wire_Reader)).bind fun (r53 : GErr) => (if r53.isNil = true then (if (decide (t = (0 : Int))) = true then (some true) else (some (decide (n = (0 : Int))))) else (some false))) : Option Bool).bind fun (x51 : Bool) => (if x51 = true then ((f_wire_Reader_Refuse (⟨b, a, e⟩ : T_wire_Reader) batOp (2 : Int)).bind fun (r61 : GErr) => (some r61)) else (some e)))
theorem refX_bad {b : List Int} {a t n : Int} {e : GErr} (h : e.isNil = false) : refX b a e t n = some e := by
  unfold refX
  refine (bindQ (y := false) ?_).trans rfl
  refine (bindQ (y := e) rfl).trans ?_
  exact if_neg (by rw [h]; decide)
theorem refX_ok {b : List Int} {a t n : Int} (h : t ≠ 0 ∧ n ≠ 0) : refX b a .nil t n = some .nil := by
  unfold refX
  refine (bindQ (y := false) ?_).trans rfl
  refine (bindQ (y := GErr.nil) rfl).trans ?_
  refine (if_pos rfl).trans ?_
  exact or2_f h
theorem refX_no {b : List Int} {a t n : Int} (h : t = 0 ∨ n = 0) : refX b a .nil t n = some (.fault batOp a (.code 2)) := by
  unfold refX
  refine (bindQ (y := true) ?_).trans rfl
  refine (bindQ (y := GErr.nil) rfl).trans ?_
  refine (if_pos rfl).trans ?_
  exact or2_t h
noncomputable def tail6 (b : List Int) (a0 a : Int) (e : GErr) (x : Bat) : Option (Bat × Int × GErr) :=
  ((((f_wire_Reader_At (⟨b, a, e⟩ : T_wire_Reader)).bind fun (r123 : Int) => (if (decide ((16384 : Int) < (IntKind.i64.wrap (r123 - a0)))) = true then ((f_wire_Reader_Refuse (⟨b, a, e⟩ : T_wire_Reader) batOp (6 : Int)).bind fun (r129 : GErr) => (some r129)) else (some e))) : Option GErr).bind fun (x121 : GErr) => ((f_wire_Reader_Err (⟨b, a, x121⟩ : T_wire_Reader)).bind fun (r133 : GErr) => (if (!r133.isNil) = true then (some ((⟨(0 : Int), (0 : Int), []⟩ : Bat), a, x121)) else (some (x, a, x121)))))
def bz : Bat := ⟨0, 0, []⟩
theorem tail6_bad {b : List Int} {a0 a : Int} {e : GErr} {x : Bat} (h : e.isNil = false) : tail6 b a0 a e x = some (bz, a, e) := by
  unfold tail6
  refine (bindQ (y := e) ?_).trans ?_
  · refine (bindQ (y := a) rfl).trans ?_
    by_cases g : (16384 : Int) < IntKind.i64.wrap (a - a0)
    · refine (if_pos (decide_eq_true g)).trans ?_
      refine (bindQ (y := e) ?_).trans rfl
      unfold f_wire_Reader_Refuse
      rw [fail_bad _ _ _ h]
      rfl
    · exact if_neg (fun z => g (of_decide_eq_true z))
  · refine (bindQ (y := e) rfl).trans ?_
    exact if_pos (by rw [h]; rfl)
theorem tail6_ok {b : List Int} {a0 a : Int} {x : Bat} (h : ¬ (16384 : Int) < IntKind.i64.wrap (a - a0)) : tail6 b a0 a .nil x = some (x, a, .nil) := by
  unfold tail6
  refine (bindQ (y := GErr.nil) ?_).trans rfl
  refine (bindQ (y := a) rfl).trans ?_
  exact if_neg (fun z => h (of_decide_eq_true z))
theorem tail6_no {b : List Int} {a0 a : Int} {x : Bat} (h : (16384 : Int) < IntKind.i64.wrap (a - a0)) : tail6 b a0 a .nil x = some (bz, a, .fault batOp a (.code 6)) := by
  unfold tail6
  refine (bindQ (y := .fault batOp a (.code 6)) ?_).trans rfl
  refine (bindQ (y := a) rfl).trans ?_
  exact (if_pos (decide_eq_true h)).trans rfl
theorem next6_eq (b : List Int) {a t s n a1 a2 a3 a4 : Int} {e e1 e2 e3 x e4 : GErr} {l : List Rec} (h1 : f_wire_Reader_Int ⟨b, a, e⟩ 1073741824 = some (t, a1, e1)) (h2 : f_wire_Reader_Int ⟨b, a1, e1⟩ 1073741824 = some (s, a2, e2)) (h3 : f_wire_Reader_Int ⟨b, a2, e2⟩ 64 = some (n, a3, e3))
    (hx : refX b a3 e3 t n = some x) (hl : iter (f_batch_Next_l0 ⟨b, a, e⟩ n) (0, [], a3, x) = some (a4, e4, l)) : f_batch_Next ⟨b, a, e⟩ = tail6 b a a4 e4 ⟨t, s, l⟩ := by
  unfold f_batch_Next
  refine (bindQ (y := a) rfl).trans ?_
  refine (bindQ h1).trans ?_
  refine (bindQ h2).trans ?_
  refine (bindQ h3).trans ?_
  refine (bindQ hx).trans ?_
  refine (bindQ ((bindQ hl).trans rfl)).trans ?_
  rfl
theorem next6_step (r : T_wire_Reader) (n : Int) {b : List Int} (hb : r.b = b) {i : Nat} {l : List Rec} {a : Int} (hi : (i : Int) < n) (hn : n ≤ 64) (hl : l.length = i) {x : Rec} {a' : Int} {e' : GErr} (h : f_record_Read ⟨b, a, .nil⟩ = some (x, a', e')) :
    f_batch_Next_l0 r n ((i : Int), l, a, .nil) = some (.inl (((i + 1 : Nat) : Int), l ++ [x], a', e')) := by
  unfold f_batch_Next_l0
  simp only
  refine (bindQ (y := true) ?_).trans ?_
  · exact (if_pos (decide_eq_true hi)).trans rfl
  refine (if_pos rfl).trans ?_
  rw [hb]
  refine (bindQ h).trans ?_
  refine (grd_t (by show l.length + 1 ≤ _; omega)).trans ?_
  rw [w_i64 (by omega) (by omega)]
  rfl
theorem next6_end (r : T_wire_Reader) (n : Int) {i : Nat} {l : List Rec} {a : Int} {e : GErr} (h : ¬ (i : Int) < n ∨ e.isNil = false) : f_batch_Next_l0 r n ((i : Int), l, a, e) = some (.inr (a, e, l)) := by
  unfold f_batch_Next_l0
  simp only
  refine (bindQ (y := false) ?_).trans (if_neg (by decide))
  by_cases g : (i : Int) < n
  · have he : e.isNil = false := h.resolve_left (fun q => q g)
    refine (if_pos (decide_eq_true g)).trans ?_
    exact (bindQ (y := e) rfl).trans (by rw [he])
  · exact if_neg (fun z => g (of_decide_eq_true z))
/-! ### what is written is read -/
theorem read5_at {r : Rec} (hc : f_record_Check r = some .nil) {b : List Int} (hb : okB b) (hl : b.length ≤ 1000000) {pre post : List Int} (e0 : b = pre ++ (enc5 r ++ post)) : f_record_Read ⟨b, (pre.length : Int), .nil⟩ = some (r, ((pre ++ enc5 r).length : Int), .nil) := by
  have hle : pre.length ≤ b.length := by rw [e0]; simp
  have p0 := e0
  unfold enc5 at p0
  simp only [List.append_assoc] at p0
  obtain ⟨x, a', e', h, s, h1, _⟩ := read5_cut' hc hb hl (Nat.le_refl _) hle p0
  have e1 : ∀ y, y = pre ++ enc5 r → stC b.length y a' e' → (y.length ≤ b.length → x = r) → f_record_Read ⟨b, (pre.length : Int), .nil⟩ = some (r, ((pre ++ enc5 r).length : Int), .nil) := by
    intro y hy s h1
    have hyl : y.length ≤ b.length := by rw [hy, e0]; simp
    obtain ⟨t1, t2⟩ := s.whole hyl
    rw [List.take_length] at h
    rw [h, h1 hyl, t1, t2, hy]
  refine e1 _ ?_ s h1
  unfold enc5
  simp only [List.append_assoc]
theorem back6_loop {b : List Int} (hb : okB b) (hl : b.length ≤ 1000000) (r : T_wire_Reader) (hr : r.b = b) {L : List Rec} (hL : L.length ≤ 64) (hc : ∀ x ∈ L, f_record_Check x = some .nil) {pre post : List Int} : ∀ (d i : Nat), i + d = L.length → b = (pre ++ recsB (L.take i)) ++ (recsB (L.drop i) ++ post) →
    iter (f_batch_Next_l0 r (L.length : Int)) ((i : Int), L.take i, ((pre ++ recsB (L.take i)).length : Int), .nil) = some (((pre ++ recsB L).length : Int), .nil, L)
  | 0, i, hi, e => by
    rw [iter_stop (next6_end r _ (.inl (by omega))), List.take_of_length_le (by omega)]
  | d + 1, i, hi, e => by
    have hlt : i < L.length := by omega
    have e1 : b = (pre ++ recsB (L.take i)) ++ (enc5 L[i] ++ (recsB (L.drop (i + 1)) ++ post)) := by
      rw [e, List.drop_eq_getElem_cons hlt]
      simp only [recsB, List.append_assoc]
    have h1 := read5_at (hc _ (List.getElem_mem hlt)) hb hl e1
    have e2 : (pre ++ recsB (L.take i)) ++ enc5 L[i] = pre ++ recsB (L.take (i + 1)) := by rw [take_next hlt, recsB_append, recsB_one, List.append_assoc]
    rw [e2] at h1
    rw [iter_next (next6_step r _ hr (by omega) (by omega) (by rw [List.length_take]; omega) h1), ← take_next hlt]
    refine back6_loop hb hl r hr hL hc (pre := pre) (post := post) d (i + 1) (by omega) ?_
    rw [e1, ← e2]
    simp only [List.append_assoc]
theorem next6_back {x : Bat} (h : okBat x) (hs : (encB x).length ≤ 16384) {b : List Int} (hb : okB b) (hl : b.length ≤ 1000000) {pre post : List Int} (e0 : b = pre ++ (encB x ++ post)) : f_batch_Next ⟨b, (pre.length : Int), .nil⟩ = some (x, ((pre ++ encB x).length : Int), .nil) := by
  have hm := h.many
  have ht := h.term
  have hbs := h.base
  have p0 : b = pre ++ (intB x.Term ++ (intB x.Base ++ (intB (x.Records.length : Int) ++ (recsB x.Records ++ post)))) := by rw [e0]; unfold encB; simp only [List.append_assoc]
  have p1 := nxt p0
  have p2 := nxt p1
  have p3 := nxt p2
  have tp : (1073741824 : Int) ≤ top := by decide
  have h1 := backI hb hl (m := 1073741824) p0 (by omega) (by omega) (by omega) (by decide)
  have h2 := backI hb hl (m := 1073741824) p1 (by omega) (by omega) (by omega) (by decide)
  have h3 := backI hb hl (m := 64) p2 (by omega) (by omega) (by omega) (by decide)
  have hlo := back6_loop hb hl ⟨b, (pre.length : Int), .nil⟩ rfl hm.2 h.recs (pre := ((pre ++ intB x.Term) ++ intB x.Base) ++ intB (x.Records.length : Int)) (post := post) x.Records.length 0 (by omega) (by
    rw [List.take_zero, List.drop_zero]
    show b = (_ ++ []) ++ _
    rw [List.append_nil]
    exact p3)
  rw [List.take_zero] at hlo
  have en : ((pre ++ intB x.Term) ++ intB x.Base) ++ intB (x.Records.length : Int) ++ recsB x.Records = pre ++ encB x := by unfold encB; simp only [List.append_assoc]
  rw [en] at hlo
  have e0' : ((pre ++ intB x.Term) ++ intB x.Base) ++ intB (x.Records.length : Int) ++ recsB [] = ((pre ++ intB x.Term) ++ intB x.Base) ++ intB (x.Records.length : Int) := List.append_nil _
  rw [e0'] at hlo
  have hple : pre.length ≤ b.length := by rw [e0]; simp
  rw [next6_eq b h1 h2 h3 (refX_ok (by omega)) hlo, tail6_ok]
  rw [List.length_append, w_i64 (by omega) (by omega)]
  omega
/-! ### what is read was written so -/
theorem relE6_nil {w : T_ref06_Wrong} {e : GErr} (h : relE6 w e) : (w.W.Code = 0 → e = .nil) ∧ (w.W.Code ≠ 0 → e.isNil = false) := by
  unfold relE6 at h
  by_cases g : w.W.Code = 0
  · rw [if_pos g] at h
    exact ⟨fun _ => h, fun q => absurd g q⟩
  · rw [if_neg g] at h
    refine ⟨fun q => absurd q g, fun _ => ?_⟩
    by_cases g2 : w.Record < 0
    · rw [if_pos g2] at h; subst h; rfl
    · rw [if_neg g2] at h; obtain ⟨a, rfl⟩ := h; rfl
theorem same6_zero : f_ref06_Same bz bz = some true := same6_self bz (by decide) (fun r hr => by cases hr)
/-! ### the example -/
def q1 : Rec := ⟨1, 0, 0, 0, 0, 0, 0, 0, 0, false, ⟨#[]⟩, ⟨#[]⟩, ⟨#[]⟩, ⟨#[]⟩, [], [], [], []⟩
def q11 : Rec := ⟨11, 0, 0, 2, 0, 0, 0, 0, 0, false, ⟨#[]⟩, ⟨#[]⟩, ⟨#[]⟩, ⟨#[]⟩, [], [], [], []⟩
theorem rowQ1 : rowV [] (hasR 1 2048) = true ∧ rowV [] (hasR 1 4096) = true ∧ rowV [] (hasR 1 8192) = true := ⟨rfl, rfl, rfl⟩
theorem checkQ1 : f_record_Check q1 = some .nil := by
  unfold f_record_Check q1
  simp only [pleast, pcheck1, pnumR, ptextN, ptextW, prowR, newA, Option.bind_some, rowQ1]
  rfl
def b0 : Bat := ⟨3, 9, []⟩
theorem eqNil : f_slices_Equal_int_int [] [] = some true := by
  unfold f_slices_Equal_int_int
  refine (if_neg (by decide)).trans ?_
  rw [iter_stop (show f_slices_Equal_int_int_l0 [] [] (0 : Int) = some (.inr (.inl ())) from rfl)]
  rfl
theorem sameQ1 : f_record_Same q1 q1 = some true := by
  unfold f_record_Same q1
  simp only [eqNil, Option.bind_some]
  simp [f_record_Same_1, f_record_Same_2, rd, andL]
  rfl
/-! ### the laws -/
theorem same6_selfS (a : Bat) (hm : a.Records.length ≤ 1000000) (hr : ∀ r ∈ a.Records, f_ref05_Same r r = some true) : f_ref06_Same a a = some true := by
  have go : ∀ (d i : Nat), i + d = a.Records.length → iter (f_ref06_Same_l0 a a) (i : Int) = some (.inl ()) := by
    intro d
    induction d with
    | zero =>
      intro i h
      refine iter_stop ?_
      unfold f_ref06_Same_l0
      simp only
      rw [if_neg (fun z => absurd (of_decide_eq_true z) (by omega))]
    | succ d ih =>
      intro i h
      have hlt : i < a.Records.length := by omega
      have e2 : f_ref06_Same_l0 a a (i : Int) = some (.inl ((i + 1 : Nat) : Int)) := by
        unfold f_ref06_Same_l0
        simp only
        rw [if_pos (decide_eq_true (by omega)), grd_t (by omega), grd_t (by omega), rdR hlt, w_i64 (by omega) (by omega)]
        exact (bindQ (hr _ (List.getElem_mem hlt))).trans rfl
      rw [iter_next e2]
      exact ih (i + 1) (by omega)
  have := go a.Records.length 0 (by omega)
  rw [show ((0 : Nat) : Int) = 0 from rfl] at this
  unfold f_ref06_Same
  simp [this]
noncomputable def refY (b : List Int) (s : T_ref02_State) (t n : Int) : Option (Int × ByteArray × Int) :=
  ((((if (decide (s.Code = (0 : Int))) = true then (if (decide (t < (1 : Int))) = true then (some true) else (some (decide (n < (1 : Int))))) else (some false)) : Option Bool).bind fun (x54 : Bool) => (if x54 = true then ((f_ref05_Cursor_Refuse (curS b s) (⟨#[98, 97, 116, 99, 104]⟩ : ByteArray) (2 : Int)).bind fun (r59, r60, r61) => (some (r59, r60, r61))) else (some (s.Code, s.Op, s.Where)))))
theorem ref_cor {b : List Int} {a : Nat} {e : GErr} {s : T_ref02_State} (h : cor b a e s) {t n : Int} (ht : 0 ≤ t) (hn : 0 ≤ n) :
    ∃ (x : GErr) (u : T_ref02_State), refX b (a : Int) e t n = some x ∧ refY b s t n = some (u.Code, u.Op, u.Where) ∧ u.At = s.At ∧ cor b a x u := by
  obtain ⟨ha, hs, ⟨rfl, hc⟩ | ⟨hc, he⟩⟩ := h
  · by_cases g : t = 0 ∨ n = 0
    · refine ⟨_, ⟨s.At, 2, batOp, s.At⟩, refX_no g, ?_, rfl, ha, hs, .inr ⟨show (2 : Int) ≠ 0 by decide, by rw [← hs]⟩⟩
      unfold refY
      refine (bindQ (y := true) ?_).trans ?_
      · refine (if_pos (decide_eq_true hc)).trans ?_
        exact or2_t (by omega)
      · refine (if_pos rfl).trans ?_
        refine (bindQ (y := (2, batOp, s.At)) ?_).trans rfl
        exact if_pos (decide_eq_true hc)
    · refine ⟨.nil, s, refX_ok (by omega), ?_, rfl, ha, hs, .inl ⟨rfl, hc⟩⟩
      unfold refY
      refine (bindQ (y := false) ?_).trans rfl
      refine (if_pos (decide_eq_true hc)).trans ?_
      exact or2_f (by omega)
  · have hn : e.isNil = false := by rw [he]; rfl
    refine ⟨e, s, refX_bad hn, ?_, rfl, ha, hs, .inr ⟨hc, he⟩⟩
    unfold refY
    refine (bindQ (y := false) ?_).trans rfl
    exact if_neg (by simp [hc])
noncomputable def tail6Y (b : List Int) (s0 : Int) (s : T_ref02_State) (x : Bat) : Option (Bat × Int × Int × ByteArray × Int) :=
  (((if (decide ((16384 : Int) < (IntKind.i64.wrap (s.At - s0)))) = true then ((f_ref05_Cursor_Refuse (curS b s) (⟨#[98, 97, 116, 99, 104]⟩ : ByteArray) (6 : Int)).bind fun (r130, r131, r132) => (some (r130, r131, r132))) else (some (s.Code, s.Op, s.Where))) : Option (Int × ByteArray × Int)).bind fun (x125, x126, x127) => (if (decide (x125 ≠ (0 : Int))) = true then (some ((⟨(0 : Int), (0 : Int), []⟩ : T_api_Batch), s.At, x125, x126, x127)) else (some (x, s.At, x125, x126, x127))))
theorem tail6_cor {b : List Int} {a : Nat} {e : GErr} {s : T_ref02_State} (h : cor b a e s) (a0 : Int) (x : Bat) :
    ∃ (y : Bat) (e' : GErr) (t : T_ref02_State), tail6 b a0 (a : Int) e x = some (y, (a : Int), e') ∧ tail6Y b a0 s x = some (y, t.At, t.Code, t.Op, t.Where) ∧ cor b a e' t ∧ (y = x ∨ y = bz) := by
  obtain ⟨ha, hs, ⟨rfl, hc⟩ | ⟨hc, he⟩⟩ := h
  · by_cases g : (16384 : Int) < IntKind.i64.wrap ((a : Int) - a0)
    · refine ⟨bz, _, ⟨s.At, 6, batOp, s.At⟩, tail6_no g, ?_, ⟨ha, hs, .inr ⟨show (6 : Int) ≠ 0 by decide, by rw [← hs]⟩⟩, .inr rfl⟩
      have g' := g
      rw [← hs] at g'
      unfold tail6Y
      refine (bindQ (y := (6, batOp, s.At)) ?_).trans ?_
      · refine (if_pos (decide_eq_true g')).trans ?_
        refine (bindQ (y := (6, batOp, s.At)) ?_).trans rfl
        exact if_pos (decide_eq_true hc)
      · rfl
    · refine ⟨x, .nil, s, tail6_ok g, ?_, ⟨ha, hs, .inl ⟨rfl, hc⟩⟩, .inl rfl⟩
      have g' := g
      rw [← hs] at g'
      unfold tail6Y
      refine (bindQ (y := (s.Code, s.Op, s.Where)) ?_).trans ?_
      · exact if_neg (fun z => g' (of_decide_eq_true z))
      · exact if_neg (by simp [hc])
  · have hn : e.isNil = false := by rw [he]; rfl
    refine ⟨bz, e, s, tail6_bad hn, ?_, ⟨ha, hs, .inr ⟨hc, he⟩⟩, .inr rfl⟩
    unfold tail6Y
    refine (bindQ (y := (s.Code, s.Op, s.Where)) ?_).trans ?_
    · by_cases g : (16384 : Int) < IntKind.i64.wrap (s.At - a0)
      · refine (if_pos (decide_eq_true g)).trans ?_
        refine (bindQ (y := (s.Code, s.Op, s.Where)) ?_).trans rfl
        exact if_neg (by simp [hc])
      · exact if_neg (fun z => g (of_decide_eq_true z))
    · exact if_pos (decide_eq_true hc)
theorem cor6_loop {b : List Int} (hb : okB b) (hl : b.length ≤ 1000000) (r : T_wire_Reader) (hr : r.b = b) (c : T_ref05_Cursor) (hcb : c.B = b) {n : Nat} (hn : n ≤ 64) : ∀ (d i a : Nat) (e : GErr) (s : T_ref02_State) (l : List Rec), i + d = n → cor b a e s → l.length = i → (∀ x ∈ l, f_ref05_Same x x = some true) →
    ∃ (l' : List Rec) (a' : Nat) (e' : GErr) (t : T_ref02_State), iter (f_batch_Next_l0 r (n : Int)) ((i : Int), l, (a : Int), e) = some ((a' : Int), e', l') ∧ iter (f_ref06_Next_l0 c (n : Int)) ((i : Int), l, s.At, s.Code, s.Op, s.Where) = some (t.At, t.Code, t.Op, t.Where, l') ∧ cor b a' e' t ∧ l'.length ≤ n ∧ (∀ x ∈ l', f_ref05_Same x x = some true)
  | 0, i, a, e, s, l, hi, h, hll, hx => by
    refine ⟨l, a, e, s, iter_stop (next6_end r _ (.inl (by omega))), iter_stop ?_, h, by omega, hx⟩
    unfold f_ref06_Next_l0
    simp only
    refine (bindQ (y := false) ?_).trans (if_neg (by decide))
    exact if_neg (fun z => absurd (of_decide_eq_true z) (by omega))
  | d + 1, i, a, e, s, l, hi, h, hll, hx => by
    have h' := h
    obtain ⟨ha, hs, ⟨rfl, hc⟩ | ⟨hc, he⟩⟩ := h'
    · obtain ⟨x, a1, e1, t, h1, h2, h3, h4⟩ := read5_cor hb hl h
      obtain ⟨l', a', e', t', k1, k2, k3, k4, k5⟩ := cor6_loop hb hl r hr c hcb hn d (i + 1) a1 e1 t (l ++ [x]) (by omega) h3 (by simp [hll]) (fun y hy => by
        rcases List.mem_append.1 hy with hy | hy
        · exact hx y hy
        · rw [List.mem_singleton] at hy; subst hy; exact h4)
      refine ⟨l', a', e', t', ?_, ?_, k3, k4, k5⟩
      · rw [iter_next (next6_step r _ hr (by omega) (by omega) hll h1), k1]
      · have hs2 : f_ref06_Next_l0 c (n : Int) ((i : Int), l, s.At, s.Code, s.Op, s.Where) = some (.inl (((i + 1 : Nat) : Int), l ++ [x], t.At, t.Code, t.Op, t.Where)) := by
          unfold f_ref06_Next_l0
          simp only
          refine (bindQ (y := true) ?_).trans ?_
          · refine (if_pos (decide_eq_true (by omega))).trans ?_
            rw [decide_eq_true hc]
          refine (if_pos rfl).trans ?_
          rw [hcb]
          refine (bindQ h2).trans ?_
          refine (grd_t (by show l.length + 1 ≤ _; omega)).trans ?_
          rw [w_i64 (by omega) (by omega)]
          rfl
        rw [iter_next hs2, k2]
    · have hne : e.isNil = false := by rw [he]; rfl
      refine ⟨l, a, e, s, iter_stop (next6_end r _ (.inr hne)), iter_stop ?_, h, by omega, hx⟩
      unfold f_ref06_Next_l0
      simp only
      refine (bindQ (y := false) ?_).trans (if_neg (by decide))
      refine (if_pos (decide_eq_true (by omega))).trans ?_
      rw [decide_eq_false hc]
theorem next6_cor {b : List Int} (hb : okB b) (hl : b.length ≤ 1000000) {a : Nat} {e : GErr} {s : T_ref02_State} (h : cor b a e s) :
    ∃ (x : Bat) (a' : Nat) (e' : GErr) (t : T_ref02_State), f_batch_Next ⟨b, (a : Int), e⟩ = some (x, (a' : Int), e') ∧ f_ref06_Next (curS b s) = some (x, t.At, t.Code, t.Op, t.Where) ∧ cor b a' e' t ∧ f_ref06_Same x x = some true := by
  obtain ⟨t, a1, e1, s1, h1, k1, c1⟩ := curI hb hl h 1073741824 (by decide)
  obtain ⟨_, _, _, h1', _, t0, _, _⟩ := onceI hb hl h.1 e 1073741824 (by decide)
  rw [h1] at h1'
  cases h1'
  obtain ⟨u, a2, e2, s2, h2, k2, c2⟩ := curI hb hl c1 1073741824 (by decide)
  obtain ⟨n, a3, e3, s3, h3, k3, c3⟩ := curI hb hl c2 64 (by decide)
  obtain ⟨_, _, _, h3', _, n0, _, n1⟩ := onceI hb hl c2.1 e2 64 (by decide)
  rw [h3] at h3'
  cases h3'
  rw [show pos0 64 = 64 from rfl] at n1
  obtain ⟨x, s4, hx1, hx2, hx3, c4⟩ := ref_cor c3 t0 n0
  have en : n = ((n.toNat : Nat) : Int) := by omega
  obtain ⟨l, a5, e5, s5, h5, k5, c5, l1, l2⟩ := cor6_loop hb hl ⟨b, (a : Int), e⟩ rfl (curS b s) rfl (n := n.toNat) (by omega) n.toNat 0 a3 x s4 [] (by omega) c4 rfl (fun y hy => by cases hy)
  rw [← en, show ((0 : Nat) : Int) = 0 from rfl] at h5 k5
  have H := next6_eq b h1 h2 h3 hx1 h5
  obtain ⟨y, e', v, q1, q2, q3, q4⟩ := tail6_cor c5 (a : Int) ⟨t, u, l⟩
  refine ⟨y, a5, e', v, H.trans q1, ?_, q3, ?_⟩
  · unfold f_ref06_Next
    refine (bindQ k1).trans ?_
    refine (bindQ k2).trans ?_
    refine (bindQ k3).trans ?_
    refine (bindQ hx2).trans ?_
    rw [hx3] at k5
    refine (bindQ ((bindQ k5).trans rfl)).trans ?_
    rw [← h.2.1] at q2
    exact q2
  · rcases q4 with rfl | rfl
    · exact same6_selfS _ (show l.length ≤ 1000000 by omega) l2
    · exact same6_zero
abbrev Rpc := T_api_Rpc
def aboutM (k : Int) : Int := if k = 1 then 9 else if k = 2 then 7 else if k = 3 then 8 else if k = 4 then 124 else if k = 5 then 4 else if k = 6 then 4 else if k = 7 then 264 else 428
def hasM (k bit : Int) : Bool := decide (andI .i64 (aboutM k) bit ≠ 0)
theorem kindsM {k : Int} (h : 1 ≤ k ∧ k ≤ 8) : k = 1 ∨ k = 2 ∨ k = 3 ∨ k = 4 ∨ k = 5 ∨ k = 6 ∨ k = 7 ∨ k = 8 := by omega
theorem about_eqM {k : Int} (h : 1 ≤ k ∧ k ≤ 8) : f_rpc_about k = some (aboutM k) := by
  rcases kindsM h with rfl | rfl | rfl | rfl | rfl | rfl | rfl | rfl
  all_goals rfl
theorem pcheckM {m : Rpc} (h : 1 ≤ m.Kind ∧ m.Kind ≤ 8) (bit : Int) : f_rpc_Check_1 bit m = some (hasM m.Kind bit) := by
  unfold f_rpc_Check_1
  rw [about_eqM h]
  rfl
theorem pnumM (n : Int) (h : Bool) (c : Int) : f_rpc_number n h c = some (numW n h 0 c) := by
  unfold f_rpc_number numW
  rw [num_if]
  cases h <;> rfl
def cFrom (m : Rpc) : Bool := decide (m.From < 1) || (decide (1073741824 < m.From) || (decide (m.To < 1) || (decide (1073741824 < m.To) || decide (m.From = m.To))))
def cTerm (m : Rpc) : Bool := decide (m.Term < 0) || decide (1073741824 < m.Term)
def cFlag (m : Rpc) : Bool := (!hasM m.Kind 1 && m.Pre) || (!hasM m.Kind 2 && m.Ok)
def cLead (m : Rpc) : Bool := !numW m.Leader (hasM m.Kind 4) 0 1073741824
def cPlace (m : Rpc) : Bool := !numW m.At (hasM m.Kind 8) 0 1073741824 || !numW m.AtTerm (hasM m.Kind 8) 0 1073741824
def cHigh (m : Rpc) : Bool := !numW m.High (hasM m.Kind 16) 0 1073741824
def cCode (m : Rpc) : Bool := !numW m.Code (hasM m.Kind 32) 0 21
def cSize (m : Rpc) : Bool := !numW m.Size (hasM m.Kind 128) 0 1073741824 || !numW m.Pos (hasM m.Kind 256) 0 1073741824
def cData (m : Rpc) : Bool := decide ((512 : Int) < (m.Data.length : Int)) || (decide ((0 : Int) < (m.Data.length : Int)) && decide (m.Kind ≠ 8))
def cMany (m : Rpc) : Bool := decide ((8 : Int) < (m.Batches.length : Int)) || (!hasM m.Kind 64 && decide ((0 : Int) < (m.Batches.length : Int)))
noncomputable def tailC (m : Rpc) : Option GErr := ((((iter (f_rpc_Check_l0 m) (0 : Int)).bind (Sum.elim (fun _ => (some (Sum.inl ()))) (fun (x213 : GErr) => (((some x213)).bind fun r => some (Sum.inr r))))) : Option (Unit ⊕ GErr)).bind (Sum.elim (fun _ => (some GErr.nil)) some))
theorem iteE {α : Type} {c : Bool} {A A' B B' : α} (h1 : A = A') (h2 : B = B') : (if c = true then A else B) = (if c = true then A' else B') := by rw [h1, h2]
theorem orS {a b : Bool} {X : Option Bool} (h : X = some b) : (if a = true then some true else X) = some (a || b) := by cases a; exact h; rfl
theorem kindC {m : Rpc} (h : 1 ≤ m.Kind ∧ m.Kind ≤ 8) : (if (decide (m.Kind < (1 : Int))) = true then (some true) else (some (decide ((8 : Int) < m.Kind)))) = some false := or2_f (by omega)
theorem prog7 {m : Rpc} (h : 1 ≤ m.Kind ∧ m.Kind ≤ 8) : f_rpc_Check m =
    (if cFrom m = true then some (.fault ⟨#[102, 114, 111, 109]⟩ m.From (.code 2)) else if cTerm m = true then some (.fault ⟨#[116, 101, 114, 109]⟩ m.Term (.code 2)) else if cFlag m = true then some (.fault ⟨#[102, 108, 97, 103]⟩ 1 (.code 1)) else
    if cLead m = true then some (.fault ⟨#[108, 101, 97, 100, 101, 114]⟩ m.Leader (.code 2)) else if cPlace m = true then some (.fault ⟨#[112, 108, 97, 99, 101]⟩ m.At (.code 2)) else if cHigh m = true then some (.fault ⟨#[104, 105, 103, 104]⟩ m.High (.code 2)) else
    if cCode m = true then some (.fault ⟨#[99, 111, 100, 101]⟩ m.Code (.code 2)) else if cSize m = true then some (.fault ⟨#[115, 105, 122, 101]⟩ m.Size (.code 2)) else if cData m = true then some (.fault ⟨#[100, 97, 116, 97]⟩ (m.Data.length : Int) (.code 6)) else
    if cMany m = true then some (.fault ⟨#[98, 97, 116, 99, 104, 101, 115]⟩ (m.Batches.length : Int) (.code 6)) else tailC m) := by
  unfold f_rpc_Check
  refine (bindQ (kindC h)).trans ?_
  refine (if_neg Bool.false_ne_true).trans ?_
  simp only [pcheckM h, pnumM, newA, Option.bind_some]
  refine (bindQ (y := cFrom m) (orS (orS (orS (orS rfl))))).trans ?_
  refine iteE rfl ?_
  refine (bindQ (y := cTerm m) (orS rfl)).trans ?_
  refine iteE rfl ?_
  refine (bindQ (y := cFlag m) ?_).trans ?_
  · unfold cFlag
    cases hasM m.Kind 1 <;> cases hasM m.Kind 2 <;> cases m.Pre <;> cases m.Ok <;> rfl
  refine iteE rfl ?_
  refine iteE rfl ?_
  refine (bindQ (y := cPlace m) (orS rfl)).trans ?_
  refine iteE rfl ?_
  refine iteE rfl ?_
  refine iteE rfl ?_
  refine (bindQ (y := cSize m) (orS rfl)).trans ?_
  refine iteE rfl ?_
  refine (bindQ (y := cData m) (orS ?_)).trans ?_
  · cases decide ((0 : Int) < (m.Data.length : Int)) <;> rfl
  refine iteE rfl ?_
  refine (bindQ (y := cMany m) (orS ?_)).trans ?_
  · cases hasM m.Kind 64 <;> rfl
  exact iteE rfl rfl
structure okRpc (m : Rpc) : Prop where
  kind : 1 ≤ m.Kind ∧ m.Kind ≤ 8
  from_ : cFrom m = false
  term : cTerm m = false
  flag : cFlag m = false
  lead : cLead m = false
  place : cPlace m = false
  high : cHigh m = false
  code : cCode m = false
  size : cSize m = false
  data : cData m = false
  many : cMany m = false
  bats : ∀ b ∈ m.Batches, okBat b
theorem many7 {m : Rpc} (h : cMany m = false) : m.Batches.length ≤ 8 ∧ (hasM m.Kind 64 = false → m.Batches = []) := by
  unfold cMany at h
  simp only [Bool.or_eq_false_iff, decide_eq_false_iff_not] at h
  refine ⟨by omega, fun q => ?_⟩
  rw [q] at h
  have := h.2
  simp at this
  exact this
theorem check7P_loop (m : Rpc) (hl : m.Batches.length ≤ 8) : ∀ (d i : Nat), i + d = m.Batches.length → (∀ j (h : j < m.Batches.length), j < i → okBat m.Batches[j]) →
    (iter (f_rpc_Check_l0 m) (i : Int) = some (.inl ()) ∧ ∀ b ∈ m.Batches, okBat b) ∨ ∃ e : GErr, e.isNil = false ∧ iter (f_rpc_Check_l0 m) (i : Int) = some (.inr e) ∧ ¬ ∀ b ∈ m.Batches, okBat b
  | 0, i, h, hj => by
    refine .inl ⟨iter_stop ?_, fun r hr => ?_⟩
    · unfold f_rpc_Check_l0
      simp only
      rw [if_neg (fun z => absurd (of_decide_eq_true z) (by omega))]
    · obtain ⟨j, hj', rfl⟩ := List.getElem_of_mem hr
      exact hj j hj' (by omega)
  | d + 1, i, h, hj => by
    have hlt : i < m.Batches.length := by omega
    obtain ⟨e, h2, h3⟩ := check6P m.Batches[i]
    cases hn : e.isNil
    · refine .inr ⟨.fault batOp (i : Int) e, rfl, iter_stop ?_, fun q => ?_⟩
      · unfold f_rpc_Check_l0
        simp only
        rw [if_pos (decide_eq_true (by omega)), grd_t (by omega), rdR hlt]
        refine (bindQ h2).trans ?_
        refine (if_pos (by rw [hn]; rfl)).trans ?_
        exact (bindQ (wrapB _ _ hn)).trans rfl
      · have := h3.2 (q _ (List.getElem_mem hlt))
        rw [hn] at this
        cases this
    · have hs2 : f_rpc_Check_l0 m (i : Int) = some (.inl ((i + 1 : Nat) : Int)) := by
        unfold f_rpc_Check_l0
        simp only
        rw [if_pos (decide_eq_true (by omega)), grd_t (by omega), rdR hlt, w_i64 (by omega) (by omega)]
        refine (bindQ h2).trans ?_
        exact (if_neg (by rw [hn]; decide)).trans rfl
      rw [iter_next hs2]
      refine check7P_loop m hl d (i + 1) (by omega) fun j hj' hji => ?_
      by_cases ej : j = i
      · subst ej; exact h3.1 hn
      · exact hj j hj' (by omega)
theorem lvl {c : Bool} {A : GErr} {R : Option GErr} {P : Prop} (hA : A.isNil = false) (hP : P → c = false) (h : c = false → ∃ e, R = some e ∧ (e.isNil = true ↔ P)) : ∃ e, (if c = true then some A else R) = some e ∧ (e.isNil = true ↔ P) := by
  cases c
  · exact h rfl
  · exact ⟨A, rfl, fun q => (by rw [hA] at q; cases q), fun p => (by have := hP p; cases this)⟩
theorem check7P (m : Rpc) : ∃ e, f_rpc_Check m = some e ∧ (e.isNil = true ↔ okRpc m) := by
  by_cases hk : 1 ≤ m.Kind ∧ m.Kind ≤ 8
  · rw [prog7 hk]
    refine lvl rfl (·.from_) fun g1 => ?_
    refine lvl rfl (·.term) fun g2 => ?_
    refine lvl rfl (·.flag) fun g3 => ?_
    refine lvl rfl (·.lead) fun g4 => ?_
    refine lvl rfl (·.place) fun g5 => ?_
    refine lvl rfl (·.high) fun g6 => ?_
    refine lvl rfl (·.code) fun g7 => ?_
    refine lvl rfl (·.size) fun g8 => ?_
    refine lvl rfl (·.data) fun g9 => ?_
    refine lvl rfl (·.many) fun g10 => ?_
    have hm := many7 g10
    unfold tailC
    rcases check7P_loop m hm.1 m.Batches.length 0 (by omega) (fun j h q => by omega) with ⟨h1, h2⟩ | ⟨e, hn, h1, h2⟩
    · rw [show ((0 : Nat) : Int) = 0 from rfl] at h1
      rw [h1]
      exact ⟨.nil, rfl, fun _ => ⟨hk, g1, g2, g3, g4, g5, g6, g7, g8, g9, g10, h2⟩, fun _ => rfl⟩
    · rw [show ((0 : Nat) : Int) = 0 from rfl] at h1
      rw [h1]
      exact ⟨e, rfl, fun q => (by rw [hn] at q; cases q), fun q => absurd q.bats h2⟩
  · unfold f_rpc_Check
    refine ⟨.fault ⟨#[107, 105, 110, 100]⟩ m.Kind (.code 5), ?_, fun q => (by cases q), fun q => absurd q.kind hk⟩
    exact (bindQ (or2_t (by omega))).trans rfl
theorem check7_okP {m : Rpc} (h : okRpc m) : f_rpc_Check m = some .nil := by
  obtain ⟨e, h1, h2⟩ := check7P m
  rw [h1, isNil_iff.1 (h2.2 h)]
/-! ### what holds of one that may be -/
theorem from7 {m : Rpc} (h : cFrom m = false) : (1 ≤ m.From ∧ m.From ≤ 1073741824) ∧ (1 ≤ m.To ∧ m.To ≤ 1073741824) ∧ m.From ≠ m.To := by
  unfold cFrom at h
  simp only [Bool.or_eq_false_iff, decide_eq_false_iff_not] at h
  omega
theorem term7 {m : Rpc} (h : cTerm m = false) : 0 ≤ m.Term ∧ m.Term ≤ 1073741824 := by
  unfold cTerm at h
  simp only [Bool.or_eq_false_iff, decide_eq_false_iff_not] at h
  omega
theorem flag7 {m : Rpc} (h : cFlag m = false) : (hasM m.Kind 1 = false → m.Pre = false) ∧ (hasM m.Kind 2 = false → m.Ok = false) := by
  unfold cFlag at h
  simp only [Bool.or_eq_false_iff] at h
  refine ⟨fun q => ?_, fun q => ?_⟩
  · have := h.1; rw [q] at this; exact this
  · have := h.2; rw [q] at this; exact this
theorem place7 {a b : Bool} (h : (!a || !b) = false) : a = true ∧ b = true := by cases a; cases h; cases b; cases h; exact ⟨rfl, rfl⟩
theorem data7 {m : Rpc} (h : cData m = false) : m.Data.length ≤ 512 ∧ (m.Kind ≠ 8 → m.Data = []) := by
  unfold cData at h
  simp only [Bool.or_eq_false_iff, decide_eq_false_iff_not] at h
  refine ⟨by omega, fun q => ?_⟩
  have := h.2
  simp [q] at this
  exact this
def cD (f : Bool) (d : List Int) : List Int := if f = true then textB d else []
theorem cD_len (f : Bool) (d : List Int) : (cD f d).length ≤ 8 + d.length := by unfold cD; split; exact textB_len d; exact Nat.zero_le _
theorem cD_ok (f : Bool) {d : List Int} (h : okB d) : okB (cD f d) := by unfold cD; split; exact textB_ok h; exact okB.nil
def batsB : List Bat → List Int
  | [] => []
  | b :: l => encB b ++ batsB l
theorem batsB_append : ∀ (l m : List Bat), batsB (l ++ m) = batsB l ++ batsB m
  | [], _ => rfl
  | b :: l, m => by simp [batsB, batsB_append l m]
theorem batsB_one (b : Bat) : batsB [b] = encB b := by simp [batsB]
theorem batsB_ok : ∀ (l : List Bat), okB (batsB l)
  | [] => okB.nil
  | b :: l => (encB_ok b).append (batsB_ok l)
theorem batsB_len : ∀ (l : List Bat), (∀ b ∈ l, okBat b) → (batsB l).length ≤ 130000 * l.length
  | [], _ => by simp [batsB]
  | b :: l, h => by
    have h1 := encB_len (h b (by simp))
    have h2 := batsB_len l (fun q hq => h q (by simp [hq]))
    simp only [batsB, List.length_append, List.length_cons]
    omega
def enc7 (m : Rpc) : List Int :=
  intB m.From ++ (intB m.To ++ (intB m.Term ++ (cF (hasM m.Kind 1) m.Pre ++ (cF (hasM m.Kind 2) m.Ok ++ (cI (hasM m.Kind 4) m.Leader ++ (cI (hasM m.Kind 8) m.At ++ (cI (hasM m.Kind 8) m.AtTerm ++ (cI (hasM m.Kind 16) m.High ++ (cI (hasM m.Kind 32) m.Code ++ (cI (hasM m.Kind 128) m.Size ++ (cI (hasM m.Kind 256) m.Pos ++ (cD (decide (m.Kind = 8)) m.Data ++ (cI (hasM m.Kind 64) (m.Batches.length : Int) ++ batsB m.Batches)))))))))))))
theorem enc7_ok {m : Rpc} (h : okB m.Data) : okB (enc7 m) := (intB_ok _).append ((intB_ok _).append ((intB_ok _).append ((cF_ok _ _).append ((cF_ok _ _).append ((cI_ok _ _).append ((cI_ok _ _).append ((cI_ok _ _).append ((cI_ok _ _).append ((cI_ok _ _).append ((cI_ok _ _).append ((cI_ok _ _).append ((cD_ok _ h).append ((cI_ok _ _).append (batsB_ok _))))))))))))))
def head6 (m : Rpc) : List Int :=
  [] ++ intB m.From ++ intB m.To ++ intB m.Term ++ cF (hasM m.Kind 1) m.Pre ++ cF (hasM m.Kind 2) m.Ok ++ cI (hasM m.Kind 4) m.Leader ++ cI (hasM m.Kind 8) m.At ++ cI (hasM m.Kind 8) m.AtTerm ++ cI (hasM m.Kind 16) m.High ++ cI (hasM m.Kind 32) m.Code ++ cI (hasM m.Kind 128) m.Size ++ cI (hasM m.Kind 256) m.Pos ++ cD (decide (m.Kind = 8)) m.Data
def head7 (m : Rpc) : List Int := head6 m ++ cI (hasM m.Kind 64) (m.Batches.length : Int)
theorem cI_f (n : Int) : cI false n = [] := rfl
theorem cI_t (n : Int) : cI true n = intB n := rfl
theorem head7_enc (m : Rpc) : head7 m ++ batsB m.Batches = enc7 m := by
  unfold head7 head6 enc7
  simp only [List.append_assoc, List.nil_append]
theorem head7_len {m : Rpc} (h : okRpc m) : (head7 m).length ≤ 1000 := by
  have h1 := (intB_len m.From).1
  have h2 := (intB_len m.To).1
  have h3 := (intB_len m.Term).1
  have h4 := cF_len (hasM m.Kind 1) m.Pre
  have h5 := cF_len (hasM m.Kind 2) m.Ok
  have h6 := cI_len (hasM m.Kind 4) m.Leader
  have h7 := cI_len (hasM m.Kind 8) m.At
  have h8 := cI_len (hasM m.Kind 8) m.AtTerm
  have h9 := cI_len (hasM m.Kind 16) m.High
  have h10 := cI_len (hasM m.Kind 32) m.Code
  have h11 := cI_len (hasM m.Kind 128) m.Size
  have h12 := cI_len (hasM m.Kind 256) m.Pos
  have h13 := cD_len (decide (m.Kind = 8)) m.Data
  have h14 := cI_len (hasM m.Kind 64) (m.Batches.length : Int)
  have hd := (data7 h.data).1
  unfold head7 head6
  simp only [List.length_append, List.length_nil]
  omega
/-! ### put -/
theorem pI7 {bit n k : Int} {b : List Int} (hn : n ≤ 9223372036854775807) (hb : b.length ≤ 2000000) : f_rpc_Put_1 bit n (aboutM k) b = some (b ++ cI (hasM k bit) n) := by
  unfold f_rpc_Put_1
  show (if hasM k bit = true then _ else _) = _
  unfold cI
  cases hasM k bit
  · simp
  · simp only [if_true]
    rw [wint_eq b n hn (by omega)]
    rfl
theorem pF7 {bit k : Int} {b : List Int} {x : Bool} (hb : b.length ≤ 2000000) : (if (decide ((andI .i64 (aboutM k) bit) ≠ (0 : Int))) = true then ((f_wire_Flag b x).bind fun (r102 : (List Int)) => (some r102)) else (some b)) = some (b ++ cF (hasM k bit) x) := by
  show (if hasM k bit = true then _ else _) = _
  unfold cF
  cases hasM k bit
  · simp
  · simp only [if_true]
    rw [wflag_eq b _ (by omega)]
    rfl
theorem pD7 {k : Int} {b d : List Int} (hd : d.length ≤ 1000000) (hb : b.length ≤ 2000000) : (if (decide (k = (8 : Int))) = true then ((f_wire_Text b d).bind fun (r161 : (List Int)) => (some r161)) else (some b)) = some (b ++ cD (decide (k = 8)) d) := by
  unfold cD
  cases decide (k = 8)
  · simp
  · simp only [if_true]
    rw [wtext_eq b _ (by omega)]
    rfl
theorem put7_loop {m : Rpc} (h : okRpc m) {pre : List Int} (hp : pre.length ≤ 1000) : ∀ (d i : Nat), i + d = m.Batches.length → (∀ j (h : j < m.Batches.length), j < i → (encB m.Batches[j]).length ≤ 16384) →
    (iter (f_rpc_Put_l0 m) ((i : Int), pre ++ batsB (m.Batches.take i)) = some (.inl (pre ++ batsB m.Batches)) ∧ ∀ b ∈ m.Batches, (encB b).length ≤ 16384) ∨
    ∃ (j : Nat) (hj : j < m.Batches.length) (l : List Int), 16384 < (encB m.Batches[j]).length ∧ (∀ i (h : i < m.Batches.length), i < j → (encB m.Batches[i]).length ≤ 16384) ∧
      iter (f_rpc_Put_l0 m) ((i : Int), pre ++ batsB (m.Batches.take i)) = some (.inr (.fault batOp (j : Int) (.fault batOp ((encB m.Batches[j]).length : Int) (.code 6)), l))
  | 0, i, hi, hj => by
    have hm := many7 h.many
    refine .inl ⟨iter_stop ?_, fun b hb => ?_⟩
    · unfold f_rpc_Put_l0
      simp only
      rw [if_neg (fun z => absurd (of_decide_eq_true z) (by omega)), List.take_of_length_le (by omega)]
    · obtain ⟨j, hj', rfl⟩ := List.getElem_of_mem hb
      exact hj j hj' (by omega)
  | d + 1, i, hi, hj => by
    have hm := many7 h.many
    have hlt : i < m.Batches.length := by omega
    have hb := h.bats _ (List.getElem_mem hlt)
    have hle := batsB_len (m.Batches.take i) (fun r hr => h.bats r (List.mem_of_mem_take hr))
    have hle2 := encB_len hb
    rw [List.length_take] at hle
    by_cases g : 16384 < (encB m.Batches[i]).length
    · refine .inr ⟨i, hlt, pre ++ batsB (m.Batches.take i), g, hj, iter_stop ?_⟩
      unfold f_rpc_Put_l0
      simp only
      rw [if_pos (decide_eq_true (by omega)), grd_t (by omega), rdR hlt]
      refine (bindQ (put6 hb)).trans ?_
      rw [if_pos g]
      refine (if_pos (by rfl)).trans ?_
      exact (bindQ (wrapB _ _ rfl)).trans rfl
    · have hs : f_rpc_Put_l0 m ((i : Int), pre ++ batsB (m.Batches.take i)) = some (.inl (((i + 1 : Nat) : Int), pre ++ batsB (m.Batches.take (i + 1)))) := by
        unfold f_rpc_Put_l0
        simp only
        rw [if_pos (decide_eq_true (by omega)), grd_t (by omega), rdR hlt, w_i64 (by omega) (by omega)]
        refine (bindQ (put6 hb)).trans ?_
        rw [if_neg g]
        refine (if_neg Bool.false_ne_true).trans ?_
        refine (grd_t (show (pre ++ batsB (m.Batches.take i)).length + (encB m.Batches[i]).length ≤ 274877906944 by rw [List.length_append]; omega)).trans ?_
        rw [take_next hlt, batsB_append, batsB_one, List.append_assoc]
        rfl
      rw [iter_next hs]
      refine put7_loop h hp d (i + 1) (by omega) fun j hj' hji => ?_
      by_cases ej : j = i
      · subst ej; omega
      · exact hj j hj' (by omega)
abbrev mesOp : ByteArray := ⟨#[109, 101, 115, 115, 97, 103, 101]⟩
abbrev fz : T_api_Frame := ⟨0, []⟩
theorem put7 {m : Rpc} (h : okRpc m) :
    ((∀ b ∈ m.Batches, (encB b).length ≤ 16384) ∧ f_rpc_Put m = some (if 16384 < (enc7 m).length then (fz, .fault mesOp ((enc7 m).length : Int) (.code 6)) else (⟨m.Kind, enc7 m⟩, .nil))) ∨
    ∃ (j : Nat) (hj : j < m.Batches.length), 16384 < (encB m.Batches[j]).length ∧ (∀ i (h : i < m.Batches.length), i < j → (encB m.Batches[i]).length ≤ 16384) ∧ f_rpc_Put m = some (fz, .fault batOp (j : Int) (.fault batOp ((encB m.Batches[j]).length : Int) (.code 6))) := by
  have hm := many7 h.many
  have hf := from7 h.from_
  have ht := term7 h.term
  have hd := (data7 h.data).1
  have m4 := (numW_b (notF h.lead) (by decide) (by decide)).2
  have m5 := (numW_b (place7 h.place).1 (by decide) (by decide)).2
  have m6 := (numW_b (place7 h.place).2 (by decide) (by decide)).2
  have m7 := (numW_b (notF h.high) (by decide) (by decide)).2
  have m8 := (numW_b (notF h.code) (by decide) (by decide)).2
  have m9 := (numW_b (place7 h.size).1 (by decide) (by decide)).2
  have m10 := (numW_b (place7 h.size).2 (by decide) (by decide)).2
  have h1 := (intB_len m.From).1
  have h2 := (intB_len m.To).1
  have h3 := (intB_len m.Term).1
  have h4 := cF_len (hasM m.Kind 1) m.Pre
  have h5 := cF_len (hasM m.Kind 2) m.Ok
  have h6 := cI_len (hasM m.Kind 4) m.Leader
  have h7 := cI_len (hasM m.Kind 8) m.At
  have h8 := cI_len (hasM m.Kind 8) m.AtTerm
  have h9 := cI_len (hasM m.Kind 16) m.High
  have h10 := cI_len (hasM m.Kind 32) m.Code
  have h11 := cI_len (hasM m.Kind 128) m.Size
  have h12 := cI_len (hasM m.Kind 256) m.Pos
  have h13 := cD_len (decide (m.Kind = 8)) m.Data
  have hl := head7_len h
  have key : ∀ (X : Option ((List Int) ⊕ (GErr × List Int))), iter (f_rpc_Put_l0 m) ((0 : Int), head7 m) = X → f_rpc_Put m =
      ((X.bind (Sum.elim (fun (x178 : (List Int)) => (some (Sum.inl x178))) (fun (x179, x180) => (((some ((⟨(0 : Int), []⟩ : T_api_Frame), x179))).bind fun r => some (Sum.inr r))))) : Option ((List Int) ⊕ (T_api_Frame × GErr))).bind (Sum.elim (fun (x173 : (List Int)) => (if (decide ((16384 : Int) < (x173.length : Int))) = true then ((f_fault_New (⟨#[109, 101, 115, 115, 97, 103, 101]⟩ : ByteArray) (x173.length : Int) (6 : Int)).bind fun (r210 : GErr) => (some ((⟨(0 : Int), []⟩ : T_api_Frame), r210))) else (some ((⟨m.Kind, x173⟩ : T_api_Frame), GErr.nil)))) some) := by
    intro X hX
    unfold f_rpc_Put
    refine (bindQ (check7_okP h)).trans ?_
    refine (if_neg Bool.false_ne_true).trans ?_
    refine (bindQ (about_eqM h.kind)).trans ?_
    refine (bindQ (y := [] ++ intB m.From ++ intB m.To ++ intB m.Term) ?_).trans ?_
    · refine (bindQ (wint_eq [] _ (by omega) (by simp))).trans ?_
      refine (bindQ (wint_eq _ _ (by omega) (by rw [List.nil_append]; omega))).trans ?_
      exact (bindQ (wint_eq _ _ (by omega) (by rw [List.nil_append, List.length_append]; omega))).trans rfl
    refine (bindQ (pF7 (by simp only [List.length_append, List.length_nil]; omega))).trans ?_
    refine (bindQ (pF7 (by simp only [List.length_append, List.length_nil]; omega))).trans ?_
    refine (bindQ (pI7 (by omega) (by simp only [List.length_append, List.length_nil]; omega))).trans ?_
    refine (bindQ (pI7 (by omega) (by simp only [List.length_append, List.length_nil]; omega))).trans ?_
    refine (bindQ (pI7 (by omega) (by simp only [List.length_append, List.length_nil]; omega))).trans ?_
    refine (bindQ (pI7 (by omega) (by simp only [List.length_append, List.length_nil]; omega))).trans ?_
    refine (bindQ (pI7 (by omega) (by simp only [List.length_append, List.length_nil]; omega))).trans ?_
    refine (bindQ (pI7 (by omega) (by simp only [List.length_append, List.length_nil]; omega))).trans ?_
    refine (bindQ (pI7 (by omega) (by simp only [List.length_append, List.length_nil]; omega))).trans ?_
    refine (bindQ (pD7 (by omega) (by simp only [List.length_append, List.length_nil]; omega))).trans ?_
    refine (bindQ (pI7 (by omega) (by simp only [List.length_append, List.length_nil]; omega))).trans ?_
    rw [← hX]
    rfl
  have lo := put7_loop h hl m.Batches.length 0 (by omega) (fun j h q => by omega)
  have e0 : head7 m ++ batsB (m.Batches.take 0) = head7 m := List.append_nil _
  rw [e0, show ((0 : Nat) : Int) = 0 from rfl, head7_enc] at lo
  rcases lo with ⟨k1, k2⟩ | ⟨j, hj, l, g1, g2, k1⟩
  · refine .inl ⟨k2, ?_⟩
    rw [key _ k1]
    refine Eq.trans (b := (if (decide ((16384 : Int) < ((enc7 m).length : Int))) = true then ((f_fault_New mesOp ((enc7 m).length : Int) (6 : Int)).bind fun (r : GErr) => some (fz, r)) else some ((⟨m.Kind, enc7 m⟩ : T_api_Frame), GErr.nil))) rfl ?_
    by_cases g : 16384 < (enc7 m).length
    · rw [if_pos g]
      exact (if_pos (decide_eq_true (by omega))).trans rfl
    · rw [if_neg g]
      exact if_neg (fun z => absurd (of_decide_eq_true z) (by omega))
  · refine .inr ⟨j, hj, g1, g2, ?_⟩
    rw [key _ k1]
    rfl
def mz : Rpc := ⟨0, 0, 0, 0, false, false, 0, 0, 0, 0, 0, [], 0, 0, []⟩
noncomputable def flagM (bit k : Int) (b : List Int) (a : Int) (e : GErr) : Option (Int × GErr × Bool) :=
  (if (decide ((andI .i64 (aboutM k) bit) ≠ (0 : Int))) = true then ((f_wire_Reader_Flag (⟨b, a, e⟩ : T_wire_Reader)).bind fun (r149, r150, r151) => (some (r150, r151, r149))) else (some (a, e, false)))
noncomputable def textM (k : Int) (b : List Int) (a : Int) (e : GErr) : Option ((List Int) × Int × GErr) :=
  (if (decide (k = (8 : Int))) = true then ((f_wire_Reader_Text (⟨b, a, e⟩ : T_wire_Reader) (512 : Int)).bind fun (r222, r223, r224) => (some (r222, r223, r224))) else (some ([], a, e)))
noncomputable def batsM (k : Int) (r : T_wire_Reader) (a : Int) (e : GErr) : Option ((List T_api_Batch) × Int × GErr) :=
  (if (decide ((andI .i64 (aboutM k) (64 : Int)) ≠ (0 : Int))) = true then ((f_wire_Reader_Int (⟨r.b, a, e⟩ : T_wire_Reader) (8 : Int)).bind fun (r234, r235, r236) => ((iter (f_rpc_Read_l0 r r234) ((0 : Int), r235, r236, [])).bind (fun (x246, x247, x248) => (some (x248, x246, x247))))) else (some ([], a, e)))
noncomputable def tail7 (m : Rpc) (b : List Int) (a : Int) (e : GErr) : Option (Rpc × GErr) :=
  ((f_wire_Reader_End (⟨b, a, e⟩ : T_wire_Reader)).bind fun (r277, r278) => (if (!r277.isNil) = true then (some (mz, r277)) else ((f_rpc_Check m).bind fun (r286 : GErr) => (if (!r286.isNil) = true then (some (mz, r286)) else (some (m, GErr.nil))))))
abbrev at0 : Int := ((([] : List Int).length : Nat) : Int)
theorem read7_eq {k : Int} (hk : 1 ≤ k ∧ k ≤ 8) (b : List Int) {v1 v2 v3 v6 v7 v8 v9 v10 v11 v12 a1 a2 a3 a4 a5 a6 a7 a8 a9 a10 a11 a12 a13 a14 : Int} {e1 e2 e3 e4 e5 e6 e7 e8 e9 e10 e11 e12 e13 e14 : GErr} {v4 v5 : Bool} {v13 : List Int} {l : List Bat}
    (h1 : f_wire_Reader_Int ⟨b, at0, .nil⟩ 1073741824 = some (v1, a1, e1)) (h2 : f_wire_Reader_Int ⟨b, a1, e1⟩ 1073741824 = some (v2, a2, e2)) (h3 : f_wire_Reader_Int ⟨b, a2, e2⟩ 1073741824 = some (v3, a3, e3))
    (h4 : flagM 1 k b a3 e3 = some (a4, e4, v4)) (h5 : flagM 2 k b a4 e4 = some (a5, e5, v5)) (h6 : f_rpc_Read_1 4 (aboutM k) ⟨b, a5, e5⟩ = some (v6, a6, e6)) (h7 : f_rpc_Read_1 8 (aboutM k) ⟨b, a6, e6⟩ = some (v7, a7, e7)) (h8 : f_rpc_Read_1 8 (aboutM k) ⟨b, a7, e7⟩ = some (v8, a8, e8))
    (h9 : f_rpc_Read_1 16 (aboutM k) ⟨b, a8, e8⟩ = some (v9, a9, e9)) (h10 : f_rpc_Read_1 32 (aboutM k) ⟨b, a9, e9⟩ = some (v10, a10, e10)) (h11 : f_rpc_Read_1 128 (aboutM k) ⟨b, a10, e10⟩ = some (v11, a11, e11)) (h12 : f_rpc_Read_1 256 (aboutM k) ⟨b, a11, e11⟩ = some (v12, a12, e12))
    (h13 : textM k b a12 e12 = some (v13, a13, e13)) (h14 : batsM k ⟨b, at0, .nil⟩ a13 e13 = some (l, a14, e14)) : f_rpc_Read ⟨k, b⟩ = tail7 ⟨k, v1, v2, v3, v4, v5, v6, v7, v8, v9, v10, l, v11, v12, v13⟩ b a14 e14 := by
  unfold f_rpc_Read
  refine (bindQ (y := false) (or2_f (by show ¬ k < 1 ∧ ¬ 8 < k; omega))).trans ?_
  refine (if_neg Bool.false_ne_true).trans ?_
  refine (bindQ (wread_eq b)).trans ?_
  refine (bindQ (about_eqM hk)).trans ?_
  refine (bindQ (y := (k, v1, v2, v3, false, false, 0, 0, 0, 0, 0, [], 0, 0, [], a3, e3)) ?_).trans ?_
  · refine (bindQ h1).trans ?_
    refine (bindQ h2).trans ?_
    exact (bindQ h3).trans rfl
  refine (bindQ h4).trans ?_
  refine (bindQ h5).trans ?_
  refine (bindQ h6).trans ?_
  refine (bindQ h7).trans ?_
  refine (bindQ h8).trans ?_
  refine (bindQ h9).trans ?_
  refine (bindQ h10).trans ?_
  refine (bindQ h11).trans ?_
  refine (bindQ h12).trans ?_
  refine (bindQ h13).trans ?_
  refine (bindQ h14).trans ?_
  rfl
theorem read7_kind {k : Int} (hk : ¬ (1 ≤ k ∧ k ≤ 8)) (b : List Int) : f_rpc_Read ⟨k, b⟩ = some (mz, .fault ⟨#[107, 105, 110, 100]⟩ k (.code 5)) := by
  unfold f_rpc_Read
  exact (bindQ (y := true) (or2_t (by show k < 1 ∨ 8 < k; omega))).trans rfl
theorem hasM_f {k bit : Int} (h : hasM k bit = false) : decide (andI .i64 (aboutM k) bit = 0) = true := by
  unfold hasM at h
  exact decide_eq_true (Classical.byContradiction fun z => absurd (of_decide_eq_false h) (fun y => y z))
theorem hasM_tt {k bit : Int} (h : hasM k bit = true) : ¬ decide (andI .i64 (aboutM k) bit = 0) = true := by
  unfold hasM at h
  exact fun z => (of_decide_eq_true h) (of_decide_eq_true z)
theorem hasM_ff {k bit : Int} (h : hasM k bit = false) : ¬ decide (andI .i64 (aboutM k) bit ≠ 0) = true := fun z => by have : hasM k bit = true := z; rw [h] at this; cases this
theorem m1F {k bit : Int} (h : hasM k bit = false) (b : List Int) (a : Int) (e : GErr) : f_rpc_Read_1 bit (aboutM k) ⟨b, a, e⟩ = some (0, a, e) := by
  unfold f_rpc_Read_1; exact if_pos (hasM_f h)
theorem m1T {k bit : Int} (h : hasM k bit = true) {b : List Int} {a : Int} {e : GErr} {v a' : Int} {e' : GErr} (q : f_wire_Reader_Int ⟨b, a, e⟩ 1073741824 = some (v, a', e')) : f_rpc_Read_1 bit (aboutM k) ⟨b, a, e⟩ = some (v, a', e') := by
  unfold f_rpc_Read_1; exact (if_neg (hasM_tt h)).trans ((bindQ q).trans rfl)
theorem mfF {k bit : Int} (h : hasM k bit = false) (b : List Int) (a : Int) (e : GErr) : flagM bit k b a e = some (a, e, false) := by
  unfold flagM; exact if_neg (hasM_ff h)
theorem mfT {k bit : Int} (h : hasM k bit = true) {b : List Int} {a : Int} {e : GErr} {v : Bool} {a' : Int} {e' : GErr} (q : f_wire_Reader_Flag ⟨b, a, e⟩ = some (v, a', e')) : flagM bit k b a e = some (a', e', v) := by
  unfold flagM; exact (if_pos h).trans ((bindQ q).trans rfl)
theorem mbF {k : Int} (h : hasM k 64 = false) (r : T_wire_Reader) (a : Int) (e : GErr) : batsM k r a e = some ([], a, e) := by
  unfold batsM; exact if_neg (hasM_ff h)
theorem mbT {k : Int} (h : hasM k 64 = true) {r : T_wire_Reader} {a : Int} {e : GErr} {v a' a2 : Int} {e' e2 : GErr} {l : List Bat} (q : f_wire_Reader_Int ⟨r.b, a, e⟩ 8 = some (v, a', e')) (q2 : iter (f_rpc_Read_l0 r v) ((0 : Int), a', e', []) = some (a2, e2, l)) : batsM k r a e = some (l, a2, e2) := by
  unfold batsM; exact (if_pos h).trans ((bindQ q).trans ((bindQ q2).trans rfl))
theorem read7_step (r : T_wire_Reader) (n : Int) {b : List Int} (hb : r.b = b) {i : Nat} {l : List Bat} {a : Int} (hi : (i : Int) < n) (hn : n ≤ 8) (hl : l.length = i) {x : Bat} {a' : Int} {e' : GErr} (h : f_batch_Next ⟨b, a, .nil⟩ = some (x, a', e')) :
    f_rpc_Read_l0 r n ((i : Int), a, .nil, l) = some (.inl (((i + 1 : Nat) : Int), a', e', l ++ [x])) := by
  unfold f_rpc_Read_l0
  simp only
  refine (bindQ (y := true) ?_).trans ?_
  · exact (if_pos (decide_eq_true hi)).trans rfl
  refine (if_pos rfl).trans ?_
  rw [hb]
  refine (bindQ h).trans ?_
  refine (grd_t (by show l.length + 1 ≤ _; omega)).trans ?_
  rw [w_i64 (by omega) (by omega)]
  rfl
theorem read7_end (r : T_wire_Reader) (n : Int) {i : Nat} {l : List Bat} {a : Int} {e : GErr} (h : ¬ (i : Int) < n ∨ e.isNil = false) : f_rpc_Read_l0 r n ((i : Int), a, e, l) = some (.inr (a, e, l)) := by
  unfold f_rpc_Read_l0
  simp only
  refine (bindQ (y := false) ?_).trans (if_neg (by decide))
  by_cases g : (i : Int) < n
  · have he : e.isNil = false := h.resolve_left (fun q => q g)
    refine (if_pos (decide_eq_true g)).trans ?_
    exact (bindQ (y := e) rfl).trans (by rw [he])
  · exact if_neg (fun z => g (of_decide_eq_true z))
/-! ### what is put is read -/
section
variable {b pre post : List Int} {k bit : Int}
theorem bI7 (hb : okB b) (hl : b.length ≤ 1000000) {n c : Int} (hn : numW n (hasM k bit) 0 c = true) (hc : c ≤ 1073741824) (e : b = pre ++ (cI (hasM k bit) n ++ post)) : f_rpc_Read_1 bit (aboutM k) ⟨b, (pre.length : Int), .nil⟩ = some (n, ((pre ++ cI (hasM k bit) n).length : Int), .nil) := by
  cases hf : hasM k bit
  · rw [hf] at hn
    have : n = 0 := (numW_t hn).2 rfl
    subst this
    rw [m1F hf, cI_f, List.append_nil]
  · rw [hf] at hn e
    have hn := (numW_t hn).1 rfl
    exact m1T hf (backI hb hl (m := 1073741824) e (by omega) (by unfold top; omega) (by omega) (by decide))
theorem bF7 (hb : okB b) (hl : b.length ≤ 1000000) {x : Bool} (hx : hasM k bit = false → x = false) (e : b = pre ++ (cF (hasM k bit) x ++ post)) : flagM bit k b (pre.length : Int) .nil = some (((pre ++ cF (hasM k bit) x).length : Int), .nil, x) := by
  cases hf : hasM k bit
  · rw [hx hf, mfF hf]
    show _ = some (((pre ++ []).length : Int), _, _)
    rw [List.append_nil]
  · rw [hf] at e
    exact mfT hf (backF hb hl e)
theorem bD7 (hb : okB b) (hl : b.length ≤ 1000000) {d : List Int} (hd : d.length ≤ 512) (hx : k ≠ 8 → d = []) (e : b = pre ++ (cD (decide (k = 8)) d ++ post)) : textM k b (pre.length : Int) .nil = some (d, ((pre ++ cD (decide (k = 8)) d).length : Int), .nil) := by
  unfold textM
  by_cases g : k = 8
  · rw [decide_eq_true g] at e ⊢
    refine (if_pos rfl).trans ?_
    exact (bindQ (backT hb hl (m := 512) e (by omega) (by decide))).trans rfl
  · rw [hx g, decide_eq_false g]
    show some ([], _, _) = some ([], ((pre ++ []).length : Int), _)
    rw [List.append_nil]
end
theorem back7_loop {b : List Int} (hb : okB b) (hl : b.length ≤ 1000000) (r : T_wire_Reader) (hr : r.b = b) {L : List Bat} (hL : L.length ≤ 8) (hc : ∀ x ∈ L, okBat x ∧ (encB x).length ≤ 16384) {pre post : List Int} : ∀ (d i : Nat), i + d = L.length → b = (pre ++ batsB (L.take i)) ++ (batsB (L.drop i) ++ post) →
    iter (f_rpc_Read_l0 r (L.length : Int)) ((i : Int), ((pre ++ batsB (L.take i)).length : Int), .nil, L.take i) = some (((pre ++ batsB L).length : Int), .nil, L)
  | 0, i, hi, e => by
    rw [iter_stop (read7_end r _ (.inl (by omega))), List.take_of_length_le (by omega)]
  | d + 1, i, hi, e => by
    have hlt : i < L.length := by omega
    have e1 : b = (pre ++ batsB (L.take i)) ++ (encB L[i] ++ (batsB (L.drop (i + 1)) ++ post)) := by
      rw [e, List.drop_eq_getElem_cons hlt]
      simp only [batsB, List.append_assoc]
    have hx := hc _ (List.getElem_mem hlt)
    have h1 := next6_back hx.1 hx.2 hb hl e1
    have e2 : (pre ++ batsB (L.take i)) ++ encB L[i] = pre ++ batsB (L.take (i + 1)) := by rw [take_next hlt, batsB_append, batsB_one, List.append_assoc]
    rw [e2] at h1
    rw [iter_next (read7_step r _ hr (by omega) (by omega) (by rw [List.length_take]; omega) h1), ← take_next hlt]
    refine back7_loop hb hl r hr hL hc (pre := pre) (post := post) d (i + 1) (by omega) ?_
    rw [e1, ← e2]
    simp only [List.append_assoc]
theorem read7_back {m : Rpc} (h : okRpc m) (hD : okB m.Data) (hs : ∀ x ∈ m.Batches, (encB x).length ≤ 16384) (hlen : (enc7 m).length ≤ 16384) {b : List Int} (eb : b = enc7 m) : f_rpc_Read ⟨m.Kind, b⟩ = some (m, .nil) := by
  have hb : okB b := by rw [eb]; exact enc7_ok hD
  have hl : b.length ≤ 1000000 := by rw [eb]; omega
  have hm := many7 h.many
  have hf := from7 h.from_
  have ht := term7 h.term
  have hd := data7 h.data
  have hg := flag7 h.flag
  have tp : (1073741824 : Int) ≤ top := by decide
  have p0 : b = [] ++ (intB m.From ++ (intB m.To ++ (intB m.Term ++ (cF (hasM m.Kind 1) m.Pre ++ (cF (hasM m.Kind 2) m.Ok ++ (cI (hasM m.Kind 4) m.Leader ++ (cI (hasM m.Kind 8) m.At ++ (cI (hasM m.Kind 8) m.AtTerm ++ (cI (hasM m.Kind 16) m.High ++ (cI (hasM m.Kind 32) m.Code ++ (cI (hasM m.Kind 128) m.Size ++ (cI (hasM m.Kind 256) m.Pos ++ (cD (decide (m.Kind = 8)) m.Data ++ (cI (hasM m.Kind 64) (m.Batches.length : Int) ++ (batsB m.Batches ++ []))))))))))))))) := by rw [eb]; unfold enc7; rw [List.nil_append, List.append_nil]
  have p1 := nxt p0
  have p2 := nxt p1
  have p3 := nxt p2
  have p4 := nxt p3
  have p5 := nxt p4
  have p6 := nxt p5
  have p7 := nxt p6
  have p8 := nxt p7
  have p9 := nxt p8
  have p10 := nxt p9
  have p11 := nxt p10
  have p12 := nxt p11
  have p13 := nxt p12
  have p14 := nxt p13
  have h1 := backI hb hl (m := 1073741824) p0 (by omega) (by omega) (by omega) (by decide)
  have h2 := backI hb hl (m := 1073741824) p1 (by omega) (by omega) (by omega) (by decide)
  have h3 := backI hb hl (m := 1073741824) p2 (by omega) (by omega) (by omega) (by decide)
  have h4 := bF7 hb hl hg.1 p3
  have h5 := bF7 hb hl hg.2 p4
  have h6 := bI7 hb hl (notF h.lead) (by decide) p5
  have h7 := bI7 hb hl (place7 h.place).1 (by decide) p6
  have h8 := bI7 hb hl (place7 h.place).2 (by decide) p7
  have h9 := bI7 hb hl (notF h.high) (by decide) p8
  have h10 := bI7 hb hl (notF h.code) (by decide) p9
  have h11 := bI7 hb hl (place7 h.size).1 (by decide) p10
  have h12 := bI7 hb hl (place7 h.size).2 (by decide) p11
  have h13 := bD7 hb hl hd.1 hd.2 p12
  have q13 : b = head6 m ++ (cI (hasM m.Kind 64) (m.Batches.length : Int) ++ (batsB m.Batches ++ [])) := by unfold head6; exact p13
  have q14 : b = head7 m ++ (batsB m.Batches ++ []) := by unfold head7 head6; exact p14
  have h14 : batsM m.Kind ⟨b, at0, .nil⟩ ((head6 m).length : Int) .nil = some (m.Batches, ((b.length : Nat) : Int), .nil) := by
    cases hf : hasM m.Kind 64
    · have e0 := hm.2 hf
      have e1 : b.length = (head6 m).length := by
        have := congrArg List.length q13
        rw [hf, cI_f, e0] at this
        simpa [batsB] using this
      rw [mbF hf, e0, e1]
    · have e1 : head7 m = head6 m ++ intB (m.Batches.length : Int) := by unfold head7; rw [hf, cI_t]
      rw [hf, cI_t] at q13
      have hI := backI hb hl (m := 8) q13 (by omega) (by unfold top; omega) (by omega) (by decide)
      rw [← e1] at hI
      have hlo := back7_loop hb hl ⟨b, at0, .nil⟩ rfl hm.1 (fun x hx => ⟨h.bats x hx, hs x hx⟩) (pre := head7 m) (post := []) m.Batches.length 0 (by omega) (by
        rw [List.take_zero, List.drop_zero]
        show b = (head7 m ++ []) ++ (batsB m.Batches ++ [])
        rw [List.append_nil (head7 m)]
        exact q14)
      have e2 : head7 m ++ batsB [] = head7 m := List.append_nil _
      rw [List.take_zero, e2, show ((0 : Nat) : Int) = 0 from rfl] at hlo
      have e3 : (head7 m ++ batsB m.Batches).length = b.length := by
        have := congrArg List.length q14
        rw [List.append_nil] at this
        exact this.symm
      rw [e3] at hlo
      exact mbT hf hI hlo
  rw [read7_eq h.kind b h1 h2 h3 h4 h5 h6 h7 h8 h9 h10 h11 h12 h13 h14]
  unfold tail7
  refine (bindQ (backE rfl)).trans ?_
  refine (if_neg Bool.false_ne_true).trans ?_
  exact (bindQ (check7_okP h)).trans rfl
/-! ### what is read was put so -/
section
variable {k bit : Int} {b : List Int} {a : Nat}
end
/-! ### not more than is waited for -/
/-! ### the same as itself -/
theorem all6_self (l : List Bat) (hl : l.length ≤ 1000000) (h : ∀ b ∈ l, f_ref06_Same b b = some true) : f_ref06_All l l = some true := by
  have go : ∀ (d i : Nat), i + d = l.length → iter (f_ref06_All_l0 l l) (i : Int) = some (.inl ()) := by
    intro d
    induction d with
    | zero =>
      intro i h
      refine iter_stop ?_
      unfold f_ref06_All_l0
      simp only
      rw [if_neg (fun z => absurd (of_decide_eq_true z) (by omega))]
    | succ d ih =>
      intro i hi
      have hlt : i < l.length := by omega
      have e2 : f_ref06_All_l0 l l (i : Int) = some (.inl ((i + 1 : Nat) : Int)) := by
        unfold f_ref06_All_l0
        simp only
        rw [if_pos (decide_eq_true (by omega)), grd_t (by omega), grd_t (by omega), rdR hlt, w_i64 (by omega) (by omega)]
        exact (bindQ (h _ (List.getElem_mem hlt))).trans rfl
      rw [iter_next e2]
      exact ih (i + 1) (by omega)
  have := go l.length 0 (by omega)
  rw [show ((0 : Nat) : Int) = 0 from rfl] at this
  unfold f_ref06_All
  refine (if_neg (by simp)).trans ?_
  rw [this]
  rfl
theorem same7_self {m : Rpc} (hd : m.Data.length ≤ 1000000) (hl : m.Batches.length ≤ 1000000) (h : ∀ b ∈ m.Batches, f_ref06_Same b b = some true) : f_ref07_Same m m = some true := by
  unfold f_ref07_Same
  refine (bindQ (y := false) (by simp)).trans ?_
  refine (if_neg Bool.false_ne_true).trans ?_
  refine (bindQ (y := false) (by simp)).trans ?_
  refine (if_neg Bool.false_ne_true).trans ?_
  refine (bindQ (y := true) ?_).trans rfl
  refine (bindQ (rsame_eq _ (by omega))).trans ?_
  refine (if_pos rfl).trans ?_
  exact (bindQ (all6_self _ hl h)).trans rfl
theorem same7_zero : f_ref07_Same mz mz = some true := same7_self (by decide) (by decide) (fun b hb => by cases hb)
/-! ### the example -/
def b7 : Bat := ⟨3, 6, [q1]⟩
def mw : Rpc := ⟨4, 1, 2, 3, false, false, 1, 5, 2, 4, 0, [b7], 0, 0, []⟩
def mb : Rpc := ⟨1, 1, 1, 0, false, false, 0, 0, 0, 0, 0, [], 0, 0, []⟩
theorem okb7 : okBat b7 := ⟨by decide, by decide, by decide, fun r hr => by
  rw [show b7.Records = [q1] from rfl, List.mem_singleton] at hr
  subst hr
  exact checkQ1⟩
theorem lenb7 : (encB b7).length ≤ 3000 := by
  have h1 := (intB_len b7.Term).1
  have h2 := (intB_len b7.Base).1
  have h3 := (intB_len (b7.Records.length : Int)).1
  have h4 := recsB_len b7.Records okb7.recs
  have h5 : b7.Records.length = 1 := rfl
  unfold encB
  simp only [List.length_append]
  omega
theorem memb7 {x : Bat} (h : x ∈ mw.Batches) : x = b7 := List.mem_singleton.1 h
theorem okmw : okRpc mw := ⟨by decide, rfl, rfl, rfl, rfl, rfl, rfl, rfl, rfl, rfl, rfl, fun x hx => by rw [memb7 hx]; exact okb7⟩
theorem lenmw : (enc7 mw).length ≤ 16384 := by
  have h1 := head7_len okmw
  have h2 := lenb7
  rw [← head7_enc, List.length_append]
  have : batsB mw.Batches = encB b7 := batsB_one b7
  rw [this]
  omega
theorem putmw : f_rpc_Put mw = some (⟨4, enc7 mw⟩, .nil) := by
  rcases put7 okmw with ⟨_, h⟩ | ⟨j, hj, h1, _⟩
  · rw [h, if_neg (by have := lenmw; omega)]
    rfl
  · exfalso
    have := lenb7
    rw [memb7 (List.getElem_mem hj)] at h1
    omega
theorem readmw : f_rpc_Read ⟨4, enc7 mw⟩ = some (mw, .nil) := read7_back (m := mw) okmw okB.nil (fun x hx => by rw [memb7 hx]; have := lenb7; omega) lenmw rfl
theorem sameb7 : f_batch_Same b7 b7 = some true := by
  have s0 : f_slices_EqualFunc_api_Record_api_Record_api_Record_api_Record_79_l0 [q1] [q1] (0 : Int) = some (.inl 1) := by
    unfold f_slices_EqualFunc_api_Record_api_Record_api_Record_api_Record_79_l0
    refine (if_pos (by rfl)).trans ?_
    refine (grd_t (by decide)).trans ?_
    refine (grd_t (by decide)).trans ?_
    exact (bindQ sameQ1).trans rfl
  have s1 : f_slices_EqualFunc_api_Record_api_Record_api_Record_api_Record_79_l0 [q1] [q1] (1 : Int) = some (.inr (.inl ())) := rfl
  have e : f_slices_EqualFunc_api_Record_api_Record_api_Record_api_Record_79 [q1] [q1] = some true := by
    unfold f_slices_EqualFunc_api_Record_api_Record_api_Record_api_Record_79
    refine (if_neg (by decide)).trans ?_
    rw [iter_next s0, iter_stop s1]
    rfl
  unfold f_batch_Same
  refine (bindQ (y := true) ?_).trans rfl
  refine (if_pos (by rfl)).trans ?_
  refine (if_pos (by rfl)).trans ?_
  exact (bindQ e).trans rfl
theorem eqByte : f_slices_Equal_byte_byte [] [] = some true := by
  unfold f_slices_Equal_byte_byte
  refine (if_neg (by decide)).trans ?_
  rw [iter_stop (show f_slices_Equal_byte_byte_l0 [] [] (0 : Int) = some (.inr (.inl ())) from rfl)]
  rfl
theorem samemw : f_rpc_Same mw mw = some true := by
  have s0 : f_slices_EqualFunc_api_Batch_api_Batch_api_Batch_api_Batch_53_l0 [b7] [b7] (0 : Int) = some (.inl 1) := by
    unfold f_slices_EqualFunc_api_Batch_api_Batch_api_Batch_api_Batch_53_l0
    refine (if_pos (by rfl)).trans ?_
    refine (grd_t (by decide)).trans ?_
    refine (grd_t (by decide)).trans ?_
    exact (bindQ sameb7).trans rfl
  have s1 : f_slices_EqualFunc_api_Batch_api_Batch_api_Batch_api_Batch_53_l0 [b7] [b7] (1 : Int) = some (.inr (.inl ())) := rfl
  have e : f_slices_EqualFunc_api_Batch_api_Batch_api_Batch_api_Batch_53 [b7] [b7] = some true := by
    unfold f_slices_EqualFunc_api_Batch_api_Batch_api_Batch_api_Batch_53
    refine (if_neg (by decide)).trans ?_
    rw [iter_next s0, iter_stop s1]
    rfl
  unfold f_rpc_Same
  refine (bindQ (y := true) ?_).trans rfl
  refine (bindQ (y := [4, 1, 2, 3, 1, 5, 2, 4, 0, 0, 0]) rfl).trans ?_
  refine (bindQ (y := [4, 1, 2, 3, 1, 5, 2, 4, 0, 0, 0]) rfl).trans ?_
  refine (if_pos (by simp [andL])).trans ?_
  refine (if_pos (by rfl)).trans ?_
  refine (if_pos (by rfl)).trans ?_
  refine (bindQ eqByte).trans ?_
  refine (if_pos rfl).trans ?_
  exact (bindQ e).trans rfl
theorem samemz : f_rpc_Same mw mz = some false := by
  unfold f_rpc_Same
  refine (bindQ (y := false) ?_).trans rfl
  refine (bindQ (y := [4, 1, 2, 3, 1, 5, 2, 4, 0, 0, 0]) rfl).trans ?_
  refine (bindQ (y := [0, 0, 0, 0, 0, 0, 0, 0, 0, 0, 0]) rfl).trans ?_
  exact if_neg (by simp [andL, rd])
theorem checkmb : f_rpc_Check mb = some (.fault ⟨#[102, 114, 111, 109]⟩ 1 (.code 2)) := by
  rw [prog7 (by decide)]
  rfl
theorem copymw : f_rpc_Copy mw = some mw := by
  have hof : f_batch_Copy b7 = some b7 := by
    unfold f_batch_Copy
    exact (bindQ (of6 3 6 [q1] (by decide) (fun r hr => by rw [List.mem_singleton] at hr; subst hr; exact shortR_ok checkQ1))).trans rfl
  have s0 : f_rpc_Copy_l0 mw ([], (0 : Int)) = some (.inl ([b7], 1)) := by
    unfold f_rpc_Copy_l0
    refine (if_pos (by rfl)).trans ?_
    refine (grd_t (by decide)).trans ?_
    refine (bindQ hof).trans ?_
    exact grd_t (show 0 + 1 ≤ 274877906944 by decide)
  have s1 : f_rpc_Copy_l0 mw ([b7], (1 : Int)) = some (.inr [b7]) := rfl
  unfold f_rpc_Copy
  refine (bindQ (clone_eq [] (by decide))).trans ?_
  refine (bindQ (y := [b7]) ?_).trans rfl
  rw [iter_next s0, iter_stop s1]
  rfl
theorem works07 : f_law07_works = some true := by
  have h9 : f_rpc_Read ⟨9, []⟩ = some (mz, .fault ⟨#[107, 105, 110, 100]⟩ 9 (.code 5)) := read7_kind (by decide) []
  unfold f_law07_works
  refine (bindQ putmw).trans ?_
  refine (bindQ readmw).trans ?_
  refine (bindQ h9).trans ?_
  refine (bindQ (y := (true, [b7])) ?_).trans rfl
  refine (if_pos rfl).trans ?_
  refine (if_pos (by rfl)).trans ?_
  refine (if_pos rfl).trans ?_
  refine (bindQ samemw).trans ?_
  refine (if_pos rfl).trans ?_
  refine (bindQ (is_eq _ _)).trans ?_
  refine (if_pos (by rfl)).trans ?_
  refine (bindQ (check7_okP okmw)).trans ?_
  refine (if_pos rfl).trans ?_
  refine (bindQ checkmb).trans ?_
  refine (bindQ (is_eq _ _)).trans ?_
  refine (if_pos (by rfl)).trans ?_
  refine (bindQ copymw).trans ?_
  refine (bindQ samemw).trans ?_
  refine (if_pos rfl).trans ?_
  exact (bindQ samemz).trans rfl
/-! ### the laws -/
theorem has_runM {k l : Int} {s : ByteArray} {e : Unit ⊕ Unit} (h : f_ref07_has k l = (((iter (f_ref07_has_l0 l s) (0 : Int)).bind (Sum.elim (fun _ => (some (Sum.inl ()))) (fun _ => (((some true)).bind fun r => some (Sum.inr r))))) : Option (Unit ⊕ Bool)).bind (Sum.elim (fun _ => (some false)) some)) (n : Nat) (hr : runK n (f_ref07_has_l0 l s) 0 = some e) : f_ref07_has k l = some (match e with | .inl _ => false | .inr _ => true) := by
  rw [h, iter_run n hr]
  cases e <;> rfl
theorem has_eqM {k : Int} (h : 1 ≤ k ∧ k ≤ 8) : f_ref07_has k 97 = some (hasM k 1) ∧ f_ref07_has k 103 = some (hasM k 2) ∧ f_ref07_has k 108 = some (hasM k 4) ∧ f_ref07_has k 112 = some (hasM k 8) ∧ f_ref07_has k 104 = some (hasM k 16) ∧ f_ref07_has k 99 = some (hasM k 32) ∧ f_ref07_has k 98 = some (hasM k 64) ∧ f_ref07_has k 115 = some (hasM k 128) ∧ f_ref07_has k 111 = some (hasM k 256) ∧ f_ref07_has k 100 = some (decide (k = 8)) := by
  rcases kindsM h with rfl | rfl | rfl | rfl | rfl | rfl | rfl | rfl
  all_goals
    refine ⟨?_, ?_, ?_, ?_, ?_, ?_, ?_, ?_, ?_, ?_⟩
    all_goals first
      | exact (has_runM (e := .inr ()) rfl 8 rfl).trans (by decide +kernel)
      | exact (has_runM (e := .inl ()) rfl 8 rfl).trans (by decide +kernel)
theorem rnumM (n : Int) (h : Bool) (c : Int) : f_ref07_num n h c = some (numW n h 0 c) := by
  unfold f_ref07_num numW
  rw [num_if]
  cases h <;> rfl
theorem noA (o : ByteArray) (a c : Int) : f_ref07_no o a c = some ⟨⟨o, a, c⟩, -1⟩ := rfl
noncomputable def tailR (m : Rpc) : Option T_ref06_Wrong := ((((iter (f_ref07_Check_l0 m) (0 : Int)).bind (Sum.elim (fun _ => (some (Sum.inl ()))) (fun (x219, x220, x221, x222) => (((some (⟨(⟨x219, x220, x221⟩ : T_ref05_Wrong), x222⟩ : T_ref06_Wrong))).bind fun r => some (Sum.inr r))))) : Option (Unit ⊕ T_ref06_Wrong)).bind (Sum.elim (fun _ => (some (⟨(⟨(⟨#[]⟩ : ByteArray), (0 : Int), (0 : Int)⟩ : T_ref05_Wrong), (-1 : Int)⟩ : T_ref06_Wrong))) some))
theorem ref7 {m : Rpc} (h : 1 ≤ m.Kind ∧ m.Kind ≤ 8) : f_ref07_Check m =
    (if cFrom m = true then some ⟨⟨⟨#[102, 114, 111, 109]⟩, m.From, 2⟩, -1⟩ else if cTerm m = true then some ⟨⟨⟨#[116, 101, 114, 109]⟩, m.Term, 2⟩, -1⟩ else if cFlag m = true then some ⟨⟨⟨#[102, 108, 97, 103]⟩, 1, 1⟩, -1⟩ else
    if cLead m = true then some ⟨⟨⟨#[108, 101, 97, 100, 101, 114]⟩, m.Leader, 2⟩, -1⟩ else if cPlace m = true then some ⟨⟨⟨#[112, 108, 97, 99, 101]⟩, m.At, 2⟩, -1⟩ else if cHigh m = true then some ⟨⟨⟨#[104, 105, 103, 104]⟩, m.High, 2⟩, -1⟩ else
    if cCode m = true then some ⟨⟨⟨#[99, 111, 100, 101]⟩, m.Code, 2⟩, -1⟩ else if cSize m = true then some ⟨⟨⟨#[115, 105, 122, 101]⟩, m.Size, 2⟩, -1⟩ else if cData m = true then some ⟨⟨⟨#[100, 97, 116, 97]⟩, (m.Data.length : Int), 6⟩, -1⟩ else
    if cMany m = true then some ⟨⟨⟨#[98, 97, 116, 99, 104, 101, 115]⟩, (m.Batches.length : Int), 6⟩, -1⟩ else tailR m) := by
  obtain ⟨ha, hg, hl, hp, hh, hc, hb, hs, ho, hd⟩ := has_eqM h
  unfold f_ref07_Check
  refine (bindQ (kindC h)).trans ?_
  refine (if_neg Bool.false_ne_true).trans ?_
  simp only [ha, hg, hl, hp, hh, hc, hb, hs, ho, hd, rnumM, noA, Option.bind_some]
  refine (bindQ (y := cFrom m) (orS (orS (orS (orS rfl))))).trans ?_
  refine iteE rfl ?_
  refine (bindQ (y := cTerm m) (orS rfl)).trans ?_
  refine iteE rfl ?_
  refine (bindQ (y := cFlag m) ?_).trans ?_
  · unfold cFlag
    cases hasM m.Kind 1 <;> cases hasM m.Kind 2 <;> cases m.Pre <;> cases m.Ok <;> rfl
  refine iteE rfl ?_
  refine iteE rfl ?_
  refine (bindQ (y := cPlace m) (orS rfl)).trans ?_
  refine iteE rfl ?_
  refine iteE rfl ?_
  refine iteE rfl ?_
  refine (bindQ (y := cSize m) (orS rfl)).trans ?_
  refine iteE rfl ?_
  refine (bindQ (y := cData m) (orS ?_)).trans ?_
  · by_cases g : m.Kind = 8
    · rw [decide_eq_true g, decide_eq_false (show ¬ m.Kind ≠ 8 from fun q => q g)]
      cases decide ((0 : Int) < (m.Data.length : Int)) <;> rfl
    · rw [decide_eq_false g, decide_eq_true (show m.Kind ≠ 8 from g)]
      cases decide ((0 : Int) < (m.Data.length : Int)) <;> rfl
  refine iteE rfl ?_
  refine (bindQ (y := cMany m) (orS ?_)).trans ?_
  · cases hasM m.Kind 64 <;> cases decide ((0 : Int) < (m.Batches.length : Int)) <;> rfl
  exact iteE rfl rfl
def rel7 (w : T_ref06_Wrong) (e : GErr) : Prop := (w.W.Code = 0 ∧ e = .nil) ∨ (w.W.Code ≠ 0 ∧ e.isNil = false ∧ OfE e = w.W.Code ∧ WhereE e = (w.W.At, true) ∧ w.W.Op ∈ PathE e ∧ (PathE e).length ≤ 10)
theorem rel7_f {o : ByteArray} {a c : Int} (h : c ≠ 0) : rel7 ⟨⟨o, a, c⟩, -1⟩ (.fault o a (.code c)) := .inr ⟨h, rfl, rfl, rfl, by simp [PathE], by simp [PathE]⟩
theorem rel7_z : rel7 ⟨⟨⟨#[]⟩, 0, 0⟩, -1⟩ .nil := .inl ⟨rfl, rfl⟩
theorem rel7_w {w : T_ref06_Wrong} {e : GErr} (h : relE6 w e) (hw : w.W.Code ≠ 0) (i : Int) : rel7 ⟨⟨w.W.Op, i, w.W.Code⟩, -1⟩ (.fault batOp i e) := by
  unfold relE6 at h
  rw [if_neg hw] at h
  by_cases g : w.Record < 0
  · rw [if_pos g] at h
    subst h
    exact .inr ⟨hw, rfl, rfl, rfl, by simp [PathE], by simp [PathE]⟩
  · rw [if_neg g] at h
    obtain ⟨a, rfl⟩ := h
    exact .inr ⟨hw, rfl, rfl, rfl, by simp [PathE], by simp [PathE]⟩
theorem wrong7 {w : T_ref06_Wrong} {e : GErr} (h : rel7 w e) : f_law07_wrong e w = some true := by
  unfold f_law07_wrong
  rcases h with ⟨h1, rfl⟩ | ⟨h1, h2, h3, h4, h5, h6⟩
  · exact (if_pos rfl).trans (by rw [decide_eq_true h1])
  · refine (if_neg (by rw [h2]; decide)).trans ?_
    refine (bindQ (where_eq _)).trans ?_
    rw [h4]
    refine (bindQ (y := true) ?_).trans rfl
    refine (bindQ (of_eq _)).trans ?_
    refine (if_pos (decide_eq_true h3)).trans ?_
    refine (if_pos rfl).trans ?_
    refine (if_pos (decide_eq_true rfl)).trans ?_
    refine (bindQ (under_eq _ _ (by omega))).trans ?_
    simp [h5]
theorem check7_loop (m : Rpc) (hl : m.Batches.length ≤ 8) : ∀ (d i : Nat), i + d = m.Batches.length →
    (iter (f_ref07_Check_l0 m) (i : Int) = some (.inl ()) ∧ iter (f_rpc_Check_l0 m) (i : Int) = some (.inl ())) ∨
    ∃ (j : Int) (o : ByteArray) (c : Int) (e : GErr), iter (f_ref07_Check_l0 m) (i : Int) = some (.inr (o, j, c, -1)) ∧ iter (f_rpc_Check_l0 m) (i : Int) = some (.inr e) ∧ rel7 ⟨⟨o, j, c⟩, -1⟩ e
  | 0, i, h => by
    refine .inl ⟨iter_stop ?_, iter_stop ?_⟩
    · unfold f_ref07_Check_l0
      simp only
      rw [if_neg (fun z => absurd (of_decide_eq_true z) (by omega))]
    · unfold f_rpc_Check_l0
      simp only
      rw [if_neg (fun z => absurd (of_decide_eq_true z) (by omega))]
  | d + 1, i, h => by
    have hlt : i < m.Batches.length := by omega
    obtain ⟨w, e, h1, h2, h3, _⟩ := check6 m.Batches[i]
    have hz := relE6_nil h3
    by_cases g : w.W.Code = 0
    · have hn := hz.1 g
      rw [hn] at h2
      have hs1 : f_ref07_Check_l0 m (i : Int) = some (.inl ((i + 1 : Nat) : Int)) := by
        unfold f_ref07_Check_l0
        simp only
        rw [if_pos (decide_eq_true (by omega)), grd_t (by omega), rdR hlt, w_i64 (by omega) (by omega)]
        refine (bindQ h1).trans ?_
        exact (if_neg (by simp [g])).trans rfl
      have hs2 : f_rpc_Check_l0 m (i : Int) = some (.inl ((i + 1 : Nat) : Int)) := by
        unfold f_rpc_Check_l0
        simp only
        rw [if_pos (decide_eq_true (by omega)), grd_t (by omega), rdR hlt, w_i64 (by omega) (by omega)]
        exact (bindQ h2).trans rfl
      rw [iter_next hs1, iter_next hs2]
      exact check7_loop m hl d (i + 1) (by omega)
    · have hn := hz.2 g
      refine .inr ⟨(i : Int), w.W.Op, w.W.Code, .fault batOp (i : Int) e, iter_stop ?_, iter_stop ?_, rel7_w h3 g _⟩
      · unfold f_ref07_Check_l0
        simp only
        rw [if_pos (decide_eq_true (by omega)), grd_t (by omega), rdR hlt]
        refine (bindQ h1).trans ?_
        exact if_pos (decide_eq_true g)
      · unfold f_rpc_Check_l0
        simp only
        rw [if_pos (decide_eq_true (by omega)), grd_t (by omega), rdR hlt]
        refine (bindQ h2).trans ?_
        refine (if_pos (by rw [hn]; rfl)).trans ?_
        exact (bindQ (wrapB _ _ hn)).trans rfl
theorem lvl2 {c : Bool} {A : GErr} {W : T_ref06_Wrong} {R : Option GErr} {S : Option T_ref06_Wrong} (hr : rel7 W A) (h : c = false → ∃ w e, S = some w ∧ R = some e ∧ rel7 w e) : ∃ w e, (if c = true then some W else S) = some w ∧ (if c = true then some A else R) = some e ∧ rel7 w e := by
  cases c
  · exact h rfl
  · exact ⟨W, A, rfl, rfl, hr⟩
theorem ne2 : (2 : Int) ≠ 0 := by decide
theorem ne6 : (6 : Int) ≠ 0 := by decide
theorem check7B (m : Rpc) : ∃ w e, f_ref07_Check m = some w ∧ f_rpc_Check m = some e ∧ rel7 w e := by
  by_cases hk : 1 ≤ m.Kind ∧ m.Kind ≤ 8
  · rw [ref7 hk, prog7 hk]
    refine lvl2 (rel7_f ne2) fun _ => ?_
    refine lvl2 (rel7_f ne2) fun _ => ?_
    refine lvl2 (rel7_f (by decide)) fun _ => ?_
    refine lvl2 (rel7_f ne2) fun _ => ?_
    refine lvl2 (rel7_f ne2) fun _ => ?_
    refine lvl2 (rel7_f ne2) fun _ => ?_
    refine lvl2 (rel7_f ne2) fun _ => ?_
    refine lvl2 (rel7_f ne2) fun _ => ?_
    refine lvl2 (rel7_f ne6) fun _ => ?_
    refine lvl2 (rel7_f ne6) fun g10 => ?_
    have hm := many7 g10
    unfold tailR tailC
    rcases check7_loop m hm.1 m.Batches.length 0 (by omega) with ⟨h1, h2⟩ | ⟨j, o, c, e, h1, h2, h3⟩
    · rw [show ((0 : Nat) : Int) = 0 from rfl] at h1 h2
      rw [h1, h2]
      exact ⟨_, _, rfl, rfl, rel7_z⟩
    · rw [show ((0 : Nat) : Int) = 0 from rfl] at h1 h2
      rw [h1, h2]
      exact ⟨_, _, rfl, rfl, h3⟩
  · unfold f_ref07_Check f_rpc_Check
    exact ⟨_, _, (bindQ (or2_t (by omega))).trans rfl, (bindQ (or2_t (by omega))).trans rfl, rel7_f (by decide)⟩
section
variable {k bit : Int} {b : List Int} {a : Nat} {e : GErr} {s : T_ref02_State}
theorem some_cor (hb : okB b) (hl : b.length ≤ 1000000) (h : cor b a e s) :
    ∃ (v : Int) (a' : Nat) (e' : GErr) (t : T_ref02_State), f_rpc_Read_1 bit (aboutM k) ⟨b, (a : Int), e⟩ = some (v, (a' : Int), e') ∧ f_ref07_some (curS b s) (hasM k bit) = some (v, t.At, t.Code, t.Op, t.Where) ∧ cor b a' e' t := by
  cases hf : hasM k bit
  · exact ⟨0, a, e, s, m1F hf _ _ _, (by unfold f_ref07_some; exact if_pos rfl), h⟩
  · obtain ⟨v, a', e', t, h1, h2, h3⟩ := curI hb hl h 1073741824 (by decide)
    exact ⟨v, a', e', t, m1T hf h1, (by unfold f_ref07_some; exact (if_neg (by decide)).trans ((bindQ h2).trans rfl)), h3⟩
theorem yes_cor (hb : okB b) (hl : b.length ≤ 1000000) (h : cor b a e s) :
    ∃ (v : Bool) (a' : Nat) (e' : GErr) (t : T_ref02_State), flagM bit k b (a : Int) e = some ((a' : Int), e', v) ∧ f_ref07_yes (curS b s) (hasM k bit) = some (v, t.At, t.Code, t.Op, t.Where) ∧ cor b a' e' t := by
  cases hf : hasM k bit
  · exact ⟨false, a, e, s, mfF hf _ _ _, (by unfold f_ref07_yes; exact if_pos rfl), h⟩
  · obtain ⟨v, a', e', t, h1, h2, h3⟩ := curF hb hl h
    exact ⟨v, a', e', t, mfT hf h1, (by unfold f_ref07_yes; exact (if_neg (by decide)).trans ((bindQ h2).trans rfl)), h3⟩
theorem text_cor (hb : okB b) (hl : b.length ≤ 1000000) (h : cor b a e s) :
    ∃ (v : List Int) (a' : Nat) (e' : GErr) (t : T_ref02_State), textM k b (a : Int) e = some (v, (a' : Int), e') ∧ (if decide (k = 8) = true then ((f_ref05_Cursor_Text (curS b s) 512).bind fun (x1, x2, x3, x4, x5) => some (x1, x2, x3, x4, x5)) else some ([], s.At, s.Code, s.Op, s.Where)) = some (v, t.At, t.Code, t.Op, t.Where) ∧ cor b a' e' t ∧ v.length ≤ 1000000 := by
  unfold textM
  cases decide (k = 8)
  · exact ⟨[], a, e, s, rfl, rfl, h, by simp⟩
  · obtain ⟨v, a', e', t, h1, h2, h3⟩ := curT hb hl h 512 (by decide)
    obtain ⟨_, _, _, k1, _, _, _, k2⟩ := onceT hb hl h.1 e 512 (by decide)
    rw [h1] at k1; cases k1
    exact ⟨v, a', e', t, (bindQ h1).trans rfl, (bindQ h2).trans rfl, h3, by omega⟩
end
theorem cor7_loop {b : List Int} (hb : okB b) (hl : b.length ≤ 1000000) (r : T_wire_Reader) (hr : r.b = b) (f : T_api_Frame) (hf : f.Body = b) {n : Nat} (hn : n ≤ 8) : ∀ (d i a : Nat) (e : GErr) (s : T_ref02_State) (l : List Bat), i + d = n → cor b a e s → l.length = i → (∀ x ∈ l, f_ref06_Same x x = some true) →
    ∃ (l' : List Bat) (a' : Nat) (e' : GErr) (t : T_ref02_State), iter (f_rpc_Read_l0 r (n : Int)) ((i : Int), (a : Int), e, l) = some ((a' : Int), e', l') ∧ iter (f_ref07_Read_l0 f (n : Int)) ((i : Int), s.At, s.Code, s.Op, s.Where, l) = some (l', t.At, t.Code, t.Op, t.Where) ∧ cor b a' e' t ∧ l'.length ≤ n ∧ (∀ x ∈ l', f_ref06_Same x x = some true)
  | 0, i, a, e, s, l, hi, h, hll, hx => by
    refine ⟨l, a, e, s, iter_stop (read7_end r _ (.inl (by omega))), iter_stop ?_, h, by omega, hx⟩
    unfold f_ref07_Read_l0
    simp only
    refine (bindQ (y := false) ?_).trans (if_neg (by decide))
    exact if_neg (fun z => absurd (of_decide_eq_true z) (by omega))
  | d + 1, i, a, e, s, l, hi, h, hll, hx => by
    have h' := h
    obtain ⟨ha, hs, ⟨rfl, hc⟩ | ⟨hc, he⟩⟩ := h'
    · obtain ⟨x, a1, e1, t, h1, h2, h3, h4⟩ := next6_cor hb hl h
      obtain ⟨l', a', e', t', k1, k2, k3, k4, k5⟩ := cor7_loop hb hl r hr f hf hn d (i + 1) a1 e1 t (l ++ [x]) (by omega) h3 (by simp [hll]) (fun y hy => by
        rcases List.mem_append.1 hy with hy | hy
        · exact hx y hy
        · rw [List.mem_singleton] at hy; subst hy; exact h4)
      refine ⟨l', a', e', t', ?_, ?_, k3, k4, k5⟩
      · rw [iter_next (read7_step r _ hr (by omega) (by omega) hll h1), k1]
      · have hs2 : f_ref07_Read_l0 f (n : Int) ((i : Int), s.At, s.Code, s.Op, s.Where, l) = some (.inl (((i + 1 : Nat) : Int), t.At, t.Code, t.Op, t.Where, l ++ [x])) := by
          unfold f_ref07_Read_l0
          simp only
          refine (bindQ (y := true) ?_).trans ?_
          · refine (if_pos (decide_eq_true (by omega))).trans ?_
            rw [decide_eq_true hc]
          refine (if_pos rfl).trans ?_
          rw [hf]
          refine (bindQ h2).trans ?_
          refine (grd_t (by show l.length + 1 ≤ _; omega)).trans ?_
          rw [w_i64 (by omega) (by omega)]
          rfl
        rw [iter_next hs2, k2]
    · have hne : e.isNil = false := by rw [he]; rfl
      refine ⟨l, a, e, s, iter_stop (read7_end r _ (.inr hne)), iter_stop ?_, h, by omega, hx⟩
      unfold f_ref07_Read_l0
      simp only
      refine (bindQ (y := false) ?_).trans (if_neg (by decide))
      refine (if_pos (decide_eq_true (by omega))).trans ?_
      rw [decide_eq_false hc]
theorem bats_cor {k : Int} {b : List Int} (hb : okB b) (hl : b.length ≤ 1000000) {a : Nat} {e : GErr} {s : T_ref02_State} (h : cor b a e s) (r : T_wire_Reader) (hr : r.b = b) :
    ∃ (l : List Bat) (a' : Nat) (e' : GErr) (t : T_ref02_State) (n : Int) (u : T_ref02_State), batsM k r (a : Int) e = some (l, (a' : Int), e') ∧ (if hasM k 64 = true then ((f_ref05_Cursor_Int (curS b s) 8).bind fun (x1, x2, x3, x4, x5) => some (x1, x2, x3, x4, x5)) else some (0, s.At, s.Code, s.Op, s.Where)) = some (n, u.At, u.Code, u.Op, u.Where) ∧
      iter (f_ref07_Read_l0 ⟨k, b⟩ n) ((0 : Int), u.At, u.Code, u.Op, u.Where, []) = some (l, t.At, t.Code, t.Op, t.Where) ∧ cor b a' e' t ∧ l.length ≤ 8 ∧ (∀ x ∈ l, f_ref06_Same x x = some true) := by
  cases hf : hasM k 64
  · refine ⟨[], a, e, s, 0, s, mbF hf _ _ _, rfl, iter_stop ?_, h, by simp, fun x hx => by cases hx⟩
    unfold f_ref07_Read_l0
    simp only
    exact (bindQ (y := false) (if_neg (by decide))).trans (if_neg (by decide))
  · obtain ⟨n, a1, e1, u, h1, k1, c1⟩ := curI hb hl h 8 (by decide)
    obtain ⟨_, _, _, h1', _, n0, _, n1⟩ := onceI hb hl h.1 e 8 (by decide)
    rw [h1] at h1'; cases h1'
    rw [show pos0 8 = 8 from rfl] at n1
    obtain ⟨d, rfl⟩ := Int.eq_ofNat_of_zero_le n0
    obtain ⟨l, a2, e2, t, q1, q2, q3, q4, q5⟩ := cor7_loop hb hl r hr ⟨k, b⟩ rfl (n := d) (by omega) d 0 a1 e1 u [] (by omega) c1 rfl (fun y hy => by cases hy)
    exact ⟨l, a2, e2, t, (d : Int), u, mbT hf (by rw [hr]; exact h1) q1, (bindQ k1).trans rfl, q2, q3, by omega, q5⟩
theorem read7_cor (k : Int) {b : List Int} (hb : okB b) (hl : b.length ≤ 1000000) : ∃ (m : Rpc) (e : GErr) (w : T_ref06_Wrong), f_rpc_Read ⟨k, b⟩ = some (m, e) ∧ f_ref07_Read ⟨k, b⟩ = some (m, w) ∧ f_law07_wrong e w = some true ∧ f_ref07_Same m m = some true := by
  by_cases hk : 1 ≤ k ∧ k ≤ 8
  rotate_left
  · refine ⟨mz, _, _, read7_kind hk b, ?_, wrong7 (rel7_f (o := ⟨#[107, 105, 110, 100]⟩) (a := k) (c := 5) (by decide)), same7_zero⟩
    unfold f_ref07_Read
    refine (bindQ (y := true) (or2_t (by show k < 1 ∨ 8 < k; omega))).trans ?_
    exact (if_pos rfl).trans ((bindQ (noA _ _ _)).trans rfl)
  obtain ⟨z1, z2, z3, z4, z5, z6, z7, z8, z9, z10⟩ := has_eqM hk
  obtain ⟨v1, a1, e1, t1, h1, k1, c1⟩ := curI hb hl (start5 (b := b)) 1073741824 (by decide)
  obtain ⟨v2, a2, e2, t2, h2, k2, c2⟩ := curI hb hl c1 1073741824 (by decide)
  obtain ⟨v3, a3, e3, t3, h3, k3, c3⟩ := curI hb hl c2 1073741824 (by decide)
  obtain ⟨v4, a4, e4, t4, h4, k4, c4⟩ := yes_cor (k := k) (bit := 1) hb hl c3
  obtain ⟨v5, a5, e5, t5, h5, k5, c5⟩ := yes_cor (k := k) (bit := 2) hb hl c4
  obtain ⟨v6, a6, e6, t6, h6, k6, c6⟩ := some_cor (k := k) (bit := 4) hb hl c5
  obtain ⟨v7, a7, e7, t7, h7, k7, c7⟩ := some_cor (k := k) (bit := 8) hb hl c6
  obtain ⟨v8, a8, e8, t8, h8, k8, c8⟩ := some_cor (k := k) (bit := 8) hb hl c7
  obtain ⟨v9, a9, e9, t9, h9, k9, c9⟩ := some_cor (k := k) (bit := 16) hb hl c8
  obtain ⟨v10, a10, e10, t10, h10, k10, c10⟩ := some_cor (k := k) (bit := 32) hb hl c9
  obtain ⟨v11, a11, e11, t11, h11, k11, c11⟩ := some_cor (k := k) (bit := 128) hb hl c10
  obtain ⟨v12, a12, e12, t12, h12, k12, c12⟩ := some_cor (k := k) (bit := 256) hb hl c11
  obtain ⟨v13, a13, e13, t13, h13, k13, c13, d13⟩ := text_cor (k := k) hb hl c12
  obtain ⟨l, a14, e14, t14, n, u14, h14, k14, j14, c14, l8, ls⟩ := bats_cor (k := k) hb hl c13 ⟨b, at0, .nil⟩ rfl
  obtain ⟨u, h15, k15⟩ := end5 c14
  have H := read7_eq hk b h1 h2 h3 h4 h5 h6 h7 h8 h9 h10 h11 h12 h13 h14
  have Q : f_ref07_Read ⟨k, b⟩ = (if decide (u.Code ≠ 0) = true then ((f_ref07_no u.Op u.Where u.Code).bind fun r => some (mz, r)) else ((f_ref07_Check ⟨k, v1, v2, v3, v4, v5, v6, v7, v8, v9, v10, l, v11, v12, v13⟩).bind fun r => if decide (r.W.Code ≠ 0) = true then some (mz, r) else some (⟨k, v1, v2, v3, v4, v5, v6, v7, v8, v9, v10, l, v11, v12, v13⟩, ⟨⟨⟨#[]⟩, 0, 0⟩, -1⟩))) := by
    unfold f_ref07_Read
    refine (bindQ (y := false) (or2_f (by show ¬ k < 1 ∧ ¬ 8 < k; omega))).trans ?_
    refine (if_neg Bool.false_ne_true).trans ?_
    refine (bindQ k1).trans ((bindQ k2).trans ((bindQ k3).trans ?_))
    refine (bindQ z1).trans ((bindQ k4).trans ?_)
    refine (bindQ z2).trans ((bindQ k5).trans ?_)
    refine (bindQ z3).trans ((bindQ k6).trans ?_)
    refine (bindQ z4).trans ((bindQ k7).trans ?_)
    refine (bindQ z4).trans ((bindQ k8).trans ?_)
    refine (bindQ z5).trans ((bindQ k9).trans ?_)
    refine (bindQ z6).trans ((bindQ k10).trans ?_)
    refine (bindQ z8).trans ((bindQ k11).trans ?_)
    refine (bindQ z9).trans ((bindQ k12).trans ?_)
    refine (bindQ ((bindQ z10).trans k13)).trans ?_
    refine (bindQ ((bindQ z7).trans k14)).trans ?_
    refine (bindQ ((bindQ j14).trans rfl)).trans ?_
    exact (bindQ k15).trans rfl
  rw [H, Q]
  unfold tail7
  by_cases hc : u.Code = 0
  · have ht : toE5 (bad5 u) = .nil := by unfold toE5 bad5; rw [if_pos hc]
    rw [ht] at h15
    rw [if_neg (by simp [hc])]
    obtain ⟨w, g, hw, hg, hr⟩ := check7B ⟨k, v1, v2, v3, v4, v5, v6, v7, v8, v9, v10, l, v11, v12, v13⟩
    have hW := wrong7 hr
    rcases hr with ⟨q1, rfl⟩ | ⟨q1, q2, _⟩
    · refine ⟨_, _, _, (bindQ h15).trans ((if_neg (by decide)).trans ((bindQ hg).trans (if_neg (by decide)))), (bindQ hw).trans (if_neg (by simp [q1])), wrong7 rel7_z, same7_self (by exact d13) (by show l.length ≤ _; omega) ls⟩
    · exact ⟨_, _, _, (bindQ h15).trans ((if_neg (by decide)).trans ((bindQ hg).trans (if_pos (by rw [q2]; rfl)))), (bindQ hw).trans (if_pos (decide_eq_true q1)), hW, same7_zero⟩
  · have ht : toE5 (bad5 u) = .fault u.Op u.Where (.code u.Code) := by unfold toE5 bad5; rw [if_neg hc]
    rw [ht] at h15
    rw [if_pos (decide_eq_true hc)]
    exact ⟨_, _, _, (bindQ h15).trans (if_pos rfl), (bindQ (noA _ _ _)).trans rfl, wrong7 (rel7_f hc), same7_zero⟩
theorem pure_RpcReads (k : Int) (b : List Int) {p0 : Prop} (_ : p0) (h : (∀ x ∈ b, (Lit.int .u8 x).wf = true) ∧ b.length ≤ reachBytes) : f_law07_RpcReads k b = some true := by
  have hb := okB8 h.1
  unfold f_law07_RpcReads
  by_cases g : (1500 : Int) < (b.length : Int)
  · exact (if_pos (decide_eq_true g)).trans ((bindQ works07).trans rfl)
  refine (if_neg (fun z => g (of_decide_eq_true z))).trans ?_
  obtain ⟨m, e, w, h1, h2, h3, h4⟩ := read7_cor k hb (by omega)
  refine (bindQ h1).trans ((bindQ h2).trans ?_)
  refine (bindQ (y := true) ?_).trans rfl
  refine (bindQ h4).trans ((if_pos rfl).trans ?_)
  exact (bindQ h3).trans ((if_pos rfl).trans ((bindQ works07).trans rfl))
end Go.Proofs.YtkflneabcannnaaGreatDoor.G
