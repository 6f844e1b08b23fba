
/- The plain part: what the printed functions compute, and that the laws hold of it. No condition. -/
import Derived.Test.YtkflneabcannnaaGreatDoorP0
import Derived.Test.YtkflneabcannnaaGreatDoorP1
import Derived.Test.YtkflneabcannnaaGreatDoorP2
import Derived.Test.YtkflneabcannnaaGreatDoorP3
import Derived.Test.YtkflneabcannnaaGreatDoorP4
import Derived.Test.YtkflneabcannnaaGreatDoorP5
import Derived.Test.YtkflneabcannnaaGreatDoorP6
import Derived.Test.YtkflneabcannnaaGreatDoorP7
import Derived.Test.YtkflneabcannnaaGreatDoorP8
import Derived.Test.YtkflneabcannnaaGreatDoorP9
import Derived.Test.YtkflneabcannnaaGreatDoorP10
import Derived.Test.YtkflneabcannnaaGreatDoorP11
import Derived.Test.YtkflneabcannnaaGreatDoorP12
import Derived.Test.YtkflneabcannnaaGreatDoorP13
import Derived.Test.YtkflneabcannnaaGreatDoorP14
import Derived.Test.YtkflneabcannnaaGreatDoorKArith
import Derived.KernelRfl
import Derived.OpenShut
import Derived.Test.YtkflneabcannnaaGreatDoorKConv
set_option linter.unusedSimpArgs false
set_option linter.unusedVariables false
set_option maxHeartbeats 8000000
namespace Go.Proofs.YtkflneabcannnaaGreatDoor.G
open Go Go.KK
def codeIn : GErr → Option Int
  | .nil => none
  | .code n => some n
  | .fault _ _ e => codeIn e
  | .other _ => none
def OfE (e : GErr) : Int := match e with | .nil => 0 | e => (codeIn e).getD 21
def WhereE : GErr → Int × Bool
  | .fault _ a _ => (a, true)
  | _ => (0, false)
@[simp] theorem OfE_nil : OfE .nil = 0 := rfl
@[simp] theorem OfE_code (n : Int) : OfE (.code n) = n := rfl
@[simp] theorem OfE_fault (o : ByteArray) (a n : Int) : OfE (.fault o a (.code n)) = n := rfl
theorem as_code_loop (old : Int) : ∀ (e : GErr), e.isNil = false → iter (f_errors_as_code_l0 old) e = some (match codeIn e with | some n => (true, n) | none => (false, old))
  | .nil, h => by cases h
  | .code n, _ => iter_stop rfl
  | .other a, _ => iter_stop rfl
  | .fault o a e, _ => by
    cases e with
    | nil => exact iter_stop rfl
    | code n => rw [iter_next (show f_errors_as_code_l0 old (.fault o a (.code n)) = some (.inl (.code n)) from rfl)]; exact iter_stop rfl
    | other b => rw [iter_next (show f_errors_as_code_l0 old (.fault o a (.other b)) = some (.inl (.other b)) from rfl)]; exact iter_stop rfl
    | fault p b e => rw [iter_next (show f_errors_as_code_l0 old (.fault o a (.fault p b e)) = some (.inl (.fault p b e)) from rfl), as_code_loop old (.fault p b e) rfl]; rfl
theorem of_eq (e : GErr) : f_fault_Of e = some (OfE e) := by
  cases e with
  | nil => rfl
  | code n => unfold f_fault_Of f_errors_As_code f_errors_as_code; rw [as_code_loop _ _ rfl]; rfl
  | other a => unfold f_fault_Of f_errors_As_code f_errors_as_code; rw [as_code_loop _ _ rfl]; rfl
  | fault o a e =>
    unfold f_fault_Of f_errors_As_code f_errors_as_code
    rw [as_code_loop _ _ rfl]
    simp only [GErr.isNil, OfE]
    cases codeIn (.fault o a e) <;> rfl
theorem as_fault_eq (old : T_api_Fault) (e : GErr) : f_errors_As_fault e old = some (match e with | .fault o a e => (true, o, a, e) | _ => (false, old.Op, old.At, old.Err)) := by
  cases e with
  | nil => rfl
  | code n => unfold f_errors_As_fault f_errors_as_fault; rw [iter_stop (show f_errors_as_fault_l0 old (.code n) = some (.inr _) from rfl)]; rfl
  | other a => unfold f_errors_As_fault f_errors_as_fault; rw [iter_stop (show f_errors_as_fault_l0 old (.other a) = some (.inr _) from rfl)]; rfl
  | fault o a e => unfold f_errors_As_fault f_errors_as_fault; rw [iter_stop (show f_errors_as_fault_l0 old (.fault o a e) = some (.inr _) from rfl)]; rfl
theorem where_eq (e : GErr) : f_fault_Where e = some (WhereE e) := by
  unfold f_fault_Where
  rw [as_fault_eq]
  cases e <;> rfl
def IsE : GErr → Int → Bool
  | .code n, c => decide (n = c)
  | .fault _ _ e, c => IsE e c
  | _, _ => false
theorem is_loop (c : Int) : ∀ (e : GErr), iter (f_errors_is_l0 c) e = some (IsE e c)
  | .nil => iter_stop rfl
  | .other _ => iter_stop rfl
  | .code n => by
    refine iter_stop ?_
    unfold f_errors_is_l0 IsE
    simp only
    by_cases h : n = c
    · rw [if_pos (decide_eq_true h), decide_eq_true h]
    · rw [if_neg (fun q => h (of_decide_eq_true q)), decide_eq_false h]
  | .fault o a e => by
    cases e with
    | nil => exact iter_stop rfl
    | other b => rw [iter_next (show f_errors_is_l0 c (.fault o a (.other b)) = some (.inl (.other b)) from rfl), is_loop c (.other b)]; rfl
    | code n => rw [iter_next (show f_errors_is_l0 c (.fault o a (.code n)) = some (.inl (.code n)) from rfl), is_loop c (.code n)]; rfl
    | fault p b e => rw [iter_next (show f_errors_is_l0 c (.fault o a (.fault p b e)) = some (.inl (.fault p b e)) from rfl), is_loop c (.fault p b e)]; rfl
theorem is_eq (e : GErr) (c : Int) : f_fault_Is e c = some (IsE e c) := by
  unfold f_fault_Is f_errors_Is f_errors_is
  rw [is_loop]
  cases e <;> rfl
def PathE : GErr → List ByteArray
  | .fault o _ e => o :: PathE e
  | _ => []
theorem path_loop : ∀ (e : GErr) (l : List ByteArray), l.length + (PathE e).length ≤ 274877906944 → iter f_fault_Path_l0 (e, l) = some (l ++ PathE e)
  | .nil, l, _ => (iter_stop (by unfold f_fault_Path_l0; rfl)).trans (by simp [PathE])
  | .code n, l, _ => (iter_stop (e := l) (by
      unfold f_fault_Path_l0
      simp only [GErr.isNil, Bool.not_false, if_true, as_fault_eq, Option.bind_some])).trans (by simp [PathE])
  | .other n, l, _ => (iter_stop (e := l) (by
      unfold f_fault_Path_l0
      simp only [GErr.isNil, Bool.not_false, if_true, as_fault_eq, Option.bind_some])).trans (by simp [PathE])
  | .fault o a e, l, h => by
    have hstep : f_fault_Path_l0 (.fault o a e, l) = some (.inl (e, l ++ [o])) := by
      unfold f_fault_Path_l0
      simp only [GErr.isNil, Bool.not_false, if_true, as_fault_eq, Option.bind_some, Bool.not_true, Bool.false_eq_true, if_false]
      rw [grd_t (by simp [PathE] at h ⊢; omega)]
    rw [iter_next hstep, path_loop e (l ++ [o]) (by simp [PathE] at h ⊢; omega)]
    simp [PathE]
theorem path_eq (e : GErr) (h : (PathE e).length ≤ 274877906944) : f_fault_Path e = some (PathE e) := by
  unfold f_fault_Path
  rw [path_loop e [] (by simpa using h)]
  simp
open Classical in
theorem under_loop (op : ByteArray) (l : List ByteArray) (hl : l.length ≤ 274877906944) : ∀ (d i : Nat), i + d = l.length → iter (f_fault_Under_l0 op l) (i : Int) = some (if op ∈ l.drop i then .inr () else .inl ())
  | 0, i, h => by
    refine iter_stop ?_
    unfold f_fault_Under_l0
    simp only
    rw [if_neg (fun q => absurd (of_decide_eq_true q) (by omega)), List.drop_of_length_le (by omega), if_neg (by simp)]
  | d + 1, i, h => by
    have hlt : i < l.length := by omega
    have e1 : rd l (i : Int) = l[i] := len_lt hlt
    by_cases g : l[i] = op
    · refine iter_stop ?_
      unfold f_fault_Under_l0
      simp only
      rw [if_pos (decide_eq_true (by omega)), grd_t ⟨by omega, by omega⟩, e1, if_pos (decide_eq_true g), List.drop_eq_getElem_cons hlt, if_pos (by simp [g])]
    · have hstep : f_fault_Under_l0 op l (i : Int) = some (.inl ((i + 1 : Nat) : Int)) := by
        unfold f_fault_Under_l0
        simp only
        rw [if_pos (decide_eq_true (by omega)), grd_t ⟨by omega, by omega⟩, e1, if_neg (fun q => g (of_decide_eq_true q)), w_i64 (by omega) (by omega)]
        rfl
      rw [iter_next hstep, under_loop op l hl d (i + 1) (by omega), List.drop_eq_getElem_cons hlt]
      have : (op ∈ l[i] :: l.drop (i + 1)) ↔ op ∈ l.drop (i + 1) := by
        simp only [List.mem_cons]
        exact ⟨fun q => q.elim (fun q => absurd q.symm g) id, .inr⟩
      simp only [this]
open Classical in
theorem under_eq (e : GErr) (op : ByteArray) (h : (PathE e).length ≤ 274877906944) : f_fault_Under e op = some (decide (op ∈ PathE e)) := by
  unfold f_fault_Under
  rw [path_eq e h]
  simp only [Option.bind_some]
  have := under_loop op (PathE e) h (PathE e).length 0 (by omega)
  rw [show ((0 : Nat) : Int) = 0 from rfl] at this
  rw [this, List.drop_zero]
  by_cases g : op ∈ PathE e
  · rw [if_pos g, decide_eq_true g]; rfl
  · rw [if_neg g, decide_eq_false g]; rfl
theorem rdn {α : Type} [Inhabited α] {xs : List α} {i : Nat} (h : i < xs.length) : rd xs (i : Int) = xs[i] := len_lt h
def okB (l : List Int) : Prop := ∀ x ∈ l, 0 ≤ x ∧ x ≤ 255
theorem okB.nil : okB [] := fun _ h => by cases h
theorem okB.append {a b : List Int} (h : okB a) (k : okB b) : okB (a ++ b) := fun x hx => (List.mem_append.1 hx).elim (h x) (k x)
theorem okB.at {l : List Int} (h : okB l) {i : Nat} (hi : i < l.length) : 0 ≤ rd l (i : Int) ∧ rd l (i : Int) ≤ 255 := by
  rw [rdn hi]; exact h _ (List.getElem_mem hi)
theorem okB.drop {l : List Int} (h : okB l) (n : Nat) : okB (l.drop n) := fun x hx => h x (List.mem_of_mem_drop hx)
theorem okB.take {l : List Int} (h : okB l) (n : Nat) : okB (l.take n) := fun x hx => h x (List.mem_of_mem_take hx)
theorem sub_end (b : List Int) (i : Nat) : sub b (i : Int) (b.length : Int) = b.drop i := by
  unfold sub
  rw [show ((i : Int)).toNat = i by omega, show ((b.length : Int)).toNat = b.length by omega]
  exact List.take_of_length_le (by simp)
theorem sub_nat {α : Type} (b : List α) (i j : Nat) : sub b (i : Int) (j : Int) = (b.drop i).take (j - i) := by
  unfold sub
  rw [show ((i : Int)).toNat = i by omega, show ((j : Int)).toNat = j by omega]
theorem rd_drop (b : List Int) (i j : Nat) : rd (b.drop i) (j : Int) = rd b ((i + j : Nat) : Int) := by
  unfold rd
  rw [show ((j : Int)).toNat = j by omega, show (((i + j : Nat) : Int)).toNat = i + j by omega]
  simp [List.getD_eq_getElem?_getD]

/-! ### operations on numbers -/
theorem fdiv_nn {a b : Int} (h : 0 < b) : a.fdiv b = a / b := Int.fdiv_eq_ediv_of_nonneg _ (Int.le_of_lt h)
theorem shr8 (n : Int) (k : Nat) (hk : k + 8 ≤ 64) : shrI .u64 n ((k + 8 : Nat) : Int) = shrI .u64 n (k : Int) / 256 := by
  unfold shrI
  rw [show min (((k + 8 : Nat) : Int)).toNat IntKind.u64.bits = k + 8 by show min _ 64 = _; omega, show min ((k : Int)).toNat IntKind.u64.bits = k by show min _ 64 = _; omega]
  rw [fdiv_nn (Int.pow_pos (by decide)), fdiv_nn (Int.pow_pos (by decide)), Int.pow_add]
  exact (Int.ediv_ediv_of_nonneg (Int.pow_nonneg (by decide))).symm
theorem shr0 (n : Int) : shrI .u64 n (0 : Int) = n := by
  unfold shrI
  show n.fdiv (2 ^ 0) = n
  rw [fdiv_nn (by decide)]
  omega
theorem s8 (n : Int) : shrI .u64 n 8 = n / 256 := by have := shr8 n 0 (by decide); rw [show ((0 : Nat) : Int) = 0 from rfl, shr0] at this; exact this
theorem s16 (n : Int) : shrI .u64 n 16 = n / 256 / 256 := by have := shr8 n 8 (by decide); rw [show ((8 : Nat) : Int) = 8 from rfl, s8] at this; exact this
theorem s24 (n : Int) : shrI .u64 n 24 = n / 256 / 256 / 256 := by have := shr8 n 16 (by decide); rw [show ((16 : Nat) : Int) = 16 from rfl, s16] at this; exact this
theorem s32 (n : Int) : shrI .u64 n 32 = n / 256 / 256 / 256 / 256 := by have := shr8 n 24 (by decide); rw [show ((24 : Nat) : Int) = 24 from rfl, s24] at this; exact this
theorem s40 (n : Int) : shrI .u64 n 40 = n / 256 / 256 / 256 / 256 / 256 := by have := shr8 n 32 (by decide); rw [show ((32 : Nat) : Int) = 32 from rfl, s32] at this; exact this
theorem s48 (n : Int) : shrI .u64 n 48 = n / 256 / 256 / 256 / 256 / 256 / 256 := by have := shr8 n 40 (by decide); rw [show ((40 : Nat) : Int) = 40 from rfl, s40] at this; exact this
theorem s56 (n : Int) : shrI .u64 n 56 = n / 256 / 256 / 256 / 256 / 256 / 256 / 256 := by have := shr8 n 48 (by decide); rw [show ((48 : Nat) : Int) = 48 from rfl, s48] at this; exact this
theorem or_tab : ∀ x : Fin 64, orI .u8 64 (x.val : Int) = 64 + x.val ∧ orI .u8 128 (x.val : Int) = 128 + x.val ∧ orI .u8 192 (x.val : Int) = 192 + x.val := by decide +kernel
theorem or64 {x : Int} (h0 : 0 ≤ x) (h1 : x < 64) : orI .u8 64 x = 64 + x ∧ orI .u8 128 x = 128 + x ∧ orI .u8 192 x = 192 + x := by
  have := or_tab ⟨x.toNat, by omega⟩
  simp only [show ((x.toNat : Nat) : Int) = x by omega] at this
  exact this
theorem head_tab : ∀ x : Fin 256, andI .u8 (x.val : Int) 63 = (x.val : Int) % 64 ∧ shrI .u8 (x.val : Int) 6 = (x.val : Int) / 64 := by decide +kernel
theorem head_eq {x : Int} (h0 : 0 ≤ x) (h1 : x ≤ 255) : andI .u8 x 63 = x % 64 ∧ shrI .u8 x 6 = x / 64 := by
  have := head_tab ⟨x.toNat, by omega⟩
  simp only [show ((x.toNat : Nat) : Int) = x by omega] at this
  exact this
theorem shl_tab : shlI .i64 1 0 = 1 ∧ shlI .i64 1 1 = 2 ∧ shlI .i64 1 2 = 4 ∧ shlI .i64 1 3 = 8 := by decide +kernel
theorem next8 {n b : Int} (h0 : 0 ≤ n) (h1 : n < 72057594037927936) (b0 : 0 ≤ b) (b1 : b ≤ 255) : orI .u64 (shlI .u64 n 8) (IntKind.u64.wrap b) = n * 256 + b := by
  rw [w_u64 b0 (by omega)]
  have e1 : shlI .u64 n 8 = n * 256 := by
    unfold shlI
    show IntKind.u64.wrap (n * 2 ^ 8) = _
    rw [w_u64 (by omega) (by omega)]; omega
  rw [e1]
  obtain ⟨N, rfl⟩ := Int.eq_ofNat_of_zero_le h0
  obtain ⟨B, rfl⟩ := Int.eq_ofNat_of_zero_le b0
  unfold orI
  show IntKind.u64.wrap (((BitVec.ofInt 64 ((N : Int) * 256)) ||| (BitVec.ofInt 64 (B : Int))).toNat : Int) = _
  have e2 : (BitVec.ofInt 64 ((N : Int) * 256)).toNat = N * 256 := by
    rw [show ((N : Int) * 256) = ((N * 256 : Nat) : Int) by omega, BitVec.ofInt_natCast, BitVec.toNat_ofNat]
    exact Nat.mod_eq_of_lt (by omega)
  have e3 : (BitVec.ofInt 64 (B : Int)).toNat = B := by
    rw [BitVec.ofInt_natCast, BitVec.toNat_ofNat]
    exact Nat.mod_eq_of_lt (by omega)
  rw [BitVec.toNat_or, e2, e3]
  have e4 : N * 256 ||| B = N * 256 + B := by
    have := Nat.shiftLeft_add_eq_or_of_lt (a := N) (b := B) (i := 8) (by omega)
    rw [Nat.shiftLeft_eq] at this
    exact this.symm
  rw [e4, w_u64 (by omega) (by omega)]
  omega

/-! ### a number as bytes -/
def top : Int := 4611686018427387903
def cap62 (n : Int) : Int := if top < n then top else n
def numC (k : Int) : List Int :=
  if k < 64 then [k]
  else if k < 16384 then [64 + k / 256, k % 256]
  else if k < 1073741824 then [128 + k / 256 / 256 / 256, k / 256 / 256 % 256, k / 256 % 256, k % 256]
  else [192 + k / 256 / 256 / 256 / 256 / 256 / 256 / 256, k / 256 / 256 / 256 / 256 / 256 / 256 % 256, k / 256 / 256 / 256 / 256 / 256 % 256, k / 256 / 256 / 256 / 256 % 256, k / 256 / 256 / 256 % 256, k / 256 / 256 % 256, k / 256 % 256, k % 256]
def numB (n : Int) : List Int := numC (cap62 n)
theorem cap62_le {n : Int} (h : 0 ≤ n) : 0 ≤ cap62 n ∧ cap62 n ≤ top := by
  unfold cap62 top
  split <;> constructor <;> (try unfold top at *) <;> omega
theorem numC_len (k : Int) : (numC k).length ≤ 8 ∧ 1 ≤ (numC k).length := by
  unfold numC
  split
  · simp
  split
  · simp
  split <;> simp
theorem numB_len (n : Int) : (numB n).length ≤ 8 ∧ 1 ≤ (numB n).length := numC_len _
theorem numC_ok {k : Int} (h0 : 0 ≤ k) (h1 : k ≤ top) : okB (numC k) := by
  unfold top at h1
  unfold numC okB
  intro x hx
  split at hx
  · simp at hx; omega
  split at hx
  · simp at hx; omega
  split at hx
  · simp at hx; omega
  · simp at hx
    have q : 0 ≤ k / 256 / 256 / 256 / 256 / 256 / 256 / 256 ∧ k / 256 / 256 / 256 / 256 / 256 / 256 / 256 < 64 := by omega
    rcases hx with h | h | h | h | h | h | h | h
    · omega
    all_goals
      subst h
      omega
theorem numB_ok {n : Int} (h0 : 0 ≤ n) : okB (numB n) := numC_ok (cap62_le h0).1 (cap62_le h0).2
theorem wnum_eq (b : List Int) (n : Int) (h0 : 0 ≤ n) (hb : b.length ≤ 274877900000) : f_wire_Num b n = some (b ++ numB n) := by
  have hc := cap62_le h0
  unfold f_wire_Num numB
  rw [show (if (4611686018427387903 : Int) < n then (4611686018427387903 : Int) else n) = cap62 n from rfl]
  generalize cap62 n = k at hc
  unfold top at hc
  unfold numC
  by_cases h1 : k < 64
  · rw [if_pos (decide_eq_true h1), if_pos h1, grd_t (by simp; omega), w_u8 (by omega) (by omega)]
  rw [if_neg (fun q => h1 (of_decide_eq_true q)), if_neg h1]
  have m0 : IntKind.u8.wrap k = k % 256 := u8_mod k
  by_cases h2 : k < 16384
  · have e1 : IntKind.u8.wrap (shrI .u64 k 8) = k / 256 := by rw [s8, w_u8 (by omega) (by omega)]
    rw [if_pos (decide_eq_true h2), if_pos h2, grd_t (by simp; omega), e1, m0, (or64 (x := k / 256) (by omega) (by omega)).1]
  rw [if_neg (fun q => h2 (of_decide_eq_true q)), if_neg h2]
  by_cases h3 : k < 1073741824
  · have e1 : IntKind.u8.wrap (shrI .u64 k 24) = k / 256 / 256 / 256 := by rw [s24, w_u8 (by omega) (by omega)]
    rw [if_pos (decide_eq_true h3), if_pos h3, grd_t (by simp; omega), e1, m0, s16, s8, u8_mod, u8_mod, (or64 (x := k / 256 / 256 / 256) (by omega) (by omega)).2.1]
  · have e1 : IntKind.u8.wrap (shrI .u64 k 56) = k / 256 / 256 / 256 / 256 / 256 / 256 / 256 := by rw [s56, w_u8 (by omega) (by omega)]
    rw [if_neg (fun q => h3 (of_decide_eq_true q)), if_neg h3, grd_t (by simp; omega), e1, m0, s48, s40, s32, s24, s16, s8, u8_mod, u8_mod, u8_mod, u8_mod, u8_mod, u8_mod,
      (or64 (x := k / 256 / 256 / 256 / 256 / 256 / 256 / 256) (by omega) (by omega)).2.2]
def intB (n : Int) : List Int := numB (if n < 0 then 0 else n)
theorem intB_len (n : Int) : (intB n).length ≤ 8 ∧ 1 ≤ (intB n).length := numB_len _
theorem intB_ok (n : Int) : okB (intB n) := numB_ok (by split <;> omega)
theorem wint_eq (b : List Int) (n : Int) (hn : n ≤ 9223372036854775807) (hb : b.length ≤ 274877900000) : f_wire_Int b n = some (b ++ intB n) := by
  unfold f_wire_Int intB
  have h : 0 ≤ (if n < 0 then (0 : Int) else n) ∧ (if n < 0 then (0 : Int) else n) ≤ 9223372036854775807 := by split <;> omega
  rw [w_u64 h.1 (by omega), wnum_eq b _ h.1 hb]
  rfl
def flagB (is : Bool) : List Int := if is = true then [1] else [0]
theorem wflag_eq (b : List Int) (is : Bool) (hb : b.length ≤ 274877900000) : f_wire_Flag b is = some (b ++ flagB is) := by
  unfold f_wire_Flag flagB
  cases is
  · rw [if_neg (by decide), grd_t (by simp only [List.length_singleton]; omega)]; rfl
  · rw [if_pos rfl, grd_t (by simp only [List.length_singleton]; omega)]; rfl
def textB (s : List Int) : List Int := intB (s.length : Int) ++ s
theorem wtext_eq (b s : List Int) (hb : b.length + s.length ≤ 274877800000) : f_wire_Text b s = some (b ++ textB s) := by
  unfold f_wire_Text textB
  rw [wint_eq b _ (by omega) (by omega)]
  simp only [Option.bind_some]
  have := intB_len (s.length : Int)
  rw [grd_t (by simp; omega), List.append_assoc]
def intsB (l : List Int) : List Int := (l.map intB).flatten
theorem intsB_cons (x : Int) (l : List Int) : intsB (x :: l) = intB x ++ intsB l := rfl
def rowB (l : List Int) : List Int := intB (l.length : Int) ++ intsB l
theorem intsB_len : ∀ (l : List Int), (intsB l).length ≤ 8 * l.length
  | [] => by simp [intsB]
  | x :: l => by
    have h1 := intsB_len l
    have h2 := (intB_len x).1
    simp only [intsB, List.map_cons, List.flatten_cons, List.length_append, List.length_cons] at *
    omega
theorem wrow_loop (l : List Int) (hl : ∀ x ∈ l, x ≤ 9223372036854775807) (hn : l.length ≤ 1000000) : ∀ (d i : Nat) (b : List Int), i + d = l.length → b.length + 8 * d ≤ 274877900000 →
    iter (f_wire_Row_l0 l) (b, (i : Int)) = some (b ++ intsB (l.drop i))
  | 0, i, b, hi, hb => by
    rw [List.drop_of_length_le (by omega)]
    refine iter_stop ?_
    unfold f_wire_Row_l0
    simp only
    rw [if_neg (fun q => absurd (of_decide_eq_true q) (by omega))]
    simp [intsB]
  | d + 1, i, b, hi, hb => by
    have hlt : i < l.length := by omega
    have hstep : f_wire_Row_l0 l (b, (i : Int)) = some (.inl (b ++ intB l[i], ((i + 1 : Nat) : Int))) := by
      unfold f_wire_Row_l0
      simp only
      rw [if_pos (decide_eq_true (by omega)), grd_t ⟨by omega, by omega⟩, rdn hlt, wint_eq _ _ (hl _ (List.getElem_mem hlt)) (by omega), w_i64 (by omega) (by omega)]
      rfl
    rw [iter_next hstep, wrow_loop l hl hn d (i + 1) _ (by omega) (by have := (intB_len l[i]).1; simp; omega), List.drop_eq_getElem_cons hlt, intsB_cons, List.append_assoc]
theorem wrow_eq (b l : List Int) (hl : ∀ x ∈ l, x ≤ 9223372036854775807) (hn : l.length ≤ 1000000) (hb : b.length ≤ 274800000000) : f_wire_Row b l = some (b ++ rowB l) := by
  unfold f_wire_Row rowB
  rw [wint_eq b _ (by omega) (by omega)]
  simp only [Option.bind_some]
  have h := wrow_loop l hl hn l.length 0 (b ++ intB (l.length : Int)) (by omega) (by have := (intB_len (l.length : Int)).1; simp; omega)
  rw [show ((0 : Nat) : Int) = 0 from rfl] at h
  rw [h]
  simp
/-! ### the reference writes -/
theorem numStep (x : Int) (l : List Int) (i : Nat) (h0 : 0 ≤ x) (h1 : x ≤ top) (hi : i < l.length) (hl : l.length ≤ 8) : f_ref02_Num_l0 (x, l, (i : Int)) = some (.inl (x / 256, l.set i (x % 256), (i : Int) - 1)) := by
  unfold top at h1
  unfold f_ref02_Num_l0
  simp only
  rw [if_pos (decide_eq_true (by omega)), grd_t ⟨by omega, by omega⟩, Int.tdiv_eq_ediv_of_nonneg h0, Int.tmod_eq_emod_of_nonneg h0, w_u64 (by omega) (by omega), w_u8 (n := x % 256) (by omega) (by omega), w_i64 (by omega) (by omega), show ((i : Int)).toNat = i by omega]
theorem numStop (x : Int) (l : List Int) : iter f_ref02_Num_l0 (x, l, (-1 : Int)) = some l := iter_stop (by
  unfold f_ref02_Num_l0
  simp only
  rw [if_neg (by decide)])
theorem size_eq (k : Int) : f_ref02_size k = some (if k < 64 then 1 else if k < 16384 then 2 else if k < 1073741824 then 4 else 8) := by
  unfold f_ref02_size
  by_cases h1 : k < 64
  · rw [if_pos (decide_eq_true h1), if_pos h1]
  rw [if_neg (fun q => h1 (of_decide_eq_true q)), if_neg h1]
  by_cases h2 : k < 16384
  · rw [if_pos (decide_eq_true h2), if_pos h2]
  rw [if_neg (fun q => h2 (of_decide_eq_true q)), if_neg h2]
  by_cases h3 : k < 1073741824
  · rw [if_pos (decide_eq_true h3), if_pos h3]
  rw [if_neg (fun q => h3 (of_decide_eq_true q)), if_neg h3]
theorem rnum_eq (n : Int) (h0 : 0 ≤ n) : f_ref02_Num n = some (numB n) := by
  have hc := cap62_le h0
  unfold f_ref02_Num numB
  have e0 : (if (decide ((4611686018427387903 : Int) < n)) = true then (some (4611686018427387903 : Int)) else (some n)) = some (cap62 n) := by
    unfold cap62 top
    by_cases h : 4611686018427387903 < n
    · rw [if_pos (decide_eq_true h), if_pos h]
    · rw [if_neg (fun q => h (of_decide_eq_true q)), if_neg h]
  rw [e0]
  generalize cap62 n = k at hc
  have hk := hc
  unfold top at hk
  simp only [Option.bind_some, size_eq]
  unfold numC
  by_cases h1 : k < 64
  · rw [if_pos h1, if_pos h1, grd_t (by decide), show IntKind.i64.wrap (1 - 1) = ((0 : Nat) : Int) from rfl, show List.replicate (1 : Int).toNat (0 : Int) = [0] from rfl]
    rw [iter_next (numStep k [0] 0 hc.1 hc.2 (by decide) (by decide)), show (((0 : Nat) : Int) - 1) = -1 from rfl, numStop]
    simp only [Option.bind_some]
    rw [iter_run (e := 0) 3 rfl]
    simp only [Option.bind_some]
    rw [grd_t (by simp), grd_t (by simp)]
    show some [IntKind.u8.wrap (k % 256 + 0)] = _
    rw [w_u8 (by omega) (by omega)]
    congr 2
    omega
  rw [if_neg h1, if_neg h1]
  by_cases h2 : k < 16384
  · rw [if_pos h2, if_pos h2, grd_t (by decide), show IntKind.i64.wrap (2 - 1) = ((1 : Nat) : Int) from rfl, show List.replicate (2 : Int).toNat (0 : Int) = [0, 0] from rfl]
    rw [iter_next (numStep k [0, 0] 1 hc.1 hc.2 (by decide) (by decide)), show (((1 : Nat) : Int) - 1) = ((0 : Nat) : Int) from rfl, iter_next (numStep (k / 256) _ 0 (by omega) (by unfold top; omega) (by simp) (by simp)), show (((0 : Nat) : Int) - 1) = -1 from rfl, numStop]
    simp only [Option.bind_some]
    rw [iter_run (e := 64) 3 rfl]
    simp only [Option.bind_some]
    rw [grd_t (by simp), grd_t (by simp)]
    show some [IntKind.u8.wrap (k / 256 % 256 + 64), k % 256] = _
    rw [w_u8 (by omega) (by omega)]
    congr 2
    omega
  rw [if_neg h2, if_neg h2]
  by_cases h3 : k < 1073741824
  · rw [if_pos h3, if_pos h3, grd_t (by decide), show IntKind.i64.wrap (4 - 1) = ((3 : Nat) : Int) from rfl, show List.replicate (4 : Int).toNat (0 : Int) = [0, 0, 0, 0] from rfl]
    rw [iter_next (numStep k [0, 0, 0, 0] 3 hc.1 hc.2 (by decide) (by decide)), show (((3 : Nat) : Int) - 1) = ((2 : Nat) : Int) from rfl, iter_next (numStep (k / 256) _ 2 (by omega) (by unfold top; omega) (by simp) (by simp)),
      show (((2 : Nat) : Int) - 1) = ((1 : Nat) : Int) from rfl, iter_next (numStep (k / 256 / 256) _ 1 (by omega) (by unfold top; omega) (by simp) (by simp)), show (((1 : Nat) : Int) - 1) = ((0 : Nat) : Int) from rfl, iter_next (numStep (k / 256 / 256 / 256) _ 0 (by omega) (by unfold top; omega) (by simp) (by simp)), show (((0 : Nat) : Int) - 1) = -1 from rfl, numStop]
    simp only [Option.bind_some]
    rw [iter_run (e := 128) 4 rfl]
    simp only [Option.bind_some]
    rw [grd_t (by simp), grd_t (by simp)]
    show some [IntKind.u8.wrap (k / 256 / 256 / 256 % 256 + 128), k / 256 / 256 % 256, k / 256 % 256, k % 256] = _
    rw [w_u8 (by omega) (by omega)]
    congr 2
    omega
  · rw [if_neg h3, if_neg h3, grd_t (by decide), show IntKind.i64.wrap (8 - 1) = ((7 : Nat) : Int) from rfl, show List.replicate (8 : Int).toNat (0 : Int) = [0, 0, 0, 0, 0, 0, 0, 0] from rfl]
    rw [iter_next (numStep k [0, 0, 0, 0, 0, 0, 0, 0] 7 hc.1 hc.2 (by decide) (by decide)), show (((7 : Nat) : Int) - 1) = ((6 : Nat) : Int) from rfl, iter_next (numStep (k / 256) _ 6 (by omega) (by unfold top; omega) (by simp) (by simp)),
      show (((6 : Nat) : Int) - 1) = ((5 : Nat) : Int) from rfl, iter_next (numStep (k / 256 / 256) _ 5 (by omega) (by unfold top; omega) (by simp) (by simp)),
      show (((5 : Nat) : Int) - 1) = ((4 : Nat) : Int) from rfl, iter_next (numStep (k / 256 / 256 / 256) _ 4 (by omega) (by unfold top; omega) (by simp) (by simp)),
      show (((4 : Nat) : Int) - 1) = ((3 : Nat) : Int) from rfl, iter_next (numStep (k / 256 / 256 / 256 / 256) _ 3 (by omega) (by unfold top; omega) (by simp) (by simp)),
      show (((3 : Nat) : Int) - 1) = ((2 : Nat) : Int) from rfl, iter_next (numStep (k / 256 / 256 / 256 / 256 / 256) _ 2 (by omega) (by unfold top; omega) (by simp) (by simp)),
      show (((2 : Nat) : Int) - 1) = ((1 : Nat) : Int) from rfl, iter_next (numStep (k / 256 / 256 / 256 / 256 / 256 / 256) _ 1 (by omega) (by unfold top; omega) (by simp) (by simp)), show (((1 : Nat) : Int) - 1) = ((0 : Nat) : Int) from rfl, iter_next (numStep (k / 256 / 256 / 256 / 256 / 256 / 256 / 256) _ 0 (by omega) (by unfold top; omega) (by simp) (by simp)), show (((0 : Nat) : Int) - 1) = -1 from rfl, numStop]
    simp only [Option.bind_some]
    rw [iter_run (e := 192) 5 rfl]
    simp only [Option.bind_some]
    rw [grd_t (by simp), grd_t (by simp)]
    show some [IntKind.u8.wrap (k / 256 / 256 / 256 / 256 / 256 / 256 / 256 % 256 + 192), k / 256 / 256 / 256 / 256 / 256 / 256 % 256, k / 256 / 256 / 256 / 256 / 256 % 256, k / 256 / 256 / 256 / 256 % 256, k / 256 / 256 / 256 % 256, k / 256 / 256 % 256, k / 256 % 256, k % 256] = _
    rw [w_u8 (by omega) (by omega)]
    congr 2
    omega
theorem rint_eq (n : Int) (hn : n ≤ 9223372036854775807) : f_ref02_Int n = some (intB n) := by
  unfold f_ref02_Int intB
  by_cases h : n < 0
  · rw [if_pos (decide_eq_true h), if_pos h]; rfl
  · rw [if_neg (fun q => h (of_decide_eq_true q)), if_neg h, w_u64 (by omega) (by omega), rnum_eq n (by omega)]; rfl
theorem rflag_eq (is : Bool) : f_ref02_Flag is = some (flagB is) := by cases is <;> rfl
theorem rtext_eq (s : List Int) (hs : s.length ≤ 274877800000) : f_ref02_Text s = some (textB s) := by
  unfold f_ref02_Text textB
  rw [rint_eq _ (by omega)]
  have := intB_len (s.length : Int)
  simp only [Option.bind_some]
  rw [grd_t (by omega)]
theorem rrow_loop (l : List Int) (hl : ∀ x ∈ l, x ≤ 9223372036854775807) (hn : l.length ≤ 1000000) : ∀ (d i : Nat) (b : List Int), i + d = l.length → b.length + 8 * d ≤ 274877900000 →
    iter (f_ref02_Row_l0 l) (b, (i : Int)) = some (b ++ intsB (l.drop i))
  | 0, i, b, hi, hb => by
    rw [List.drop_of_length_le (by omega)]
    refine iter_stop ?_
    unfold f_ref02_Row_l0
    simp only
    rw [if_neg (fun q => absurd (of_decide_eq_true q) (by omega))]
    simp [intsB]
  | d + 1, i, b, hi, hb => by
    have hlt : i < l.length := by omega
    have hlen := (intB_len l[i]).1
    have hstep : f_ref02_Row_l0 l (b, (i : Int)) = some (.inl (b ++ intB l[i], ((i + 1 : Nat) : Int))) := by
      unfold f_ref02_Row_l0
      simp only
      rw [if_pos (decide_eq_true (by omega)), grd_t ⟨by omega, by omega⟩, rdn hlt, rint_eq _ (hl _ (List.getElem_mem hlt)), w_i64 (by omega) (by omega)]
      simp only [Option.bind_some]
      rw [grd_t (by omega)]
      rfl
    rw [iter_next hstep, rrow_loop l hl hn d (i + 1) _ (by omega) (by simp; omega), List.drop_eq_getElem_cons hlt, intsB_cons, List.append_assoc]
theorem rrow_eq (l : List Int) (hl : ∀ x ∈ l, x ≤ 9223372036854775807) (hn : l.length ≤ 1000000) : f_ref02_Row l = some (rowB l) := by
  unfold f_ref02_Row rowB
  rw [rint_eq _ (by omega)]
  simp only [Option.bind_some]
  have h := rrow_loop l hl hn l.length 0 (intB (l.length : Int)) (by omega) (by have := (intB_len (l.length : Int)).1; omega)
  rw [show ((0 : Nat) : Int) = 0 from rfl] at h
  rw [h]
  simp
theorem rsame_loop (l : List Int) (hl : l.length ≤ 274877906944) : ∀ (d m : Nat), m + d = l.length → iter (f_ref02_Same_l0 l l) (m : Int) = some (.inl ())
  | 0, m, hm => by
    refine iter_stop ?_
    unfold f_ref02_Same_l0
    simp only
    rw [if_neg (fun q => absurd (of_decide_eq_true q) (by omega))]
  | d + 1, m, hm => by
    have hstep : f_ref02_Same_l0 l l (m : Int) = some (.inl ((m + 1 : Nat) : Int)) := by
      unfold f_ref02_Same_l0
      simp only
      rw [if_pos (decide_eq_true (by omega)), grd_t ⟨by omega, by omega⟩, grd_t ⟨by omega, by omega⟩, w_i64 (by omega) (by omega)]
      simp
    rw [iter_next hstep]
    exact rsame_loop l hl d (m + 1) (by omega)
theorem rsame_eq (l : List Int) (hl : l.length ≤ 274877906944) : f_ref02_Same l l = some true := by
  unfold f_ref02_Same
  have h := rsame_loop l hl l.length 0 (by omega)
  rw [show ((0 : Nat) : Int) = 0 from rfl] at h
  rw [h, if_neg (by simp)]
  rfl

/-! ### a number read -/
def accN (b : List Int) (a : Nat) : Nat → Int
  | 0 => rd b (a : Int) % 64
  | i + 1 => accN b a i * 256 + rd b ((a + (i + 1) : Nat) : Int)
def capN : Nat → Int
  | 0 => 63
  | i + 1 => capN i * 256 + 255
theorem capN_le : ∀ i : Fin 8, capN i.val ≤ top := by decide
theorem capN_le6 : ∀ i : Fin 7, capN i.val ≤ 18014398509481983 := by decide
theorem accN_bnd {b : List Int} (hb : okB b) {a : Nat} : ∀ i : Nat, a + i < b.length → 0 ≤ accN b a i ∧ accN b a i ≤ capN i
  | 0, h => by
    have := hb.at (i := a) (by omega)
    simp only [accN, capN]
    omega
  | i + 1, h => by
    have h1 := accN_bnd (a := a) hb i (by omega)
    have h2 := hb.at (i := a + (i + 1)) h
    simp only [accN, capN]
    omega
def headK (h : Int) : Nat := if h / 64 = 0 then 1 else if h / 64 = 1 then 2 else if h / 64 = 2 then 4 else 8
def sizeK (n : Int) : Nat := if n < 64 then 1 else if n < 16384 then 2 else if n < 1073741824 then 4 else 8
def numR (b : List Int) (a : Nat) (most : Int) : Int ⊕ (Int × Nat) :=
  if b.length ≤ a then .inl 3
  else if b.length < a + headK (rd b (a : Int)) then .inl 3
  else if sizeK (accN b a (headK (rd b (a : Int)) - 1)) ≠ headK (rd b (a : Int)) then .inl 5
  else if most < accN b a (headK (rd b (a : Int)) - 1) then .inl 6
  else .inr (accN b a (headK (rd b (a : Int)) - 1), a + headK (rd b (a : Int)))
theorem headK_le (h : Int) : headK h ≤ 8 ∧ 1 ≤ headK h := by
  unfold headK
  split
  · simp
  split
  · simp
  split <;> simp
abbrev numOp : ByteArray := ⟨#[110, 117, 109]⟩
theorem fail_bad (b : List Int) (a : Int) (e : GErr) (h : e.isNil = false) (o : ByteArray) (at_ c : Int) : f_wire_Reader_fail ⟨b, a, e⟩ o at_ c = some e := by
  unfold f_wire_Reader_fail
  simp only [h]
  rfl
theorem next1 {b : List Int} (hb : okB b) {a i : Nat} (h : a + (i + 1) < b.length) (hi : i ≤ 6) (hl : b.length ≤ 1000000000000) : f_wire_Reader_Num_1 (accN b a i) (b.drop a) ((i + 1 : Nat) : Int) = some (accN b a (i + 1), ((i + 2 : Nat) : Int)) := by
  have hb1 := accN_bnd (a := a) hb i (by omega)
  have hb2 := capN_le6 ⟨i, by omega⟩
  have hb3 := hb.at (i := a + (i + 1)) h
  simp only at hb2
  unfold f_wire_Reader_Num_1
  rw [grd_t ⟨by omega, by simp; omega⟩, rd_drop, next8 (by omega) (by omega) hb3.1 hb3.2, w_i64 (by omega) (by omega)]
  rfl
theorem shl_head {h : Int} (h0 : 0 ≤ h) (h1 : h ≤ 255) : shlI .i64 1 (shrI .u8 h 6) = ((headK h : Nat) : Int) := by
  rw [(head_eq h0 h1).2]
  have hq : h / 64 = 0 ∨ h / 64 = 1 ∨ h / 64 = 2 ∨ h / 64 = 3 := by omega
  unfold headK
  rcases hq with q | q | q | q <;> rw [q]
  · exact shl_tab.1
  · exact shl_tab.2.1
  · exact shl_tab.2.2.1
  · exact shl_tab.2.2.2
theorem headK_cases (h : Int) : headK h = 1 ∨ headK h = 2 ∨ headK h = 4 ∨ headK h = 8 := by
  unfold headK
  split
  · simp
  split
  · simp
  split <;> simp
def leastK (k : Nat) : Int := if k = 8 then 1073741824 else if k = 4 then 16384 else if k = 2 then 64 else 0
def numP (b : List Int) (a : Nat) (most : Int) : Int × Int × GErr :=
  match numR b a most with
  | .inl c => (0, (a : Int), .fault numOp (a : Int) (.code c))
  | .inr (n, a') => (n, (a' : Int), .nil)
theorem wnum_tail (b : List Int) (a k : Nat) (most n : Int) (hk : k = 1 ∨ k = 2 ∨ k = 4 ∨ k = 8) (hn : 0 ≤ n) (hc : n ≤ capN (k - 1)) (ha : a + k ≤ b.length) (hl : b.length ≤ 1000000000000) :
    (if (decide (n < leastK k)) = true then ((f_wire_Reader_fail ⟨b, (a : Int), .nil⟩ numOp (a : Int) 5).bind fun (r103 : GErr) => (some ((0 : Int), (a : Int), r103))) else (if (decide (most < n)) = true then ((f_wire_Reader_fail ⟨b, (a : Int), .nil⟩ numOp (a : Int) 6).bind fun (r108 : GErr) => (some ((0 : Int), (a : Int), r108))) else (some (n, IntKind.i64.wrap ((a : Int) + (k : Int)), GErr.nil)))) =
    some (match (if sizeK n ≠ k then Sum.inl 5 else if most < n then Sum.inl 6 else Sum.inr (n, a + k) : Int ⊕ (Int × Nat)) with
      | .inl c => (0, (a : Int), .fault numOp (a : Int) (.code c))
      | .inr (n, a') => (n, (a' : Int), .nil)) := by
  have hs : (n < leastK k) ↔ sizeK n ≠ k := by
    unfold leastK sizeK
    rcases hk with rfl | rfl | rfl | rfl
    · have : capN (1 - 1) = 63 := rfl
      simp; omega
    · have : capN (2 - 1) = 16383 := rfl
      simp
      constructor
      · intro h; rw [if_pos h]; decide
      · intro h
        by_cases g : n < 64
        · exact g
        · rw [if_neg g, if_pos (by omega)] at h; exact absurd rfl h
    · have : capN (4 - 1) = 1073741823 := rfl
      simp
      constructor
      · intro h
        by_cases g : n < 64
        · rw [if_pos g]; decide
        · rw [if_neg g, if_pos h]; decide
      · intro h
        by_cases g : n < 16384
        · exact g
        · rw [if_neg (by omega), if_neg g, if_pos (by omega)] at h; exact absurd rfl h
    · simp
      constructor
      · intro h
        by_cases g : n < 64
        · rw [if_pos g]; decide
        · rw [if_neg g]
          by_cases g2 : n < 16384
          · rw [if_pos g2]; decide
          · rw [if_neg g2, if_pos h]; decide
      · intro h
        by_cases g : n < 1073741824
        · exact g
        · rw [if_neg (by omega), if_neg (by omega), if_neg g] at h; exact absurd rfl h
  have hk8 : k ≤ 8 := by omega
  by_cases g3 : sizeK n ≠ k
  · rw [if_pos (decide_eq_true (hs.2 g3)), if_pos g3]; rfl
  · rw [if_neg (fun q => g3 (hs.1 (of_decide_eq_true q))), if_neg g3]
    by_cases g4 : most < n
    · rw [if_pos (decide_eq_true g4), if_pos g4]; rfl
    · rw [if_neg (fun q => g4 (of_decide_eq_true q)), if_neg g4, w_i64 (by omega) (by omega)]; rfl
theorem wnum_read {b : List Int} (hb : okB b) (hl : b.length ≤ 1000000000000) {a : Nat} (ha : a ≤ b.length) (most : Int) : f_wire_Reader_Num ⟨b, (a : Int), .nil⟩ most = some (numP b a most) := by
  unfold f_wire_Reader_Num numP numR
  simp only [sub_end]
  rw [if_neg (show ¬ ((!GErr.isNil GErr.nil) = true) from by decide), grd_t ⟨by omega, by omega, by omega⟩]
  by_cases g1 : b.length ≤ a
  · rw [if_pos (decide_eq_true (by simp; omega)), if_pos g1]; rfl
  have hB := hb.at (i := a) (by omega)
  have e0 : rd (b.drop a) 0 = rd b (a : Int) := rd_drop b a 0
  have hK := headK_cases (rd b (a : Int))
  have eN : IntKind.u64.wrap (andI .u8 (rd b (a : Int)) 63) = accN b a 0 := by
    rw [(head_eq hB.1 hB.2).1, w_u64 (by omega) (by omega)]; rfl
  have hsh : 0 ≤ shrI .u8 (rd b (a : Int)) 6 := by rw [(head_eq hB.1 hB.2).2]; omega
  rw [if_neg (fun q => absurd (of_decide_eq_true q) (by simp; omega)), if_neg g1, grd_t ⟨by omega, by simp; omega⟩]
  simp only [e0, shl_head hB.1 hB.2, eN]
  rw [grd_t hsh]
  generalize hkk : headK (rd b (a : Int)) = k at hK
  by_cases g2 : b.length < a + k
  · rw [if_pos (decide_eq_true (by simp; omega)), if_pos g2]; rfl
  rw [if_neg (fun q => absurd (of_decide_eq_true q) (by simp; omega)), if_neg g2, grd_t ⟨by omega, by simp; omega⟩]
  have hbn : 0 ≤ accN b a (k - 1) ∧ accN b a (k - 1) ≤ capN (k - 1) := accN_bnd hb (k - 1) (by omega)
  have tail := wnum_tail b a k most (accN b a (k - 1)) hK hbn.1 hbn.2 (by omega) hl
  rcases hK with rfl | rfl | rfl | rfl
  · rw [if_neg (by decide), if_neg (by decide), if_neg (by decide)]
    exact tail
  · have n1 : f_wire_Reader_Num_1 (accN b a 0) (b.drop a) 1 = some (accN b a 1, 2) := next1 hb (i := 0) (by omega) (by decide) hl
    rw [if_neg (by decide), if_neg (by decide), if_pos (by decide)]
    simp only [Option.bind_some, Sum.elim_inl, Sum.elim_inr, n1]
    exact tail
  · have n1 : f_wire_Reader_Num_1 (accN b a 0) (b.drop a) 1 = some (accN b a 1, 2) := next1 hb (i := 0) (by omega) (by decide) hl
    have n2 : f_wire_Reader_Num_1 (accN b a 1) (b.drop a) 2 = some (accN b a 2, 3) := next1 hb (i := 1) (by omega) (by decide) hl
    have n3 : f_wire_Reader_Num_1 (accN b a 2) (b.drop a) 3 = some (accN b a 3, 4) := next1 hb (i := 2) (by omega) (by decide) hl
    rw [if_neg (by decide), if_pos (by decide)]
    simp only [Option.bind_some, Sum.elim_inl, Sum.elim_inr, n1, n2, n3]
    exact tail
  · have n1 : f_wire_Reader_Num_1 (accN b a 0) (b.drop a) 1 = some (accN b a 1, 2) := next1 hb (i := 0) (by omega) (by decide) hl
    have n2 : f_wire_Reader_Num_1 (accN b a 1) (b.drop a) 2 = some (accN b a 2, 3) := next1 hb (i := 1) (by omega) (by decide) hl
    have n3 : f_wire_Reader_Num_1 (accN b a 2) (b.drop a) 3 = some (accN b a 3, 4) := next1 hb (i := 2) (by omega) (by decide) hl
    have n4 : f_wire_Reader_Num_1 (accN b a 3) (b.drop a) 4 = some (accN b a 4, 5) := next1 hb (i := 3) (by omega) (by decide) hl
    have n5 : f_wire_Reader_Num_1 (accN b a 4) (b.drop a) 5 = some (accN b a 5, 6) := next1 hb (i := 4) (by omega) (by decide) hl
    have n6 : f_wire_Reader_Num_1 (accN b a 5) (b.drop a) 6 = some (accN b a 6, 7) := next1 hb (i := 5) (by omega) (by decide) hl
    have n7 : f_wire_Reader_Num_1 (accN b a 6) (b.drop a) 7 = some (accN b a 7, 8) := next1 hb (i := 6) (by omega) (by decide) hl
    rw [if_pos (by decide)]
    simp only [Option.bind_some, Sum.elim_inl, Sum.elim_inr, n1, n2, n3, n4, n5, n6, n7]
    exact tail
theorem wnum_bad {b : List Int} {a : Int} {e : GErr} (h : e.isNil = false) (most : Int) : f_wire_Reader_Num ⟨b, a, e⟩ most = some (0, a, e) := by
  unfold f_wire_Reader_Num
  rw [if_pos (by simp [h])]
theorem numR_ok {b : List Int} (hb : okB b) {a : Nat} {most n : Int} {a' : Nat} (h : numR b a most = .inr (n, a')) : 0 ≤ n ∧ n ≤ top ∧ n ≤ most ∧ a < a' ∧ a' ≤ b.length ∧ a' ≤ a + 8 := by
  unfold numR at h
  have hk := headK_le (rd b (a : Int))
  split at h
  · cases h
  split at h
  · cases h
  split at h
  · cases h
  split at h
  · cases h
  · cases h
    have h1 := accN_bnd (a := a) hb (headK (rd b (a : Int)) - 1) (by omega)
    have h2 := capN_le ⟨headK (rd b (a : Int)) - 1, by omega⟩
    simp only at h2
    exact ⟨h1.1, by omega, by omega, by omega, by omega, by omega⟩
def pos0 (n : Int) : Int := if n < 0 then 0 else n
theorem wint_read {b : List Int} (hb : okB b) (hl : b.length ≤ 1000000000000) {a : Nat} (ha : a ≤ b.length) {most : Int} (hm : most ≤ 9223372036854775807) : f_wire_Reader_Int ⟨b, (a : Int), .nil⟩ most = some (numP b a (pos0 most)) := by
  unfold f_wire_Reader_Int
  have hp : 0 ≤ pos0 most ∧ pos0 most ≤ 9223372036854775807 := by unfold pos0; split <;> omega
  rw [show (if most < (0 : Int) then (0 : Int) else most) = pos0 most from rfl, w_u64 hp.1 (by omega), wnum_read hb hl ha]
  simp only [Option.bind_some]
  unfold numP
  cases h : numR b a (pos0 most) with
  | inl c => rfl
  | inr x =>
    obtain ⟨n, a'⟩ := x
    have := numR_ok hb h
    unfold top at this
    simp only
    rw [w_i64 (by omega) (by omega)]
theorem wint_bad {b : List Int} {a : Int} {e : GErr} (h : e.isNil = false) (most : Int) : f_wire_Reader_Int ⟨b, a, e⟩ most = some (0, a, e) := by
  unfold f_wire_Reader_Int
  rw [wnum_bad h]; rfl
abbrev flagOp : ByteArray := ⟨#[102, 108, 97, 103]⟩
abbrev textOp : ByteArray := ⟨#[116, 101, 120, 116]⟩
abbrev endOp : ByteArray := ⟨#[101, 110, 100]⟩
abbrev RdR (α : Type) := (Int × ByteArray × Int × Nat) ⊕ (α × Nat)
def flagR (b : List Int) (a : Nat) : RdR Bool :=
  if b.length ≤ a then .inl (3, flagOp, (a : Int), a) else if 1 < rd b (a : Int) then .inl (5, flagOp, (a : Int), a) else .inr (decide (rd b (a : Int) = 1), a + 1)
def textR (b : List Int) (a : Nat) (most : Int) : RdR (List Int) := match numR b a (pos0 most) with
  | .inl c => .inl (c, numOp, (a : Int), a)
  | .inr (n, a') => if ((b.length - a' : Nat) : Int) < n then .inl (3, textOp, (a : Int), a) else .inr ((b.drop a').take n.toNat, a' + n.toNat)
def rowG (b : List Int) (each : Int) : Nat → Nat → List Int → RdR (List Int)
  | 0, a, l => .inr (l, a)
  | k + 1, a, l => match numR b a (pos0 each) with
    | .inl c => .inl (c, numOp, (a : Int), a)
    | .inr (n, a') => rowG b each k a' (l ++ [n])
def rowR (b : List Int) (a : Nat) (many each : Int) : RdR (List Int) := match numR b a (pos0 many) with
  | .inl c => .inl (c, numOp, (a : Int), a)
  | .inr (n, a') => rowG b each n.toNat a' []
def asP {α : Type} (z : α) : RdR α → α × Int × GErr
  | .inl (c, o, w, a) => (z, (a : Int), .fault o w (.code c))
  | .inr (x, a) => (x, (a : Int), .nil)
theorem wflag_read {b : List Int} (hb : okB b) (hl : b.length ≤ 1000000000000) (a : Nat) : f_wire_Reader_Flag ⟨b, (a : Int), .nil⟩ = some (asP false (flagR b a)) := by
  unfold f_wire_Reader_Flag flagR
  dsimp only
  rw [if_neg (show ¬ ((!GErr.isNil GErr.nil) = true) from by decide)]
  by_cases g1 : b.length ≤ a
  · rw [if_pos (decide_eq_true (by omega)), if_pos g1]; rfl
  rw [if_neg (fun q => absurd (of_decide_eq_true q) (by omega)), if_neg g1, grd_t ⟨by omega, by omega⟩]
  by_cases g2 : 1 < rd b (a : Int)
  · rw [if_pos (decide_eq_true g2), if_pos g2]; rfl
  have e1 : IntKind.i64.wrap ((a : Int) + 1) = ((a + 1 : Nat) : Int) := by rw [w_i64 (by omega) (by omega)]; omega
  have e2 : IntKind.i64.wrap (((a + 1 : Nat) : Int) - 1) = (a : Int) := by rw [w_i64 (by omega) (by omega)]; omega
  rw [if_neg (fun q => g2 (of_decide_eq_true q)), if_neg g2]
  simp only [e1, e2]
  rw [grd_t ⟨by omega, by omega⟩]; rfl
theorem wflag_bad {b : List Int} {a : Int} {e : GErr} (h : e.isNil = false) : f_wire_Reader_Flag ⟨b, a, e⟩ = some (false, a, e) := by
  unfold f_wire_Reader_Flag
  rw [if_pos (by simp [h])]; rfl
theorem clone_eq (l : List Int) (h : l.length ≤ 1000000000) : f_slices_Clone_byte_byte l = some l := by
  unfold f_slices_Clone_byte_byte
  rw [grd_t (by simp; omega)]; simp
theorem wtext_read {b : List Int} (hb : okB b) (hl : b.length ≤ 1000000000) {a : Nat} (ha : a ≤ b.length) {most : Int} (hm : most ≤ 9223372036854775807) : f_wire_Reader_Text ⟨b, (a : Int), .nil⟩ most = some (asP [] (textR b a most)) := by
  unfold f_wire_Reader_Text textR
  rw [wint_read hb (by omega) ha hm]
  unfold numP
  cases h : numR b a (pos0 most) with
  | inl c => rfl
  | inr x =>
    obtain ⟨n, a'⟩ := x
    have hn := numR_ok hb h
    unfold top at hn
    simp only [Option.bind_some]
    rw [if_neg (show ¬ ((!GErr.isNil GErr.nil) = true) from by decide), w_i64 (n := (b.length : Int) - (a' : Int)) (by omega) (by omega)]
    by_cases g : ((b.length - a' : Nat) : Int) < n
    · rw [if_pos (decide_eq_true (by omega)), if_pos g]; rfl
    · obtain ⟨N, rfl⟩ := Int.eq_ofNat_of_zero_le hn.1
      have e1 : IntKind.i64.wrap ((a' : Int) + (N : Int)) = ((a' + N : Nat) : Int) := by rw [w_i64 (by omega) (by omega)]; omega
      have e2 : IntKind.i64.wrap (((a' + N : Nat) : Int) - (N : Int)) = (a' : Int) := by rw [w_i64 (by omega) (by omega)]; omega
      rw [if_neg (fun q => absurd (of_decide_eq_true q) (by omega)), if_neg g]
      simp only [e1, e2]
      rw [grd_t ⟨by omega, by omega, by omega⟩, sub_nat, clone_eq _ (by simp; omega)]
      rw [show a' + N - a' = N by omega]; rfl
theorem wtext_bad {b : List Int} {a : Int} {e : GErr} (h : e.isNil = false) (most : Int) : f_wire_Reader_Text ⟨b, a, e⟩ most = some ([], a, e) := by
  unfold f_wire_Reader_Text
  rw [wint_bad h]
  simp only [Option.bind_some]
  rw [if_pos (by simp [h])]
theorem wrow_rloop {b : List Int} (hb : okB b) (hl : b.length ≤ 1000000000) (r : T_wire_Reader) (hr : r.b = b) {each : Int} (he : each ≤ 9223372036854775807) (N : Nat) (hN : N ≤ 4611686018427387903) : ∀ (k i a : Nat) (l : List Int), i + k = N → a ≤ b.length → l.length ≤ a →
    ∃ l', iter (f_wire_Reader_Row_l0 r each (N : Int)) (l, (i : Int), (a : Int), .nil) = some (l', (asP [] (rowG b each k a l)).2) ∧ ((asP [] (rowG b each k a l)).2.2.isNil = true → l' = (asP [] (rowG b each k a l)).1)
  | 0, i, a, l, hi, ha, hla => by
    refine ⟨l, iter_stop ?_, fun _ => rfl⟩
    unfold f_wire_Reader_Row_l0
    simp only
    rw [if_neg (fun q => absurd (of_decide_eq_true q) (by omega))]
    rfl
  | k + 1, i, a, l, hi, ha, hla => by
    have hstep : f_wire_Reader_Row_l0 r each (N : Int) (l, (i : Int), (a : Int), .nil) = some (.inl (l ++ [(numP b a (pos0 each)).1], ((i + 1 : Nat) : Int), (numP b a (pos0 each)).2.1, (numP b a (pos0 each)).2.2)) := by
      unfold f_wire_Reader_Row_l0
      simp only
      rw [if_pos (decide_eq_true (by omega)), hr, wint_read hb (by omega) ha he]
      simp only [Option.bind_some, GErr.isNil, if_true]
      rw [grd_t (by simp; omega), w_i64 (by omega) (by omega)]
      rfl
    rw [iter_next hstep]
    unfold numP rowG
    cases h : numR b a (pos0 each) with
    | inl c =>
      refine ⟨l ++ [0], iter_stop ?_, fun q => by cases q⟩
      unfold f_wire_Reader_Row_l0
      simp only
      by_cases g : ((i + 1 : Nat) : Int) < (N : Int)
      · rw [if_pos (decide_eq_true g)]; rfl
      · rw [if_neg (fun q => g (of_decide_eq_true q))]; rfl
    | inr x =>
      obtain ⟨n, a'⟩ := x
      have hn := numR_ok hb h
      exact wrow_rloop hb hl r hr he N hN k (i + 1) a' (l ++ [n]) (by omega) (by omega) (by simp; omega)
theorem wrow_read {b : List Int} (hb : okB b) (hl : b.length ≤ 1000000000) {a : Nat} (ha : a ≤ b.length) {many each : Int} (hm : many ≤ 9223372036854775807) (he : each ≤ 9223372036854775807) : f_wire_Reader_Row ⟨b, (a : Int), .nil⟩ many each = some (asP [] (rowR b a many each)) := by
  unfold f_wire_Reader_Row rowR
  rw [wint_read hb (by omega) ha hm]
  unfold numP
  cases h : numR b a (pos0 many) with
  | inl c =>
    simp only [Option.bind_some]
    rw [iter_stop (e := ([], (a : Int), .fault numOp (a : Int) (.code c))) rfl]
    rfl
  | inr x =>
    obtain ⟨n, a'⟩ := x
    have hn := numR_ok hb h
    unfold top at hn
    obtain ⟨N, rfl⟩ := Int.eq_ofNat_of_zero_le hn.1
    simp only [Option.bind_some]
    obtain ⟨l', h1, h2⟩ := wrow_rloop hb hl ⟨b, (a : Int), .nil⟩ rfl he N (by omega) N 0 a' [] (by omega) (by omega) (by simp)
    rw [show ((0 : Nat) : Int) = 0 from rfl] at h1
    rw [h1, show ((N : Int)).toNat = N by omega]
    simp only [Option.bind_some]
    cases hr : rowG b each N a' [] with
    | inl x => rfl
    | inr x =>
      rw [hr] at h2
      rw [h2 rfl]
      rfl
theorem wrow_bad {b : List Int} {a : Int} {e : GErr} (h : e.isNil = false) (many each : Int) : f_wire_Reader_Row ⟨b, a, e⟩ many each = some ([], a, e) := by
  unfold f_wire_Reader_Row
  rw [wint_bad h]
  simp only [Option.bind_some]
  rw [iter_stop (e := ([], a, e)) (by
    unfold f_wire_Reader_Row_l0
    rfl)]
  simp [h]
theorem wend_eq (b : List Int) (a : Int) (e : GErr) : f_wire_Reader_End ⟨b, a, e⟩ = some (if a < (b.length : Int) ∧ e.isNil = true then (.fault endOp a (.code 5), .fault endOp a (.code 5)) else (e, e)) := by
  unfold f_wire_Reader_End
  by_cases g : a < (b.length : Int)
  · rw [if_pos (decide_eq_true g)]
    cases h : e.isNil with
    | true =>
      rw [if_pos ⟨g, rfl⟩]
      obtain rfl : e = .nil := by cases e <;> first | rfl | cases h
      rfl
    | false => rw [fail_bad _ _ _ h, if_neg (by simp)]; rfl
  · rw [if_neg (fun q => g (of_decide_eq_true q)), if_neg (fun q => g q.1)]; rfl

/-! ### the reference reads -/
/-! ### what is read was written just so -/
/-! ### what is written is read -/
theorem rd_mid (pre x post : List Int) {i : Nat} (hi : i < x.length) : rd (pre ++ (x ++ post)) ((pre.length + i : Nat) : Int) = rd x (i : Int) := by
  rw [rdn (show pre.length + i < (pre ++ (x ++ post)).length by simp; omega), rdn hi]
  rw [List.getElem_append_right (by omega)]
  simp only [Nat.add_sub_cancel_left]
  rw [List.getElem_append_left hi]
theorem rd_mid0 (pre x post : List Int) (hi : 0 < x.length) : rd (pre ++ (x ++ post)) (pre.length : Int) = rd x 0 := rd_mid pre x post hi
theorem num_back (pre post : List Int) {n most : Int} (h0 : 0 ≤ n) (h1 : n ≤ top) (hm : n ≤ most) : numR (pre ++ (numB n ++ post)) pre.length most = .inr (n, pre.length + (numB n).length) := by
  have hcap : cap62 n = n := by unfold cap62; rw [if_neg (by omega)]
  have e : numB n = numC n := by unfold numB; rw [hcap]
  rw [e]
  have ht := h1
  unfold top at ht
  have key : ∀ k, (numC n).length = k → headK (rd (numC n) 0) = k → sizeK n = k → 1 ≤ k → accN (pre ++ (numC n ++ post)) pre.length (k - 1) = n → numR (pre ++ (numC n ++ post)) pre.length most = .inr (n, pre.length + (numC n).length) := by
    intro k hk hh hs hk1 ha
    unfold numR
    rw [rd_mid0 pre (numC n) post (by omega), hh, ha, hs, hk, if_neg (by simp; omega), if_neg (by simp; omega), if_neg (by simp), if_neg (by omega)]
  by_cases c1 : n < 64
  · have ec : numC n = [n] := by unfold numC; rw [if_pos c1]
    refine key 1 (by rw [ec]; rfl) ?_ (by unfold sizeK; rw [if_pos c1]) (by decide) ?_
    · rw [ec]; show headK n = 1; unfold headK; rw [if_pos (by omega)]
    · show rd _ (pre.length : Int) % 64 = n
      rw [rd_mid0 pre (numC n) post (by rw [ec]; simp), ec]
      show n % 64 = n
      omega
  by_cases c2 : n < 16384
  · have ec : numC n = [64 + n / 256, n % 256] := by unfold numC; rw [if_neg c1, if_pos c2]
    refine key 2 (by rw [ec]; rfl) ?_ (by unfold sizeK; rw [if_neg c1, if_pos c2]) (by decide) ?_
    · rw [ec]; show headK (64 + n / 256) = 2; unfold headK; rw [if_neg (by omega), if_pos (by omega)]
    · show rd _ (pre.length : Int) % 64 * 256 + rd _ ((pre.length + 1 : Nat) : Int) = n
      rw [rd_mid0 pre (numC n) post (by rw [ec]; simp), rd_mid pre (numC n) post (i := 1) (by rw [ec]; simp), ec]
      show (64 + n / 256) % 64 * 256 + n % 256 = n
      omega
  by_cases c3 : n < 1073741824
  · have ec : numC n = [128 + n / 256 / 256 / 256, n / 256 / 256 % 256, n / 256 % 256, n % 256] := by unfold numC; rw [if_neg c1, if_neg c2, if_pos c3]
    refine key 4 (by rw [ec]; rfl) ?_ (by unfold sizeK; rw [if_neg c1, if_neg c2, if_pos c3]) (by decide) ?_
    · rw [ec]; show headK (128 + n / 256 / 256 / 256) = 4; unfold headK; rw [if_neg (by omega), if_neg (by omega), if_pos (by omega)]
    · show ((rd _ (pre.length : Int) % 64 * 256 + rd _ ((pre.length + 1 : Nat) : Int)) * 256 + rd _ ((pre.length + 2 : Nat) : Int)) * 256 + rd _ ((pre.length + 3 : Nat) : Int) = n
      rw [rd_mid0 pre (numC n) post (by rw [ec]; simp), rd_mid pre (numC n) post (i := 1) (by rw [ec]; simp), rd_mid pre (numC n) post (i := 2) (by rw [ec]; simp), rd_mid pre (numC n) post (i := 3) (by rw [ec]; simp), ec]
      show (((128 + n / 256 / 256 / 256) % 64 * 256 + n / 256 / 256 % 256) * 256 + n / 256 % 256) * 256 + n % 256 = n
      rw [show (128 + n / 256 / 256 / 256) % 64 = n / 256 / 256 / 256 by omega, show n / 256 / 256 / 256 * 256 + n / 256 / 256 % 256 = n / 256 / 256 by omega, show n / 256 / 256 * 256 + n / 256 % 256 = n / 256 by omega]
      omega
  · have ec : numC n = [192 + n / 256 / 256 / 256 / 256 / 256 / 256 / 256, n / 256 / 256 / 256 / 256 / 256 / 256 % 256, n / 256 / 256 / 256 / 256 / 256 % 256, n / 256 / 256 / 256 / 256 % 256, n / 256 / 256 / 256 % 256, n / 256 / 256 % 256, n / 256 % 256, n % 256] := by unfold numC; rw [if_neg c1, if_neg c2, if_neg c3]
    have hx : 0 ≤ n / 256 / 256 / 256 / 256 / 256 / 256 / 256 ∧ n / 256 / 256 / 256 / 256 / 256 / 256 / 256 < 64 := by omega
    refine key 8 (by rw [ec]; rfl) ?_ (by unfold sizeK; rw [if_neg c1, if_neg c2, if_neg c3]) (by decide) ?_
    · rw [ec]; show headK (192 + n / 256 / 256 / 256 / 256 / 256 / 256 / 256) = 8; unfold headK
      generalize n / 256 / 256 / 256 / 256 / 256 / 256 / 256 = x at hx
      rw [if_neg (by omega), if_neg (by omega), if_neg (by omega)]
    · show ((((((rd _ (pre.length : Int) % 64 * 256 + rd _ ((pre.length + 1 : Nat) : Int)) * 256 + rd _ ((pre.length + 2 : Nat) : Int)) * 256 + rd _ ((pre.length + 3 : Nat) : Int)) * 256 + rd _ ((pre.length + 4 : Nat) : Int)) * 256 + rd _ ((pre.length + 5 : Nat) : Int)) * 256 + rd _ ((pre.length + 6 : Nat) : Int)) * 256 + rd _ ((pre.length + 7 : Nat) : Int) = n
      rw [rd_mid0 pre (numC n) post (by rw [ec]; simp), rd_mid pre (numC n) post (i := 1) (by rw [ec]; simp), rd_mid pre (numC n) post (i := 2) (by rw [ec]; simp), rd_mid pre (numC n) post (i := 3) (by rw [ec]; simp), rd_mid pre (numC n) post (i := 4) (by rw [ec]; simp), rd_mid pre (numC n) post (i := 5) (by rw [ec]; simp), rd_mid pre (numC n) post (i := 6) (by rw [ec]; simp), rd_mid pre (numC n) post (i := 7) (by rw [ec]; simp), ec]
      show (((((((192 + n / 256 / 256 / 256 / 256 / 256 / 256 / 256) % 64 * 256 + n / 256 / 256 / 256 / 256 / 256 / 256 % 256) * 256 + n / 256 / 256 / 256 / 256 / 256 % 256) * 256 + n / 256 / 256 / 256 / 256 % 256) * 256 + n / 256 / 256 / 256 % 256) * 256 + n / 256 / 256 % 256) * 256 + n / 256 % 256) * 256 + n % 256 = n
      have dm : ∀ x : Int, x / 256 * 256 + x % 256 = x := fun x => by omega
      have h64 : (192 + n / 256 / 256 / 256 / 256 / 256 / 256 / 256) % 64 = n / 256 / 256 / 256 / 256 / 256 / 256 / 256 := by
        generalize n / 256 / 256 / 256 / 256 / 256 / 256 / 256 = x at hx
        omega
      rw [h64, dm, dm, dm, dm, dm, dm, dm]
theorem int_back (pre post : List Int) {n most : Int} (h0 : 0 ≤ n) (h1 : n ≤ top) (hm : n ≤ most) : numR (pre ++ (intB n ++ post)) pre.length most = .inr (n, pre.length + (intB n).length) := by
  unfold intB
  rw [if_neg (by omega)]
  exact num_back pre post h0 h1 hm
theorem flag_back (pre post : List Int) (is : Bool) : flagR (pre ++ (flagB is ++ post)) pre.length = .inr (is, pre.length + (flagB is).length) := by
  unfold flagR
  have hl : (flagB is).length = 1 := by cases is <;> rfl
  rw [rd_mid0 pre (flagB is) post (by omega), if_neg (by simp; omega)]
  cases is <;> rfl
theorem text_back (pre post s : List Int) {most : Int} (hm : (s.length : Int) ≤ most) (hs : s.length ≤ 1000000000) : textR (pre ++ (textB s ++ post)) pre.length most = .inr (s, pre.length + (textB s).length) := by
  unfold textR textB
  have hp : pos0 most = most := by unfold pos0; rw [if_neg (by omega)]
  have e : pre ++ (intB (s.length : Int) ++ s ++ post) = pre ++ (intB (s.length : Int) ++ (s ++ post)) := by simp
  rw [e, hp, int_back pre (s ++ post) (by omega) (by unfold top; omega) hm]
  simp only
  rw [if_neg (by simp; omega)]
  congr 2
  · rw [show ((s.length : Int)).toNat = s.length by omega, ← List.append_assoc, show pre.length + (intB (s.length : Int)).length = (pre ++ intB (s.length : Int)).length by simp, List.drop_left, List.take_left]
  · simp; omega
theorem ints_back {each : Int} (he : each ≤ top) : ∀ (l pre post acc : List Int), (∀ x ∈ l, 0 ≤ x ∧ x ≤ each) → rowG (pre ++ (intsB l ++ post)) each l.length pre.length acc = .inr (acc ++ l, pre.length + (intsB l).length)
  | [], pre, post, acc, _ => by simp [rowG, intsB]
  | x :: l, pre, post, acc, h => by
    have hx := h x (by simp)
    have hp : pos0 each = each := by unfold pos0; rw [if_neg (by omega)]
    have e : pre ++ (intsB (x :: l) ++ post) = pre ++ (intB x ++ (intsB l ++ post)) := by rw [intsB_cons]; simp
    rw [e, List.length_cons]
    unfold rowG
    rw [hp, int_back pre (intsB l ++ post) hx.1 (by omega) hx.2]
    simp only
    have ih := ints_back he l (pre ++ intB x) post (acc ++ [x]) (fun y hy => h y (by simp [hy]))
    rw [show pre ++ (intB x ++ (intsB l ++ post)) = (pre ++ intB x) ++ (intsB l ++ post) by simp, show pre.length + (intB x).length = (pre ++ intB x).length by simp, ih, intsB_cons]
    simp
    omega
theorem row_back (pre post l : List Int) {many each : Int} (hm : (l.length : Int) ≤ many) (hl : l.length ≤ 1000000000) (he : each ≤ top) (h : ∀ x ∈ l, 0 ≤ x ∧ x ≤ each) : rowR (pre ++ (rowB l ++ post)) pre.length many each = .inr (l, pre.length + (rowB l).length) := by
  unfold rowR rowB
  have hp : pos0 many = many := by unfold pos0; rw [if_neg (by omega)]
  have e : pre ++ (intB (l.length : Int) ++ intsB l ++ post) = pre ++ (intB (l.length : Int) ++ (intsB l ++ post)) := by simp
  rw [e, hp, int_back pre (intsB l ++ post) (by omega) (by unfold top; omega) hm]
  simp only
  have := ints_back he l (pre ++ intB (l.length : Int)) post [] h
  rw [show ((l.length : Int)).toNat = l.length by omega, show pre ++ (intB (l.length : Int) ++ (intsB l ++ post)) = (pre ++ intB (l.length : Int)) ++ (intsB l ++ post) by simp, show pre.length + (intB (l.length : Int)).length = (pre ++ intB (l.length : Int)).length by simp, this]
  simp
  omega
def mapR {α β : Type} (f : α → β) : RdR α → RdR β
  | .inl x => .inl x
  | .inr (x, a) => .inr (f x, a)
def leR {α : Type} (N : Nat) (P : α → Prop) : RdR α → Prop
  | .inl (c, _, _, a) => a ≤ N ∧ c ≠ 0
  | .inr (x, a) => a ≤ N ∧ P x
theorem leR.map {α β : Type} {N : Nat} {P : α → Prop} {Q : β → Prop} {f : α → β} {R : RdR α} (h : leR N P R) (k : ∀ x, P x → Q (f x)) : leR N Q (mapR f R) := by
  cases R with
  | inl x => exact h
  | inr x => exact ⟨h.1, k _ h.2⟩
/-! ### what was written is read -/
theorem pos0_nn {m : Int} (h : 0 ≤ m) : pos0 m = m := by unfold pos0; rw [if_neg (by omega)]
theorem backI {b : List Int} (hb : okB b) (hl : b.length ≤ 1000000) {pre post : List Int} {n m : Int} (e : b = pre ++ (intB n ++ post)) (h0 : 0 ≤ n) (h1 : n ≤ top) (hm : n ≤ m) (hm2 : m ≤ 9223372036854775807) :
    f_wire_Reader_Int ⟨b, (pre.length : Int), .nil⟩ m = some (n, ((pre ++ intB n).length : Int), .nil) := by
  have h := int_back pre post (n := n) (most := m) h0 h1 hm
  rw [← e] at h
  rw [wint_read hb (by omega) (by rw [e]; simp) hm2, pos0_nn (by omega)]
  unfold numP
  rw [h, List.length_append]
theorem backF {b : List Int} (hb : okB b) (hl : b.length ≤ 1000000) {pre post : List Int} {n : Bool} (e : b = pre ++ (flagB n ++ post)) :
    f_wire_Reader_Flag ⟨b, (pre.length : Int), .nil⟩ = some (n, ((pre ++ flagB n).length : Int), .nil) := by
  have h := flag_back pre post n
  rw [← e] at h
  rw [wflag_read hb (by omega), h, List.length_append]
  rfl
theorem backT {b : List Int} (hb : okB b) (hl : b.length ≤ 1000000) {pre post s : List Int} {m : Int} (e : b = pre ++ (textB s ++ post)) (hm : (s.length : Int) ≤ m) (hm2 : m ≤ 9223372036854775807) :
    f_wire_Reader_Text ⟨b, (pre.length : Int), .nil⟩ m = some (s, ((pre ++ textB s).length : Int), .nil) := by
  have hs : s.length ≤ b.length := by rw [e]; unfold textB; simp; omega
  have h := text_back pre post s (most := m) hm (by omega)
  rw [← e] at h
  rw [wtext_read hb (by omega) (by rw [e]; simp) hm2, h, List.length_append]
  rfl
theorem intsB_ge : ∀ (l : List Int), l.length ≤ (intsB l).length
  | [] => Nat.le_refl _
  | x :: l => by
    rw [intsB_cons]
    have h1 := intsB_ge l
    have h2 := (intB_len x).2
    simp only [List.length_cons, List.length_append]
    omega
theorem backE {b : List Int} {a : Nat} (h : a = b.length) : f_wire_Reader_End ⟨b, (a : Int), .nil⟩ = some (.nil, .nil) := by
  rw [wend_eq, if_neg (by omega)]

/-! ### what is read was written in just that way -/
theorem isNil_iff {e : GErr} : e.isNil = true ↔ e = .nil := by cases e <;> simp [GErr.isNil]
theorem rd_take {b : List Int} {c i : Nat} (h : i < c) : rd (b.take c) (i : Int) = rd b (i : Int) := by
  unfold rd
  simp only [Int.toNat_natCast, List.getD_eq_getElem?_getD, List.getElem?_take, if_pos h]
theorem accN_take {b : List Int} {c a : Nat} : ∀ i : Nat, a + i < c → accN (b.take c) a i = accN b a i
  | 0, h => by show rd _ _ % 64 = rd _ _ % 64; rw [rd_take (by omega)]
  | i + 1, h => by
    show accN _ _ i * 256 + rd _ _ = accN _ _ i * 256 + rd _ _
    rw [accN_take i (by omega), rd_take h]
theorem headK_pos (h : Int) : 1 ≤ headK h := by unfold headK; split; omega; split; omega; split <;> omega
theorem numR_take {b : List Int} {a c : Nat} (hc : c ≤ b.length) {most n : Int} {a' : Nat} (h : numR b a most = .inr (n, a')) : a < a' ∧ numR (b.take c) a most = if a' ≤ c then .inr (n, a') else .inl 3 := by
  have hlen : (b.take c).length = c := by rw [List.length_take]; omega
  unfold numR at h ⊢
  split at h
  · cases h
  rename_i g1
  split at h
  · cases h
  rename_i g2
  split at h
  · cases h
  rename_i g3
  split at h
  · cases h
  rename_i g4
  have hp := headK_pos (rd b (a : Int))
  cases h
  refine ⟨by omega, ?_⟩
  rw [hlen]
  by_cases k1 : c ≤ a
  · rw [if_pos k1, if_neg (by omega)]
  rw [if_neg k1, rd_take (by omega)]
  by_cases k2 : c < a + headK (rd b (a : Int))
  · rw [if_pos k2, if_neg (by omega)]
  rw [if_neg k2, accN_take _ (by omega), if_neg g3, if_neg g4, if_pos (by omega)]
theorem flagR_take {b : List Int} {a c : Nat} (hc : c ≤ b.length) {x : Bool} {a' : Nat} (h : flagR b a = .inr (x, a')) : a < a' ∧ ((a' ≤ c → flagR (b.take c) a = .inr (x, a')) ∧ (c < a' → ∃ o w k, flagR (b.take c) a = .inl (3, o, w, k))) := by
  have hlen : (b.take c).length = c := by rw [List.length_take]; omega
  unfold flagR at h ⊢
  split at h
  · cases h
  split at h
  · cases h
  rename_i g2
  cases h
  refine ⟨by omega, fun k => ?_, fun k => ?_⟩
  · rw [hlen, if_neg (by omega), rd_take (by omega), if_neg g2]
  · rw [hlen, if_pos (by omega)]; exact ⟨_, _, _, rfl⟩
theorem textR_take {b : List Int} (hb : okB b) {a c : Nat} (hc : c ≤ b.length) {m : Int} {x : List Int} {a' : Nat} (h : textR b a m = .inr (x, a')) : a < a' ∧ ((a' ≤ c → textR (b.take c) a m = .inr (x, a')) ∧ (c < a' → ∃ o w k, textR (b.take c) a m = .inl (3, o, w, k))) := by
  have hlen : (b.take c).length = c := by rw [List.length_take]; omega
  unfold textR at h ⊢
  cases e : numR b a (pos0 m) with
  | inl k => rw [e] at h; cases h
  | inr y =>
    obtain ⟨n, a1⟩ := y
    rw [e] at h
    simp only at h
    have hn := numR_ok hb (n := n) (a' := a1) e
    obtain ⟨t1, t2⟩ := numR_take (c := c) hc e
    split at h
    · cases h
    rename_i g
    cases h
    refine ⟨by omega, fun k => ?_, fun k => ?_⟩
    · rw [t2, if_pos (by omega)]
      simp only
      rw [hlen, if_neg (by omega), List.drop_take, List.take_take, Nat.min_eq_left (by omega)]
    · rw [t2]
      by_cases k1 : a1 ≤ c
      · rw [if_pos k1]
        simp only
        rw [hlen, if_pos (by omega)]
        exact ⟨_, _, _, rfl⟩
      · rw [if_neg k1]; exact ⟨_, _, _, rfl⟩
theorem rowG_take {b : List Int} (hb : okB b) {c : Nat} (hc : c ≤ b.length) (each : Int) : ∀ (k a : Nat) (l l' : List Int) (a' : Nat), rowG b each k a l = .inr (l', a') → a ≤ a' ∧ ((a' ≤ c → rowG (b.take c) each k a l = .inr (l', a')) ∧ (c < a' → a ≤ c → ∃ o w k', rowG (b.take c) each k a l = .inl (3, o, w, k')))
  | 0, a, l, l', a', h => by
    unfold rowG at h
    cases h
    exact ⟨Nat.le_refl _, fun _ => rfl, fun k k' => absurd k' (by omega)⟩
  | k + 1, a, l, l', a', h => by
    unfold rowG at h
    cases e : numR b a (pos0 each) with
    | inl x => rw [e] at h; cases h
    | inr x =>
      obtain ⟨n, a1⟩ := x
      rw [e] at h
      simp only at h
      obtain ⟨t1, t2⟩ := numR_take (c := c) hc e
      obtain ⟨r1, r2, r3⟩ := rowG_take hb hc each k a1 (l ++ [n]) l' a' h
      refine ⟨by omega, fun q => ?_, fun q q' => ?_⟩
      · unfold rowG
        rw [t2, if_pos (by omega)]
        exact r2 q
      · unfold rowG
        rw [t2]
        by_cases k1 : a1 ≤ c
        · rw [if_pos k1]; exact r3 q k1
        · rw [if_neg k1]; exact ⟨_, _, _, rfl⟩
theorem rowR_take {b : List Int} (hb : okB b) {a c : Nat} (hc : c ≤ b.length) {m each : Int} {x : List Int} {a' : Nat} (h : rowR b a m each = .inr (x, a')) : a < a' ∧ ((a' ≤ c → rowR (b.take c) a m each = .inr (x, a')) ∧ (c < a' → ∃ o w k, rowR (b.take c) a m each = .inl (3, o, w, k))) := by
  unfold rowR at h ⊢
  cases e : numR b a (pos0 m) with
  | inl k => rw [e] at h; cases h
  | inr y =>
    obtain ⟨n, a1⟩ := y
    rw [e] at h
    simp only at h
    obtain ⟨t1, t2⟩ := numR_take (c := c) hc e
    obtain ⟨r1, r2, r3⟩ := rowG_take hb hc each n.toNat a1 [] x a' h
    refine ⟨by omega, fun k => ?_, fun k => ?_⟩
    · rw [t2, if_pos (by omega)]; exact r2 k
    · rw [t2]
      by_cases k1 : a1 ≤ c
      · rw [if_pos k1]; exact r3 k k1
      · rw [if_neg k1]; exact ⟨_, _, _, rfl⟩
structure stC (c : Nat) (pre : List Int) (a : Int) (e : GErr) : Prop where
  whole : pre.length ≤ c → a = (pre.length : Int) ∧ e = .nil
  short : c < pre.length → ∃ o w, e = .fault o w (.code 3)
theorem stC.bad {c : Nat} {pre : List Int} {a : Int} {e : GErr} (h : stC c pre a e) (g : c < pre.length) : e.isNil = false := by obtain ⟨o, w, rfl⟩ := h.short g; rfl
theorem stC.on {c : Nat} {pre x : List Int} {a : Int} {e : GErr} (h : stC c pre a e) (g : c < pre.length) : stC c (pre ++ x) a e := ⟨fun k => by rw [List.length_append] at k; omega, fun _ => h.short g⟩
theorem stC.no {c : Nat} {pre : List Int} {a : Int} {e : GErr} (h : stC c pre a e) : stC c (pre ++ []) a e := by rw [List.append_nil]; exact h
section
variable {b : List Int} {c : Nat} {pre post : List Int} {a : Int} {e : GErr}
theorem take_ok (hb : okB b) : okB (b.take c) := hb.take _
theorem take_le (hc : c ≤ b.length) : (b.take c).length = c := by rw [List.length_take]; omega
theorem cutI (hb : okB b) (hl : b.length ≤ 1000000) (hc : c ≤ b.length) {n m : Int} (e0 : b = pre ++ (intB n ++ post)) (h0 : 0 ≤ n) (h1 : n ≤ top) (hm : n ≤ m) (hm2 : m ≤ 9223372036854775807) (h : stC c pre a e) :
    ∃ v a' e', f_wire_Reader_Int ⟨b.take c, a, e⟩ m = some (v, a', e') ∧ stC c (pre ++ intB n) a' e' ∧ ((pre ++ intB n).length ≤ c → v = n) ∧ (c < (pre ++ intB n).length → v = 0) := by
  by_cases g : pre.length ≤ c
  · obtain ⟨rfl, rfl⟩ := h.whole g
    have k := int_back pre post (n := n) (most := m) h0 h1 hm
    rw [← e0] at k
    obtain ⟨t1, t2⟩ := numR_take (c := c) hc k
    rw [wint_read (take_ok hb) (by rw [take_le hc]; omega) (by rw [take_le hc]; exact g) hm2, pos0_nn (by omega)]
    unfold numP
    rw [t2]
    by_cases g2 : pre.length + (intB n).length ≤ c
    · rw [if_pos g2]
      exact ⟨n, _, _, rfl, ⟨fun _ => ⟨by rw [List.length_append], rfl⟩, fun k => by rw [List.length_append] at k; omega⟩, fun _ => rfl, fun k => by rw [List.length_append] at k; omega⟩
    · rw [if_neg g2]
      exact ⟨0, _, _, rfl, ⟨fun k => by rw [List.length_append] at k; omega, fun _ => ⟨_, _, rfl⟩⟩, fun k => by rw [List.length_append] at k; omega, fun _ => rfl⟩
  · have g' : c < pre.length := by omega
    exact ⟨0, a, e, wint_bad (h.bad g') m, h.on g', fun k => by rw [List.length_append] at k; omega, fun _ => rfl⟩
theorem cutF (hb : okB b) (hl : b.length ≤ 1000000) (hc : c ≤ b.length) {n : Bool} (e0 : b = pre ++ (flagB n ++ post)) (h : stC c pre a e) :
    ∃ v a' e', f_wire_Reader_Flag ⟨b.take c, a, e⟩ = some (v, a', e') ∧ stC c (pre ++ flagB n) a' e' ∧ ((pre ++ flagB n).length ≤ c → v = n) := by
  by_cases g : pre.length ≤ c
  · obtain ⟨rfl, rfl⟩ := h.whole g
    have k := flag_back pre post n
    rw [← e0] at k
    obtain ⟨t1, t2, t3⟩ := flagR_take (c := c) hc k
    rw [wflag_read (take_ok hb) (by rw [take_le hc]; omega)]
    by_cases g2 : pre.length + (flagB n).length ≤ c
    · rw [t2 g2]
      exact ⟨n, _, _, rfl, ⟨fun _ => ⟨by rw [List.length_append], rfl⟩, fun k => by rw [List.length_append] at k; omega⟩, fun _ => rfl⟩
    · obtain ⟨o, w, k, t4⟩ := t3 (by omega)
      rw [t4]
      exact ⟨false, _, _, rfl, ⟨fun k => by rw [List.length_append] at k; omega, fun _ => ⟨_, _, rfl⟩⟩, fun k => by rw [List.length_append] at k; omega⟩
  · have g' : c < pre.length := by omega
    exact ⟨false, a, e, wflag_bad (h.bad g'), h.on g', fun k => by rw [List.length_append] at k; omega⟩
theorem cutT (hb : okB b) (hl : b.length ≤ 1000000) (hc : c ≤ b.length) {s : List Int} {m : Int} (e0 : b = pre ++ (textB s ++ post)) (hm : (s.length : Int) ≤ m) (hm2 : m ≤ 9223372036854775807) (h : stC c pre a e) :
    ∃ v a' e', f_wire_Reader_Text ⟨b.take c, a, e⟩ m = some (v, a', e') ∧ stC c (pre ++ textB s) a' e' ∧ ((pre ++ textB s).length ≤ c → v = s) := by
  by_cases g : pre.length ≤ c
  · obtain ⟨rfl, rfl⟩ := h.whole g
    have hs : s.length ≤ b.length := by rw [e0]; unfold textB; simp; omega
    have k := text_back pre post s (most := m) hm (by omega)
    rw [← e0] at k
    obtain ⟨t1, t2, t3⟩ := textR_take hb (c := c) hc k
    rw [wtext_read (take_ok hb) (by rw [take_le hc]; omega) (by rw [take_le hc]; exact g) hm2]
    by_cases g2 : pre.length + (textB s).length ≤ c
    · rw [t2 g2]
      exact ⟨s, _, _, rfl, ⟨fun _ => ⟨by rw [List.length_append], rfl⟩, fun k => by rw [List.length_append] at k; omega⟩, fun _ => rfl⟩
    · obtain ⟨o, w, k, t4⟩ := t3 (by omega)
      rw [t4]
      exact ⟨[], _, _, rfl, ⟨fun k => by rw [List.length_append] at k; omega, fun _ => ⟨_, _, rfl⟩⟩, fun k => by rw [List.length_append] at k; omega⟩
  · have g' : c < pre.length := by omega
    exact ⟨[], a, e, wtext_bad (h.bad g') m, h.on g', fun k => by rw [List.length_append] at k; omega⟩
theorem cutR (hb : okB b) (hl : b.length ≤ 1000000) (hc : c ≤ b.length) {s : List Int} {m k : Int} (e0 : b = pre ++ (rowB s ++ post)) (hm : (s.length : Int) ≤ m) (hm2 : m ≤ 9223372036854775807) (hk : k ≤ top) (hs : ∀ x ∈ s, 0 ≤ x ∧ x ≤ k) (h : stC c pre a e) :
    ∃ v a' e', f_wire_Reader_Row ⟨b.take c, a, e⟩ m k = some (v, a', e') ∧ stC c (pre ++ rowB s) a' e' ∧ ((pre ++ rowB s).length ≤ c → v = s) := by
  by_cases g : pre.length ≤ c
  · obtain ⟨rfl, rfl⟩ := h.whole g
    have hsl : s.length ≤ b.length := by
      have := intsB_ge s
      rw [e0]; unfold rowB; simp only [List.length_append]; omega
    have q := row_back pre post s (many := m) (each := k) hm (by omega) hk hs
    rw [← e0] at q
    obtain ⟨t1, t2, t3⟩ := rowR_take hb (c := c) hc q
    rw [wrow_read (take_ok hb) (by rw [take_le hc]; omega) (by rw [take_le hc]; exact g) hm2 (by unfold top at hk; omega)]
    by_cases g2 : pre.length + (rowB s).length ≤ c
    · rw [t2 g2]
      exact ⟨s, _, _, rfl, ⟨fun _ => ⟨by rw [List.length_append], rfl⟩, fun k => by rw [List.length_append] at k; omega⟩, fun _ => rfl⟩
    · obtain ⟨o, w, k', t4⟩ := t3 (by omega)
      rw [t4]
      exact ⟨[], _, _, rfl, ⟨fun k => by rw [List.length_append] at k; omega, fun _ => ⟨_, _, rfl⟩⟩, fun k => by rw [List.length_append] at k; omega⟩
  · have g' : c < pre.length := by omega
    exact ⟨[], a, e, wrow_bad (h.bad g') m k, h.on g', fun k => by rw [List.length_append] at k; omega⟩
end
theorem rdnA {α : Type} [Inhabited α] {xs : List α} {i : Nat} (h : i < xs.length) : rd xs (i : Int) = xs[i] := len_lt h
theorem newA (o : ByteArray) (a c : Int) : f_fault_New o a c = some (.fault o a (.code c)) := rfl

/-! ### brokers -/
def brOk (l : List Int) : Prop := l.length ≤ 7 ∧ ∀ i (h : i < l.length), 1 ≤ l[i] ∧ l[i] ≤ 64 ∧ l[i] ∉ l.take i
theorem index_loop (l : List Int) (x : Int) (hl : l.length ≤ 1000000) : ∀ (d i : Nat), i + d = l.length → (x ∉ l.take i) →
    (x ∈ l ∧ ∃ j : Nat, iter (f_slices_Index_int_int_l0 l x) (i : Int) = some (.inr (j : Int))) ∨ (x ∉ l ∧ iter (f_slices_Index_int_int_l0 l x) (i : Int) = some (.inl ()))
  | 0, i, hi, hx => by
    rw [List.take_of_length_le (by omega)] at hx
    refine .inr ⟨hx, iter_stop ?_⟩
    unfold f_slices_Index_int_int_l0
    simp only
    rw [if_neg (fun q => absurd (of_decide_eq_true q) (by omega))]
  | d + 1, i, hi, hx => by
    have hlt : i < l.length := by omega
    by_cases g : x = l[i]
    · refine .inl ⟨by rw [g]; exact List.getElem_mem hlt, i, iter_stop ?_⟩
      unfold f_slices_Index_int_int_l0
      simp only
      rw [if_pos (decide_eq_true (by omega)), grd_t ⟨by omega, by omega⟩, rdnA hlt, if_pos (decide_eq_true g)]
    · have hstep : f_slices_Index_int_int_l0 l x (i : Int) = some (.inl ((i + 1 : Nat) : Int)) := by
        unfold f_slices_Index_int_int_l0
        simp only
        rw [if_pos (decide_eq_true (by omega)), grd_t ⟨by omega, by omega⟩, rdnA hlt, if_neg (fun q => g (of_decide_eq_true q)), w_i64 (by omega) (by omega)]
        rfl
      rw [iter_next hstep]
      refine index_loop l x hl d (i + 1) (by omega) ?_
      rw [List.take_succ_eq_append_getElem hlt, List.mem_append, List.mem_singleton]
      exact fun q => q.elim hx g
theorem contains_eq (l : List Int) (x : Int) (hl : l.length ≤ 1000000) : f_slices_Contains_int_int l x = some (decide (x ∈ l)) := by
  unfold f_slices_Contains_int_int f_slices_Index_int_int
  have h := index_loop l x hl l.length 0 (by omega) (by simp)
  rw [show ((0 : Nat) : Int) = 0 from rfl] at h
  rcases h with ⟨h1, j, h2⟩ | ⟨h1, h2⟩
  · rw [h2, decide_eq_true h1]
    simp
  · rw [h2, decide_eq_false h1]
    rfl
theorem sub_take (l : List Int) (i : Nat) : sub l 0 (i : Int) = l.take i := by
  unfold sub
  rw [show (0 : Int).toNat = 0 from rfl, show ((i : Int)).toNat = i by omega]
  simp
theorem pbrok_loop (l : List Int) (hl : l.length ≤ 7) : ∀ (d i : Nat), i + d = l.length → (∀ j (h : j < l.length), j < i → 1 ≤ l[j] ∧ l[j] ≤ 64 ∧ l[j] ∉ l.take j) →
    (brOk l ∧ iter (f_record_Brokers_l0 l) (i : Int) = some (.inl ())) ∨ (¬ brOk l ∧ iter (f_record_Brokers_l0 l) (i : Int) = some (.inr ()))
  | 0, i, hi, hp => by
    refine .inl ⟨⟨hl, fun j hj => hp j hj (by omega)⟩, iter_stop ?_⟩
    unfold f_record_Brokers_l0
    simp only
    rw [if_neg (fun q => absurd (of_decide_eq_true q) (by omega))]
  | d + 1, i, hi, hp => by
    have hlt : i < l.length := by omega
    have e : f_record_Brokers_l0 l (i : Int) = if 1 ≤ l[i] ∧ l[i] ≤ 64 ∧ l[i] ∉ l.take i then some (.inl ((i + 1 : Nat) : Int)) else some (.inr (.inr ())) := by
      unfold f_record_Brokers_l0
      simp only
      rw [if_pos (decide_eq_true (by omega)), grd_t ⟨by omega, by omega⟩, rdnA hlt]
      by_cases g1 : l[i] < 1
      · rw [if_pos (decide_eq_true g1), if_neg (show ¬ (1 ≤ l[i] ∧ l[i] ≤ 64 ∧ l[i] ∉ l.take i) from fun q => by omega)]; rfl
      rw [if_neg (fun q => g1 (of_decide_eq_true q))]
      by_cases g2 : 64 < l[i]
      · rw [if_pos (decide_eq_true g2), if_neg (show ¬ (1 ≤ l[i] ∧ l[i] ≤ 64 ∧ l[i] ∉ l.take i) from fun q => by omega)]; rfl
      rw [if_neg (fun q => g2 (of_decide_eq_true q)), grd_t ⟨by omega, by omega, by omega⟩, sub_take, contains_eq _ _ (by simp; omega)]
      simp only [Option.bind_some]
      by_cases g3 : l[i] ∈ l.take i
      · rw [decide_eq_true g3, if_pos rfl, if_neg (show ¬ (1 ≤ l[i] ∧ l[i] ≤ 64 ∧ l[i] ∉ l.take i) from fun q => q.2.2 g3)]
      · rw [decide_eq_false g3, if_neg (by decide), if_pos (show 1 ≤ l[i] ∧ l[i] ≤ 64 ∧ l[i] ∉ l.take i from ⟨by omega, by omega, g3⟩), w_i64 (by omega) (by omega)]; rfl
    by_cases g : 1 ≤ l[i] ∧ l[i] ≤ 64 ∧ l[i] ∉ l.take i
    · rw [if_pos g] at e
      rw [iter_next e]
      refine pbrok_loop l hl d (i + 1) (by omega) fun j hj hji => ?_
      by_cases ej : j = i
      · subst ej; exact g
      · exact hp j hj (by omega)
    · rw [if_neg g] at e
      exact .inr ⟨fun q => g (q.2 i hlt), iter_stop e⟩
/-! ### what a kind is about -/
theorem rbrok_in (l : List Int) (hl : l.length ≤ 7) (i : Nat) (hi : i < l.length) : ∀ (d j : Nat), j + d = i → l[i] ∉ l.take j →
    (l[i] ∉ l.take i ∧ iter (f_ref05_Brokers_l1 l (i : Int)) (j : Int) = some (.inl ())) ∨ (l[i] ∈ l.take i ∧ iter (f_ref05_Brokers_l1 l (i : Int)) (j : Int) = some (.inr ()))
  | 0, j, hj, hx => by
    have e : j = i := by omega
    subst e
    refine .inl ⟨hx, iter_stop ?_⟩
    unfold f_ref05_Brokers_l1
    simp only
    rw [if_neg (fun q => absurd (of_decide_eq_true q) (by omega))]
  | d + 1, j, hj, hx => by
    have hlt : j < l.length := by omega
    by_cases g : l[j] = l[i]
    · refine .inr ⟨?_, iter_stop ?_⟩
      · rw [← g]
        exact List.mem_take_iff_getElem.2 ⟨j, by omega, rfl⟩
      · unfold f_ref05_Brokers_l1
        simp only
        rw [if_pos (decide_eq_true (by omega)), grd_t ⟨by omega, by omega⟩, grd_t ⟨by omega, by omega⟩, rdnA hlt, rdnA hi, if_pos (decide_eq_true g)]
    · have hstep : f_ref05_Brokers_l1 l (i : Int) (j : Int) = some (.inl ((j + 1 : Nat) : Int)) := by
        unfold f_ref05_Brokers_l1
        simp only
        rw [if_pos (decide_eq_true (by omega)), grd_t ⟨by omega, by omega⟩, grd_t ⟨by omega, by omega⟩, rdnA hlt, rdnA hi, if_neg (fun q => g (of_decide_eq_true q)), w_i64 (by omega) (by omega)]
        rfl
      rw [iter_next hstep]
      refine rbrok_in l hl i hi d (j + 1) (by omega) ?_
      rw [List.take_succ_eq_append_getElem hlt, List.mem_append, List.mem_singleton]
      exact fun q => q.elim hx fun q => g q.symm
theorem rbrok_loop (l : List Int) (hl : l.length ≤ 7) : ∀ (d i : Nat), i + d = l.length → (∀ j (h : j < l.length), j < i → 1 ≤ l[j] ∧ l[j] ≤ 64 ∧ l[j] ∉ l.take j) →
    (brOk l ∧ iter (f_ref05_Brokers_l0 l) (i : Int) = some (.inl ())) ∨ (¬ brOk l ∧ iter (f_ref05_Brokers_l0 l) (i : Int) = some (.inr ()))
  | 0, i, hi, hp => by
    refine .inl ⟨⟨hl, fun j hj => hp j hj (by omega)⟩, iter_stop ?_⟩
    unfold f_ref05_Brokers_l0
    simp only
    rw [if_neg (fun q => absurd (of_decide_eq_true q) (by omega))]
  | d + 1, i, hi, hp => by
    have hlt : i < l.length := by omega
    have e : f_ref05_Brokers_l0 l (i : Int) = if 1 ≤ l[i] ∧ l[i] ≤ 64 ∧ l[i] ∉ l.take i then some (.inl ((i + 1 : Nat) : Int)) else some (.inr (.inr ())) := by
      unfold f_ref05_Brokers_l0
      simp only
      rw [if_pos (decide_eq_true (by omega)), grd_t ⟨by omega, by omega⟩, rdnA hlt]
      by_cases g1 : l[i] < 1
      · rw [if_pos (decide_eq_true g1), if_neg (show ¬ (1 ≤ l[i] ∧ l[i] ≤ 64 ∧ l[i] ∉ l.take i) from fun q => by omega)]; rfl
      rw [if_neg (fun q => g1 (of_decide_eq_true q)), grd_t ⟨by omega, by omega⟩]
      simp only [Option.bind_some]
      by_cases g2 : 64 < l[i]
      · rw [if_pos (decide_eq_true g2), if_neg (show ¬ (1 ≤ l[i] ∧ l[i] ≤ 64 ∧ l[i] ∉ l.take i) from fun q => by omega)]; rfl
      rw [if_neg (fun q => g2 (of_decide_eq_true q))]
      have h := rbrok_in l hl i hlt i 0 (by omega) (by simp)
      rw [show ((0 : Nat) : Int) = 0 from rfl] at h
      rcases h with ⟨h1, h2⟩ | ⟨h1, h2⟩
      · rw [h2, if_pos (show 1 ≤ l[i] ∧ l[i] ≤ 64 ∧ l[i] ∉ l.take i from ⟨by omega, by omega, h1⟩), w_i64 (by omega) (by omega)]; rfl
      · rw [h2, if_neg (show ¬ (1 ≤ l[i] ∧ l[i] ≤ 64 ∧ l[i] ∉ l.take i) from fun q => q.2.2 h1)]; rfl
    by_cases g : 1 ≤ l[i] ∧ l[i] ≤ 64 ∧ l[i] ∉ l.take i
    · rw [if_pos g] at e
      rw [iter_next e]
      refine rbrok_loop l hl d (i + 1) (by omega) fun j hj hji => ?_
      by_cases ej : j = i
      · subst ej; exact g
      · exact hp j hj (by omega)
    · rw [if_neg g] at e
      exact .inr ⟨fun q => g (q.2 i hlt), iter_stop e⟩
theorem brokers_eq (l : List Int) : ∃ b : Bool, f_record_Brokers l = some b ∧ f_ref05_Brokers l = some b ∧ (b = true ↔ brOk l) := by
  unfold f_record_Brokers f_ref05_Brokers
  by_cases h : 7 < l.length
  · rw [if_pos (decide_eq_true (by omega)), if_pos (decide_eq_true (by omega))]
    exact ⟨false, rfl, rfl, fun q => (by cases q), fun q => absurd q.1 (by omega)⟩
  · rw [if_neg (fun q => absurd (of_decide_eq_true q) (by omega)), if_neg (fun q => absurd (of_decide_eq_true q) (by omega))]
    have h1 := pbrok_loop l (by omega) l.length 0 (by omega) (fun j hj hji => by omega)
    have h2 := rbrok_loop l (by omega) l.length 0 (by omega) (fun j hj hji => by omega)
    rw [show ((0 : Nat) : Int) = 0 from rfl] at h1 h2
    rcases h1 with ⟨a1, b1⟩ | ⟨a1, b1⟩
    · rcases h2 with ⟨a2, b2⟩ | ⟨a2, b2⟩
      · exact ⟨true, by rw [b1]; rfl, by rw [b2]; rfl, fun _ => a1, fun _ => rfl⟩
      · exact absurd a1 a2
    · rcases h2 with ⟨a2, b2⟩ | ⟨a2, b2⟩
      · exact absurd a2 a1
      · exact ⟨false, by rw [b1]; rfl, by rw [b2]; rfl, fun q => (by cases q), fun q => absurd q a1⟩

theorem some3 {a b : Bool} {X : Option Bool} (h : ∃ x, X = some x) : ∃ x, (if a = true then some b else X) = some x := by
  cases a
  · exact h
  · exact ⟨b, rfl⟩
theorem bytesOf_ok (s : ByteArray) : okB (bytesOf s) := by
  intro x hx
  unfold bytesOf at hx
  obtain ⟨b, _, rfl⟩ := List.mem_map.1 hx
  have := b.toNat_lt
  omega
theorem str_bytes (s : ByteArray) : strOfNums (bytesOf s) = s := by
  unfold bytesOf strOfNums
  rw [List.map_map]
  have : ∀ x ∈ s.data.toList, ((fun n => UInt8.ofNat n.toNat) ∘ fun (b : UInt8) => (b.toNat : Int)) x = x := by
    intro x _
    show UInt8.ofNat ((x.toNat : Int)).toNat = x
    rw [Int.toNat_natCast]
    simp
  rw [List.map_congr_left this, List.map_id']
/-! ### what may be sent -/
theorem bindQ {α β : Type} {x : Option α} {y : α} {f : α → Option β} (h : x = some y) : x.bind f = f y := by rw [h]; rfl
def cI (f : Bool) (n : Int) : List Int := if f = true then intB n else []
def cT (f : Bool) (s : ByteArray) : List Int := if f = true then textB (bytesOf s) else []
def cR (f : Bool) (l : List Int) : List Int := if f = true then rowB l else []
theorem flagB_len (x : Bool) : (flagB x).length = 1 := by cases x <;> rfl
theorem flagB_ok (x : Bool) : okB (flagB x) := by cases x <;> (intro y hy; unfold flagB at hy; simp at hy; omega)
theorem textB_len (s : List Int) : (textB s).length ≤ 8 + s.length := by unfold textB; rw [List.length_append]; have := (intB_len (s.length : Int)).1; omega
theorem textB_ok {s : List Int} (h : okB s) : okB (textB s) := (intB_ok _).append h
theorem intsB_ok : ∀ (l : List Int), okB (intsB l)
  | [] => okB.nil
  | x :: l => by rw [intsB_cons]; exact (intB_ok x).append (intsB_ok l)
theorem rowB_ok (l : List Int) : okB (rowB l) := (intB_ok _).append (intsB_ok l)
theorem rowB_len (l : List Int) : (rowB l).length ≤ 8 + 8 * l.length := by unfold rowB; rw [List.length_append]; have := (intB_len (l.length : Int)).1; have := intsB_len l; omega
theorem cI_len (f : Bool) (n : Int) : (cI f n).length ≤ 8 := by unfold cI; split; exact (intB_len n).1; exact Nat.zero_le _
theorem cI_ok (f : Bool) (n : Int) : okB (cI f n) := by unfold cI; split; exact intB_ok n; exact okB.nil
theorem cT_ok (f : Bool) (s : ByteArray) : okB (cT f s) := by unfold cT; split; exact textB_ok (bytesOf_ok s); exact okB.nil
theorem cR_len {f : Bool} {l : List Int} (h : l.length ≤ 7) : (cR f l).length ≤ 64 := by unfold cR; split; have := rowB_len l; omega; exact Nat.zero_le _
theorem cR_ok (f : Bool) (l : List Int) : okB (cR f l) := by unfold cR; split; exact rowB_ok l; exact okB.nil
/-! ### written -/
theorem nxt {b pre x post : List Int} (h : b = pre ++ (x ++ post)) : b = (pre ++ x) ++ post := by rw [List.append_assoc]; exact h
/-! ### what was written is read -/
/-! ### the example -/
abbrev Rec := T_api_Record
/-! ### what a kind is about -/
def aboutR (k : Int) : Int := if k = 2 then 1027 else if k = 3 ∨ k = 4 ∨ k = 5 ∨ k = 6 then 3 else if k = 7 then 132 else if k = 8 then 6172 else if k = 9 then 14366 else if k = 10 then 836 else if k = 11 then 4 else if k = 12 then 32 else 0
def hasR (k bit : Int) : Bool := decide (andI .i64 (aboutR k) bit ≠ 0)
theorem kindsR (k : Int) : (k = 2 ∨ k = 3 ∨ k = 4 ∨ k = 5 ∨ k = 6 ∨ k = 7 ∨ k = 8 ∨ k = 9 ∨ k = 10 ∨ k = 11 ∨ k = 12) ∨ (k ≠ 2 ∧ k ≠ 3 ∧ k ≠ 4 ∧ k ≠ 5 ∧ k ≠ 6 ∧ k ≠ 7 ∧ k ≠ 8 ∧ k ≠ 9 ∧ k ≠ 10 ∧ k ≠ 11 ∧ k ≠ 12) := by omega
theorem about_none {k : Int} (h : k ≠ 2 ∧ k ≠ 3 ∧ k ≠ 4 ∧ k ≠ 5 ∧ k ≠ 6 ∧ k ≠ 7 ∧ k ≠ 8 ∧ k ≠ 9 ∧ k ≠ 10 ∧ k ≠ 11 ∧ k ≠ 12) : aboutR k = 0 := by unfold aboutR; simp [h]
theorem about_eqR (k : Int) : f_record_about k = some (aboutR k) := by
  rcases kindsR k with (rfl | rfl | rfl | rfl | rfl | rfl | rfl | rfl | rfl | rfl | rfl) | h
  all_goals first
    | rfl
    | (rw [about_none h]
       unfold f_record_about
       simp [h])
theorem has_runR {k l : Int} {s : ByteArray} {e : Unit ⊕ Unit} (h : f_ref05_has k l = (((iter (f_ref05_has_l0 l s) (0 : Int)).bind (Sum.elim (fun _ => (some (Sum.inl ()))) (fun _ => (((some true)).bind fun r => some (Sum.inr r))))) : Option (Unit ⊕ Bool)).bind (Sum.elim (fun _ => (some false)) some)) (n : Nat) (hr : runK n (f_ref05_has_l0 l s) 0 = some e) : f_ref05_has k l = some (match e with | .inl _ => false | .inr _ => true) := by
  rw [h, iter_run n hr]
  cases e <;> rfl
theorem has_none {k : Int} (h : k ≠ 2 ∧ k ≠ 3 ∧ k ≠ 4 ∧ k ≠ 5 ∧ k ≠ 6 ∧ k ≠ 7 ∧ k ≠ 8 ∧ k ≠ 9 ∧ k ≠ 10 ∧ k ≠ 11 ∧ k ≠ 12) (l : Int) : f_ref05_has k l = some false := by
  refine has_runR (s := ⟨#[]⟩) (e := .inl ()) ?_ 1 rfl
  unfold f_ref05_has
  simp only [decide_eq_false h.1, decide_eq_false h.2.1, decide_eq_false h.2.2.1, decide_eq_false h.2.2.2.1, decide_eq_false h.2.2.2.2.1, decide_eq_false h.2.2.2.2.2.1, decide_eq_false h.2.2.2.2.2.2.1, decide_eq_false h.2.2.2.2.2.2.2.1, decide_eq_false h.2.2.2.2.2.2.2.2.1, decide_eq_false h.2.2.2.2.2.2.2.2.2.1, decide_eq_false h.2.2.2.2.2.2.2.2.2.2, Bool.false_eq_true, if_false, Option.bind_some]
theorem has_eqR (k : Int) : f_ref05_has k 98 = some (hasR k 1) ∧ f_ref05_has k 101 = some (hasR k 2) ∧ f_ref05_has k 116 = some (hasR k 4) ∧ f_ref05_has k 112 = some (hasR k 8) ∧ f_ref05_has k 108 = some (hasR k 16) ∧ f_ref05_has k 97 = some (hasR k 32) ∧ f_ref05_has k 102 = some (hasR k 64) ∧ f_ref05_has k 110 = some (hasR k 128) ∧ f_ref05_has k 107 = some (hasR k 256) ∧ f_ref05_has k 118 = some (hasR k 512) ∧ f_ref05_has k 114 = some (hasR k 1024) ∧ f_ref05_has k 105 = some (hasR k 2048) ∧ f_ref05_has k 109 = some (hasR k 4096) ∧ f_ref05_has k 120 = some (hasR k 8192) := by
  rcases kindsR k with (rfl | rfl | rfl | rfl | rfl | rfl | rfl | rfl | rfl | rfl | rfl) | h
  case inr =>
    simp only [has_none h, hasR, about_none h]
    decide
  all_goals
    refine ⟨?_, ?_, ?_, ?_, ?_, ?_, ?_, ?_, ?_, ?_, ?_, ?_, ?_, ?_⟩
    all_goals first
      | exact (has_runR (e := .inr ()) rfl 8 rfl).trans (by decide +kernel)
      | exact (has_runR (e := .inl ()) rfl 8 rfl).trans (by decide +kernel)
/-! ### names -/
def okC (c : Int) : Bool := (decide (97 ≤ c) && decide (c ≤ 122)) || (decide (48 ≤ c) && decide (c ≤ 57)) || decide (c = 46) || decide (c = 45)
def nameV (s : ByteArray) : Bool := decide (1 ≤ s.size) && decide (s.size ≤ 40) && !decide (s = ⟨#[46]⟩) && !decide (s = ⟨#[46, 46]⟩) && (bytesOf s).all okC
theorem btAt_rd {s : ByteArray} {i : Nat} (h : i < s.size) : btAt s (i : Int) = rd (bytesOf s) (i : Int) := by
  have hd : i < s.data.size := h
  have e1 : s[i]? = some s[i] := getElem?_pos s i h
  have e2 : (bytesOf s)[i]? = some ((s.data[i].toNat : Nat) : Int) := by
    unfold bytesOf
    rw [List.getElem?_map, Array.getElem?_toList, Array.getElem?_eq_getElem hd]
    rfl
  unfold btAt rd
  rw [Int.toNat_natCast, e1, List.getD_eq_getElem?_getD, e2]
  rfl
theorem name_step {c : Int} : (((if (decide ((97 : Int) ≤ c)) = true then (if (decide ((48 : Int) ≤ c)) = true then (some (decide (c ≤ (122 : Int)), decide (c ≤ (57 : Int)))) else (some (decide (c ≤ (122 : Int)), false))) else (if (decide ((48 : Int) ≤ c)) = true then (some (false, decide (c ≤ (57 : Int)))) else (some (false, false)))) : Option (Bool × Bool)).bind fun (x41, x42) => (if (!x41) = true then (if (!x42) = true then (if (decide (c ≠ (46 : Int))) = true then (some (decide (c ≠ (45 : Int)))) else (some false)) else (some false)) else (some false))) = some (!okC c) := by
  unfold okC
  simp only [ne_eq, decide_not]
  generalize decide (97 ≤ c) = b1
  generalize decide (c ≤ 122) = b2
  generalize decide (48 ≤ c) = b3
  generalize decide (c ≤ 57) = b4
  generalize decide (c = 46) = b5
  generalize decide (c = 45) = b6
  cases b1 <;> cases b2 <;> cases b3 <;> cases b4 <;> cases b5 <;> cases b6 <;> rfl
theorem name_step2 {c : Int} : (if (decide ((97 : Int) ≤ c)) = true then (if (decide (c ≤ (122 : Int))) = true then (some true) else (if (decide ((48 : Int) ≤ c)) = true then (if (decide (c ≤ (57 : Int))) = true then (some true) else (if (decide (c = (46 : Int))) = true then (some true) else (some (decide (c = (45 : Int)))))) else (if (decide (c = (46 : Int))) = true then (some true) else (some (decide (c = (45 : Int))))))) else (if (decide ((48 : Int) ≤ c)) = true then (if (decide (c ≤ (57 : Int))) = true then (some true) else (if (decide (c = (46 : Int))) = true then (some true) else (some (decide (c = (45 : Int)))))) else (if (decide (c = (46 : Int))) = true then (some true) else (some (decide (c = (45 : Int))))))) = some (okC c) := by
  unfold okC
  generalize decide (97 ≤ c) = b1
  generalize decide (c ≤ 122) = b2
  generalize decide (48 ≤ c) = b3
  generalize decide (c ≤ 57) = b4
  generalize decide (c = 46) = b5
  generalize decide (c = 45) = b6
  cases b1 <;> cases b2 <;> cases b3 <;> cases b4 <;> cases b5 <;> cases b6 <;> rfl
theorem drop_all {l : List Int} {i : Nat} (h : i < l.length) : (l.drop i).all okC = (okC (rd l (i : Int)) && (l.drop (i + 1)).all okC) := by
  rw [List.drop_eq_getElem_cons h, List.all_cons, rdnA h]
theorem pname_loop (s : ByteArray) (hs : s.size ≤ 1000000) : ∀ (d i : Nat), i + d = (bytesOf s).length → iter (f_record_Name_l0 s) (i : Int) = some (if ((bytesOf s).drop i).all okC = true then .inl () else .inr ())
  | 0, i, hi => by
    refine iter_stop ?_
    rw [List.drop_eq_nil_of_le (by omega)]
    unfold f_record_Name_l0
    simp only
    rw [if_neg (fun q => absurd (of_decide_eq_true q) (by omega))]
    rfl
  | d + 1, i, hi => by
    have hlt : i < (bytesOf s).length := by omega
    have hsz := bytesOf_len s
    rw [drop_all hlt]
    have e : f_record_Name_l0 s (i : Int) = if (!okC (rd (bytesOf s) (i : Int))) = true then some (.inr (.inr ())) else some (.inl ((i + 1 : Nat) : Int)) := by
      unfold f_record_Name_l0
      simp only
      rw [if_pos (decide_eq_true (by omega)), grd_t ⟨by omega, by omega⟩, w_i64 (by omega) (by omega)]
      have k := name_step (c := rd (bytesOf s) (i : Int))
      generalize rd (bytesOf s) (i : Int) = c at k ⊢
      refine Eq.trans ?_ (bindQ (f := fun (x47 : Bool) => if x47 = true then some (Sum.inr (Sum.inr ())) else some (Sum.inl ((i : Int) + 1))) k)
      rw [Option.bind_assoc]
    cases g : okC (rd (bytesOf s) (i : Int))
    · rw [g] at e
      exact iter_stop e
    · rw [g] at e
      rw [iter_next e]
      exact pname_loop s hs d (i + 1) (by omega)
theorem rname_loop (s : ByteArray) (hs : s.size ≤ 1000000) : ∀ (d i : Nat), i + d = (bytesOf s).length → iter (f_ref05_Name_l0 s) (i : Int) = some (if ((bytesOf s).drop i).all okC = true then .inl () else .inr ())
  | 0, i, hi => by
    have hsz := bytesOf_len s
    refine iter_stop ?_
    rw [List.drop_eq_nil_of_le (by omega)]
    unfold f_ref05_Name_l0
    simp only
    rw [if_neg (fun q => absurd (of_decide_eq_true q) (by omega))]
    rfl
  | d + 1, i, hi => by
    have hlt : i < (bytesOf s).length := by omega
    have hsz := bytesOf_len s
    rw [drop_all hlt]
    have e : f_ref05_Name_l0 s (i : Int) = if (!okC (rd (bytesOf s) (i : Int))) = true then some (.inr (.inr ())) else some (.inl ((i + 1 : Nat) : Int)) := by
      unfold f_ref05_Name_l0
      simp only
      rw [if_pos (decide_eq_true (by omega)), grd_t ⟨by omega, by omega⟩, w_i64 (by omega) (by omega), btAt_rd (by omega)]
      exact bindQ name_step2
    cases g : okC (rd (bytesOf s) (i : Int))
    · rw [g] at e
      exact iter_stop e
    · rw [g] at e
      rw [iter_next e]
      exact rname_loop s hs d (i + 1) (by omega)
theorem size0 {s : ByteArray} : decide (s = (⟨#[]⟩ : ByteArray)) = !decide (1 ≤ s.size) := by
  by_cases h : s = ⟨#[]⟩
  · subst h; rfl
  · rw [decide_eq_false h]
    have : 1 ≤ s.size := by
      refine Classical.byContradiction fun z => h ?_
      have h0 : s.data.size = 0 := by have : s.size = s.data.size := rfl; omega
      obtain ⟨d⟩ := s
      congr 1
      exact Array.eq_empty_of_size_eq_zero h0
    rw [decide_eq_true this]; rfl
theorem name_tail (b1 b2 b3 b4 t : Bool) {X : Option (Unit ⊕ Unit)} (h : b2 = true → X = some (if t = true then .inl () else .inr ())) :
    ((((if b1 = false then (some true) else (if b2 = false then (some true) else (if b3 = true then (some true) else (some b4)))) : Option Bool).bind fun (x21 : Bool) => (if x21 = true then (some false) else (((X.bind (Sum.elim (fun _ => (some (Sum.inl ()))) (fun _ => (((some false)).bind fun r => some (Sum.inr r))))) : Option (Unit ⊕ Bool)).bind (Sum.elim (fun _ => (some true)) some))))) = some (b1 && b2 && !b3 && !b4 && t) := by
  cases b1
  · rfl
  cases b2
  · rfl
  rw [h rfl]
  cases b3
  · cases b4
    · cases t <;> rfl
    · rfl
  · rfl
theorem pname_eq (s : ByteArray) : f_record_Name s = some (nameV s) := by
  have e1 : (decide (s = (⟨#[]⟩ : ByteArray)) = true) = (decide (1 ≤ s.size) = false) := by rw [size0]; cases decide (1 ≤ s.size) <;> simp
  have e2 : (decide ((40 : Int) < (s.size : Int)) = true) = (decide (s.size ≤ 40) = false) := by
    rw [decide_eq_true_eq, decide_eq_false_iff_not]; exact propext ⟨fun h => by omega, fun h => by omega⟩
  unfold f_record_Name nameV
  simp only [e1, e2]
  refine name_tail _ _ _ _ _ fun h => ?_
  have h := of_decide_eq_true h
  have k := pname_loop s (by omega) (bytesOf s).length 0 (by omega)
  rw [List.drop_zero] at k
  exact k
theorem rname_eq (s : ByteArray) : f_ref05_Name s = some (nameV s) := by
  have e1 : (decide ((s.size : Int) < 1) = true) = (decide (1 ≤ s.size) = false) := by
    rw [decide_eq_true_eq, decide_eq_false_iff_not]; exact propext ⟨fun h => by omega, fun h => by omega⟩
  have e2 : (decide ((40 : Int) < (s.size : Int)) = true) = (decide (s.size ≤ 40) = false) := by
    rw [decide_eq_true_eq, decide_eq_false_iff_not]; exact propext ⟨fun h => by omega, fun h => by omega⟩
  unfold f_ref05_Name nameV
  simp only [e1, e2]
  refine name_tail _ _ _ _ _ fun h => ?_
  have h := of_decide_eq_true h
  have k := rname_loop s (by omega) (bytesOf s).length 0 (by omega)
  rw [List.drop_zero] at k
  exact k
theorem nameV_size {s : ByteArray} (h : nameV s = true) : 1 ≤ s.size ∧ s.size ≤ 40 := by
  unfold nameV at h
  simp only [Bool.and_eq_true, decide_eq_true_eq] at h
  exact ⟨h.1.1.1.1, h.1.1.1.2⟩
/-! ### whether a record may be -/
def numW (n : Int) (has : Bool) (least most : Int) : Bool := if has = true then decide (least ≤ n ∧ n ≤ most) else decide (n = 0)
theorem num_if (n least most : Int) : (if (decide (least ≤ n)) = true then (some (decide (n ≤ most))) else (some false)) = some (decide (least ≤ n ∧ n ≤ most)) := by
  by_cases h : least ≤ n <;> simp [h]
theorem pnumR (n : Int) (h : Bool) (a c : Int) : f_record_number n h a c = some (numW n h a c) := by
  unfold f_record_number numW
  rw [num_if]
  cases h <;> rfl
theorem rnumR (n : Int) (h : Bool) (a c : Int) : f_ref05_num n h a c = some (numW n h a c) := by
  unfold f_ref05_num numW
  rw [num_if]
  cases h <;> rfl
def textN (s : ByteArray) (has : Bool) : Bool := if has = true then nameV s else decide (s = ⟨#[]⟩)
def textW (s : ByteArray) (has : Bool) : Bool := if has = true then decide ((s.size : Int) ≤ 256) else decide (s = ⟨#[]⟩)
theorem ptextN (s : ByteArray) (h : Bool) : f_record_text_116 s h = some (textN s h) := by
  unfold f_record_text_116 textN
  rw [pname_eq]
  cases h <;> rfl
theorem ptextW (s : ByteArray) (h : Bool) : f_record_text_113 s h = some (textW s h) := by
  unfold f_record_text_113 textW f_record_Check_2
  cases h <;> rfl
theorem rtextN (s : ByteArray) (h : Bool) : f_ref05_name s h = some (textN s h) := by
  unfold f_ref05_name textN
  rw [rname_eq]
  cases h <;> rfl
open Classical in
noncomputable def brB (l : List Int) : Bool := decide (brOk l)
theorem brB_t {l : List Int} : brB l = true ↔ brOk l := by unfold brB; simp
theorem brB_eq (l : List Int) : f_record_Brokers l = some (brB l) ∧ f_ref05_Brokers l = some (brB l) := by
  obtain ⟨b, h1, h2, h3⟩ := brokers_eq l
  have : b = brB l := by rw [Bool.eq_iff_iff, h3, brB_t]
  rw [← this]
  exact ⟨h1, h2⟩
theorem brB_f {l : List Int} (h : ¬ brOk l) : brB l = false := by
  cases hb : brB l
  · rfl
  · exact absurd (brB_t.1 hb) h
theorem pbrB (l : List Int) : f_record_Brokers l = some (brB l) := by
  unfold f_record_Brokers
  by_cases h : 7 < l.length
  · rw [if_pos (decide_eq_true (by omega))]
    rw [brB_f (fun q => absurd q.1 (by omega))]
  · rw [if_neg (fun q => absurd (of_decide_eq_true q) (by omega))]
    have h1 := pbrok_loop l (by omega) l.length 0 (by omega) (fun j hj hji => by omega)
    rw [show ((0 : Nat) : Int) = 0 from rfl] at h1
    rcases h1 with ⟨a1, b1⟩ | ⟨a1, b1⟩
    · rw [b1, brB_t.2 a1]; rfl
    · rw [b1, brB_f a1]; rfl
noncomputable def rowV (l : List Int) (has : Bool) : Bool := if has = true then brB l else decide ((l.length : Int) = 0)
theorem prowR (l : List Int) (h : Bool) : f_record_row l h = some (rowV l h) := by
  unfold f_record_row rowV
  rw [pbrB]
  cases h <;> rfl
theorem rrowR (l : List Int) (h : Bool) : f_ref05_row l h = some (rowV l h) := by
  unfold f_ref05_row rowV
  rw [(brB_eq l).2]
  cases h <;> rfl
def leastR (k : Int) : Int := if k = 10 then 0 else 1
theorem pleast (k : Int) : (((if (decide (k ≠ (10 : Int))) = true then (some (1 : Int)) else (some (0 : Int))) : Option Int)) = some (leastR k) := by
  unfold leastR
  by_cases h : k = 10 <;> simp [h]
theorem rleast (k : Int) : (((if (decide (k = (10 : Int))) = true then (some (0 : Int)) else (some (1 : Int))) : Option Int)) = some (leastR k) := by
  unfold leastR
  by_cases h : k = 10 <;> simp [h]
theorem pcheck1 (bit : Int) (r : Rec) : f_record_Check_1 bit r = some (hasR r.Kind bit) := by
  unfold f_record_Check_1
  rw [about_eqR]
  rfl
theorem exI {c : Bool} {A : GErr} {R : Option GErr} (h : ∃ e, R = some e) : ∃ e, (if c = true then some A else R) = some e := by
  cases c
  · exact h
  · exact ⟨A, rfl⟩
theorem exB {X : Option Bool} {A : GErr} {R : Option GErr} (hX : ∃ x, X = some x) (h : ∃ e, R = some e) : ∃ e, (X.bind fun x => if x = true then some A else R) = some e := by
  obtain ⟨x, rfl⟩ := hX
  exact exI h
theorem checkT (r : Rec) : ∃ e, f_record_Check r = some e := by
  unfold f_record_Check
  simp only [pleast, pcheck1, pnumR, ptextN, ptextW, prowR, newA, Option.bind_some]
  refine exB (some3 ⟨_, rfl⟩) ?_
  refine exI (exI (exI (exI (exI ?_))))
  refine exB (some3 (some3 ⟨_, rfl⟩)) ?_
  refine exB (by cases r.Flag <;> cases hasR r.Kind 64 <;> exact ⟨_, rfl⟩) ?_
  refine exB (some3 (some3 ⟨_, rfl⟩)) ?_
  refine exB ?_ ?_
  · refine some3 ?_
    cases decide (r.Value = ⟨#[]⟩) <;> cases r.Flag <;> exact ⟨_, rfl⟩
  refine exB (some3 (some3 (some3 ⟨_, rfl⟩))) ?_
  exact ⟨_, rfl⟩
def toE5 (w : T_ref05_Wrong) : GErr := if w.Code = 0 then .nil else .fault w.Op w.At (.code w.Code)
def Like (K : Option GErr) (R : Option T_ref05_Wrong) (R' : Option GErr) : Prop := ∃ w, R = some w ∧ R' = if w.Code = 0 then K else some (toE5 w)
theorem likeI {K : Option GErr} {c : Bool} {A : T_ref05_Wrong} {R : Option T_ref05_Wrong} {A' : GErr} {R' : Option GErr} (hA : A' = toE5 A) (h0 : A.Code ≠ 0) (h : Like K R R') : Like K (if c = true then some A else R) (if c = true then some A' else R') := by
  cases c
  · exact h
  · exact ⟨A, rfl, by rw [if_neg h0, hA]; rfl⟩
theorem likeB {K : Option GErr} {X Y : Option Bool} {A : T_ref05_Wrong} {R : Option T_ref05_Wrong} {A' : GErr} {R' : Option GErr} (hX : ∃ x, X = some x) (hY : Y = X) (hA : A' = toE5 A) (h0 : A.Code ≠ 0) (h : Like K R R') : Like K (X.bind fun x => if x = true then some A else R) (Y.bind fun x => if x = true then some A' else R') := by
  subst hY
  obtain ⟨x, hx⟩ := hX
  rw [hx]
  exact likeI hA h0 h
theorem likeT {K : Option GErr} {A : T_ref05_Wrong} (h : A.Code = 0) : Like K (some A) K := ⟨A, rfl, by rw [if_pos h]⟩
theorem likeN {K : Option GErr} {R1 : Option T_ref05_Wrong} {Q : Option GErr} {R : Option T_ref05_Wrong} (h : Like Q R1 K) (h2 : Like (some .nil) R Q) : Like (some .nil) (R1.bind fun w => if decide (w.Code ≠ 0) = true then some w else R) K := by
  obtain ⟨w, h1, h3⟩ := h
  rw [h1]
  by_cases g : w.Code = 0
  · rw [if_pos g] at h3
    show Like _ (if decide (w.Code ≠ 0) = true then some w else R) K
    rw [if_neg (by simp [g]), h3]
    exact h2
  · rw [if_neg g] at h3
    show Like _ (if decide (w.Code ≠ 0) = true then some w else R) K
    rw [if_pos (by simp [g]), h3]
    exact ⟨w, rfl, by rw [if_neg g]⟩
theorem nz1 : (1 : Int) ≠ 0 := by decide
theorem nz2 : (2 : Int) ≠ 0 := by decide
theorem nz5 : (5 : Int) ≠ 0 := by decide
theorem nz6 : (6 : Int) ≠ 0 := by decide
theorem nz18 : (18 : Int) ≠ 0 := by decide
theorem check_like (r : Rec) : Like (some .nil) (f_ref05_Check r) (f_record_Check r) := by
  obtain ⟨hb, he, ht, hp, hl, ha, hf, hn, hk, hv, hr, hi, hm, hx⟩ := has_eqR r.Kind
  unfold f_ref05_Check f_record_Check f_ref05_numbers
  simp only [pleast, rleast, pcheck1, hb, he, ht, hp, hl, ha, hf, hn, hk, hv, hr, hi, hm, hx, pnumR, rnumR, ptextN, rtextN, ptextW, prowR, rrowR, newA, Option.bind_some]
  refine likeB (some3 ⟨_, rfl⟩) rfl rfl ?_ ?_
  exact nz5
  refine @likeN _ _ ?Q _ ?_ ?_
  rotate_left 1
  · refine likeI rfl ?_ ?_
    exact nz2
    refine likeI rfl ?_ ?_
    exact nz2
    refine likeI rfl ?_ ?_
    exact nz2
    refine likeI rfl ?_ ?_
    exact nz2
    refine likeI rfl ?_ ?_
    exact nz2
    refine likeB (some3 (some3 ⟨_, rfl⟩)) rfl rfl ?_ ?_
    exact nz2
    exact likeT (A := ⟨⟨#[]⟩, 0, 0⟩) rfl
  · refine likeB (by cases r.Flag <;> exact ⟨_, rfl⟩) (by cases r.Flag <;> cases hasR r.Kind 64 <;> rfl) rfl ?_ ?_
    exact nz1
    refine likeB (some3 (some3 ⟨_, rfl⟩)) rfl rfl ?_ ?_
    exact nz1
    refine likeB ?_ ?_ rfl ?_ ?_
    rotate_left 2
    · exact nz6
    rotate_left 1
    · refine some3 ?_
      cases decide (r.Value = ⟨#[]⟩) <;> cases r.Flag <;> exact ⟨_, rfl⟩
    · unfold textW
      by_cases g : r.Value = ⟨#[]⟩
      · rw [g]; cases r.Flag <;> cases hasR r.Kind 512 <;> rfl
      · rw [decide_eq_false g]
        by_cases g2 : (256 : Int) < (r.Value.size : Int)
        · rw [decide_eq_true g2, decide_eq_false (show ¬ ((r.Value.size : Int) ≤ 256) by omega)]
          cases r.Flag <;> cases hasR r.Kind 512 <;> rfl
        · rw [decide_eq_false g2, decide_eq_true (show ((r.Value.size : Int) ≤ 256) by omega)]
          cases r.Flag <;> cases hasR r.Kind 512 <;> rfl
    refine likeB (some3 (some3 (some3 ⟨_, rfl⟩))) rfl rfl ?_ ?_
    exact nz18
    exact likeT (A := ⟨⟨#[]⟩, 0, 0⟩) rfl
theorem check_eqR (r : Rec) : ∃ w, f_ref05_Check r = some w ∧ f_record_Check r = some (toE5 w) := by
  obtain ⟨w, h1, h2⟩ := check_like r
  refine ⟨w, h1, ?_⟩
  rw [h2]
  by_cases g : w.Code = 0
  · rw [if_pos g]; unfold toE5; rw [if_pos g]
  · rw [if_neg g]
structure okRec (r : Rec) : Prop where
  kind : 1 ≤ r.Kind ∧ r.Kind ≤ 12
  broker : numW r.Broker (hasR r.Kind 1) 1 64 = true
  epoch : numW r.Epoch (hasR r.Kind 2) 0 1073741824 = true
  topic : numW r.Topic (hasR r.Kind 4) (leastR r.Kind) 1073741824 = true
  part : numW r.Part (hasR r.Kind 8) 0 255 = true
  leader : numW r.Leader (hasR r.Kind 16) 0 64 = true
  client : numW r.Client (hasR r.Kind 32) 1 1073741824 = true
  serial : numW r.Serial (hasR r.Kind 32) 1 1073741824 = true
  code : numW r.Code (hasR r.Kind 32) 0 21 = true
  flag : hasR r.Kind 64 = false → r.Flag = false
  name : textN r.Name (hasR r.Kind 128) = true
  key : textN r.Key (hasR r.Kind 256) = true
  rack : textN r.Rack (hasR r.Kind 1024) = true
  value : textW r.Value (hasR r.Kind 512) = true
  ids : rowV r.Ids (hasR r.Kind 2048) = true
  isr : rowV r.Isr (hasR r.Kind 4096) = true
  add : rowV r.Add (hasR r.Kind 8192) = true
  drop : rowV r.Drop (hasR r.Kind 8192) = true
theorem ifF {c : Bool} {A : GErr} {R : Option GErr} (hA : A.isNil = false) (h : (if c = true then some A else R) = some .nil) : c = false ∧ R = some .nil := by
  cases c
  · exact ⟨rfl, h⟩
  · have : A = .nil := Option.some.inj h
    rw [this] at hA
    cases hA
theorem bndF {X : Option Bool} {A : GErr} {R : Option GErr} (hA : A.isNil = false) (h : (X.bind fun x => if x = true then some A else R) = some .nil) : X = some false ∧ R = some .nil := by
  cases X with
  | none => cases h
  | some x => obtain ⟨h1, h2⟩ := ifF hA h; rw [h1]; exact ⟨rfl, h2⟩
theorem or2F {a b : Bool} (h : (if a = true then some true else some b) = some false) : a = false ∧ b = false := by
  cases a
  · exact ⟨rfl, Option.some.inj h⟩
  · cases h
theorem orF {a : Bool} {X : Option Bool} (h : (if a = true then some true else X) = some false) : a = false ∧ X = some false := by
  cases a
  · exact ⟨rfl, h⟩
  · cases h
theorem notF {a : Bool} (h : (!a) = false) : a = true := by cases a; cases h; rfl
theorem check_okR {r : Rec} (h : f_record_Check r = some .nil) : okRec r := by
  unfold f_record_Check at h
  simp only [pleast, pcheck1, pnumR, ptextN, ptextW, prowR, newA, Option.bind_some] at h
  obtain ⟨g0, h⟩ := bndF rfl h
  obtain ⟨g1, h⟩ := ifF rfl h
  obtain ⟨g2, h⟩ := ifF rfl h
  obtain ⟨g3, h⟩ := ifF rfl h
  obtain ⟨g4, h⟩ := ifF rfl h
  obtain ⟨g5, h⟩ := ifF rfl h
  obtain ⟨g6, h⟩ := bndF rfl h
  obtain ⟨g7, h⟩ := bndF rfl h
  obtain ⟨g8, h⟩ := bndF rfl h
  obtain ⟨g9, h⟩ := bndF rfl h
  obtain ⟨g10, h⟩ := bndF rfl h
  obtain ⟨a1, a2⟩ := or2F g0
  obtain ⟨b1, g6⟩ := orF g6
  obtain ⟨b2, b3⟩ := or2F g6
  obtain ⟨c1, g8⟩ := orF g8
  obtain ⟨c2, c3⟩ := or2F g8
  obtain ⟨d1, d2⟩ := orF g9
  obtain ⟨f1, g10⟩ := orF g10
  obtain ⟨f2, g10⟩ := orF g10
  obtain ⟨f3, f4⟩ := or2F g10
  have a1 := of_decide_eq_false a1
  have a2 := of_decide_eq_false a2
  refine ⟨⟨by omega, by omega⟩, notF g1, notF g2, notF g3, notF g4, notF g5, notF b1, notF b2, notF b3, ?_, notF c1, notF c2, notF c3, notF d1, notF f1, notF f2, notF f3, notF f4⟩
  intro e
  rw [e] at g7
  exact Option.some.inj g7
theorem numW_t {n : Int} {h : Bool} {a m : Int} (k : numW n h a m = true) : (h = true → a ≤ n ∧ n ≤ m) ∧ (h = false → n = 0) := by
  unfold numW at k
  cases h
  · exact ⟨fun q => (by cases q), fun _ => of_decide_eq_true (by simpa using k)⟩
  · exact ⟨fun _ => of_decide_eq_true (by simpa using k), fun q => (by cases q)⟩
theorem leastR_nn (k : Int) : 0 ≤ leastR k := by unfold leastR; split <;> omega
theorem numW_b {n : Int} {h : Bool} {a m : Int} (k : numW n h a m = true) (ha : 0 ≤ a) (hm : 0 ≤ m) : 0 ≤ n ∧ n ≤ m := by
  have := numW_t k
  cases h
  · have := this.2 rfl; omega
  · have := this.1 rfl; omega
theorem textN_W {s : ByteArray} {h : Bool} (k : textN s h = true) : textW s h = true := by
  unfold textN at k
  unfold textW
  cases h
  · exact k
  · have := nameV_size (s := s) (by simpa using k)
    simp only [if_true]
    exact decide_eq_true (by omega)
theorem textW_t {s : ByteArray} {h : Bool} (k : textW s h = true) : (h = true → s.size ≤ 256) ∧ (h = false → s = ⟨#[]⟩) := by
  unfold textW at k
  cases h
  · exact ⟨fun q => (by cases q), fun _ => of_decide_eq_true (by simpa using k)⟩
  · exact ⟨fun _ => by have := of_decide_eq_true (p := (s.size : Int) ≤ 256) (by simpa using k); omega, fun q => (by cases q)⟩
theorem rowV_t {l : List Int} {h : Bool} (k : rowV l h = true) : brOk l ∧ (h = false → l = []) := by
  unfold rowV at k
  cases h
  · have : (l.length : Int) = 0 := of_decide_eq_true (by simpa using k)
    have : l = [] := List.eq_nil_of_length_eq_zero (by omega)
    subst this
    exact ⟨⟨by simp, fun i h => by simp at h⟩, fun _ => rfl⟩
  · exact ⟨brB_t.1 (by simpa using k), fun q => (by cases q)⟩
theorem brOk_le {l : List Int} (h : brOk l) : ∀ x ∈ l, 1 ≤ x ∧ x ≤ 64 := by
  intro x hx
  obtain ⟨i, hi, rfl⟩ := List.getElem_of_mem hx
  exact ⟨(h.2 i hi).1, (h.2 i hi).2.1⟩
/-! ### the bytes -/
def cF (f : Bool) (x : Bool) : List Int := if f = true then flagB x else []
theorem cF_len (f x : Bool) : (cF f x).length ≤ 1 := by unfold cF; split; exact Nat.le_of_eq (flagB_len x); exact Nat.zero_le _
theorem cF_ok (f x : Bool) : okB (cF f x) := by unfold cF; split; exact flagB_ok x; exact okB.nil
theorem cT_lenW {f : Bool} {s : ByteArray} (h : textW s f = true) : (cT f s).length ≤ 264 := by
  unfold cT
  cases f
  · exact Nat.zero_le _
  · rw [if_pos rfl]
    have := textB_len (bytesOf s)
    rw [bytesOf_len] at this
    have := (textW_t h).1 rfl
    omega
def enc5 (r : Rec) : List Int :=
  intB r.Kind ++ (cI (hasR r.Kind 1) r.Broker ++ (cI (hasR r.Kind 2) r.Epoch ++ (cI (hasR r.Kind 4) r.Topic ++ (cI (hasR r.Kind 8) r.Part ++ (cI (hasR r.Kind 16) r.Leader ++ (cI (hasR r.Kind 32) r.Client ++ (cI (hasR r.Kind 32) r.Serial ++ (cI (hasR r.Kind 32) r.Code ++ (cF (hasR r.Kind 64) r.Flag ++ (cT (hasR r.Kind 128) r.Name ++ (cT (hasR r.Kind 256) r.Key ++ (cT (hasR r.Kind 512) r.Value ++ (cT (hasR r.Kind 1024) r.Rack ++ (cR (hasR r.Kind 2048) r.Ids ++ (cR (hasR r.Kind 4096) r.Isr ++ (cR (hasR r.Kind 8192) r.Add ++ (cR (hasR r.Kind 8192) r.Drop)))))))))))))))))
theorem enc5_ok (r : Rec) : okB (enc5 r) := ((intB_ok _).append ((cI_ok _ _).append ((cI_ok _ _).append ((cI_ok _ _).append ((cI_ok _ _).append ((cI_ok _ _).append ((cI_ok _ _).append ((cI_ok _ _).append ((cI_ok _ _).append ((cF_ok _ _).append ((cT_ok _ _).append ((cT_ok _ _).append ((cT_ok _ _).append ((cT_ok _ _).append ((cR_ok _ _).append ((cR_ok _ _).append ((cR_ok _ _).append (cR_ok _ _))))))))))))))))))
theorem kindB {k : Int} (h : 1 ≤ k ∧ k ≤ 12) : [IntKind.u8.wrap k] = intB k := by
  have : k = 1 ∨ k = 2 ∨ k = 3 ∨ k = 4 ∨ k = 5 ∨ k = 6 ∨ k = 7 ∨ k = 8 ∨ k = 9 ∨ k = 10 ∨ k = 11 ∨ k = 12 := by omega
  rcases this with rfl | rfl | rfl | rfl | rfl | rfl | rfl | rfl | rfl | rfl | rfl | rfl <;> decide
theorem kindB_len {k : Int} (h : 1 ≤ k ∧ k ≤ 12) : (intB k).length = 1 := by rw [← kindB h]; rfl
theorem lens5 {r : Rec} (h : okRec r) : (intB r.Kind).length = 1 ∧ (cI (hasR r.Kind 1) r.Broker).length ≤ 8 ∧ (cI (hasR r.Kind 2) r.Epoch).length ≤ 8 ∧ (cI (hasR r.Kind 4) r.Topic).length ≤ 8 ∧ (cI (hasR r.Kind 8) r.Part).length ≤ 8 ∧ (cI (hasR r.Kind 16) r.Leader).length ≤ 8 ∧ (cI (hasR r.Kind 32) r.Client).length ≤ 8 ∧ (cI (hasR r.Kind 32) r.Serial).length ≤ 8 ∧ (cI (hasR r.Kind 32) r.Code).length ≤ 8 ∧ (cF (hasR r.Kind 64) r.Flag).length ≤ 1 ∧ (cT (hasR r.Kind 128) r.Name).length ≤ 264 ∧ (cT (hasR r.Kind 256) r.Key).length ≤ 264 ∧ (cT (hasR r.Kind 512) r.Value).length ≤ 264 ∧ (cT (hasR r.Kind 1024) r.Rack).length ≤ 264 ∧ (cR (hasR r.Kind 2048) r.Ids).length ≤ 64 ∧ (cR (hasR r.Kind 4096) r.Isr).length ≤ 64 ∧ (cR (hasR r.Kind 8192) r.Add).length ≤ 64 ∧ (cR (hasR r.Kind 8192) r.Drop).length ≤ 64 :=
  ⟨kindB_len h.kind, cI_len _ _, cI_len _ _, cI_len _ _, cI_len _ _, cI_len _ _, cI_len _ _, cI_len _ _, cI_len _ _, cF_len _ _, cT_lenW (textN_W h.name), cT_lenW (textN_W h.key), cT_lenW h.value, cT_lenW (textN_W h.rack), cR_len (rowV_t h.ids).1.1, cR_len (rowV_t h.isr).1.1, cR_len (rowV_t h.add).1.1, cR_len (rowV_t h.drop).1.1⟩
theorem enc5_len {r : Rec} (h : okRec r) : (enc5 r).length ≤ 2000 := by
  obtain ⟨l0, l1, l2, l3, l4, l5, l6, l7, l8, l9, l10, l11, l12, l13, l14, l15, l16, l17⟩ := lens5 h
  unfold enc5
  simp only [List.length_append]
  omega
/-! ### put -/
theorem pI5 {bit n k : Int} {b : List Int} (hn : n ≤ 9223372036854775807) (hb : b.length ≤ 2000000) : f_record_Put_1 bit n (aboutR k) b = some (b ++ cI (hasR k bit) n) := by
  unfold f_record_Put_1
  show (if hasR k bit = true then _ else _) = _
  unfold cI
  cases hasR k bit
  · simp
  · simp only [if_true]
    rw [wint_eq b n hn (by omega)]
    rfl
theorem pT5 {bit k : Int} {b : List Int} {s : ByteArray} (h : textW s (hasR k bit) = true) (hb : b.length ≤ 2000000) : f_record_Put_2 bit s (aboutR k) b = some (b ++ cT (hasR k bit) s) := by
  unfold f_record_Put_2
  show (if hasR k bit = true then _ else _) = _
  unfold cT
  cases hf : hasR k bit
  · simp
  · rw [hf] at h
    have := (textW_t h).1 rfl
    simp only [if_true]
    rw [wtext_eq b _ (by rw [bytesOf_len]; omega)]
    rfl
theorem pR5 {bit k : Int} {b l : List Int} (h : rowV l (hasR k bit) = true) (hb : b.length ≤ 2000000) : f_record_Put_3 bit l (aboutR k) b = some (b ++ cR (hasR k bit) l) := by
  have hr := (rowV_t h).1
  unfold f_record_Put_3
  show (if hasR k bit = true then _ else _) = _
  unfold cR
  cases hasR k bit
  · simp
  · simp only [if_true]
    rw [wrow_eq b l (fun x hx => by have := brOk_le hr x hx; omega) (by have := hr.1; omega) (by have := hr.1; omega)]
    rfl
theorem pF5 {k : Int} {b : List Int} {x : Bool} (hb : b.length ≤ 2000000) : (if (decide ((andI .i64 (aboutR k) (64 : Int)) ≠ (0 : Int))) = true then ((f_wire_Flag b x).bind fun (r102 : (List Int)) => (some r102)) else (some b)) = some (b ++ cF (hasR k 64) x) := by
  show (if hasR k 64 = true then _ else _) = _
  unfold cF
  cases hasR k 64
  · simp
  · simp only [if_true]
    rw [wflag_eq b _ (by omega)]
    rfl
theorem put5 {r : Rec} (hc : f_record_Check r = some .nil) {b : List Int} (hb : b.length ≤ 1000000) : f_record_Put b r = some (b ++ enc5 r, .nil) := by
  have h := check_okR hc
  obtain ⟨l0, l1, l2, l3, l4, l5, l6, l7, l8, l9, l10, l11, l12, l13, l14, l15, l16, l17⟩ := lens5 h
  have m0 := (numW_b h.broker (by decide) (by decide)).2
  have m1 := (numW_b h.epoch (by decide) (by decide)).2
  have m2 := (numW_b h.topic (leastR_nn _) (by decide)).2
  have m3 := (numW_b h.part (by decide) (by decide)).2
  have m4 := (numW_b h.leader (by decide) (by decide)).2
  have m5 := (numW_b h.client (by decide) (by decide)).2
  have m6 := (numW_b h.serial (by decide) (by decide)).2
  have m7 := (numW_b h.code (by decide) (by decide)).2
  unfold f_record_Put
  refine (bindQ hc).trans ?_
  refine (if_neg (by decide)).trans ?_
  refine (bindQ (about_eqR r.Kind)).trans ?_
  refine (grd_t (by show b.length + 1 ≤ _; omega)).trans ?_
  rw [kindB h.kind]
  refine (bindQ (pI5 (k := r.Kind) (bit := 1) (n := r.Broker) (by omega) (by simp only [List.length_append]; omega))).trans ?_
  refine (bindQ (pI5 (k := r.Kind) (bit := 2) (n := r.Epoch) (by omega) (by simp only [List.length_append]; omega))).trans ?_
  refine (bindQ (pI5 (k := r.Kind) (bit := 4) (n := r.Topic) (by omega) (by simp only [List.length_append]; omega))).trans ?_
  refine (bindQ (pI5 (k := r.Kind) (bit := 8) (n := r.Part) (by omega) (by simp only [List.length_append]; omega))).trans ?_
  refine (bindQ (pI5 (k := r.Kind) (bit := 16) (n := r.Leader) (by omega) (by simp only [List.length_append]; omega))).trans ?_
  refine (bindQ (pI5 (k := r.Kind) (bit := 32) (n := r.Client) (by omega) (by simp only [List.length_append]; omega))).trans ?_
  refine (bindQ (pI5 (k := r.Kind) (bit := 32) (n := r.Serial) (by omega) (by simp only [List.length_append]; omega))).trans ?_
  refine (bindQ (pI5 (k := r.Kind) (bit := 32) (n := r.Code) (by omega) (by simp only [List.length_append]; omega))).trans ?_
  refine (bindQ (pF5 (k := r.Kind) (x := r.Flag) (by simp only [List.length_append]; omega))).trans ?_
  refine (bindQ (pT5 (k := r.Kind) (bit := 128) (s := r.Name) (textN_W h.name) (by simp only [List.length_append]; omega))).trans ?_
  refine (bindQ (pT5 (k := r.Kind) (bit := 256) (s := r.Key) (textN_W h.key) (by simp only [List.length_append]; omega))).trans ?_
  refine (bindQ (pT5 (k := r.Kind) (bit := 512) (s := r.Value) h.value (by simp only [List.length_append]; omega))).trans ?_
  refine (bindQ (pT5 (k := r.Kind) (bit := 1024) (s := r.Rack) (textN_W h.rack) (by simp only [List.length_append]; omega))).trans ?_
  refine (bindQ (pR5 (k := r.Kind) (bit := 2048) (l := r.Ids) h.ids (by simp only [List.length_append]; omega))).trans ?_
  refine (bindQ (pR5 (k := r.Kind) (bit := 4096) (l := r.Isr) h.isr (by simp only [List.length_append]; omega))).trans ?_
  refine (bindQ (pR5 (k := r.Kind) (bit := 8192) (l := r.Add) h.add (by simp only [List.length_append]; omega))).trans ?_
  refine (bindQ (pR5 (k := r.Kind) (bit := 8192) (l := r.Drop) h.drop (by simp only [List.length_append]; omega))).trans ?_
  unfold enc5
  simp only [List.append_assoc]
def rz : Rec := ⟨0, 0, 0, 0, 0, 0, 0, 0, 0, false, ⟨#[]⟩, ⟨#[]⟩, ⟨#[]⟩, ⟨#[]⟩, [], [], [], []⟩
noncomputable def kindX (b : List Int) (a : Int) (e : GErr) (k : Int) : Option GErr :=
  ((((f_wire_Reader_Err (⟨b, a, e⟩ : T_wire_Reader)).bind fun (r35 : GErr) => (if r35.isNil = true then (if (decide (k < (1 : Int))) = true then (some true) else (some (decide ((12 : Int) < k)))) else (some false))) : Option Bool).bind fun (x33 : Bool) => (if x33 = true then ((f_wire_Reader_Refuse (⟨b, a, e⟩ : T_wire_Reader) (⟨#[107, 105, 110, 100]⟩ : ByteArray) (5 : Int)).bind fun (r43 : GErr) => (some r43)) else (some e)))
theorem kindX_ok {b : List Int} {a k : Int} (h : 1 ≤ k ∧ k ≤ 12) : kindX b a .nil k = some .nil := by
  unfold kindX
  refine (bindQ (y := false) ?_).trans rfl
  refine (bindQ (y := GErr.nil) rfl).trans ?_
  refine (if_pos rfl).trans ?_
  rw [decide_eq_false (show ¬ k < 1 by omega), decide_eq_false (show ¬ 12 < k by omega)]
  rfl
theorem kindX_bad {b : List Int} {a k : Int} {e : GErr} (h : e.isNil = false) : kindX b a e k = some e := by
  unfold kindX
  refine (bindQ (y := false) ?_).trans rfl
  refine (bindQ (y := e) rfl).trans ?_
  exact if_neg (by rw [h]; decide)
noncomputable def flagX (g : Int) (b : List Int) (a : Int) (e : GErr) : Option (Bool × Int × GErr) :=
  (if (decide ((andI .i64 g (64 : Int)) ≠ (0 : Int))) = true then ((f_wire_Reader_Flag (⟨b, a, e⟩ : T_wire_Reader)).bind fun (r114, r115, r116) => (some (r114, r115, r116))) else (some (false, a, e)))
noncomputable def tail5 (x : Rec) (b : List Int) (a : Int) (e : GErr) : Option (Rec × Int × GErr) :=
  (((f_wire_Reader_Err (⟨b, a, e⟩ : T_wire_Reader)).bind fun (r179 : GErr) => (if r179.isNil = true then ((f_record_Check x).bind fun (r185 : GErr) => (if (!r185.isNil) = true then ((f_fault_Of r185).bind fun (r203 : Int) => ((f_wire_Reader_Refuse (⟨b, a, e⟩ : T_wire_Reader) (⟨#[114, 101, 99, 111, 114, 100]⟩ : ByteArray) r203).bind fun (r208 : GErr) => (some r208))) else (some e))) else (some e))) : Option GErr).bind fun (x177 : GErr) => ((f_wire_Reader_Err (⟨b, a, x177⟩ : T_wire_Reader)).bind fun (r212 : GErr) => (if (!r212.isNil) = true then (some (rz, a, x177)) else (some (x, a, x177))))
theorem tail5_ok {x : Rec} {b : List Int} {a : Int} (h : f_record_Check x = some .nil) : tail5 x b a .nil = some (x, a, .nil) := by
  unfold tail5
  refine (bindQ (y := GErr.nil) ?_).trans rfl
  refine (bindQ (y := GErr.nil) rfl).trans ?_
  refine (if_pos rfl).trans ?_
  exact (bindQ h).trans rfl
theorem tail5_bad {x : Rec} {b : List Int} {a : Int} {e : GErr} (h : e.isNil = false) : tail5 x b a e = some (rz, a, e) := by
  unfold tail5
  refine (bindQ (y := e) ?_).trans ?_
  · refine (bindQ (y := e) rfl).trans ?_
    exact if_neg (by rw [h]; decide)
  · refine (bindQ (y := e) rfl).trans ?_
    exact if_pos (by rw [h]; rfl)
theorem read5_eq (b : List Int) {a k a0 a1 a2 a3 a4 a5 a6 a7 a8 a9 a10 a11 a12 a13 a14 a15 a16 a17 : Int} {e x e0 e1 e2 e3 e4 e5 e6 e7 e8 e9 e10 e11 e12 e13 e14 e15 e16 e17 : GErr} {v1 : Int} {v2 : Int} {v3 : Int} {v4 : Int} {v5 : Int} {v6 : Int} {v7 : Int} {v8 : Int} {v9 : Bool} {v10 : ByteArray} {v11 : ByteArray} {v12 : ByteArray} {v13 : ByteArray} {v14 : List Int} {v15 : List Int} {v16 : List Int} {v17 : List Int} (h0 : f_wire_Reader_Int ⟨b, a, e⟩ 63 = some (k, a0, e0)) (hx : kindX b a0 e0 k = some x)
    (h1 : f_record_Read_1 1 (aboutR k) ⟨b, a0, x⟩ = some (v1, a1, e1)) (h2 : f_record_Read_1 2 (aboutR k) ⟨b, a1, e1⟩ = some (v2, a2, e2)) (h3 : f_record_Read_1 4 (aboutR k) ⟨b, a2, e2⟩ = some (v3, a3, e3)) (h4 : f_record_Read_1 8 (aboutR k) ⟨b, a3, e3⟩ = some (v4, a4, e4)) (h5 : f_record_Read_1 16 (aboutR k) ⟨b, a4, e4⟩ = some (v5, a5, e5)) (h6 : f_record_Read_1 32 (aboutR k) ⟨b, a5, e5⟩ = some (v6, a6, e6)) (h7 : f_record_Read_1 32 (aboutR k) ⟨b, a6, e6⟩ = some (v7, a7, e7)) (h8 : f_record_Read_1 32 (aboutR k) ⟨b, a7, e7⟩ = some (v8, a8, e8)) (h9 : flagX (aboutR k) b a8 e8 = some (v9, a9, e9)) (h10 : f_record_Read_2 128 (aboutR k) ⟨b, a9, e9⟩ = some (v10, a10, e10)) (h11 : f_record_Read_2 256 (aboutR k) ⟨b, a10, e10⟩ = some (v11, a11, e11)) (h12 : f_record_Read_2 512 (aboutR k) ⟨b, a11, e11⟩ = some (v12, a12, e12)) (h13 : f_record_Read_2 1024 (aboutR k) ⟨b, a12, e12⟩ = some (v13, a13, e13)) (h14 : f_record_Read_3 2048 (aboutR k) ⟨b, a13, e13⟩ = some (v14, a14, e14)) (h15 : f_record_Read_3 4096 (aboutR k) ⟨b, a14, e14⟩ = some (v15, a15, e15)) (h16 : f_record_Read_3 8192 (aboutR k) ⟨b, a15, e15⟩ = some (v16, a16, e16)) (h17 : f_record_Read_3 8192 (aboutR k) ⟨b, a16, e16⟩ = some (v17, a17, e17)) : f_record_Read ⟨b, a, e⟩ = tail5 ⟨k, v1, v2, v3, v4, v5, v6, v7, v8, v9, v10, v11, v12, v13, v14, v15, v16, v17⟩ b a17 e17 := by
  unfold f_record_Read
  refine (bindQ h0).trans ?_
  refine (bindQ hx).trans ?_
  refine (bindQ (about_eqR k)).trans ?_
  refine (bindQ h1).trans ?_
  refine (bindQ h2).trans ?_
  refine (bindQ h3).trans ?_
  refine (bindQ h4).trans ?_
  refine (bindQ h5).trans ?_
  refine (bindQ h6).trans ?_
  refine (bindQ h7).trans ?_
  refine (bindQ h8).trans ?_
  refine (bindQ h9).trans ?_
  refine (bindQ h10).trans ?_
  refine (bindQ h11).trans ?_
  refine (bindQ h12).trans ?_
  refine (bindQ h13).trans ?_
  refine (bindQ h14).trans ?_
  refine (bindQ h15).trans ?_
  refine (bindQ h16).trans ?_
  refine (bindQ h17).trans ?_
  rfl
/-! ### from the first bytes -/
theorem has_f {k bit : Int} (h : hasR k bit = false) : decide (andI .i64 (aboutR k) bit = 0) = true := by
  unfold hasR at h
  exact decide_eq_true (Classical.byContradiction fun z => absurd (of_decide_eq_false h) (fun y => y z))
theorem has_tt {k bit : Int} (h : hasR k bit = true) : ¬ decide (andI .i64 (aboutR k) bit = 0) = true := by
  unfold hasR at h
  exact fun z => (of_decide_eq_true h) (of_decide_eq_true z)
theorem r1F {k bit : Int} (h : hasR k bit = false) (b : List Int) (a : Int) (e : GErr) : f_record_Read_1 bit (aboutR k) ⟨b, a, e⟩ = some (0, a, e) := by
  unfold f_record_Read_1; exact if_pos (has_f h)
theorem r2F {k bit : Int} (h : hasR k bit = false) (b : List Int) (a : Int) (e : GErr) : f_record_Read_2 bit (aboutR k) ⟨b, a, e⟩ = some (⟨#[]⟩, a, e) := by
  unfold f_record_Read_2; exact if_pos (has_f h)
theorem r3F {k bit : Int} (h : hasR k bit = false) (b : List Int) (a : Int) (e : GErr) : f_record_Read_3 bit (aboutR k) ⟨b, a, e⟩ = some ([], a, e) := by
  unfold f_record_Read_3; exact if_pos (has_f h)
theorem rfF {k : Int} (h : hasR k 64 = false) (b : List Int) (a : Int) (e : GErr) : flagX (aboutR k) b a e = some (false, a, e) := by
  unfold flagX; exact if_neg (fun z => by have : hasR k 64 = true := z; rw [h] at this; cases this)
theorem r1T {k bit : Int} (h : hasR k bit = true) {b : List Int} {a : Int} {e : GErr} {v a' : Int} {e' : GErr} (q : f_wire_Reader_Int ⟨b, a, e⟩ 1073741824 = some (v, a', e')) : f_record_Read_1 bit (aboutR k) ⟨b, a, e⟩ = some (v, a', e') := by
  unfold f_record_Read_1; exact (if_neg (has_tt h)).trans ((bindQ q).trans rfl)
theorem r2T {k bit : Int} (h : hasR k bit = true) {b : List Int} {a : Int} {e : GErr} {v : List Int} {a' : Int} {e' : GErr} (q : f_wire_Reader_Text ⟨b, a, e⟩ 256 = some (v, a', e')) : f_record_Read_2 bit (aboutR k) ⟨b, a, e⟩ = some (strOfNums v, a', e') := by
  unfold f_record_Read_2; exact (if_neg (has_tt h)).trans ((bindQ q).trans rfl)
theorem r3T {k bit : Int} (h : hasR k bit = true) {b : List Int} {a : Int} {e : GErr} {v : List Int} {a' : Int} {e' : GErr} (q : f_wire_Reader_Row ⟨b, a, e⟩ 7 64 = some (v, a', e')) : f_record_Read_3 bit (aboutR k) ⟨b, a, e⟩ = some (v, a', e') := by
  unfold f_record_Read_3; exact (if_neg (has_tt h)).trans ((bindQ q).trans rfl)
theorem rfT {k : Int} (h : hasR k 64 = true) {b : List Int} {a : Int} {e : GErr} {v : Bool} {a' : Int} {e' : GErr} (q : f_wire_Reader_Flag ⟨b, a, e⟩ = some (v, a', e')) : flagX (aboutR k) b a e = some (v, a', e') := by
  unfold flagX; exact (if_pos h).trans ((bindQ q).trans rfl)
theorem onK {k' k : Int} {c : Nat} {pre x : List Int} (h : k' = k ∨ (k' = 0 ∧ c < pre.length)) : k' = k ∨ (k' = 0 ∧ c < (pre ++ x).length) := h.imp id fun h => ⟨h.1, by rw [List.length_append]; omega⟩
theorem le_pre {pre x : List Int} {c : Nat} (h : (pre ++ x).length ≤ c) : pre.length ≤ c := by rw [List.length_append] at h; omega
section
variable {b : List Int} {c : Nat} {pre post : List Int} {a : Int} {e : GErr} {k k' bit : Int}
theorem cut1 (hb : okB b) (hl : b.length ≤ 1000000) (hc : c ≤ b.length) {n lo m : Int} (e0 : b = pre ++ (cI (hasR k bit) n ++ post)) (hn : numW n (hasR k bit) lo m = true) (hlo : 0 ≤ lo) (hm : m ≤ 1073741824) (hz : hasR 0 bit = false) (hk : k' = k ∨ (k' = 0 ∧ c < pre.length)) (h : stC c pre a e) :
    ∃ v a' e', f_record_Read_1 bit (aboutR k') ⟨b.take c, a, e⟩ = some (v, a', e') ∧ stC c (pre ++ cI (hasR k bit) n) a' e' ∧ ((pre ++ cI (hasR k bit) n).length ≤ c → v = n) := by
  rcases hk with rfl | ⟨rfl, g⟩
  · cases hf : hasR k' bit
    · rw [hf] at hn
      exact ⟨0, a, e, r1F hf _ _ _, h.no, fun _ => ((numW_t hn).2 rfl).symm⟩
    · rw [hf] at e0 hn
      have hn := (numW_t hn).1 rfl
      obtain ⟨v, a', e', h1, h2, h3, _⟩ := cutI hb hl hc (n := n) (m := 1073741824) e0 (by omega) (by unfold top; omega) (by omega) (by decide) h
      exact ⟨v, a', e', r1T hf h1, h2, h3⟩
  · exact ⟨0, a, e, r1F hz _ _ _, h.on g, fun q => by have := le_pre q; omega⟩
theorem cut2 (hb : okB b) (hl : b.length ≤ 1000000) (hc : c ≤ b.length) {s : ByteArray} (e0 : b = pre ++ (cT (hasR k bit) s ++ post)) (hn : textW s (hasR k bit) = true) (hz : hasR 0 bit = false) (hk : k' = k ∨ (k' = 0 ∧ c < pre.length)) (h : stC c pre a e) :
    ∃ v a' e', f_record_Read_2 bit (aboutR k') ⟨b.take c, a, e⟩ = some (v, a', e') ∧ stC c (pre ++ cT (hasR k bit) s) a' e' ∧ ((pre ++ cT (hasR k bit) s).length ≤ c → v = s) := by
  rcases hk with rfl | ⟨rfl, g⟩
  · cases hf : hasR k' bit
    · rw [hf] at hn
      exact ⟨⟨#[]⟩, a, e, r2F hf _ _ _, h.no, fun _ => ((textW_t hn).2 rfl).symm⟩
    · rw [hf] at e0 hn
      have hn := (textW_t hn).1 rfl
      obtain ⟨v, a', e', h1, h2, h3⟩ := cutT hb hl hc (s := bytesOf s) (m := 256) e0 (by rw [bytesOf_len]; omega) (by decide) h
      exact ⟨strOfNums v, a', e', r2T hf h1, h2, fun q => by rw [h3 q, str_bytes]⟩
  · exact ⟨⟨#[]⟩, a, e, r2F hz _ _ _, h.on g, fun q => by have := le_pre q; omega⟩
theorem cut3 (hb : okB b) (hl : b.length ≤ 1000000) (hc : c ≤ b.length) {l : List Int} (e0 : b = pre ++ (cR (hasR k bit) l ++ post)) (hn : rowV l (hasR k bit) = true) (hz : hasR 0 bit = false) (hk : k' = k ∨ (k' = 0 ∧ c < pre.length)) (h : stC c pre a e) :
    ∃ v a' e', f_record_Read_3 bit (aboutR k') ⟨b.take c, a, e⟩ = some (v, a', e') ∧ stC c (pre ++ cR (hasR k bit) l) a' e' ∧ ((pre ++ cR (hasR k bit) l).length ≤ c → v = l) := by
  have hr := rowV_t hn
  rcases hk with rfl | ⟨rfl, g⟩
  · cases hf : hasR k' bit
    · exact ⟨[], a, e, r3F hf _ _ _, h.no, fun _ => (hr.2 hf).symm⟩
    · rw [hf] at e0
      obtain ⟨v, a', e', h1, h2, h3⟩ := cutR hb hl hc (s := l) (m := 7) (k := 64) e0 (by have := hr.1.1; omega) (by decide) (by decide) (fun x hx => by have := brOk_le hr.1 x hx; omega) h
      exact ⟨v, a', e', r3T hf h1, h2, h3⟩
  · exact ⟨[], a, e, r3F hz _ _ _, h.on g, fun q => by have := le_pre q; omega⟩
theorem cutf (hb : okB b) (hl : b.length ≤ 1000000) (hc : c ≤ b.length) {n : Bool} (e0 : b = pre ++ (cF (hasR k 64) n ++ post)) (hn : hasR k 64 = false → n = false) (hk : k' = k ∨ (k' = 0 ∧ c < pre.length)) (h : stC c pre a e) :
    ∃ v a' e', flagX (aboutR k') (b.take c) a e = some (v, a', e') ∧ stC c (pre ++ cF (hasR k 64) n) a' e' ∧ ((pre ++ cF (hasR k 64) n).length ≤ c → v = n) := by
  rcases hk with rfl | ⟨rfl, g⟩
  · cases hf : hasR k' 64
    · exact ⟨false, a, e, rfF hf _ _ _, h.no, fun _ => (hn hf).symm⟩
    · rw [hf] at e0
      obtain ⟨v, a', e', h1, h2, h3⟩ := cutF hb hl hc (n := n) e0 h
      exact ⟨v, a', e', rfT hf h1, h2, h3⟩
  · exact ⟨false, a, e, rfF (by decide) _ _ _, h.on g, fun q => by have := le_pre q; omega⟩
end
theorem read5_cut' {r : Rec} (hc : f_record_Check r = some .nil) {b : List Int} (hb : okB b) (hl : b.length ≤ 1000000) {c : Nat} (hcb : c ≤ b.length) {pre post : List Int} (hp : pre.length ≤ c)
    (p0 : b = pre ++ (intB r.Kind ++ (cI (hasR r.Kind 1) r.Broker ++ (cI (hasR r.Kind 2) r.Epoch ++ (cI (hasR r.Kind 4) r.Topic ++ (cI (hasR r.Kind 8) r.Part ++ (cI (hasR r.Kind 16) r.Leader ++ (cI (hasR r.Kind 32) r.Client ++ (cI (hasR r.Kind 32) r.Serial ++ (cI (hasR r.Kind 32) r.Code ++ (cF (hasR r.Kind 64) r.Flag ++ (cT (hasR r.Kind 128) r.Name ++ (cT (hasR r.Kind 256) r.Key ++ (cT (hasR r.Kind 512) r.Value ++ (cT (hasR r.Kind 1024) r.Rack ++ (cR (hasR r.Kind 2048) r.Ids ++ (cR (hasR r.Kind 4096) r.Isr ++ (cR (hasR r.Kind 8192) r.Add ++ (cR (hasR r.Kind 8192) r.Drop ++ post))))))))))))))))))) :
    ∃ x a' e', f_record_Read ⟨b.take c, (pre.length : Int), .nil⟩ = some (x, a', e') ∧ stC c ((((((((((((((((((pre ++ intB r.Kind) ++ cI (hasR r.Kind 1) r.Broker) ++ cI (hasR r.Kind 2) r.Epoch) ++ cI (hasR r.Kind 4) r.Topic) ++ cI (hasR r.Kind 8) r.Part) ++ cI (hasR r.Kind 16) r.Leader) ++ cI (hasR r.Kind 32) r.Client) ++ cI (hasR r.Kind 32) r.Serial) ++ cI (hasR r.Kind 32) r.Code) ++ cF (hasR r.Kind 64) r.Flag) ++ cT (hasR r.Kind 128) r.Name) ++ cT (hasR r.Kind 256) r.Key) ++ cT (hasR r.Kind 512) r.Value) ++ cT (hasR r.Kind 1024) r.Rack) ++ cR (hasR r.Kind 2048) r.Ids) ++ cR (hasR r.Kind 4096) r.Isr) ++ cR (hasR r.Kind 8192) r.Add) ++ cR (hasR r.Kind 8192) r.Drop) a' e' ∧ (((((((((((((((((((pre ++ intB r.Kind) ++ cI (hasR r.Kind 1) r.Broker) ++ cI (hasR r.Kind 2) r.Epoch) ++ cI (hasR r.Kind 4) r.Topic) ++ cI (hasR r.Kind 8) r.Part) ++ cI (hasR r.Kind 16) r.Leader) ++ cI (hasR r.Kind 32) r.Client) ++ cI (hasR r.Kind 32) r.Serial) ++ cI (hasR r.Kind 32) r.Code) ++ cF (hasR r.Kind 64) r.Flag) ++ cT (hasR r.Kind 128) r.Name) ++ cT (hasR r.Kind 256) r.Key) ++ cT (hasR r.Kind 512) r.Value) ++ cT (hasR r.Kind 1024) r.Rack) ++ cR (hasR r.Kind 2048) r.Ids) ++ cR (hasR r.Kind 4096) r.Isr) ++ cR (hasR r.Kind 8192) r.Add) ++ cR (hasR r.Kind 8192) r.Drop).length ≤ c → x = r) ∧ (c < ((((((((((((((((((pre ++ intB r.Kind) ++ cI (hasR r.Kind 1) r.Broker) ++ cI (hasR r.Kind 2) r.Epoch) ++ cI (hasR r.Kind 4) r.Topic) ++ cI (hasR r.Kind 8) r.Part) ++ cI (hasR r.Kind 16) r.Leader) ++ cI (hasR r.Kind 32) r.Client) ++ cI (hasR r.Kind 32) r.Serial) ++ cI (hasR r.Kind 32) r.Code) ++ cF (hasR r.Kind 64) r.Flag) ++ cT (hasR r.Kind 128) r.Name) ++ cT (hasR r.Kind 256) r.Key) ++ cT (hasR r.Kind 512) r.Value) ++ cT (hasR r.Kind 1024) r.Rack) ++ cR (hasR r.Kind 2048) r.Ids) ++ cR (hasR r.Kind 4096) r.Isr) ++ cR (hasR r.Kind 8192) r.Add) ++ cR (hasR r.Kind 8192) r.Drop).length → x = rz) := by
  have h := check_okR hc
  have tp : (1073741824 : Int) ≤ top := by decide
  have ht : (0 : Int) ≤ leastR r.Kind := leastR_nn _
  have p1 := nxt p0
  have p2 := nxt p1
  have p3 := nxt p2
  have p4 := nxt p3
  have p5 := nxt p4
  have p6 := nxt p5
  have p7 := nxt p6
  have p8 := nxt p7
  have p9 := nxt p8
  have p10 := nxt p9
  have p11 := nxt p10
  have p12 := nxt p11
  have p13 := nxt p12
  have p14 := nxt p13
  have p15 := nxt p14
  have p16 := nxt p15
  have p17 := nxt p16
  have s : stC c pre (pre.length : Int) .nil := ⟨fun _ => ⟨rfl, rfl⟩, fun q => by omega⟩
  obtain ⟨k, a0, e0, h0, s0, q0, z0⟩ := cutI hb hl hcb (m := 63) p0 (by have := h.kind; omega) (by have := h.kind; omega) (by have := h.kind; omega) (by decide) s
  have hk : k = r.Kind ∨ (k = 0 ∧ c < (pre ++ intB r.Kind).length) := by
    by_cases g : (pre ++ intB r.Kind).length ≤ c
    · exact .inl (q0 g)
    · exact .inr ⟨z0 (by omega), by omega⟩
  have hx : kindX (b.take c) a0 e0 k = some e0 := by
    by_cases g : (pre ++ intB r.Kind).length ≤ c
    · rw [q0 g, (s0.whole g).2]; exact kindX_ok h.kind
    · exact kindX_bad (s0.bad (by omega))
  obtain ⟨v1, a1, e1, h1, s1, q1⟩ := cut1 hb hl hcb p1 h.broker (by decide) (by decide) (by decide) hk s0
  obtain ⟨v2, a2, e2, h2, s2, q2⟩ := cut1 hb hl hcb p2 h.epoch (by decide) (by decide) (by decide) (onK hk) s1
  obtain ⟨v3, a3, e3, h3, s3, q3⟩ := cut1 hb hl hcb p3 h.topic ht (by decide) (by decide) (onK (onK hk)) s2
  obtain ⟨v4, a4, e4, h4, s4, q4⟩ := cut1 hb hl hcb p4 h.part (by decide) (by decide) (by decide) (onK (onK (onK hk))) s3
  obtain ⟨v5, a5, e5, h5, s5, q5⟩ := cut1 hb hl hcb p5 h.leader (by decide) (by decide) (by decide) (onK (onK (onK (onK hk)))) s4
  obtain ⟨v6, a6, e6, h6, s6, q6⟩ := cut1 hb hl hcb p6 h.client (by decide) (by decide) (by decide) (onK (onK (onK (onK (onK hk))))) s5
  obtain ⟨v7, a7, e7, h7, s7, q7⟩ := cut1 hb hl hcb p7 h.serial (by decide) (by decide) (by decide) (onK (onK (onK (onK (onK (onK hk)))))) s6
  obtain ⟨v8, a8, e8, h8, s8, q8⟩ := cut1 hb hl hcb p8 h.code (by decide) (by decide) (by decide) (onK (onK (onK (onK (onK (onK (onK hk))))))) s7
  obtain ⟨v9, a9, e9, h9, s9, q9⟩ := cutf hb hl hcb p9 h.flag (onK (onK (onK (onK (onK (onK (onK (onK hk)))))))) s8
  obtain ⟨v10, a10, e10, h10, s10, q10⟩ := cut2 hb hl hcb p10 (textN_W h.name) (by decide) (onK (onK (onK (onK (onK (onK (onK (onK (onK hk))))))))) s9
  obtain ⟨v11, a11, e11, h11, s11, q11⟩ := cut2 hb hl hcb p11 (textN_W h.key) (by decide) (onK (onK (onK (onK (onK (onK (onK (onK (onK (onK hk)))))))))) s10
  obtain ⟨v12, a12, e12, h12, s12, q12⟩ := cut2 hb hl hcb p12 h.value (by decide) (onK (onK (onK (onK (onK (onK (onK (onK (onK (onK (onK hk))))))))))) s11
  obtain ⟨v13, a13, e13, h13, s13, q13⟩ := cut2 hb hl hcb p13 (textN_W h.rack) (by decide) (onK (onK (onK (onK (onK (onK (onK (onK (onK (onK (onK (onK hk)))))))))))) s12
  obtain ⟨v14, a14, e14, h14, s14, q14⟩ := cut3 hb hl hcb p14 h.ids (by decide) (onK (onK (onK (onK (onK (onK (onK (onK (onK (onK (onK (onK (onK hk))))))))))))) s13
  obtain ⟨v15, a15, e15, h15, s15, q15⟩ := cut3 hb hl hcb p15 h.isr (by decide) (onK (onK (onK (onK (onK (onK (onK (onK (onK (onK (onK (onK (onK (onK hk)))))))))))))) s14
  obtain ⟨v16, a16, e16, h16, s16, q16⟩ := cut3 hb hl hcb p16 h.add (by decide) (onK (onK (onK (onK (onK (onK (onK (onK (onK (onK (onK (onK (onK (onK (onK hk))))))))))))))) s15
  obtain ⟨v17, a17, e17, h17, s17, q17⟩ := cut3 hb hl hcb p17 h.drop (by decide) (onK (onK (onK (onK (onK (onK (onK (onK (onK (onK (onK (onK (onK (onK (onK (onK hk)))))))))))))))) s16
  have H := read5_eq (b.take c) h0 hx h1 h2 h3 h4 h5 h6 h7 h8 h9 h10 h11 h12 h13 h14 h15 h16 h17
  by_cases g : ((((((((((((((((((pre ++ intB r.Kind) ++ cI (hasR r.Kind 1) r.Broker) ++ cI (hasR r.Kind 2) r.Epoch) ++ cI (hasR r.Kind 4) r.Topic) ++ cI (hasR r.Kind 8) r.Part) ++ cI (hasR r.Kind 16) r.Leader) ++ cI (hasR r.Kind 32) r.Client) ++ cI (hasR r.Kind 32) r.Serial) ++ cI (hasR r.Kind 32) r.Code) ++ cF (hasR r.Kind 64) r.Flag) ++ cT (hasR r.Kind 128) r.Name) ++ cT (hasR r.Kind 256) r.Key) ++ cT (hasR r.Kind 512) r.Value) ++ cT (hasR r.Kind 1024) r.Rack) ++ cR (hasR r.Kind 2048) r.Ids) ++ cR (hasR r.Kind 4096) r.Isr) ++ cR (hasR r.Kind 8192) r.Add) ++ cR (hasR r.Kind 8192) r.Drop).length ≤ c
  · have g17 := g
    have g16 := le_pre g17
    have g15 := le_pre g16
    have g14 := le_pre g15
    have g13 := le_pre g14
    have g12 := le_pre g13
    have g11 := le_pre g12
    have g10 := le_pre g11
    have g9 := le_pre g10
    have g8 := le_pre g9
    have g7 := le_pre g8
    have g6 := le_pre g7
    have g5 := le_pre g6
    have g4 := le_pre g5
    have g3 := le_pre g4
    have g2 := le_pre g3
    have g1 := le_pre g2
    have g0 := le_pre g1
    obtain ⟨t1, t2⟩ := s17.whole g
    have er : (⟨k, v1, v2, v3, v4, v5, v6, v7, v8, v9, v10, v11, v12, v13, v14, v15, v16, v17⟩ : Rec) = r := by
      rw [q0 g0, q1 g1, q2 g2, q3 g3, q4 g4, q5 g5, q6 g6, q7 g7, q8 g8, q9 g9, q10 g10, q11 g11, q12 g12, q13 g13, q14 g14, q15 g15, q16 g16, q17 g17]
    rw [t2, er] at H
    rw [t2] at s17
    exact ⟨r, a17, .nil, H.trans (tail5_ok hc), s17, fun _ => rfl, fun q => by omega⟩
  · exact ⟨rz, a17, e17, H.trans (tail5_bad (s17.bad (by omega))), s17, fun q => absurd q g, fun _ => rfl⟩
section
variable {k bit : Int} {b : List Int} {a : Nat}
end
theorem wread_eq (b : List Int) : f_wire_Read b = some ⟨b, ((([] : List Int).length : Nat) : Int), .nil⟩ := rfl
/-! ### the example -/
theorem short_eq5 (r : Rec) : ∃ b, f_ref05_Short r = some b ∧ (b = true → r.Ids.length ≤ 60 ∧ r.Isr.length ≤ 60 ∧ r.Add.length ≤ 60 ∧ r.Drop.length ≤ 60) := by
  unfold f_ref05_Short
  have e1 : (if (decide ((r.Name.size : Int) ≤ (400 : Int))) = true then (if (decide ((r.Key.size : Int) ≤ (400 : Int))) = true then (if (decide ((r.Value.size : Int) ≤ (400 : Int))) = true then (some (decide ((r.Rack.size : Int) ≤ (400 : Int)))) else (some false)) else (some false)) else (some false)) = some (decide ((r.Name.size : Int) ≤ 400) && decide ((r.Key.size : Int) ≤ 400) && decide ((r.Value.size : Int) ≤ 400) && decide ((r.Rack.size : Int) ≤ 400)) := by
    cases decide ((r.Name.size : Int) ≤ 400) <;> cases decide ((r.Key.size : Int) ≤ 400) <;> cases decide ((r.Value.size : Int) ≤ 400) <;> rfl
  have e2 : (if (decide ((r.Ids.length : Int) ≤ (60 : Int))) = true then (if (decide ((r.Isr.length : Int) ≤ (60 : Int))) = true then (if (decide ((r.Add.length : Int) ≤ (60 : Int))) = true then (some (decide ((r.Drop.length : Int) ≤ (60 : Int)))) else (some false)) else (some false)) else (some false)) = some (decide ((r.Ids.length : Int) ≤ 60) && decide ((r.Isr.length : Int) ≤ 60) && decide ((r.Add.length : Int) ≤ 60) && decide ((r.Drop.length : Int) ≤ 60)) := by
    cases decide ((r.Ids.length : Int) ≤ 60) <;> cases decide ((r.Isr.length : Int) ≤ 60) <;> cases decide ((r.Add.length : Int) ≤ 60) <;> rfl
  rw [e1, e2]
  generalize (decide ((r.Name.size : Int) ≤ 400) && decide ((r.Key.size : Int) ≤ 400) && decide ((r.Value.size : Int) ≤ 400) && decide ((r.Rack.size : Int) ≤ 400)) = c
  cases c
  · exact ⟨false, rfl, fun q => by cases q⟩
  · refine ⟨_, rfl, fun q => ?_⟩
    simp only [Bool.and_eq_true, decide_eq_true_eq] at q
    omega
abbrev Bat := T_api_Batch
abbrev recOp : ByteArray := ⟨#[114, 101, 99, 111, 114, 100]⟩
theorem rdR {α : Type} [Inhabited α] {l : List α} {i : Nat} (h : i < l.length) : rd l (i : Int) = l[i] := len_lt h
theorem wrapB (o : ByteArray) (a : Int) {e : GErr} (h : e.isNil = false) : f_fault_Wrap o a e = some (.fault o a e) := by
  unfold f_fault_Wrap
  rw [h]
  rfl
/-! ### not more than is waited for -/
def shortR (r : Rec) : Prop := r.Ids.length ≤ 60 ∧ r.Isr.length ≤ 60 ∧ r.Add.length ≤ 60 ∧ r.Drop.length ≤ 60
theorem short6_loop (l : List Rec) (hl : l.length ≤ 1000000) : ∀ (d i : Nat), i + d = l.length → (∀ j (h : j < l.length), j < i → shortR l[j]) →
    (iter (f_ref06_Short_l0 l) (i : Int) = some (.inl ()) ∧ ∀ r ∈ l, shortR r) ∨ iter (f_ref06_Short_l0 l) (i : Int) = some (.inr ())
  | 0, i, h, hj => by
    refine .inl ⟨iter_stop ?_, fun r hr => ?_⟩
    · unfold f_ref06_Short_l0
      simp only
      rw [if_neg (fun z => absurd (of_decide_eq_true z) (by omega))]
    · obtain ⟨j, hj', rfl⟩ := List.getElem_of_mem hr
      exact hj j hj' (by omega)
  | d + 1, i, h, hj => by
    have hlt : i < l.length := by omega
    obtain ⟨x, h1, h2⟩ := short_eq5 l[i]
    cases x
    · refine .inr (iter_stop ?_)
      unfold f_ref06_Short_l0
      simp only
      rw [if_pos (decide_eq_true (by omega)), grd_t (by omega), rdR hlt]
      exact (bindQ h1).trans rfl
    · have hs : f_ref06_Short_l0 l (i : Int) = some (.inl ((i + 1 : Nat) : Int)) := by
        unfold f_ref06_Short_l0
        simp only
        rw [if_pos (decide_eq_true (by omega)), grd_t (by omega), rdR hlt, w_i64 (by omega) (by omega)]
        exact (bindQ h1).trans rfl
      rw [iter_next hs]
      refine short6_loop l hl d (i + 1) (by omega) fun j hj' hji => ?_
      by_cases ej : j = i
      · subst ej; exact h2 rfl
      · exact hj j hj' (by omega)
theorem short6 (l : List Rec) : ∃ x, f_ref06_Short l = some x ∧ (x = true → l.length ≤ 80 ∧ ∀ r ∈ l, shortR r) := by
  unfold f_ref06_Short
  by_cases g : (80 : Int) < (l.length : Int)
  · exact ⟨false, if_pos (decide_eq_true g), fun q => by cases q⟩
  · rw [if_neg (fun z => g (of_decide_eq_true z))]
    rcases short6_loop l (by omega) l.length 0 (by omega) (fun j h q => by omega) with ⟨h1, h2⟩ | h1
    · rw [show ((0 : Nat) : Int) = 0 from rfl] at h1
      rw [h1]
      exact ⟨true, rfl, fun _ => ⟨by omega, h2⟩⟩
    · rw [show ((0 : Nat) : Int) = 0 from rfl] at h1
      rw [h1]
      exact ⟨false, rfl, fun q => by cases q⟩
/-! ### whether a batch may be -/
def relE6 (w : T_ref06_Wrong) (e : GErr) : Prop :=
  if w.W.Code = 0 then e = .nil else if w.Record < 0 then e = .fault w.W.Op w.W.At (.code w.W.Code) else ∃ a, e = .fault recOp w.W.At (.fault w.W.Op a (.code w.W.Code))
def zW : T_ref06_Wrong := ⟨⟨⟨#[]⟩, 0, 0⟩, -1⟩
theorem check6_loop (b : Bat) (hl : b.Records.length ≤ 64) : ∀ (d i : Nat), i + d = b.Records.length → (∀ j (h : j < b.Records.length), j < i → f_record_Check b.Records[j] = some .nil) →
    (iter (f_ref06_Check_l0 b) (i : Int) = some (.inl ()) ∧ iter (f_batch_Check_l0 b) (i : Int) = some (.inl ()) ∧ ∀ r ∈ b.Records, f_record_Check r = some .nil) ∨
    ∃ (j : Int) (w : T_ref05_Wrong), 0 ≤ j ∧ w.Code ≠ 0 ∧ iter (f_ref06_Check_l0 b) (i : Int) = some (.inr (w.Op, j, w.Code, j)) ∧ iter (f_batch_Check_l0 b) (i : Int) = some (.inr (.fault recOp j (.fault w.Op w.At (.code w.Code))))
  | 0, i, h, hj => by
    refine .inl ⟨iter_stop ?_, iter_stop ?_, fun r hr => ?_⟩
    · unfold f_ref06_Check_l0
      simp only
      rw [if_neg (fun z => absurd (of_decide_eq_true z) (by omega))]
    · unfold f_batch_Check_l0
      simp only
      rw [if_neg (fun z => absurd (of_decide_eq_true z) (by omega))]
    · obtain ⟨j, hj', rfl⟩ := List.getElem_of_mem hr
      exact hj j hj' (by omega)
  | d + 1, i, h, hj => by
    have hlt : i < b.Records.length := by omega
    obtain ⟨w, h1, h2⟩ := check_eqR b.Records[i]
    by_cases g : w.Code = 0
    · have hn : toE5 w = .nil := by unfold toE5; rw [if_pos g]
      rw [hn] at h2
      have hs1 : f_ref06_Check_l0 b (i : Int) = some (.inl ((i + 1 : Nat) : Int)) := by
        unfold f_ref06_Check_l0
        simp only
        rw [if_pos (decide_eq_true (by omega)), grd_t (by omega), rdR hlt, w_i64 (by omega) (by omega)]
        refine (bindQ h1).trans ?_
        exact (if_neg (by simp [g])).trans rfl
      have hs2 : f_batch_Check_l0 b (i : Int) = some (.inl ((i + 1 : Nat) : Int)) := by
        unfold f_batch_Check_l0
        simp only
        rw [if_pos (decide_eq_true (by omega)), grd_t (by omega), rdR hlt, w_i64 (by omega) (by omega)]
        exact (bindQ h2).trans rfl
      rw [iter_next hs1, iter_next hs2]
      refine check6_loop b hl d (i + 1) (by omega) fun j hj' hji => ?_
      by_cases ej : j = i
      · subst ej; exact h2
      · exact hj j hj' (by omega)
    · have hn : (toE5 w).isNil = false := by unfold toE5; rw [if_neg g]; rfl
      refine .inr ⟨(i : Int), w, by omega, g, iter_stop ?_, iter_stop ?_⟩
      · unfold f_ref06_Check_l0
        simp only
        rw [if_pos (decide_eq_true (by omega)), grd_t (by omega), rdR hlt]
        refine (bindQ h1).trans ?_
        exact if_pos (decide_eq_true g)
      · unfold f_batch_Check_l0
        simp only
        rw [if_pos (decide_eq_true (by omega)), grd_t (by omega), rdR hlt]
        refine (bindQ h2).trans ?_
        refine (if_pos (by rw [hn]; rfl)).trans ?_
        refine (bindQ (wrapB _ _ hn)).trans ?_
        unfold toE5
        rw [if_neg g]
structure okBat (b : Bat) : Prop where
  term : 1 ≤ b.Term ∧ b.Term ≤ 1073741824
  base : 0 ≤ b.Base ∧ b.Base ≤ 1073741824
  many : 1 ≤ b.Records.length ∧ b.Records.length ≤ 64
  recs : ∀ r ∈ b.Records, f_record_Check r = some .nil
theorem or2_t {p q : Prop} [Decidable p] [Decidable q] (h : p ∨ q) : (if decide p = true then (some true) else (some (decide q))) = some true := by
  by_cases g : p
  · exact if_pos (decide_eq_true g)
  · refine (if_neg (fun z => g (of_decide_eq_true z))).trans ?_
    rw [decide_eq_true (h.resolve_left g)]
theorem or2_f {p q : Prop} [Decidable p] [Decidable q] (h : ¬ p ∧ ¬ q) : (if decide p = true then (some true) else (some (decide q))) = some false := by
  refine (if_neg (fun z => h.1 (of_decide_eq_true z))).trans ?_
  rw [decide_eq_false h.2]
theorem check6P_loop (b : Bat) (hl : b.Records.length ≤ 64) : ∀ (d i : Nat), i + d = b.Records.length → (∀ j (h : j < b.Records.length), j < i → f_record_Check b.Records[j] = some .nil) →
    (iter (f_batch_Check_l0 b) (i : Int) = some (.inl ()) ∧ ∀ r ∈ b.Records, f_record_Check r = some .nil) ∨ ∃ e : GErr, e.isNil = false ∧ iter (f_batch_Check_l0 b) (i : Int) = some (.inr e) ∧ ¬ ∀ r ∈ b.Records, f_record_Check r = some .nil
  | 0, i, h, hj => by
    refine .inl ⟨iter_stop ?_, fun r hr => ?_⟩
    · unfold f_batch_Check_l0
      simp only
      rw [if_neg (fun z => absurd (of_decide_eq_true z) (by omega))]
    · obtain ⟨j, hj', rfl⟩ := List.getElem_of_mem hr
      exact hj j hj' (by omega)
  | d + 1, i, h, hj => by
    have hlt : i < b.Records.length := by omega
    obtain ⟨e, h2⟩ := checkT b.Records[i]
    cases hn : e.isNil
    · refine .inr ⟨.fault recOp (i : Int) e, rfl, iter_stop ?_, fun q => ?_⟩
      · unfold f_batch_Check_l0
        simp only
        rw [if_pos (decide_eq_true (by omega)), grd_t (by omega), rdR hlt]
        refine (bindQ h2).trans ?_
        refine (if_pos (by rw [hn]; rfl)).trans ?_
        exact (bindQ (wrapB _ _ hn)).trans rfl
      · rw [q _ (List.getElem_mem hlt)] at h2
        cases h2
        cases hn
    · have e0 : e = .nil := by cases e <;> simp [GErr.isNil] at hn ⊢
      rw [e0] at h2
      have hs2 : f_batch_Check_l0 b (i : Int) = some (.inl ((i + 1 : Nat) : Int)) := by
        unfold f_batch_Check_l0
        simp only
        rw [if_pos (decide_eq_true (by omega)), grd_t (by omega), rdR hlt, w_i64 (by omega) (by omega)]
        exact (bindQ h2).trans rfl
      rw [iter_next hs2]
      refine check6P_loop b hl d (i + 1) (by omega) fun j hj' hji => ?_
      by_cases ej : j = i
      · subst ej; exact h2
      · exact hj j hj' (by omega)
theorem check6P (b : Bat) : ∃ e, f_batch_Check b = some e ∧ (e.isNil = true ↔ okBat b) := by
  unfold f_batch_Check
  by_cases g1 : b.Term < 1 ∨ 1073741824 < b.Term
  · exact ⟨_, (bindQ (or2_t g1)).trans rfl, fun q => (by cases q), fun q => absurd q.term (by omega)⟩
  by_cases g2 : b.Base < 0 ∨ 1073741824 < b.Base
  · refine ⟨.fault ⟨#[98, 97, 115, 101]⟩ b.Base (.code 2), ?_, fun q => (by cases q), fun q => absurd q.base (by omega)⟩
    refine (bindQ (or2_f (by omega))).trans ?_
    refine (if_neg (by decide)).trans ?_
    exact (bindQ (or2_t g2)).trans rfl
  by_cases g3 : (b.Records.length : Int) < 1 ∨ (64 : Int) < (b.Records.length : Int)
  · refine ⟨.fault ⟨#[114, 101, 99, 111, 114, 100, 115]⟩ (b.Records.length : Int) (.code 6), ?_, fun q => (by cases q), fun q => absurd q.many (by omega)⟩
    refine (bindQ (or2_f (by omega))).trans ?_
    refine (if_neg (by decide)).trans ?_
    refine (bindQ (or2_f (by omega))).trans ?_
    refine (if_neg (by decide)).trans ?_
    exact (bindQ (or2_t g3)).trans rfl
  rcases check6P_loop b (by omega) b.Records.length 0 (by omega) (fun j h q => by omega) with ⟨h2, h3⟩ | ⟨e, hn, h2, h3⟩
  · rw [show ((0 : Nat) : Int) = 0 from rfl] at h2
    refine ⟨.nil, ?_, fun _ => ⟨by omega, by omega, by omega, h3⟩, fun _ => rfl⟩
    refine (bindQ (or2_f (by omega))).trans ?_
    refine (if_neg (by decide)).trans ?_
    refine (bindQ (or2_f (by omega))).trans ?_
    refine (if_neg (by decide)).trans ?_
    refine (bindQ (or2_f (by omega))).trans ?_
    refine (if_neg (by decide)).trans ?_
    rw [h2]
    rfl
  · rw [show ((0 : Nat) : Int) = 0 from rfl] at h2
    refine ⟨e, ?_, fun q => (by rw [hn] at q; cases q), fun q => absurd q.recs h3⟩
    refine (bindQ (or2_f (by omega))).trans ?_
    refine (if_neg (by decide)).trans ?_
    refine (bindQ (or2_f (by omega))).trans ?_
    refine (if_neg (by decide)).trans ?_
    refine (bindQ (or2_f (by omega))).trans ?_
    refine (if_neg (by decide)).trans ?_
    rw [h2]
    rfl
theorem check6_okP {b : Bat} (h : okBat b) : f_batch_Check b = some .nil := by
  obtain ⟨e, h1, h2⟩ := check6P b
  have := h2.2 h
  have e0 : e = .nil := by cases e <;> simp [GErr.isNil] at this ⊢
  rw [h1, e0]
theorem check6 (b : Bat) : ∃ w e, f_ref06_Check b = some w ∧ f_batch_Check b = some e ∧ relE6 w e ∧ (w.W.Code = 0 → okBat b ∧ w = zW) := by
  unfold f_ref06_Check f_batch_Check
  by_cases g1 : b.Term < 1 ∨ 1073741824 < b.Term
  · exact ⟨_, _, (bindQ (or2_t g1)).trans rfl, (bindQ (or2_t g1)).trans rfl, by simp [relE6], fun q => by cases q⟩
  by_cases g2 : b.Base < 0 ∨ 1073741824 < b.Base
  · refine ⟨⟨⟨⟨#[98, 97, 115, 101]⟩, b.Base, 2⟩, -1⟩, .fault ⟨#[98, 97, 115, 101]⟩ b.Base (.code 2), ?_, ?_, ?_, fun q => by cases q⟩
    rotate_left
    · refine (bindQ (or2_f (by omega))).trans ?_
      refine (if_neg (by decide)).trans ?_
      exact (bindQ (or2_t g2)).trans rfl
    · simp [relE6]
    · refine (bindQ (or2_f (by omega))).trans ?_
      refine (if_neg (by decide)).trans ?_
      exact (bindQ (or2_t g2)).trans rfl
  by_cases g3 : (b.Records.length : Int) < 1 ∨ (64 : Int) < (b.Records.length : Int)
  · refine ⟨⟨⟨⟨#[114, 101, 99, 111, 114, 100, 115]⟩, (b.Records.length : Int), 6⟩, -1⟩, .fault ⟨#[114, 101, 99, 111, 114, 100, 115]⟩ (b.Records.length : Int) (.code 6), ?_, ?_, ?_, fun q => by cases q⟩
    rotate_left
    · refine (bindQ (or2_f (by omega))).trans ?_
      refine (if_neg (by decide)).trans ?_
      refine (bindQ (or2_f (by omega))).trans ?_
      refine (if_neg (by decide)).trans ?_
      exact (bindQ (or2_t g3)).trans rfl
    · simp [relE6]
    · refine (bindQ (or2_f (by omega))).trans ?_
      refine (if_neg (by decide)).trans ?_
      refine (bindQ (or2_f (by omega))).trans ?_
      refine (if_neg (by decide)).trans ?_
      exact (bindQ (or2_t g3)).trans rfl
  rcases check6_loop b (by omega) b.Records.length 0 (by omega) (fun j h q => by omega) with ⟨h1, h2, h3⟩ | ⟨j, w, h0, hw, h1, h2⟩
  · rw [show ((0 : Nat) : Int) = 0 from rfl] at h1 h2
    refine ⟨zW, .nil, ?_, ?_, by simp [relE6, zW], fun _ => ⟨⟨by omega, by omega, by omega, h3⟩, rfl⟩⟩
    · refine (bindQ (or2_f (by omega))).trans ?_
      refine (if_neg (by decide)).trans ?_
      refine (bindQ (or2_f (by omega))).trans ?_
      refine (if_neg (by decide)).trans ?_
      refine (bindQ (or2_f (by omega))).trans ?_
      refine (if_neg (by decide)).trans ?_
      rw [h1]
      rfl
    · refine (bindQ (or2_f (by omega))).trans ?_
      refine (if_neg (by decide)).trans ?_
      refine (bindQ (or2_f (by omega))).trans ?_
      refine (if_neg (by decide)).trans ?_
      refine (bindQ (or2_f (by omega))).trans ?_
      refine (if_neg (by decide)).trans ?_
      rw [h2]
      rfl
  · rw [show ((0 : Nat) : Int) = 0 from rfl] at h1 h2
    refine ⟨⟨⟨w.Op, j, w.Code⟩, j⟩, .fault recOp j (.fault w.Op w.At (.code w.Code)), ?_, ?_, ?_, fun q => absurd q hw⟩
    · refine (bindQ (or2_f (by omega))).trans ?_
      refine (if_neg (by decide)).trans ?_
      refine (bindQ (or2_f (by omega))).trans ?_
      refine (if_neg (by decide)).trans ?_
      refine (bindQ (or2_f (by omega))).trans ?_
      refine (if_neg (by decide)).trans ?_
      rw [h1]
      rfl
    · refine (bindQ (or2_f (by omega))).trans ?_
      refine (if_neg (by decide)).trans ?_
      refine (bindQ (or2_f (by omega))).trans ?_
      refine (if_neg (by decide)).trans ?_
      refine (bindQ (or2_f (by omega))).trans ?_
      refine (if_neg (by decide)).trans ?_
      rw [h2]
      rfl
    · unfold relE6
      rw [if_neg hw, if_neg (show ¬ j < 0 by omega)]
      exact ⟨_, rfl⟩
/-! ### two the same -/
theorem shortR_ok {r : Rec} (h : f_record_Check r = some .nil) : shortR r := by
  have h := check_okR h
  have h1 := (rowV_t h.ids).1.1
  have h2 := (rowV_t h.isr).1.1
  have h3 := (rowV_t h.add).1.1
  have h4 := (rowV_t h.drop).1.1
  exact ⟨by omega, by omega, by omega, by omega⟩
/-! ### in new memory -/
theorem clone5 (l : List Int) (h : l.length ≤ 60) : f_slices_Clone_int_int l = some l := by
  unfold f_slices_Clone_int_int
  rw [grd_t (by show 0 + l.length ≤ _; omega)]
  rfl
theorem one6 (r : Rec) (h : shortR r) : f_batch_one r = some r := by
  unfold f_batch_one
  unfold shortR at h
  rw [clone5 _ h.1]
  simp only [Option.bind_some]
  rw [clone5 _ h.2.1]
  simp only [Option.bind_some]
  rw [clone5 _ h.2.2.1]
  simp only [Option.bind_some]
  rw [clone5 _ h.2.2.2]
  rfl
theorem of_loop (l : List Rec) (hl : l.length ≤ 1000000) (hr : ∀ r ∈ l, shortR r) : ∀ (d i : Nat), i + d = l.length → iter (f_batch_Of_l0 l) ((i : Int), l.take i) = some l
  | 0, i, h => by
    refine iter_stop ?_
    unfold f_batch_Of_l0
    simp only
    rw [if_neg (fun z => absurd (of_decide_eq_true z) (by omega)), List.take_of_length_le (by omega)]
  | d + 1, i, h => by
    have hlt : i < l.length := by omega
    have hs : f_batch_Of_l0 l ((i : Int), l.take i) = some (.inl (((i + 1 : Nat) : Int), l.take (i + 1))) := by
      unfold f_batch_Of_l0
      simp only
      rw [if_pos (decide_eq_true (by omega)), grd_t (by omega), rdR hlt, w_i64 (by omega) (by omega)]
      refine (bindQ (one6 _ (hr _ (List.getElem_mem hlt)))).trans ?_
      refine (grd_t (by rw [List.length_take]; show min i l.length + 1 ≤ _; omega)).trans ?_
      rw [List.take_succ_eq_append_getElem hlt]
      rfl
    rw [iter_next hs]
    exact of_loop l hl hr d (i + 1) (by omega)
theorem of6 (t s : Int) (l : List Rec) (hl : l.length ≤ 1000000) (hr : ∀ r ∈ l, shortR r) : f_batch_Of t s l = some ⟨t, s, l⟩ := by
  unfold f_batch_Of
  have := of_loop l hl hr l.length 0 (by omega)
  rw [List.take_zero, show ((0 : Nat) : Int) = 0 from rfl] at this
  rw [this]
  rfl
def recsB : List Rec → List Int
  | [] => []
  | r :: l => enc5 r ++ recsB l
theorem recsB_append : ∀ (l m : List Rec), recsB (l ++ m) = recsB l ++ recsB m
  | [], _ => rfl
  | r :: l, m => by simp [recsB, recsB_append l m]
theorem recsB_one (r : Rec) : recsB [r] = enc5 r := by simp [recsB]
theorem recsB_ok : ∀ (l : List Rec), okB (recsB l)
  | [] => okB.nil
  | r :: l => (enc5_ok r).append (recsB_ok l)
theorem recsB_len : ∀ (l : List Rec), (∀ r ∈ l, f_record_Check r = some .nil) → (recsB l).length ≤ 2000 * l.length
  | [], _ => by simp [recsB]
  | r :: l, h => by
    have h1 := enc5_len (check_okR (h r (by simp)))
    have h2 := recsB_len l (fun q hq => h q (by simp [hq]))
    simp only [recsB, List.length_append, List.length_cons]
    omega
def encB (b : Bat) : List Int := intB b.Term ++ (intB b.Base ++ (intB (b.Records.length : Int) ++ recsB b.Records))
theorem encB_ok (b : Bat) : okB (encB b) := (intB_ok _).append ((intB_ok _).append ((intB_ok _).append (recsB_ok _)))
theorem encB_len {b : Bat} (h : okBat b) : (encB b).length ≤ 130000 := by
  have h1 := (intB_len b.Term).1
  have h2 := (intB_len b.Base).1
  have h3 := (intB_len (b.Records.length : Int)).1
  have h4 := recsB_len b.Records h.recs
  have h5 := h.many
  unfold encB
  simp only [List.length_append]
  omega
theorem take_next {α : Type} {l : List α} {i : Nat} (h : i < l.length) : l.take (i + 1) = l.take i ++ [l[i]] := List.take_succ_eq_append_getElem h
theorem put6_loop {b : Bat} (h : okBat b) {pre : List Int} (hp : pre.length ≤ 100) : ∀ (d i : Nat), i + d = b.Records.length → iter (f_batch_Put_l0 b) (pre ++ recsB (b.Records.take i), (i : Int)) = some (.inl (pre ++ recsB b.Records))
  | 0, i, hi => by
    have hm := h.many
    refine iter_stop ?_
    unfold f_batch_Put_l0
    simp only
    rw [if_neg (fun z => absurd (of_decide_eq_true z) (by omega)), List.take_of_length_le (by omega)]
  | d + 1, i, hi => by
    have hm := h.many
    have hlt : i < b.Records.length := by omega
    have hc := h.recs _ (List.getElem_mem hlt)
    have hle := recsB_len (b.Records.take i) (fun r hr => h.recs r (List.mem_of_mem_take hr))
    rw [List.length_take] at hle
    have hs : f_batch_Put_l0 b (pre ++ recsB (b.Records.take i), (i : Int)) = some (.inl (pre ++ recsB (b.Records.take (i + 1)), ((i + 1 : Nat) : Int))) := by
      unfold f_batch_Put_l0
      simp only
      rw [if_pos (decide_eq_true (by omega)), grd_t (by omega), rdR hlt, w_i64 (by omega) (by omega)]
      refine (bindQ (put5 hc (by rw [List.length_append]; omega))).trans ?_
      refine (if_neg Bool.false_ne_true).trans ?_
      rw [take_next hlt, recsB_append, recsB_one, List.append_assoc]
      rfl
    rw [iter_next hs]
    exact put6_loop h hp d (i + 1) (by omega)
abbrev batOp : ByteArray := ⟨#[98, 97, 116, 99, 104]⟩
theorem put6 {b : Bat} (h : okBat b) : f_batch_Put b = some (if 16384 < (encB b).length then ([], .fault batOp ((encB b).length : Int) (.code 6)) else (encB b, .nil)) := by
  have hm := h.many
  have ht := h.term
  have hs := h.base
  have h1 := (intB_len b.Term).1
  have h2 := (intB_len b.Base).1
  have h3 := (intB_len (b.Records.length : Int)).1
  unfold f_batch_Put
  refine (bindQ (check6_okP h)).trans ?_
  refine (if_neg (by decide)).trans ?_
  refine (bindQ (wint_eq [] _ (by omega) (by simp))).trans ?_
  refine (bindQ (wint_eq _ _ (by omega) (by rw [List.nil_append]; omega))).trans ?_
  refine (bindQ (wint_eq _ _ (by omega) (by rw [List.nil_append, List.length_append]; omega))).trans ?_
  have hl := put6_loop h (pre := [] ++ intB b.Term ++ intB b.Base ++ intB (b.Records.length : Int)) (by rw [List.nil_append, List.length_append, List.length_append]; omega) b.Records.length 0 (by omega)
  rw [List.take_zero, show ((0 : Nat) : Int) = 0 from rfl] at hl
  have e : [] ++ intB b.Term ++ intB b.Base ++ intB (b.Records.length : Int) ++ recsB b.Records = encB b := by unfold encB; rw [List.nil_append, List.append_assoc, List.append_assoc]
  rw [e] at hl
  have e0 : [] ++ intB b.Term ++ intB b.Base ++ intB (b.Records.length : Int) ++ recsB [] = [] ++ intB b.Term ++ intB b.Base ++ intB (b.Records.length : Int) := List.append_nil _
  rw [e0] at hl
  refine (bindQ (y := .inl (encB b)) ((bindQ hl).trans rfl)).trans ?_
  refine (Sum.elim_inl _ _ _).trans ?_
  by_cases g : 16384 < (encB b).length
  · rw [if_pos g]
    exact (if_pos (decide_eq_true (by omega))).trans rfl
  · rw [if_neg g]
    exact if_neg (fun z => g (by have := of_decide_eq_true z; omega))
/-! ### read: step by step -/
noncomputable def refX (b : List Int) (a : Int) (e : GErr) (t n : Int) : Option GErr :=
  ((((f_wire_Reader_Err (⟨b, a, e⟩ : T_wire_Reader)).bind fun (r53 : GErr) => (if r53.isNil = true then (if (decide (t = (0 : Int))) = true then (some true) else (some (decide (n = (0 : Int))))) else (some false))) : Option Bool).bind fun (x51 : Bool) => (if x51 = true then ((f_wire_Reader_Refuse (⟨b, a, e⟩ : T_wire_Reader) batOp (2 : Int)).bind fun (r61 : GErr) => (some r61)) else (some e)))
theorem refX_ok {b : List Int} {a t n : Int} (h : t ≠ 0 ∧ n ≠ 0) : refX b a .nil t n = some .nil := by
  unfold refX
  refine (bindQ (y := false) ?_).trans rfl
  refine (bindQ (y := GErr.nil) rfl).trans ?_
  refine (if_pos rfl).trans ?_
  exact or2_f h
noncomputable def tail6 (b : List Int) (a0 a : Int) (e : GErr) (x : Bat) : Option (Bat × Int × GErr) :=
  ((((f_wire_Reader_At (⟨b, a, e⟩ : T_wire_Reader)).bind fun (r123 : Int) => (if (decide ((16384 : Int) < (IntKind.i64.wrap (r123 - a0)))) = true then ((f_wire_Reader_Refuse (⟨b, a, e⟩ : T_wire_Reader) batOp (6 : Int)).bind fun (r129 : GErr) => (some r129)) else (some e))) : Option GErr).bind fun (x121 : GErr) => ((f_wire_Reader_Err (⟨b, a, x121⟩ : T_wire_Reader)).bind fun (r133 : GErr) => (if (!r133.isNil) = true then (some ((⟨(0 : Int), (0 : Int), []⟩ : Bat), a, x121)) else (some (x, a, x121)))))
theorem tail6_ok {b : List Int} {a0 a : Int} {x : Bat} (h : ¬ (16384 : Int) < IntKind.i64.wrap (a - a0)) : tail6 b a0 a .nil x = some (x, a, .nil) := by
  unfold tail6
  refine (bindQ (y := GErr.nil) ?_).trans rfl
  refine (bindQ (y := a) rfl).trans ?_
  exact if_neg (fun z => h (of_decide_eq_true z))
theorem next6_eq (b : List Int) {a t s n a1 a2 a3 a4 : Int} {e e1 e2 e3 x e4 : GErr} {l : List Rec} (h1 : f_wire_Reader_Int ⟨b, a, e⟩ 1073741824 = some (t, a1, e1)) (h2 : f_wire_Reader_Int ⟨b, a1, e1⟩ 1073741824 = some (s, a2, e2)) (h3 : f_wire_Reader_Int ⟨b, a2, e2⟩ 64 = some (n, a3, e3))
    (hx : refX b a3 e3 t n = some x) (hl : iter (f_batch_Next_l0 ⟨b, a, e⟩ n) (0, [], a3, x) = some (a4, e4, l)) : f_batch_Next ⟨b, a, e⟩ = tail6 b a a4 e4 ⟨t, s, l⟩ := by
  unfold f_batch_Next
  refine (bindQ (y := a) rfl).trans ?_
  refine (bindQ h1).trans ?_
  refine (bindQ h2).trans ?_
  refine (bindQ h3).trans ?_
  refine (bindQ hx).trans ?_
  refine (bindQ ((bindQ hl).trans rfl)).trans ?_
  rfl
theorem next6_step (r : T_wire_Reader) (n : Int) {b : List Int} (hb : r.b = b) {i : Nat} {l : List Rec} {a : Int} (hi : (i : Int) < n) (hn : n ≤ 64) (hl : l.length = i) {x : Rec} {a' : Int} {e' : GErr} (h : f_record_Read ⟨b, a, .nil⟩ = some (x, a', e')) :
    f_batch_Next_l0 r n ((i : Int), l, a, .nil) = some (.inl (((i + 1 : Nat) : Int), l ++ [x], a', e')) := by
  unfold f_batch_Next_l0
  simp only
  refine (bindQ (y := true) ?_).trans ?_
  · exact (if_pos (decide_eq_true hi)).trans rfl
  refine (if_pos rfl).trans ?_
  rw [hb]
  refine (bindQ h).trans ?_
  refine (grd_t (by show l.length + 1 ≤ _; omega)).trans ?_
  rw [w_i64 (by omega) (by omega)]
  rfl
theorem next6_end (r : T_wire_Reader) (n : Int) {i : Nat} {l : List Rec} {a : Int} {e : GErr} (h : ¬ (i : Int) < n ∨ e.isNil = false) : f_batch_Next_l0 r n ((i : Int), l, a, e) = some (.inr (a, e, l)) := by
  unfold f_batch_Next_l0
  simp only
  refine (bindQ (y := false) ?_).trans (if_neg (by decide))
  by_cases g : (i : Int) < n
  · have he : e.isNil = false := h.resolve_left (fun q => q g)
    refine (if_pos (decide_eq_true g)).trans ?_
    exact (bindQ (y := e) rfl).trans (by rw [he])
  · exact if_neg (fun z => g (of_decide_eq_true z))
/-! ### what is written is read -/
theorem read5_at {r : Rec} (hc : f_record_Check r = some .nil) {b : List Int} (hb : okB b) (hl : b.length ≤ 1000000) {pre post : List Int} (e0 : b = pre ++ (enc5 r ++ post)) : f_record_Read ⟨b, (pre.length : Int), .nil⟩ = some (r, ((pre ++ enc5 r).length : Int), .nil) := by
  have hle : pre.length ≤ b.length := by rw [e0]; simp
  have p0 := e0
  unfold enc5 at p0
  simp only [List.append_assoc] at p0
  obtain ⟨x, a', e', h, s, h1, _⟩ := read5_cut' hc hb hl (Nat.le_refl _) hle p0
  have e1 : ∀ y, y = pre ++ enc5 r → stC b.length y a' e' → (y.length ≤ b.length → x = r) → f_record_Read ⟨b, (pre.length : Int), .nil⟩ = some (r, ((pre ++ enc5 r).length : Int), .nil) := by
    intro y hy s h1
    have hyl : y.length ≤ b.length := by rw [hy, e0]; simp
    obtain ⟨t1, t2⟩ := s.whole hyl
    rw [List.take_length] at h
    rw [h, h1 hyl, t1, t2, hy]
  refine e1 _ ?_ s h1
  unfold enc5
  simp only [List.append_assoc]
theorem back6_loop {b : List Int} (hb : okB b) (hl : b.length ≤ 1000000) (r : T_wire_Reader) (hr : r.b = b) {L : List Rec} (hL : L.length ≤ 64) (hc : ∀ x ∈ L, f_record_Check x = some .nil) {pre post : List Int} : ∀ (d i : Nat), i + d = L.length → b = (pre ++ recsB (L.take i)) ++ (recsB (L.drop i) ++ post) →
    iter (f_batch_Next_l0 r (L.length : Int)) ((i : Int), L.take i, ((pre ++ recsB (L.take i)).length : Int), .nil) = some (((pre ++ recsB L).length : Int), .nil, L)
  | 0, i, hi, e => by
    rw [iter_stop (next6_end r _ (.inl (by omega))), List.take_of_length_le (by omega)]
  | d + 1, i, hi, e => by
    have hlt : i < L.length := by omega
    have e1 : b = (pre ++ recsB (L.take i)) ++ (enc5 L[i] ++ (recsB (L.drop (i + 1)) ++ post)) := by
      rw [e, List.drop_eq_getElem_cons hlt]
      simp only [recsB, List.append_assoc]
    have h1 := read5_at (hc _ (List.getElem_mem hlt)) hb hl e1
    have e2 : (pre ++ recsB (L.take i)) ++ enc5 L[i] = pre ++ recsB (L.take (i + 1)) := by rw [take_next hlt, recsB_append, recsB_one, List.append_assoc]
    rw [e2] at h1
    rw [iter_next (next6_step r _ hr (by omega) (by omega) (by rw [List.length_take]; omega) h1), ← take_next hlt]
    refine back6_loop hb hl r hr hL hc (pre := pre) (post := post) d (i + 1) (by omega) ?_
    rw [e1, ← e2]
    simp only [List.append_assoc]
theorem next6_back {x : Bat} (h : okBat x) (hs : (encB x).length ≤ 16384) {b : List Int} (hb : okB b) (hl : b.length ≤ 1000000) {pre post : List Int} (e0 : b = pre ++ (encB x ++ post)) : f_batch_Next ⟨b, (pre.length : Int), .nil⟩ = some (x, ((pre ++ encB x).length : Int), .nil) := by
  have hm := h.many
  have ht := h.term
  have hbs := h.base
  have p0 : b = pre ++ (intB x.Term ++ (intB x.Base ++ (intB (x.Records.length : Int) ++ (recsB x.Records ++ post)))) := by rw [e0]; unfold encB; simp only [List.append_assoc]
  have p1 := nxt p0
  have p2 := nxt p1
  have p3 := nxt p2
  have tp : (1073741824 : Int) ≤ top := by decide
  have h1 := backI hb hl (m := 1073741824) p0 (by omega) (by omega) (by omega) (by decide)
  have h2 := backI hb hl (m := 1073741824) p1 (by omega) (by omega) (by omega) (by decide)
  have h3 := backI hb hl (m := 64) p2 (by omega) (by omega) (by omega) (by decide)
  have hlo := back6_loop hb hl ⟨b, (pre.length : Int), .nil⟩ rfl hm.2 h.recs (pre := ((pre ++ intB x.Term) ++ intB x.Base) ++ intB (x.Records.length : Int)) (post := post) x.Records.length 0 (by omega) (by
    rw [List.take_zero, List.drop_zero]
    show b = (_ ++ []) ++ _
    rw [List.append_nil]
    exact p3)
  rw [List.take_zero] at hlo
  have en : ((pre ++ intB x.Term) ++ intB x.Base) ++ intB (x.Records.length : Int) ++ recsB x.Records = pre ++ encB x := by unfold encB; simp only [List.append_assoc]
  rw [en] at hlo
  have e0' : ((pre ++ intB x.Term) ++ intB x.Base) ++ intB (x.Records.length : Int) ++ recsB [] = ((pre ++ intB x.Term) ++ intB x.Base) ++ intB (x.Records.length : Int) := List.append_nil _
  rw [e0'] at hlo
  have hple : pre.length ≤ b.length := by rw [e0]; simp
  rw [next6_eq b h1 h2 h3 (refX_ok (by omega)) hlo, tail6_ok]
  rw [List.length_append, w_i64 (by omega) (by omega)]
  omega
/-! ### what is read was written so -/
theorem relE6_nil {w : T_ref06_Wrong} {e : GErr} (h : relE6 w e) : (w.W.Code = 0 → e = .nil) ∧ (w.W.Code ≠ 0 → e.isNil = false) := by
  unfold relE6 at h
  by_cases g : w.W.Code = 0
  · rw [if_pos g] at h
    exact ⟨fun _ => h, fun q => absurd g q⟩
  · rw [if_neg g] at h
    refine ⟨fun q => absurd q g, fun _ => ?_⟩
    by_cases g2 : w.Record < 0
    · rw [if_pos g2] at h; subst h; rfl
    · rw [if_neg g2] at h; obtain ⟨a, rfl⟩ := h; rfl
/-! ### the example -/
def q1 : Rec := ⟨1, 0, 0, 0, 0, 0, 0, 0, 0, false, ⟨#[]⟩, ⟨#[]⟩, ⟨#[]⟩, ⟨#[]⟩, [], [], [], []⟩
def q11 : Rec := ⟨11, 0, 0, 2, 0, 0, 0, 0, 0, false, ⟨#[]⟩, ⟨#[]⟩, ⟨#[]⟩, ⟨#[]⟩, [], [], [], []⟩
theorem rowQ1 : rowV [] (hasR 1 2048) = true ∧ rowV [] (hasR 1 4096) = true ∧ rowV [] (hasR 1 8192) = true := ⟨rfl, rfl, rfl⟩
theorem checkQ1 : f_record_Check q1 = some .nil := by
  unfold f_record_Check q1
  simp only [pleast, pcheck1, pnumR, ptextN, ptextW, prowR, newA, Option.bind_some, rowQ1]
  rfl
def b0 : Bat := ⟨3, 9, []⟩
theorem eqNil : f_slices_Equal_int_int [] [] = some true := by
  unfold f_slices_Equal_int_int
  refine (if_neg (by decide)).trans ?_
  rw [iter_stop (show f_slices_Equal_int_int_l0 [] [] (0 : Int) = some (.inr (.inl ())) from rfl)]
  rfl
theorem sameQ1 : f_record_Same q1 q1 = some true := by
  unfold f_record_Same q1
  simp only [eqNil, Option.bind_some]
  simp [f_record_Same_1, f_record_Same_2, rd, andL]
  rfl
/-! ### the laws -/
abbrev Rpc := T_api_Rpc
def aboutM (k : Int) : Int := if k = 1 then 9 else if k = 2 then 7 else if k = 3 then 8 else if k = 4 then 124 else if k = 5 then 4 else if k = 6 then 4 else if k = 7 then 264 else 428
def hasM (k bit : Int) : Bool := decide (andI .i64 (aboutM k) bit ≠ 0)
theorem kindsM {k : Int} (h : 1 ≤ k ∧ k ≤ 8) : k = 1 ∨ k = 2 ∨ k = 3 ∨ k = 4 ∨ k = 5 ∨ k = 6 ∨ k = 7 ∨ k = 8 := by omega
theorem about_eqM {k : Int} (h : 1 ≤ k ∧ k ≤ 8) : f_rpc_about k = some (aboutM k) := by
  rcases kindsM h with rfl | rfl | rfl | rfl | rfl | rfl | rfl | rfl
  all_goals rfl
theorem pcheckM {m : Rpc} (h : 1 ≤ m.Kind ∧ m.Kind ≤ 8) (bit : Int) : f_rpc_Check_1 bit m = some (hasM m.Kind bit) := by
  unfold f_rpc_Check_1
  rw [about_eqM h]
  rfl
theorem pnumM (n : Int) (h : Bool) (c : Int) : f_rpc_number n h c = some (numW n h 0 c) := by
  unfold f_rpc_number numW
  rw [num_if]
  cases h <;> rfl
def cFrom (m : Rpc) : Bool := decide (m.From < 1) || (decide (1073741824 < m.From) || (decide (m.To < 1) || (decide (1073741824 < m.To) || decide (m.From = m.To))))
def cTerm (m : Rpc) : Bool := decide (m.Term < 0) || decide (1073741824 < m.Term)
def cFlag (m : Rpc) : Bool := (!hasM m.Kind 1 && m.Pre) || (!hasM m.Kind 2 && m.Ok)
def cLead (m : Rpc) : Bool := !numW m.Leader (hasM m.Kind 4) 0 1073741824
def cPlace (m : Rpc) : Bool := !numW m.At (hasM m.Kind 8) 0 1073741824 || !numW m.AtTerm (hasM m.Kind 8) 0 1073741824
def cHigh (m : Rpc) : Bool := !numW m.High (hasM m.Kind 16) 0 1073741824
def cCode (m : Rpc) : Bool := !numW m.Code (hasM m.Kind 32) 0 21
def cSize (m : Rpc) : Bool := !numW m.Size (hasM m.Kind 128) 0 1073741824 || !numW m.Pos (hasM m.Kind 256) 0 1073741824
def cData (m : Rpc) : Bool := decide ((512 : Int) < (m.Data.length : Int)) || (decide ((0 : Int) < (m.Data.length : Int)) && decide (m.Kind ≠ 8))
def cMany (m : Rpc) : Bool := decide ((8 : Int) < (m.Batches.length : Int)) || (!hasM m.Kind 64 && decide ((0 : Int) < (m.Batches.length : Int)))
noncomputable def tailC (m : Rpc) : Option GErr := ((((iter (f_rpc_Check_l0 m) (0 : Int)).bind (Sum.elim (fun _ => (some (Sum.inl ()))) (fun (x213 : GErr) => (((some x213)).bind fun r => some (Sum.inr r))))) : Option (Unit ⊕ GErr)).bind (Sum.elim (fun _ => (some GErr.nil)) some))
theorem iteE {α : Type} {c : Bool} {A A' B B' : α} (h1 : A = A') (h2 : B = B') : (if c = true then A else B) = (if c = true then A' else B') := by rw [h1, h2]
theorem orS {a b : Bool} {X : Option Bool} (h : X = some b) : (if a = true then some true else X) = some (a || b) := by cases a; exact h; rfl
theorem kindC {m : Rpc} (h : 1 ≤ m.Kind ∧ m.Kind ≤ 8) : (if (decide (m.Kind < (1 : Int))) = true then (some true) else (some (decide ((8 : Int) < m.Kind)))) = some false := or2_f (by omega)
theorem prog7 {m : Rpc} (h : 1 ≤ m.Kind ∧ m.Kind ≤ 8) : f_rpc_Check m =
    (if cFrom m = true then some (.fault ⟨#[102, 114, 111, 109]⟩ m.From (.code 2)) else if cTerm m = true then some (.fault ⟨#[116, 101, 114, 109]⟩ m.Term (.code 2)) else if cFlag m = true then some (.fault ⟨#[102, 108, 97, 103]⟩ 1 (.code 1)) else
    if cLead m = true then some (.fault ⟨#[108, 101, 97, 100, 101, 114]⟩ m.Leader (.code 2)) else if cPlace m = true then some (.fault ⟨#[112, 108, 97, 99, 101]⟩ m.At (.code 2)) else if cHigh m = true then some (.fault ⟨#[104, 105, 103, 104]⟩ m.High (.code 2)) else
    if cCode m = true then some (.fault ⟨#[99, 111, 100, 101]⟩ m.Code (.code 2)) else if cSize m = true then some (.fault ⟨#[115, 105, 122, 101]⟩ m.Size (.code 2)) else if cData m = true then some (.fault ⟨#[100, 97, 116, 97]⟩ (m.Data.length : Int) (.code 6)) else
    if cMany m = true then some (.fault ⟨#[98, 97, 116, 99, 104, 101, 115]⟩ (m.Batches.length : Int) (.code 6)) else tailC m) := by
  unfold f_rpc_Check
  refine (bindQ (kindC h)).trans ?_
  refine (if_neg Bool.false_ne_true).trans ?_
  simp only [pcheckM h, pnumM, newA, Option.bind_some]
  refine (bindQ (y := cFrom m) (orS (orS (orS (orS rfl))))).trans ?_
  refine iteE rfl ?_
  refine (bindQ (y := cTerm m) (orS rfl)).trans ?_
  refine iteE rfl ?_
  refine (bindQ (y := cFlag m) ?_).trans ?_
  · unfold cFlag
    cases hasM m.Kind 1 <;> cases hasM m.Kind 2 <;> cases m.Pre <;> cases m.Ok <;> rfl
  refine iteE rfl ?_
  refine iteE rfl ?_
  refine (bindQ (y := cPlace m) (orS rfl)).trans ?_
  refine iteE rfl ?_
  refine iteE rfl ?_
  refine iteE rfl ?_
  refine (bindQ (y := cSize m) (orS rfl)).trans ?_
  refine iteE rfl ?_
  refine (bindQ (y := cData m) (orS ?_)).trans ?_
  · cases decide ((0 : Int) < (m.Data.length : Int)) <;> rfl
  refine iteE rfl ?_
  refine (bindQ (y := cMany m) (orS ?_)).trans ?_
  · cases hasM m.Kind 64 <;> rfl
  exact iteE rfl rfl
structure okRpc (m : Rpc) : Prop where
  kind : 1 ≤ m.Kind ∧ m.Kind ≤ 8
  from_ : cFrom m = false
  term : cTerm m = false
  flag : cFlag m = false
  lead : cLead m = false
  place : cPlace m = false
  high : cHigh m = false
  code : cCode m = false
  size : cSize m = false
  data : cData m = false
  many : cMany m = false
  bats : ∀ b ∈ m.Batches, okBat b
theorem many7 {m : Rpc} (h : cMany m = false) : m.Batches.length ≤ 8 ∧ (hasM m.Kind 64 = false → m.Batches = []) := by
  unfold cMany at h
  simp only [Bool.or_eq_false_iff, decide_eq_false_iff_not] at h
  refine ⟨by omega, fun q => ?_⟩
  rw [q] at h
  have := h.2
  simp at this
  exact this
theorem check7P_loop (m : Rpc) (hl : m.Batches.length ≤ 8) : ∀ (d i : Nat), i + d = m.Batches.length → (∀ j (h : j < m.Batches.length), j < i → okBat m.Batches[j]) →
    (iter (f_rpc_Check_l0 m) (i : Int) = some (.inl ()) ∧ ∀ b ∈ m.Batches, okBat b) ∨ ∃ e : GErr, e.isNil = false ∧ iter (f_rpc_Check_l0 m) (i : Int) = some (.inr e) ∧ ¬ ∀ b ∈ m.Batches, okBat b
  | 0, i, h, hj => by
    refine .inl ⟨iter_stop ?_, fun r hr => ?_⟩
    · unfold f_rpc_Check_l0
      simp only
      rw [if_neg (fun z => absurd (of_decide_eq_true z) (by omega))]
    · obtain ⟨j, hj', rfl⟩ := List.getElem_of_mem hr
      exact hj j hj' (by omega)
  | d + 1, i, h, hj => by
    have hlt : i < m.Batches.length := by omega
    obtain ⟨e, h2, h3⟩ := check6P m.Batches[i]
    cases hn : e.isNil
    · refine .inr ⟨.fault batOp (i : Int) e, rfl, iter_stop ?_, fun q => ?_⟩
      · unfold f_rpc_Check_l0
        simp only
        rw [if_pos (decide_eq_true (by omega)), grd_t (by omega), rdR hlt]
        refine (bindQ h2).trans ?_
        refine (if_pos (by rw [hn]; rfl)).trans ?_
        exact (bindQ (wrapB _ _ hn)).trans rfl
      · have := h3.2 (q _ (List.getElem_mem hlt))
        rw [hn] at this
        cases this
    · have hs2 : f_rpc_Check_l0 m (i : Int) = some (.inl ((i + 1 : Nat) : Int)) := by
        unfold f_rpc_Check_l0
        simp only
        rw [if_pos (decide_eq_true (by omega)), grd_t (by omega), rdR hlt, w_i64 (by omega) (by omega)]
        refine (bindQ h2).trans ?_
        exact (if_neg (by rw [hn]; decide)).trans rfl
      rw [iter_next hs2]
      refine check7P_loop m hl d (i + 1) (by omega) fun j hj' hji => ?_
      by_cases ej : j = i
      · subst ej; exact h3.1 hn
      · exact hj j hj' (by omega)
theorem lvl {c : Bool} {A : GErr} {R : Option GErr} {P : Prop} (hA : A.isNil = false) (hP : P → c = false) (h : c = false → ∃ e, R = some e ∧ (e.isNil = true ↔ P)) : ∃ e, (if c = true then some A else R) = some e ∧ (e.isNil = true ↔ P) := by
  cases c
  · exact h rfl
  · exact ⟨A, rfl, fun q => (by rw [hA] at q; cases q), fun p => (by have := hP p; cases this)⟩
theorem check7P (m : Rpc) : ∃ e, f_rpc_Check m = some e ∧ (e.isNil = true ↔ okRpc m) := by
  by_cases hk : 1 ≤ m.Kind ∧ m.Kind ≤ 8
  · rw [prog7 hk]
    refine lvl rfl (·.from_) fun g1 => ?_
    refine lvl rfl (·.term) fun g2 => ?_
    refine lvl rfl (·.flag) fun g3 => ?_
    refine lvl rfl (·.lead) fun g4 => ?_
    refine lvl rfl (·.place) fun g5 => ?_
    refine lvl rfl (·.high) fun g6 => ?_
    refine lvl rfl (·.code) fun g7 => ?_
    refine lvl rfl (·.size) fun g8 => ?_
    refine lvl rfl (·.data) fun g9 => ?_
    refine lvl rfl (·.many) fun g10 => ?_
    have hm := many7 g10
    unfold tailC
    rcases check7P_loop m hm.1 m.Batches.length 0 (by omega) (fun j h q => by omega) with ⟨h1, h2⟩ | ⟨e, hn, h1, h2⟩
    · rw [show ((0 : Nat) : Int) = 0 from rfl] at h1
      rw [h1]
      exact ⟨.nil, rfl, fun _ => ⟨hk, g1, g2, g3, g4, g5, g6, g7, g8, g9, g10, h2⟩, fun _ => rfl⟩
    · rw [show ((0 : Nat) : Int) = 0 from rfl] at h1
      rw [h1]
      exact ⟨e, rfl, fun q => (by rw [hn] at q; cases q), fun q => absurd q.bats h2⟩
  · unfold f_rpc_Check
    refine ⟨.fault ⟨#[107, 105, 110, 100]⟩ m.Kind (.code 5), ?_, fun q => (by cases q), fun q => absurd q.kind hk⟩
    exact (bindQ (or2_t (by omega))).trans rfl
theorem check7_okP {m : Rpc} (h : okRpc m) : f_rpc_Check m = some .nil := by
  obtain ⟨e, h1, h2⟩ := check7P m
  rw [h1, isNil_iff.1 (h2.2 h)]
/-! ### what holds of one that may be -/
theorem from7 {m : Rpc} (h : cFrom m = false) : (1 ≤ m.From ∧ m.From ≤ 1073741824) ∧ (1 ≤ m.To ∧ m.To ≤ 1073741824) ∧ m.From ≠ m.To := by
  unfold cFrom at h
  simp only [Bool.or_eq_false_iff, decide_eq_false_iff_not] at h
  omega
theorem term7 {m : Rpc} (h : cTerm m = false) : 0 ≤ m.Term ∧ m.Term ≤ 1073741824 := by
  unfold cTerm at h
  simp only [Bool.or_eq_false_iff, decide_eq_false_iff_not] at h
  omega
theorem flag7 {m : Rpc} (h : cFlag m = false) : (hasM m.Kind 1 = false → m.Pre = false) ∧ (hasM m.Kind 2 = false → m.Ok = false) := by
  unfold cFlag at h
  simp only [Bool.or_eq_false_iff] at h
  refine ⟨fun q => ?_, fun q => ?_⟩
  · have := h.1; rw [q] at this; exact this
  · have := h.2; rw [q] at this; exact this
theorem place7 {a b : Bool} (h : (!a || !b) = false) : a = true ∧ b = true := by cases a; cases h; cases b; cases h; exact ⟨rfl, rfl⟩
theorem data7 {m : Rpc} (h : cData m = false) : m.Data.length ≤ 512 ∧ (m.Kind ≠ 8 → m.Data = []) := by
  unfold cData at h
  simp only [Bool.or_eq_false_iff, decide_eq_false_iff_not] at h
  refine ⟨by omega, fun q => ?_⟩
  have := h.2
  simp [q] at this
  exact this
def cD (f : Bool) (d : List Int) : List Int := if f = true then textB d else []
theorem cD_len (f : Bool) (d : List Int) : (cD f d).length ≤ 8 + d.length := by unfold cD; split; exact textB_len d; exact Nat.zero_le _
theorem cD_ok (f : Bool) {d : List Int} (h : okB d) : okB (cD f d) := by unfold cD; split; exact textB_ok h; exact okB.nil
def batsB : List Bat → List Int
  | [] => []
  | b :: l => encB b ++ batsB l
theorem batsB_append : ∀ (l m : List Bat), batsB (l ++ m) = batsB l ++ batsB m
  | [], _ => rfl
  | b :: l, m => by simp [batsB, batsB_append l m]
theorem batsB_one (b : Bat) : batsB [b] = encB b := by simp [batsB]
theorem batsB_ok : ∀ (l : List Bat), okB (batsB l)
  | [] => okB.nil
  | b :: l => (encB_ok b).append (batsB_ok l)
theorem batsB_len : ∀ (l : List Bat), (∀ b ∈ l, okBat b) → (batsB l).length ≤ 130000 * l.length
  | [], _ => by simp [batsB]
  | b :: l, h => by
    have h1 := encB_len (h b (by simp))
    have h2 := batsB_len l (fun q hq => h q (by simp [hq]))
    simp only [batsB, List.length_append, List.length_cons]
    omega
def enc7 (m : Rpc) : List Int :=
  intB m.From ++ (intB m.To ++ (intB m.Term ++ (cF (hasM m.Kind 1) m.Pre ++ (cF (hasM m.Kind 2) m.Ok ++ (cI (hasM m.Kind 4) m.Leader ++ (cI (hasM m.Kind 8) m.At ++ (cI (hasM m.Kind 8) m.AtTerm ++ (cI (hasM m.Kind 16) m.High ++ (cI (hasM m.Kind 32) m.Code ++ (cI (hasM m.Kind 128) m.Size ++ (cI (hasM m.Kind 256) m.Pos ++ (cD (decide (m.Kind = 8)) m.Data ++ (cI (hasM m.Kind 64) (m.Batches.length : Int) ++ batsB m.Batches)))))))))))))
theorem enc7_ok {m : Rpc} (h : okB m.Data) : okB (enc7 m) := (intB_ok _).append ((intB_ok _).append ((intB_ok _).append ((cF_ok _ _).append ((cF_ok _ _).append ((cI_ok _ _).append ((cI_ok _ _).append ((cI_ok _ _).append ((cI_ok _ _).append ((cI_ok _ _).append ((cI_ok _ _).append ((cI_ok _ _).append ((cD_ok _ h).append ((cI_ok _ _).append (batsB_ok _))))))))))))))
def head6 (m : Rpc) : List Int :=
  [] ++ intB m.From ++ intB m.To ++ intB m.Term ++ cF (hasM m.Kind 1) m.Pre ++ cF (hasM m.Kind 2) m.Ok ++ cI (hasM m.Kind 4) m.Leader ++ cI (hasM m.Kind 8) m.At ++ cI (hasM m.Kind 8) m.AtTerm ++ cI (hasM m.Kind 16) m.High ++ cI (hasM m.Kind 32) m.Code ++ cI (hasM m.Kind 128) m.Size ++ cI (hasM m.Kind 256) m.Pos ++ cD (decide (m.Kind = 8)) m.Data
def head7 (m : Rpc) : List Int := head6 m ++ cI (hasM m.Kind 64) (m.Batches.length : Int)
theorem cI_f (n : Int) : cI false n = [] := rfl
theorem cI_t (n : Int) : cI true n = intB n := rfl
theorem head7_enc (m : Rpc) : head7 m ++ batsB m.Batches = enc7 m := by
  unfold head7 head6 enc7
  simp only [List.append_assoc, List.nil_append]
theorem head7_len {m : Rpc} (h : okRpc m) : (head7 m).length ≤ 1000 := by
  have h1 := (intB_len m.From).1
  have h2 := (intB_len m.To).1
  have h3 := (intB_len m.Term).1
  have h4 := cF_len (hasM m.Kind 1) m.Pre
  have h5 := cF_len (hasM m.Kind 2) m.Ok
  have h6 := cI_len (hasM m.Kind 4) m.Leader
  have h7 := cI_len (hasM m.Kind 8) m.At
  have h8 := cI_len (hasM m.Kind 8) m.AtTerm
  have h9 := cI_len (hasM m.Kind 16) m.High
  have h10 := cI_len (hasM m.Kind 32) m.Code
  have h11 := cI_len (hasM m.Kind 128) m.Size
  have h12 := cI_len (hasM m.Kind 256) m.Pos
  have h13 := cD_len (decide (m.Kind = 8)) m.Data
  have h14 := cI_len (hasM m.Kind 64) (m.Batches.length : Int)
  have hd := (data7 h.data).1
  unfold head7 head6
  simp only [List.length_append, List.length_nil]
  omega
/-! ### put -/
theorem pI7 {bit n k : Int} {b : List Int} (hn : n ≤ 9223372036854775807) (hb : b.length ≤ 2000000) : f_rpc_Put_1 bit n (aboutM k) b = some (b ++ cI (hasM k bit) n) := by
  unfold f_rpc_Put_1
  show (if hasM k bit = true then _ else _) = _
  unfold cI
  cases hasM k bit
  · simp
  · simp only [if_true]
    rw [wint_eq b n hn (by omega)]
    rfl
theorem pF7 {bit k : Int} {b : List Int} {x : Bool} (hb : b.length ≤ 2000000) : (if (decide ((andI .i64 (aboutM k) bit) ≠ (0 : Int))) = true then ((f_wire_Flag b x).bind fun (r102 : (List Int)) => (some r102)) else (some b)) = some (b ++ cF (hasM k bit) x) := by
  show (if hasM k bit = true then _ else _) = _
  unfold cF
  cases hasM k bit
  · simp
  · simp only [if_true]
    rw [wflag_eq b _ (by omega)]
    rfl
theorem pD7 {k : Int} {b d : List Int} (hd : d.length ≤ 1000000) (hb : b.length ≤ 2000000) : (if (decide (k = (8 : Int))) = true then ((f_wire_Text b d).bind fun (r161 : (List Int)) => (some r161)) else (some b)) = some (b ++ cD (decide (k = 8)) d) := by
  unfold cD
  cases decide (k = 8)
  · simp
  · simp only [if_true]
    rw [wtext_eq b _ (by omega)]
    rfl
theorem put7_loop {m : Rpc} (h : okRpc m) {pre : List Int} (hp : pre.length ≤ 1000) : ∀ (d i : Nat), i + d = m.Batches.length → (∀ j (h : j < m.Batches.length), j < i → (encB m.Batches[j]).length ≤ 16384) →
    (iter (f_rpc_Put_l0 m) ((i : Int), pre ++ batsB (m.Batches.take i)) = some (.inl (pre ++ batsB m.Batches)) ∧ ∀ b ∈ m.Batches, (encB b).length ≤ 16384) ∨
    ∃ (j : Nat) (hj : j < m.Batches.length) (l : List Int), 16384 < (encB m.Batches[j]).length ∧ (∀ i (h : i < m.Batches.length), i < j → (encB m.Batches[i]).length ≤ 16384) ∧
      iter (f_rpc_Put_l0 m) ((i : Int), pre ++ batsB (m.Batches.take i)) = some (.inr (.fault batOp (j : Int) (.fault batOp ((encB m.Batches[j]).length : Int) (.code 6)), l))
  | 0, i, hi, hj => by
    have hm := many7 h.many
    refine .inl ⟨iter_stop ?_, fun b hb => ?_⟩
    · unfold f_rpc_Put_l0
      simp only
      rw [if_neg (fun z => absurd (of_decide_eq_true z) (by omega)), List.take_of_length_le (by omega)]
    · obtain ⟨j, hj', rfl⟩ := List.getElem_of_mem hb
      exact hj j hj' (by omega)
  | d + 1, i, hi, hj => by
    have hm := many7 h.many
    have hlt : i < m.Batches.length := by omega
    have hb := h.bats _ (List.getElem_mem hlt)
    have hle := batsB_len (m.Batches.take i) (fun r hr => h.bats r (List.mem_of_mem_take hr))
    have hle2 := encB_len hb
    rw [List.length_take] at hle
    by_cases g : 16384 < (encB m.Batches[i]).length
    · refine .inr ⟨i, hlt, pre ++ batsB (m.Batches.take i), g, hj, iter_stop ?_⟩
      unfold f_rpc_Put_l0
      simp only
      rw [if_pos (decide_eq_true (by omega)), grd_t (by omega), rdR hlt]
      refine (bindQ (put6 hb)).trans ?_
      rw [if_pos g]
      refine (if_pos (by rfl)).trans ?_
      exact (bindQ (wrapB _ _ rfl)).trans rfl
    · have hs : f_rpc_Put_l0 m ((i : Int), pre ++ batsB (m.Batches.take i)) = some (.inl (((i + 1 : Nat) : Int), pre ++ batsB (m.Batches.take (i + 1)))) := by
        unfold f_rpc_Put_l0
        simp only
        rw [if_pos (decide_eq_true (by omega)), grd_t (by omega), rdR hlt, w_i64 (by omega) (by omega)]
        refine (bindQ (put6 hb)).trans ?_
        rw [if_neg g]
        refine (if_neg Bool.false_ne_true).trans ?_
        refine (grd_t (show (pre ++ batsB (m.Batches.take i)).length + (encB m.Batches[i]).length ≤ 274877906944 by rw [List.length_append]; omega)).trans ?_
        rw [take_next hlt, batsB_append, batsB_one, List.append_assoc]
        rfl
      rw [iter_next hs]
      refine put7_loop h hp d (i + 1) (by omega) fun j hj' hji => ?_
      by_cases ej : j = i
      · subst ej; omega
      · exact hj j hj' (by omega)
abbrev mesOp : ByteArray := ⟨#[109, 101, 115, 115, 97, 103, 101]⟩
abbrev fz : T_api_Frame := ⟨0, []⟩
theorem put7 {m : Rpc} (h : okRpc m) :
    ((∀ b ∈ m.Batches, (encB b).length ≤ 16384) ∧ f_rpc_Put m = some (if 16384 < (enc7 m).length then (fz, .fault mesOp ((enc7 m).length : Int) (.code 6)) else (⟨m.Kind, enc7 m⟩, .nil))) ∨
    ∃ (j : Nat) (hj : j < m.Batches.length), 16384 < (encB m.Batches[j]).length ∧ (∀ i (h : i < m.Batches.length), i < j → (encB m.Batches[i]).length ≤ 16384) ∧ f_rpc_Put m = some (fz, .fault batOp (j : Int) (.fault batOp ((encB m.Batches[j]).length : Int) (.code 6))) := by
  have hm := many7 h.many
  have hf := from7 h.from_
  have ht := term7 h.term
  have hd := (data7 h.data).1
  have m4 := (numW_b (notF h.lead) (by decide) (by decide)).2
  have m5 := (numW_b (place7 h.place).1 (by decide) (by decide)).2
  have m6 := (numW_b (place7 h.place).2 (by decide) (by decide)).2
  have m7 := (numW_b (notF h.high) (by decide) (by decide)).2
  have m8 := (numW_b (notF h.code) (by decide) (by decide)).2
  have m9 := (numW_b (place7 h.size).1 (by decide) (by decide)).2
  have m10 := (numW_b (place7 h.size).2 (by decide) (by decide)).2
  have h1 := (intB_len m.From).1
  have h2 := (intB_len m.To).1
  have h3 := (intB_len m.Term).1
  have h4 := cF_len (hasM m.Kind 1) m.Pre
  have h5 := cF_len (hasM m.Kind 2) m.Ok
  have h6 := cI_len (hasM m.Kind 4) m.Leader
  have h7 := cI_len (hasM m.Kind 8) m.At
  have h8 := cI_len (hasM m.Kind 8) m.AtTerm
  have h9 := cI_len (hasM m.Kind 16) m.High
  have h10 := cI_len (hasM m.Kind 32) m.Code
  have h11 := cI_len (hasM m.Kind 128) m.Size
  have h12 := cI_len (hasM m.Kind 256) m.Pos
  have h13 := cD_len (decide (m.Kind = 8)) m.Data
  have hl := head7_len h
  have key : ∀ (X : Option ((List Int) ⊕ (GErr × List Int))), iter (f_rpc_Put_l0 m) ((0 : Int), head7 m) = X → f_rpc_Put m =
      ((X.bind (Sum.elim (fun (x178 : (List Int)) => (some (Sum.inl x178))) (fun (x179, x180) => (((some ((⟨(0 : Int), []⟩ : T_api_Frame), x179))).bind fun r => some (Sum.inr r))))) : Option ((List Int) ⊕ (T_api_Frame × GErr))).bind (Sum.elim (fun (x173 : (List Int)) => (if (decide ((16384 : Int) < (x173.length : Int))) = true then ((f_fault_New (⟨#[109, 101, 115, 115, 97, 103, 101]⟩ : ByteArray) (x173.length : Int) (6 : Int)).bind fun (r210 : GErr) => (some ((⟨(0 : Int), []⟩ : T_api_Frame), r210))) else (some ((⟨m.Kind, x173⟩ : T_api_Frame), GErr.nil)))) some) := by
    intro X hX
    unfold f_rpc_Put
    refine (bindQ (check7_okP h)).trans ?_
    refine (if_neg Bool.false_ne_true).trans ?_
    refine (bindQ (about_eqM h.kind)).trans ?_
    refine (bindQ (y := [] ++ intB m.From ++ intB m.To ++ intB m.Term) ?_).trans ?_
    · refine (bindQ (wint_eq [] _ (by omega) (by simp))).trans ?_
      refine (bindQ (wint_eq _ _ (by omega) (by rw [List.nil_append]; omega))).trans ?_
      exact (bindQ (wint_eq _ _ (by omega) (by rw [List.nil_append, List.length_append]; omega))).trans rfl
    refine (bindQ (pF7 (by simp only [List.length_append, List.length_nil]; omega))).trans ?_
    refine (bindQ (pF7 (by simp only [List.length_append, List.length_nil]; omega))).trans ?_
    refine (bindQ (pI7 (by omega) (by simp only [List.length_append, List.length_nil]; omega))).trans ?_
    refine (bindQ (pI7 (by omega) (by simp only [List.length_append, List.length_nil]; omega))).trans ?_
    refine (bindQ (pI7 (by omega) (by simp only [List.length_append, List.length_nil]; omega))).trans ?_
    refine (bindQ (pI7 (by omega) (by simp only [List.length_append, List.length_nil]; omega))).trans ?_
    refine (bindQ (pI7 (by omega) (by simp only [List.length_append, List.length_nil]; omega))).trans ?_
    refine (bindQ (pI7 (by omega) (by simp only [List.length_append, List.length_nil]; omega))).trans ?_
    refine (bindQ (pI7 (by omega) (by simp only [List.length_append, List.length_nil]; omega))).trans ?_
    refine (bindQ (pD7 (by omega) (by simp only [List.length_append, List.length_nil]; omega))).trans ?_
    refine (bindQ (pI7 (by omega) (by simp only [List.length_append, List.length_nil]; omega))).trans ?_
    rw [← hX]
    rfl
  have lo := put7_loop h hl m.Batches.length 0 (by omega) (fun j h q => by omega)
  have e0 : head7 m ++ batsB (m.Batches.take 0) = head7 m := List.append_nil _
  rw [e0, show ((0 : Nat) : Int) = 0 from rfl, head7_enc] at lo
  rcases lo with ⟨k1, k2⟩ | ⟨j, hj, l, g1, g2, k1⟩
  · refine .inl ⟨k2, ?_⟩
    rw [key _ k1]
    refine Eq.trans (b := (if (decide ((16384 : Int) < ((enc7 m).length : Int))) = true then ((f_fault_New mesOp ((enc7 m).length : Int) (6 : Int)).bind fun (r : GErr) => some (fz, r)) else some ((⟨m.Kind, enc7 m⟩ : T_api_Frame), GErr.nil))) rfl ?_
    by_cases g : 16384 < (enc7 m).length
    · rw [if_pos g]
      exact (if_pos (decide_eq_true (by omega))).trans rfl
    · rw [if_neg g]
      exact if_neg (fun z => absurd (of_decide_eq_true z) (by omega))
  · refine .inr ⟨j, hj, g1, g2, ?_⟩
    rw [key _ k1]
    rfl
theorem put7_bad {m : Rpc} {c : GErr} (hc : f_rpc_Check m = some c) (hn : c.isNil = false) : f_rpc_Put m = some (fz, c) := by
  unfold f_rpc_Put
  refine (bindQ hc).trans ?_
  exact if_pos (by rw [hn]; rfl)
def mz : Rpc := ⟨0, 0, 0, 0, false, false, 0, 0, 0, 0, 0, [], 0, 0, []⟩
noncomputable def flagM (bit k : Int) (b : List Int) (a : Int) (e : GErr) : Option (Int × GErr × Bool) :=
  (if (decide ((andI .i64 (aboutM k) bit) ≠ (0 : Int))) = true then ((f_wire_Reader_Flag (⟨b, a, e⟩ : T_wire_Reader)).bind fun (r149, r150, r151) => (some (r150, r151, r149))) else (some (a, e, false)))
noncomputable def textM (k : Int) (b : List Int) (a : Int) (e : GErr) : Option ((List Int) × Int × GErr) :=
  (if (decide (k = (8 : Int))) = true then ((f_wire_Reader_Text (⟨b, a, e⟩ : T_wire_Reader) (512 : Int)).bind fun (r222, r223, r224) => (some (r222, r223, r224))) else (some ([], a, e)))
noncomputable def batsM (k : Int) (r : T_wire_Reader) (a : Int) (e : GErr) : Option ((List T_api_Batch) × Int × GErr) :=
  (if (decide ((andI .i64 (aboutM k) (64 : Int)) ≠ (0 : Int))) = true then ((f_wire_Reader_Int (⟨r.b, a, e⟩ : T_wire_Reader) (8 : Int)).bind fun (r234, r235, r236) => ((iter (f_rpc_Read_l0 r r234) ((0 : Int), r235, r236, [])).bind (fun (x246, x247, x248) => (some (x248, x246, x247))))) else (some ([], a, e)))
noncomputable def tail7 (m : Rpc) (b : List Int) (a : Int) (e : GErr) : Option (Rpc × GErr) :=
  ((f_wire_Reader_End (⟨b, a, e⟩ : T_wire_Reader)).bind fun (r277, r278) => (if (!r277.isNil) = true then (some (mz, r277)) else ((f_rpc_Check m).bind fun (r286 : GErr) => (if (!r286.isNil) = true then (some (mz, r286)) else (some (m, GErr.nil))))))
abbrev at0 : Int := ((([] : List Int).length : Nat) : Int)
theorem read7_eq {k : Int} (hk : 1 ≤ k ∧ k ≤ 8) (b : List Int) {v1 v2 v3 v6 v7 v8 v9 v10 v11 v12 a1 a2 a3 a4 a5 a6 a7 a8 a9 a10 a11 a12 a13 a14 : Int} {e1 e2 e3 e4 e5 e6 e7 e8 e9 e10 e11 e12 e13 e14 : GErr} {v4 v5 : Bool} {v13 : List Int} {l : List Bat}
    (h1 : f_wire_Reader_Int ⟨b, at0, .nil⟩ 1073741824 = some (v1, a1, e1)) (h2 : f_wire_Reader_Int ⟨b, a1, e1⟩ 1073741824 = some (v2, a2, e2)) (h3 : f_wire_Reader_Int ⟨b, a2, e2⟩ 1073741824 = some (v3, a3, e3))
    (h4 : flagM 1 k b a3 e3 = some (a4, e4, v4)) (h5 : flagM 2 k b a4 e4 = some (a5, e5, v5)) (h6 : f_rpc_Read_1 4 (aboutM k) ⟨b, a5, e5⟩ = some (v6, a6, e6)) (h7 : f_rpc_Read_1 8 (aboutM k) ⟨b, a6, e6⟩ = some (v7, a7, e7)) (h8 : f_rpc_Read_1 8 (aboutM k) ⟨b, a7, e7⟩ = some (v8, a8, e8))
    (h9 : f_rpc_Read_1 16 (aboutM k) ⟨b, a8, e8⟩ = some (v9, a9, e9)) (h10 : f_rpc_Read_1 32 (aboutM k) ⟨b, a9, e9⟩ = some (v10, a10, e10)) (h11 : f_rpc_Read_1 128 (aboutM k) ⟨b, a10, e10⟩ = some (v11, a11, e11)) (h12 : f_rpc_Read_1 256 (aboutM k) ⟨b, a11, e11⟩ = some (v12, a12, e12))
    (h13 : textM k b a12 e12 = some (v13, a13, e13)) (h14 : batsM k ⟨b, at0, .nil⟩ a13 e13 = some (l, a14, e14)) : f_rpc_Read ⟨k, b⟩ = tail7 ⟨k, v1, v2, v3, v4, v5, v6, v7, v8, v9, v10, l, v11, v12, v13⟩ b a14 e14 := by
  unfold f_rpc_Read
  refine (bindQ (y := false) (or2_f (by show ¬ k < 1 ∧ ¬ 8 < k; omega))).trans ?_
  refine (if_neg Bool.false_ne_true).trans ?_
  refine (bindQ (wread_eq b)).trans ?_
  refine (bindQ (about_eqM hk)).trans ?_
  refine (bindQ (y := (k, v1, v2, v3, false, false, 0, 0, 0, 0, 0, [], 0, 0, [], a3, e3)) ?_).trans ?_
  · refine (bindQ h1).trans ?_
    refine (bindQ h2).trans ?_
    exact (bindQ h3).trans rfl
  refine (bindQ h4).trans ?_
  refine (bindQ h5).trans ?_
  refine (bindQ h6).trans ?_
  refine (bindQ h7).trans ?_
  refine (bindQ h8).trans ?_
  refine (bindQ h9).trans ?_
  refine (bindQ h10).trans ?_
  refine (bindQ h11).trans ?_
  refine (bindQ h12).trans ?_
  refine (bindQ h13).trans ?_
  refine (bindQ h14).trans ?_
  rfl
theorem read7_kind {k : Int} (hk : ¬ (1 ≤ k ∧ k ≤ 8)) (b : List Int) : f_rpc_Read ⟨k, b⟩ = some (mz, .fault ⟨#[107, 105, 110, 100]⟩ k (.code 5)) := by
  unfold f_rpc_Read
  exact (bindQ (y := true) (or2_t (by show k < 1 ∨ 8 < k; omega))).trans rfl
theorem hasM_f {k bit : Int} (h : hasM k bit = false) : decide (andI .i64 (aboutM k) bit = 0) = true := by
  unfold hasM at h
  exact decide_eq_true (Classical.byContradiction fun z => absurd (of_decide_eq_false h) (fun y => y z))
theorem hasM_tt {k bit : Int} (h : hasM k bit = true) : ¬ decide (andI .i64 (aboutM k) bit = 0) = true := by
  unfold hasM at h
  exact fun z => (of_decide_eq_true h) (of_decide_eq_true z)
theorem hasM_ff {k bit : Int} (h : hasM k bit = false) : ¬ decide (andI .i64 (aboutM k) bit ≠ 0) = true := fun z => by have : hasM k bit = true := z; rw [h] at this; cases this
theorem m1F {k bit : Int} (h : hasM k bit = false) (b : List Int) (a : Int) (e : GErr) : f_rpc_Read_1 bit (aboutM k) ⟨b, a, e⟩ = some (0, a, e) := by
  unfold f_rpc_Read_1; exact if_pos (hasM_f h)
theorem m1T {k bit : Int} (h : hasM k bit = true) {b : List Int} {a : Int} {e : GErr} {v a' : Int} {e' : GErr} (q : f_wire_Reader_Int ⟨b, a, e⟩ 1073741824 = some (v, a', e')) : f_rpc_Read_1 bit (aboutM k) ⟨b, a, e⟩ = some (v, a', e') := by
  unfold f_rpc_Read_1; exact (if_neg (hasM_tt h)).trans ((bindQ q).trans rfl)
theorem mfF {k bit : Int} (h : hasM k bit = false) (b : List Int) (a : Int) (e : GErr) : flagM bit k b a e = some (a, e, false) := by
  unfold flagM; exact if_neg (hasM_ff h)
theorem mfT {k bit : Int} (h : hasM k bit = true) {b : List Int} {a : Int} {e : GErr} {v : Bool} {a' : Int} {e' : GErr} (q : f_wire_Reader_Flag ⟨b, a, e⟩ = some (v, a', e')) : flagM bit k b a e = some (a', e', v) := by
  unfold flagM; exact (if_pos h).trans ((bindQ q).trans rfl)
theorem mbF {k : Int} (h : hasM k 64 = false) (r : T_wire_Reader) (a : Int) (e : GErr) : batsM k r a e = some ([], a, e) := by
  unfold batsM; exact if_neg (hasM_ff h)
theorem mbT {k : Int} (h : hasM k 64 = true) {r : T_wire_Reader} {a : Int} {e : GErr} {v a' a2 : Int} {e' e2 : GErr} {l : List Bat} (q : f_wire_Reader_Int ⟨r.b, a, e⟩ 8 = some (v, a', e')) (q2 : iter (f_rpc_Read_l0 r v) ((0 : Int), a', e', []) = some (a2, e2, l)) : batsM k r a e = some (l, a2, e2) := by
  unfold batsM; exact (if_pos h).trans ((bindQ q).trans ((bindQ q2).trans rfl))
theorem read7_step (r : T_wire_Reader) (n : Int) {b : List Int} (hb : r.b = b) {i : Nat} {l : List Bat} {a : Int} (hi : (i : Int) < n) (hn : n ≤ 8) (hl : l.length = i) {x : Bat} {a' : Int} {e' : GErr} (h : f_batch_Next ⟨b, a, .nil⟩ = some (x, a', e')) :
    f_rpc_Read_l0 r n ((i : Int), a, .nil, l) = some (.inl (((i + 1 : Nat) : Int), a', e', l ++ [x])) := by
  unfold f_rpc_Read_l0
  simp only
  refine (bindQ (y := true) ?_).trans ?_
  · exact (if_pos (decide_eq_true hi)).trans rfl
  refine (if_pos rfl).trans ?_
  rw [hb]
  refine (bindQ h).trans ?_
  refine (grd_t (by show l.length + 1 ≤ _; omega)).trans ?_
  rw [w_i64 (by omega) (by omega)]
  rfl
theorem read7_end (r : T_wire_Reader) (n : Int) {i : Nat} {l : List Bat} {a : Int} {e : GErr} (h : ¬ (i : Int) < n ∨ e.isNil = false) : f_rpc_Read_l0 r n ((i : Int), a, e, l) = some (.inr (a, e, l)) := by
  unfold f_rpc_Read_l0
  simp only
  refine (bindQ (y := false) ?_).trans (if_neg (by decide))
  by_cases g : (i : Int) < n
  · have he : e.isNil = false := h.resolve_left (fun q => q g)
    refine (if_pos (decide_eq_true g)).trans ?_
    exact (bindQ (y := e) rfl).trans (by rw [he])
  · exact if_neg (fun z => g (of_decide_eq_true z))
/-! ### what is put is read -/
section
variable {b pre post : List Int} {k bit : Int}
theorem bI7 (hb : okB b) (hl : b.length ≤ 1000000) {n c : Int} (hn : numW n (hasM k bit) 0 c = true) (hc : c ≤ 1073741824) (e : b = pre ++ (cI (hasM k bit) n ++ post)) : f_rpc_Read_1 bit (aboutM k) ⟨b, (pre.length : Int), .nil⟩ = some (n, ((pre ++ cI (hasM k bit) n).length : Int), .nil) := by
  cases hf : hasM k bit
  · rw [hf] at hn
    have : n = 0 := (numW_t hn).2 rfl
    subst this
    rw [m1F hf, cI_f, List.append_nil]
  · rw [hf] at hn e
    have hn := (numW_t hn).1 rfl
    exact m1T hf (backI hb hl (m := 1073741824) e (by omega) (by unfold top; omega) (by omega) (by decide))
theorem bF7 (hb : okB b) (hl : b.length ≤ 1000000) {x : Bool} (hx : hasM k bit = false → x = false) (e : b = pre ++ (cF (hasM k bit) x ++ post)) : flagM bit k b (pre.length : Int) .nil = some (((pre ++ cF (hasM k bit) x).length : Int), .nil, x) := by
  cases hf : hasM k bit
  · rw [hx hf, mfF hf]
    show _ = some (((pre ++ []).length : Int), _, _)
    rw [List.append_nil]
  · rw [hf] at e
    exact mfT hf (backF hb hl e)
theorem bD7 (hb : okB b) (hl : b.length ≤ 1000000) {d : List Int} (hd : d.length ≤ 512) (hx : k ≠ 8 → d = []) (e : b = pre ++ (cD (decide (k = 8)) d ++ post)) : textM k b (pre.length : Int) .nil = some (d, ((pre ++ cD (decide (k = 8)) d).length : Int), .nil) := by
  unfold textM
  by_cases g : k = 8
  · rw [decide_eq_true g] at e ⊢
    refine (if_pos rfl).trans ?_
    exact (bindQ (backT hb hl (m := 512) e (by omega) (by decide))).trans rfl
  · rw [hx g, decide_eq_false g]
    show some ([], _, _) = some ([], ((pre ++ []).length : Int), _)
    rw [List.append_nil]
end
theorem back7_loop {b : List Int} (hb : okB b) (hl : b.length ≤ 1000000) (r : T_wire_Reader) (hr : r.b = b) {L : List Bat} (hL : L.length ≤ 8) (hc : ∀ x ∈ L, okBat x ∧ (encB x).length ≤ 16384) {pre post : List Int} : ∀ (d i : Nat), i + d = L.length → b = (pre ++ batsB (L.take i)) ++ (batsB (L.drop i) ++ post) →
    iter (f_rpc_Read_l0 r (L.length : Int)) ((i : Int), ((pre ++ batsB (L.take i)).length : Int), .nil, L.take i) = some (((pre ++ batsB L).length : Int), .nil, L)
  | 0, i, hi, e => by
    rw [iter_stop (read7_end r _ (.inl (by omega))), List.take_of_length_le (by omega)]
  | d + 1, i, hi, e => by
    have hlt : i < L.length := by omega
    have e1 : b = (pre ++ batsB (L.take i)) ++ (encB L[i] ++ (batsB (L.drop (i + 1)) ++ post)) := by
      rw [e, List.drop_eq_getElem_cons hlt]
      simp only [batsB, List.append_assoc]
    have hx := hc _ (List.getElem_mem hlt)
    have h1 := next6_back hx.1 hx.2 hb hl e1
    have e2 : (pre ++ batsB (L.take i)) ++ encB L[i] = pre ++ batsB (L.take (i + 1)) := by rw [take_next hlt, batsB_append, batsB_one, List.append_assoc]
    rw [e2] at h1
    rw [iter_next (read7_step r _ hr (by omega) (by omega) (by rw [List.length_take]; omega) h1), ← take_next hlt]
    refine back7_loop hb hl r hr hL hc (pre := pre) (post := post) d (i + 1) (by omega) ?_
    rw [e1, ← e2]
    simp only [List.append_assoc]
theorem read7_back {m : Rpc} (h : okRpc m) (hD : okB m.Data) (hs : ∀ x ∈ m.Batches, (encB x).length ≤ 16384) (hlen : (enc7 m).length ≤ 16384) {b : List Int} (eb : b = enc7 m) : f_rpc_Read ⟨m.Kind, b⟩ = some (m, .nil) := by
  have hb : okB b := by rw [eb]; exact enc7_ok hD
  have hl : b.length ≤ 1000000 := by rw [eb]; omega
  have hm := many7 h.many
  have hf := from7 h.from_
  have ht := term7 h.term
  have hd := data7 h.data
  have hg := flag7 h.flag
  have tp : (1073741824 : Int) ≤ top := by decide
  have p0 : b = [] ++ (intB m.From ++ (intB m.To ++ (intB m.Term ++ (cF (hasM m.Kind 1) m.Pre ++ (cF (hasM m.Kind 2) m.Ok ++ (cI (hasM m.Kind 4) m.Leader ++ (cI (hasM m.Kind 8) m.At ++ (cI (hasM m.Kind 8) m.AtTerm ++ (cI (hasM m.Kind 16) m.High ++ (cI (hasM m.Kind 32) m.Code ++ (cI (hasM m.Kind 128) m.Size ++ (cI (hasM m.Kind 256) m.Pos ++ (cD (decide (m.Kind = 8)) m.Data ++ (cI (hasM m.Kind 64) (m.Batches.length : Int) ++ (batsB m.Batches ++ []))))))))))))))) := by rw [eb]; unfold enc7; rw [List.nil_append, List.append_nil]
  have p1 := nxt p0
  have p2 := nxt p1
  have p3 := nxt p2
  have p4 := nxt p3
  have p5 := nxt p4
  have p6 := nxt p5
  have p7 := nxt p6
  have p8 := nxt p7
  have p9 := nxt p8
  have p10 := nxt p9
  have p11 := nxt p10
  have p12 := nxt p11
  have p13 := nxt p12
  have p14 := nxt p13
  have h1 := backI hb hl (m := 1073741824) p0 (by omega) (by omega) (by omega) (by decide)
  have h2 := backI hb hl (m := 1073741824) p1 (by omega) (by omega) (by omega) (by decide)
  have h3 := backI hb hl (m := 1073741824) p2 (by omega) (by omega) (by omega) (by decide)
  have h4 := bF7 hb hl hg.1 p3
  have h5 := bF7 hb hl hg.2 p4
  have h6 := bI7 hb hl (notF h.lead) (by decide) p5
  have h7 := bI7 hb hl (place7 h.place).1 (by decide) p6
  have h8 := bI7 hb hl (place7 h.place).2 (by decide) p7
  have h9 := bI7 hb hl (notF h.high) (by decide) p8
  have h10 := bI7 hb hl (notF h.code) (by decide) p9
  have h11 := bI7 hb hl (place7 h.size).1 (by decide) p10
  have h12 := bI7 hb hl (place7 h.size).2 (by decide) p11
  have h13 := bD7 hb hl hd.1 hd.2 p12
  have q13 : b = head6 m ++ (cI (hasM m.Kind 64) (m.Batches.length : Int) ++ (batsB m.Batches ++ [])) := by unfold head6; exact p13
  have q14 : b = head7 m ++ (batsB m.Batches ++ []) := by unfold head7 head6; exact p14
  have h14 : batsM m.Kind ⟨b, at0, .nil⟩ ((head6 m).length : Int) .nil = some (m.Batches, ((b.length : Nat) : Int), .nil) := by
    cases hf : hasM m.Kind 64
    · have e0 := hm.2 hf
      have e1 : b.length = (head6 m).length := by
        have := congrArg List.length q13
        rw [hf, cI_f, e0] at this
        simpa [batsB] using this
      rw [mbF hf, e0, e1]
    · have e1 : head7 m = head6 m ++ intB (m.Batches.length : Int) := by unfold head7; rw [hf, cI_t]
      rw [hf, cI_t] at q13
      have hI := backI hb hl (m := 8) q13 (by omega) (by unfold top; omega) (by omega) (by decide)
      rw [← e1] at hI
      have hlo := back7_loop hb hl ⟨b, at0, .nil⟩ rfl hm.1 (fun x hx => ⟨h.bats x hx, hs x hx⟩) (pre := head7 m) (post := []) m.Batches.length 0 (by omega) (by
        rw [List.take_zero, List.drop_zero]
        show b = (head7 m ++ []) ++ (batsB m.Batches ++ [])
        rw [List.append_nil (head7 m)]
        exact q14)
      have e2 : head7 m ++ batsB [] = head7 m := List.append_nil _
      rw [List.take_zero, e2, show ((0 : Nat) : Int) = 0 from rfl] at hlo
      have e3 : (head7 m ++ batsB m.Batches).length = b.length := by
        have := congrArg List.length q14
        rw [List.append_nil] at this
        exact this.symm
      rw [e3] at hlo
      exact mbT hf hI hlo
  rw [read7_eq h.kind b h1 h2 h3 h4 h5 h6 h7 h8 h9 h10 h11 h12 h13 h14]
  unfold tail7
  refine (bindQ (backE rfl)).trans ?_
  refine (if_neg Bool.false_ne_true).trans ?_
  exact (bindQ (check7_okP h)).trans rfl
/-! ### what is read was put so -/
section
variable {k bit : Int} {b : List Int} {a : Nat}
end
/-! ### not more than is waited for -/
def shortB (b : Bat) : Prop := b.Records.length ≤ 80 ∧ ∀ r ∈ b.Records, shortR r
theorem short7_loop (m : Rpc) (hl : m.Batches.length ≤ 1000000) : ∀ (d i : Nat), i + d = m.Batches.length → (∀ j (h : j < m.Batches.length), j < i → shortB m.Batches[j]) →
    (iter (f_ref07_Short_l0 m) (i : Int) = some (.inl ()) ∧ ∀ b ∈ m.Batches, shortB b) ∨ iter (f_ref07_Short_l0 m) (i : Int) = some (.inr ())
  | 0, i, h, hj => by
    refine .inl ⟨iter_stop ?_, fun r hr => ?_⟩
    · unfold f_ref07_Short_l0
      simp only
      rw [if_neg (fun z => absurd (of_decide_eq_true z) (by omega))]
    · obtain ⟨j, hj', rfl⟩ := List.getElem_of_mem hr
      exact hj j hj' (by omega)
  | d + 1, i, h, hj => by
    have hlt : i < m.Batches.length := by omega
    obtain ⟨x, h1, h2⟩ := short6 m.Batches[i].Records
    cases x
    · refine .inr (iter_stop ?_)
      unfold f_ref07_Short_l0
      simp only
      rw [if_pos (decide_eq_true (by omega)), grd_t (by omega), rdR hlt]
      exact (bindQ h1).trans rfl
    · have hs : f_ref07_Short_l0 m (i : Int) = some (.inl ((i + 1 : Nat) : Int)) := by
        unfold f_ref07_Short_l0
        simp only
        rw [if_pos (decide_eq_true (by omega)), grd_t (by omega), rdR hlt, w_i64 (by omega) (by omega)]
        exact (bindQ h1).trans rfl
      rw [iter_next hs]
      refine short7_loop m hl d (i + 1) (by omega) fun j hj' hji => ?_
      by_cases ej : j = i
      · subst ej; exact h2 rfl
      · exact hj j hj' (by omega)
theorem short7 (m : Rpc) : ∃ x, f_ref07_Short m = some x ∧ (x = true → m.Data.length ≤ 800 ∧ m.Batches.length ≤ 12 ∧ ∀ b ∈ m.Batches, shortB b) := by
  unfold f_ref07_Short
  by_cases g : (800 : Int) < (m.Data.length : Int) ∨ (12 : Int) < (m.Batches.length : Int)
  · exact ⟨false, (bindQ (or2_t g)).trans rfl, fun q => by cases q⟩
  · rcases short7_loop m (by omega) m.Batches.length 0 (by omega) (fun j h q => by omega) with ⟨h1, h2⟩ | h1
    · rw [show ((0 : Nat) : Int) = 0 from rfl] at h1
      refine ⟨true, (bindQ (or2_f (by omega))).trans ?_, fun _ => ⟨by omega, by omega, h2⟩⟩
      refine (if_neg Bool.false_ne_true).trans ?_
      rw [h1]
      rfl
    · rw [show ((0 : Nat) : Int) = 0 from rfl] at h1
      refine ⟨false, (bindQ (or2_f (by omega))).trans ?_, fun q => by cases q⟩
      refine (if_neg Bool.false_ne_true).trans ?_
      rw [h1]
      rfl
/-! ### the same as itself -/
/-! ### the example -/
def b7 : Bat := ⟨3, 6, [q1]⟩
def mw : Rpc := ⟨4, 1, 2, 3, false, false, 1, 5, 2, 4, 0, [b7], 0, 0, []⟩
def mb : Rpc := ⟨1, 1, 1, 0, false, false, 0, 0, 0, 0, 0, [], 0, 0, []⟩
theorem okb7 : okBat b7 := ⟨by decide, by decide, by decide, fun r hr => by
  rw [show b7.Records = [q1] from rfl, List.mem_singleton] at hr
  subst hr
  exact checkQ1⟩
theorem lenb7 : (encB b7).length ≤ 3000 := by
  have h1 := (intB_len b7.Term).1
  have h2 := (intB_len b7.Base).1
  have h3 := (intB_len (b7.Records.length : Int)).1
  have h4 := recsB_len b7.Records okb7.recs
  have h5 : b7.Records.length = 1 := rfl
  unfold encB
  simp only [List.length_append]
  omega
theorem memb7 {x : Bat} (h : x ∈ mw.Batches) : x = b7 := List.mem_singleton.1 h
theorem okmw : okRpc mw := ⟨by decide, rfl, rfl, rfl, rfl, rfl, rfl, rfl, rfl, rfl, rfl, fun x hx => by rw [memb7 hx]; exact okb7⟩
theorem lenmw : (enc7 mw).length ≤ 16384 := by
  have h1 := head7_len okmw
  have h2 := lenb7
  rw [← head7_enc, List.length_append]
  have : batsB mw.Batches = encB b7 := batsB_one b7
  rw [this]
  omega
theorem putmw : f_rpc_Put mw = some (⟨4, enc7 mw⟩, .nil) := by
  rcases put7 okmw with ⟨_, h⟩ | ⟨j, hj, h1, _⟩
  · rw [h, if_neg (by have := lenmw; omega)]
    rfl
  · exfalso
    have := lenb7
    rw [memb7 (List.getElem_mem hj)] at h1
    omega
theorem readmw : f_rpc_Read ⟨4, enc7 mw⟩ = some (mw, .nil) := read7_back (m := mw) okmw okB.nil (fun x hx => by rw [memb7 hx]; have := lenb7; omega) lenmw rfl
theorem sameb7 : f_batch_Same b7 b7 = some true := by
  have s0 : f_slices_EqualFunc_api_Record_api_Record_api_Record_api_Record_79_l0 [q1] [q1] (0 : Int) = some (.inl 1) := by
    unfold f_slices_EqualFunc_api_Record_api_Record_api_Record_api_Record_79_l0
    refine (if_pos (by rfl)).trans ?_
    refine (grd_t (by decide)).trans ?_
    refine (grd_t (by decide)).trans ?_
    exact (bindQ sameQ1).trans rfl
  have s1 : f_slices_EqualFunc_api_Record_api_Record_api_Record_api_Record_79_l0 [q1] [q1] (1 : Int) = some (.inr (.inl ())) := rfl
  have e : f_slices_EqualFunc_api_Record_api_Record_api_Record_api_Record_79 [q1] [q1] = some true := by
    unfold f_slices_EqualFunc_api_Record_api_Record_api_Record_api_Record_79
    refine (if_neg (by decide)).trans ?_
    rw [iter_next s0, iter_stop s1]
    rfl
  unfold f_batch_Same
  refine (bindQ (y := true) ?_).trans rfl
  refine (if_pos (by rfl)).trans ?_
  refine (if_pos (by rfl)).trans ?_
  exact (bindQ e).trans rfl
theorem eqByte : f_slices_Equal_byte_byte [] [] = some true := by
  unfold f_slices_Equal_byte_byte
  refine (if_neg (by decide)).trans ?_
  rw [iter_stop (show f_slices_Equal_byte_byte_l0 [] [] (0 : Int) = some (.inr (.inl ())) from rfl)]
  rfl
theorem samemw : f_rpc_Same mw mw = some true := by
  have s0 : f_slices_EqualFunc_api_Batch_api_Batch_api_Batch_api_Batch_53_l0 [b7] [b7] (0 : Int) = some (.inl 1) := by
    unfold f_slices_EqualFunc_api_Batch_api_Batch_api_Batch_api_Batch_53_l0
    refine (if_pos (by rfl)).trans ?_
    refine (grd_t (by decide)).trans ?_
    refine (grd_t (by decide)).trans ?_
    exact (bindQ sameb7).trans rfl
  have s1 : f_slices_EqualFunc_api_Batch_api_Batch_api_Batch_api_Batch_53_l0 [b7] [b7] (1 : Int) = some (.inr (.inl ())) := rfl
  have e : f_slices_EqualFunc_api_Batch_api_Batch_api_Batch_api_Batch_53 [b7] [b7] = some true := by
    unfold f_slices_EqualFunc_api_Batch_api_Batch_api_Batch_api_Batch_53
    refine (if_neg (by decide)).trans ?_
    rw [iter_next s0, iter_stop s1]
    rfl
  unfold f_rpc_Same
  refine (bindQ (y := true) ?_).trans rfl
  refine (bindQ (y := [4, 1, 2, 3, 1, 5, 2, 4, 0, 0, 0]) rfl).trans ?_
  refine (bindQ (y := [4, 1, 2, 3, 1, 5, 2, 4, 0, 0, 0]) rfl).trans ?_
  refine (if_pos (by simp [andL])).trans ?_
  refine (if_pos (by rfl)).trans ?_
  refine (if_pos (by rfl)).trans ?_
  refine (bindQ eqByte).trans ?_
  refine (if_pos rfl).trans ?_
  exact (bindQ e).trans rfl
theorem samemz : f_rpc_Same mw mz = some false := by
  unfold f_rpc_Same
  refine (bindQ (y := false) ?_).trans rfl
  refine (bindQ (y := [4, 1, 2, 3, 1, 5, 2, 4, 0, 0, 0]) rfl).trans ?_
  refine (bindQ (y := [0, 0, 0, 0, 0, 0, 0, 0, 0, 0, 0]) rfl).trans ?_
  exact if_neg (by simp [andL, rd])
theorem checkmb : f_rpc_Check mb = some (.fault ⟨#[102, 114, 111, 109]⟩ 1 (.code 2)) := by
  rw [prog7 (by decide)]
  rfl
theorem copymw : f_rpc_Copy mw = some mw := by
  have hof : f_batch_Copy b7 = some b7 := by
    unfold f_batch_Copy
    exact (bindQ (of6 3 6 [q1] (by decide) (fun r hr => by rw [List.mem_singleton] at hr; subst hr; exact shortR_ok checkQ1))).trans rfl
  have s0 : f_rpc_Copy_l0 mw ([], (0 : Int)) = some (.inl ([b7], 1)) := by
    unfold f_rpc_Copy_l0
    refine (if_pos (by rfl)).trans ?_
    refine (grd_t (by decide)).trans ?_
    refine (bindQ hof).trans ?_
    exact grd_t (show 0 + 1 ≤ 274877906944 by decide)
  have s1 : f_rpc_Copy_l0 mw ([b7], (1 : Int)) = some (.inr [b7]) := rfl
  unfold f_rpc_Copy
  refine (bindQ (clone_eq [] (by decide))).trans ?_
  refine (bindQ (y := [b7]) ?_).trans rfl
  rw [iter_next s0, iter_stop s1]
  rfl
theorem works07 : f_law07_works = some true := by
  have h9 : f_rpc_Read ⟨9, []⟩ = some (mz, .fault ⟨#[107, 105, 110, 100]⟩ 9 (.code 5)) := read7_kind (by decide) []
  unfold f_law07_works
  refine (bindQ putmw).trans ?_
  refine (bindQ readmw).trans ?_
  refine (bindQ h9).trans ?_
  refine (bindQ (y := (true, [b7])) ?_).trans rfl
  refine (if_pos rfl).trans ?_
  refine (if_pos (by rfl)).trans ?_
  refine (if_pos rfl).trans ?_
  refine (bindQ samemw).trans ?_
  refine (if_pos rfl).trans ?_
  refine (bindQ (is_eq _ _)).trans ?_
  refine (if_pos (by rfl)).trans ?_
  refine (bindQ (check7_okP okmw)).trans ?_
  refine (if_pos rfl).trans ?_
  refine (bindQ checkmb).trans ?_
  refine (bindQ (is_eq _ _)).trans ?_
  refine (if_pos (by rfl)).trans ?_
  refine (bindQ copymw).trans ?_
  refine (bindQ samemw).trans ?_
  refine (if_pos rfl).trans ?_
  exact (bindQ samemz).trans rfl
/-! ### the laws -/
theorem has_runM {k l : Int} {s : ByteArray} {e : Unit ⊕ Unit} (h : f_ref07_has k l = (((iter (f_ref07_has_l0 l s) (0 : Int)).bind (Sum.elim (fun _ => (some (Sum.inl ()))) (fun _ => (((some true)).bind fun r => some (Sum.inr r))))) : Option (Unit ⊕ Bool)).bind (Sum.elim (fun _ => (some false)) some)) (n : Nat) (hr : runK n (f_ref07_has_l0 l s) 0 = some e) : f_ref07_has k l = some (match e with | .inl _ => false | .inr _ => true) := by
  rw [h, iter_run n hr]
  cases e <;> rfl
theorem has_eqM {k : Int} (h : 1 ≤ k ∧ k ≤ 8) : f_ref07_has k 97 = some (hasM k 1) ∧ f_ref07_has k 103 = some (hasM k 2) ∧ f_ref07_has k 108 = some (hasM k 4) ∧ f_ref07_has k 112 = some (hasM k 8) ∧ f_ref07_has k 104 = some (hasM k 16) ∧ f_ref07_has k 99 = some (hasM k 32) ∧ f_ref07_has k 98 = some (hasM k 64) ∧ f_ref07_has k 115 = some (hasM k 128) ∧ f_ref07_has k 111 = some (hasM k 256) ∧ f_ref07_has k 100 = some (decide (k = 8)) := by
  rcases kindsM h with rfl | rfl | rfl | rfl | rfl | rfl | rfl | rfl
  all_goals
    refine ⟨?_, ?_, ?_, ?_, ?_, ?_, ?_, ?_, ?_, ?_⟩
    all_goals first
      | exact (has_runM (e := .inr ()) rfl 8 rfl).trans (by decide +kernel)
      | exact (has_runM (e := .inl ()) rfl 8 rfl).trans (by decide +kernel)
theorem rnumM (n : Int) (h : Bool) (c : Int) : f_ref07_num n h c = some (numW n h 0 c) := by
  unfold f_ref07_num numW
  rw [num_if]
  cases h <;> rfl
theorem noA (o : ByteArray) (a c : Int) : f_ref07_no o a c = some ⟨⟨o, a, c⟩, -1⟩ := rfl
noncomputable def tailR (m : Rpc) : Option T_ref06_Wrong := ((((iter (f_ref07_Check_l0 m) (0 : Int)).bind (Sum.elim (fun _ => (some (Sum.inl ()))) (fun (x219, x220, x221, x222) => (((some (⟨(⟨x219, x220, x221⟩ : T_ref05_Wrong), x222⟩ : T_ref06_Wrong))).bind fun r => some (Sum.inr r))))) : Option (Unit ⊕ T_ref06_Wrong)).bind (Sum.elim (fun _ => (some (⟨(⟨(⟨#[]⟩ : ByteArray), (0 : Int), (0 : Int)⟩ : T_ref05_Wrong), (-1 : Int)⟩ : T_ref06_Wrong))) some))
theorem ref7 {m : Rpc} (h : 1 ≤ m.Kind ∧ m.Kind ≤ 8) : f_ref07_Check m =
    (if cFrom m = true then some ⟨⟨⟨#[102, 114, 111, 109]⟩, m.From, 2⟩, -1⟩ else if cTerm m = true then some ⟨⟨⟨#[116, 101, 114, 109]⟩, m.Term, 2⟩, -1⟩ else if cFlag m = true then some ⟨⟨⟨#[102, 108, 97, 103]⟩, 1, 1⟩, -1⟩ else
    if cLead m = true then some ⟨⟨⟨#[108, 101, 97, 100, 101, 114]⟩, m.Leader, 2⟩, -1⟩ else if cPlace m = true then some ⟨⟨⟨#[112, 108, 97, 99, 101]⟩, m.At, 2⟩, -1⟩ else if cHigh m = true then some ⟨⟨⟨#[104, 105, 103, 104]⟩, m.High, 2⟩, -1⟩ else
    if cCode m = true then some ⟨⟨⟨#[99, 111, 100, 101]⟩, m.Code, 2⟩, -1⟩ else if cSize m = true then some ⟨⟨⟨#[115, 105, 122, 101]⟩, m.Size, 2⟩, -1⟩ else if cData m = true then some ⟨⟨⟨#[100, 97, 116, 97]⟩, (m.Data.length : Int), 6⟩, -1⟩ else
    if cMany m = true then some ⟨⟨⟨#[98, 97, 116, 99, 104, 101, 115]⟩, (m.Batches.length : Int), 6⟩, -1⟩ else tailR m) := by
  obtain ⟨ha, hg, hl, hp, hh, hc, hb, hs, ho, hd⟩ := has_eqM h
  unfold f_ref07_Check
  refine (bindQ (kindC h)).trans ?_
  refine (if_neg Bool.false_ne_true).trans ?_
  simp only [ha, hg, hl, hp, hh, hc, hb, hs, ho, hd, rnumM, noA, Option.bind_some]
  refine (bindQ (y := cFrom m) (orS (orS (orS (orS rfl))))).trans ?_
  refine iteE rfl ?_
  refine (bindQ (y := cTerm m) (orS rfl)).trans ?_
  refine iteE rfl ?_
  refine (bindQ (y := cFlag m) ?_).trans ?_
  · unfold cFlag
    cases hasM m.Kind 1 <;> cases hasM m.Kind 2 <;> cases m.Pre <;> cases m.Ok <;> rfl
  refine iteE rfl ?_
  refine iteE rfl ?_
  refine (bindQ (y := cPlace m) (orS rfl)).trans ?_
  refine iteE rfl ?_
  refine iteE rfl ?_
  refine iteE rfl ?_
  refine (bindQ (y := cSize m) (orS rfl)).trans ?_
  refine iteE rfl ?_
  refine (bindQ (y := cData m) (orS ?_)).trans ?_
  · by_cases g : m.Kind = 8
    · rw [decide_eq_true g, decide_eq_false (show ¬ m.Kind ≠ 8 from fun q => q g)]
      cases decide ((0 : Int) < (m.Data.length : Int)) <;> rfl
    · rw [decide_eq_false g, decide_eq_true (show m.Kind ≠ 8 from g)]
      cases decide ((0 : Int) < (m.Data.length : Int)) <;> rfl
  refine iteE rfl ?_
  refine (bindQ (y := cMany m) (orS ?_)).trans ?_
  · cases hasM m.Kind 64 <;> cases decide ((0 : Int) < (m.Batches.length : Int)) <;> rfl
  exact iteE rfl rfl
def rel7 (w : T_ref06_Wrong) (e : GErr) : Prop := (w.W.Code = 0 ∧ e = .nil) ∨ (w.W.Code ≠ 0 ∧ e.isNil = false ∧ OfE e = w.W.Code ∧ WhereE e = (w.W.At, true) ∧ w.W.Op ∈ PathE e ∧ (PathE e).length ≤ 10)
theorem rel7_f {o : ByteArray} {a c : Int} (h : c ≠ 0) : rel7 ⟨⟨o, a, c⟩, -1⟩ (.fault o a (.code c)) := .inr ⟨h, rfl, rfl, rfl, by simp [PathE], by simp [PathE]⟩
theorem rel7_z : rel7 ⟨⟨⟨#[]⟩, 0, 0⟩, -1⟩ .nil := .inl ⟨rfl, rfl⟩
theorem rel7_w {w : T_ref06_Wrong} {e : GErr} (h : relE6 w e) (hw : w.W.Code ≠ 0) (i : Int) : rel7 ⟨⟨w.W.Op, i, w.W.Code⟩, -1⟩ (.fault batOp i e) := by
  unfold relE6 at h
  rw [if_neg hw] at h
  by_cases g : w.Record < 0
  · rw [if_pos g] at h
    subst h
    exact .inr ⟨hw, rfl, rfl, rfl, by simp [PathE], by simp [PathE]⟩
  · rw [if_neg g] at h
    obtain ⟨a, rfl⟩ := h
    exact .inr ⟨hw, rfl, rfl, rfl, by simp [PathE], by simp [PathE]⟩
theorem wrong7 {w : T_ref06_Wrong} {e : GErr} (h : rel7 w e) : f_law07_wrong e w = some true := by
  unfold f_law07_wrong
  rcases h with ⟨h1, rfl⟩ | ⟨h1, h2, h3, h4, h5, h6⟩
  · exact (if_pos rfl).trans (by rw [decide_eq_true h1])
  · refine (if_neg (by rw [h2]; decide)).trans ?_
    refine (bindQ (where_eq _)).trans ?_
    rw [h4]
    refine (bindQ (y := true) ?_).trans rfl
    refine (bindQ (of_eq _)).trans ?_
    refine (if_pos (decide_eq_true h3)).trans ?_
    refine (if_pos rfl).trans ?_
    refine (if_pos (decide_eq_true rfl)).trans ?_
    refine (bindQ (under_eq _ _ (by omega))).trans ?_
    simp [h5]
theorem check7_loop (m : Rpc) (hl : m.Batches.length ≤ 8) : ∀ (d i : Nat), i + d = m.Batches.length →
    (iter (f_ref07_Check_l0 m) (i : Int) = some (.inl ()) ∧ iter (f_rpc_Check_l0 m) (i : Int) = some (.inl ())) ∨
    ∃ (j : Int) (o : ByteArray) (c : Int) (e : GErr), iter (f_ref07_Check_l0 m) (i : Int) = some (.inr (o, j, c, -1)) ∧ iter (f_rpc_Check_l0 m) (i : Int) = some (.inr e) ∧ rel7 ⟨⟨o, j, c⟩, -1⟩ e
  | 0, i, h => by
    refine .inl ⟨iter_stop ?_, iter_stop ?_⟩
    · unfold f_ref07_Check_l0
      simp only
      rw [if_neg (fun z => absurd (of_decide_eq_true z) (by omega))]
    · unfold f_rpc_Check_l0
      simp only
      rw [if_neg (fun z => absurd (of_decide_eq_true z) (by omega))]
  | d + 1, i, h => by
    have hlt : i < m.Batches.length := by omega
    obtain ⟨w, e, h1, h2, h3, _⟩ := check6 m.Batches[i]
    have hz := relE6_nil h3
    by_cases g : w.W.Code = 0
    · have hn := hz.1 g
      rw [hn] at h2
      have hs1 : f_ref07_Check_l0 m (i : Int) = some (.inl ((i + 1 : Nat) : Int)) := by
        unfold f_ref07_Check_l0
        simp only
        rw [if_pos (decide_eq_true (by omega)), grd_t (by omega), rdR hlt, w_i64 (by omega) (by omega)]
        refine (bindQ h1).trans ?_
        exact (if_neg (by simp [g])).trans rfl
      have hs2 : f_rpc_Check_l0 m (i : Int) = some (.inl ((i + 1 : Nat) : Int)) := by
        unfold f_rpc_Check_l0
        simp only
        rw [if_pos (decide_eq_true (by omega)), grd_t (by omega), rdR hlt, w_i64 (by omega) (by omega)]
        exact (bindQ h2).trans rfl
      rw [iter_next hs1, iter_next hs2]
      exact check7_loop m hl d (i + 1) (by omega)
    · have hn := hz.2 g
      refine .inr ⟨(i : Int), w.W.Op, w.W.Code, .fault batOp (i : Int) e, iter_stop ?_, iter_stop ?_, rel7_w h3 g _⟩
      · unfold f_ref07_Check_l0
        simp only
        rw [if_pos (decide_eq_true (by omega)), grd_t (by omega), rdR hlt]
        refine (bindQ h1).trans ?_
        exact if_pos (decide_eq_true g)
      · unfold f_rpc_Check_l0
        simp only
        rw [if_pos (decide_eq_true (by omega)), grd_t (by omega), rdR hlt]
        refine (bindQ h2).trans ?_
        refine (if_pos (by rw [hn]; rfl)).trans ?_
        exact (bindQ (wrapB _ _ hn)).trans rfl
theorem lvl2 {c : Bool} {A : GErr} {W : T_ref06_Wrong} {R : Option GErr} {S : Option T_ref06_Wrong} (hr : rel7 W A) (h : c = false → ∃ w e, S = some w ∧ R = some e ∧ rel7 w e) : ∃ w e, (if c = true then some W else S) = some w ∧ (if c = true then some A else R) = some e ∧ rel7 w e := by
  cases c
  · exact h rfl
  · exact ⟨W, A, rfl, rfl, hr⟩
theorem ne2 : (2 : Int) ≠ 0 := by decide
theorem ne6 : (6 : Int) ≠ 0 := by decide
theorem check7B (m : Rpc) : ∃ w e, f_ref07_Check m = some w ∧ f_rpc_Check m = some e ∧ rel7 w e := by
  by_cases hk : 1 ≤ m.Kind ∧ m.Kind ≤ 8
  · rw [ref7 hk, prog7 hk]
    refine lvl2 (rel7_f ne2) fun _ => ?_
    refine lvl2 (rel7_f ne2) fun _ => ?_
    refine lvl2 (rel7_f (by decide)) fun _ => ?_
    refine lvl2 (rel7_f ne2) fun _ => ?_
    refine lvl2 (rel7_f ne2) fun _ => ?_
    refine lvl2 (rel7_f ne2) fun _ => ?_
    refine lvl2 (rel7_f ne2) fun _ => ?_
    refine lvl2 (rel7_f ne2) fun _ => ?_
    refine lvl2 (rel7_f ne6) fun _ => ?_
    refine lvl2 (rel7_f ne6) fun g10 => ?_
    have hm := many7 g10
    unfold tailR tailC
    rcases check7_loop m hm.1 m.Batches.length 0 (by omega) with ⟨h1, h2⟩ | ⟨j, o, c, e, h1, h2, h3⟩
    · rw [show ((0 : Nat) : Int) = 0 from rfl] at h1 h2
      rw [h1, h2]
      exact ⟨_, _, rfl, rfl, rel7_z⟩
    · rw [show ((0 : Nat) : Int) = 0 from rfl] at h1 h2
      rw [h1, h2]
      exact ⟨_, _, rfl, rfl, h3⟩
  · unfold f_ref07_Check f_rpc_Check
    exact ⟨_, _, (bindQ (or2_t (by omega))).trans rfl, (bindQ (or2_t (by omega))).trans rfl, rel7_f (by decide)⟩
theorem int1_eq {f : Bool} {n : Int} (hn : n ≤ 9223372036854775807) : f_ref05_int1 n f = some (cI f n) := by
  unfold f_ref05_int1 cI
  cases f
  · rfl
  · exact (if_neg (by decide)).trans ((bindQ (rint_eq n hn)).trans rfl)
theorem text1_eq {f : Bool} {s : ByteArray} (h : textW s f = true) : f_ref05_text1 s f = some (cT f s) := by
  unfold f_ref05_text1 cT
  cases f
  · rfl
  · have := (textW_t h).1 rfl
    exact (if_neg (by decide)).trans ((bindQ (rtext_eq (bytesOf s) (by rw [bytesOf_len]; omega))).trans rfl)
theorem row1_eq {f : Bool} {l : List Int} (h : rowV l f = true) : f_ref05_row1 l f = some (cR f l) := by
  have hr := (rowV_t h).1
  unfold f_ref05_row1 cR
  cases f
  · rfl
  · exact (if_neg (by decide)).trans ((bindQ (rrow_eq l (fun x hx => by have := brOk_le hr x hx; omega) (by have := hr.1; omega))).trans rfl)
theorem flag1_eq {f x : Bool} (l : List Int) (hl : l.length ≤ 1000000) : (((some f : Option Bool)).bind fun (r139 : Bool) => (if r139 = true then ((f_ref02_Flag x).bind fun (r145 : (List Int)) => (grd (l.length + r145.length ≤ 274877906944) (some (l ++ r145)))) else (some l))) = some (l ++ cF f x) := by
  unfold cF
  cases f
  · simp
  · have := flagB_len x
    refine (bindQ (y := true) rfl).trans ?_
    refine (if_pos rfl).trans ?_
    refine (bindQ (rflag_eq x)).trans ?_
    exact grd_t (by omega)
theorem bytes5 {r : Rec} (hc : f_record_Check r = some .nil) : f_ref05_Bytes r = some (enc5 r) := by
  have h := check_okR hc
  obtain ⟨l0, l1, l2, l3, l4, l5, l6, l7, l8, l9, l10, l11, l12, l13, l14, l15, l16, l17⟩ := lens5 h
  obtain ⟨hb, he, ht, hp, hl, ha, hf, hn, hk, hv, hr, hi, hm, hx⟩ := has_eqR r.Kind
  have m0 := (numW_b h.broker (by decide) (by decide)).2
  have m1 := (numW_b h.epoch (by decide) (by decide)).2
  have m2 := (numW_b h.topic (leastR_nn _) (by decide)).2
  have m3 := (numW_b h.part (by decide) (by decide)).2
  have m4 := (numW_b h.leader (by decide) (by decide)).2
  have m5 := (numW_b h.client (by decide) (by decide)).2
  have m6 := (numW_b h.serial (by decide) (by decide)).2
  have m7 := (numW_b h.code (by decide) (by decide)).2
  unfold f_ref05_Bytes
  rw [kindB h.kind]
  refine (bindQ hb).trans ?_
  refine (bindQ (int1_eq (by omega))).trans ?_
  refine (grd_t (by first | omega | (simp only [List.length_append]; omega))).trans ?_
  refine (bindQ he).trans ?_
  refine (bindQ (int1_eq (by omega))).trans ?_
  refine (grd_t (by first | omega | (simp only [List.length_append]; omega))).trans ?_
  refine (bindQ ht).trans ?_
  refine (bindQ (int1_eq (by omega))).trans ?_
  refine (grd_t (by first | omega | (simp only [List.length_append]; omega))).trans ?_
  refine (bindQ hp).trans ?_
  refine (bindQ (int1_eq (by omega))).trans ?_
  refine (grd_t (by first | omega | (simp only [List.length_append]; omega))).trans ?_
  refine (bindQ hl).trans ?_
  refine (bindQ (int1_eq (by omega))).trans ?_
  refine (grd_t (by first | omega | (simp only [List.length_append]; omega))).trans ?_
  refine (bindQ ha).trans ?_
  refine (bindQ (int1_eq (by omega))).trans ?_
  refine (grd_t (by first | omega | (simp only [List.length_append]; omega))).trans ?_
  refine (bindQ ha).trans ?_
  refine (bindQ (int1_eq (by omega))).trans ?_
  refine (grd_t (by first | omega | (simp only [List.length_append]; omega))).trans ?_
  refine (bindQ ha).trans ?_
  refine (bindQ (int1_eq (by omega))).trans ?_
  refine (grd_t (by first | omega | (simp only [List.length_append]; omega))).trans ?_
  rw [hf]
  refine (bindQ (flag1_eq _ (by simp only [List.length_append]; omega))).trans ?_
  refine (bindQ hn).trans ?_
  refine (bindQ (text1_eq (textN_W h.name))).trans ?_
  refine (grd_t (by first | omega | (simp only [List.length_append]; omega))).trans ?_
  refine (bindQ hk).trans ?_
  refine (bindQ (text1_eq (textN_W h.key))).trans ?_
  refine (grd_t (by first | omega | (simp only [List.length_append]; omega))).trans ?_
  refine (bindQ hv).trans ?_
  refine (bindQ (text1_eq h.value)).trans ?_
  refine (grd_t (by first | omega | (simp only [List.length_append]; omega))).trans ?_
  refine (bindQ hr).trans ?_
  refine (bindQ (text1_eq (textN_W h.rack))).trans ?_
  refine (grd_t (by first | omega | (simp only [List.length_append]; omega))).trans ?_
  refine (bindQ hi).trans ?_
  refine (bindQ (row1_eq h.ids)).trans ?_
  refine (grd_t (by first | omega | (simp only [List.length_append]; omega))).trans ?_
  refine (bindQ hm).trans ?_
  refine (bindQ (row1_eq h.isr)).trans ?_
  refine (grd_t (by first | omega | (simp only [List.length_append]; omega))).trans ?_
  refine (bindQ hx).trans ?_
  refine (bindQ (row1_eq h.add)).trans ?_
  refine (grd_t (by first | omega | (simp only [List.length_append]; omega))).trans ?_
  refine (bindQ hx).trans ?_
  refine (bindQ (row1_eq h.drop)).trans ?_
  refine (grd_t (by first | omega | (simp only [List.length_append]; omega))).trans ?_
  unfold enc5
  simp only [List.append_assoc]
theorem bytes6_loop {b : Bat} (h : okBat b) {pre : List Int} (hp : pre.length ≤ 100) : ∀ (d i : Nat), i + d = b.Records.length → iter (f_ref06_Bytes_l0 b) (pre ++ recsB (b.Records.take i), (i : Int)) = some (pre ++ recsB b.Records)
  | 0, i, hi => by
    have hm := h.many
    refine iter_stop ?_
    unfold f_ref06_Bytes_l0
    simp only
    rw [if_neg (fun z => absurd (of_decide_eq_true z) (by omega)), List.take_of_length_le (by omega)]
  | d + 1, i, hi => by
    have hm := h.many
    have hlt : i < b.Records.length := by omega
    have hc := h.recs _ (List.getElem_mem hlt)
    have hle := recsB_len (b.Records.take i) (fun r hr => h.recs r (List.mem_of_mem_take hr))
    have hl5 := enc5_len (check_okR hc)
    rw [List.length_take] at hle
    have hs : f_ref06_Bytes_l0 b (pre ++ recsB (b.Records.take i), (i : Int)) = some (.inl (pre ++ recsB (b.Records.take (i + 1)), ((i + 1 : Nat) : Int))) := by
      unfold f_ref06_Bytes_l0
      simp only
      rw [if_pos (decide_eq_true (by omega)), grd_t (by omega), rdR hlt, w_i64 (by omega) (by omega)]
      refine (bindQ (bytes5 hc)).trans ?_
      refine (grd_t (by rw [List.length_append]; omega)).trans ?_
      rw [take_next hlt, recsB_append, recsB_one, List.append_assoc]
      rfl
    rw [iter_next hs]
    exact bytes6_loop h hp d (i + 1) (by omega)
theorem bytes6 {b : Bat} (h : okBat b) : f_ref06_Bytes b = some (encB b) := by
  have hm := h.many
  have ht := h.term
  have hs := h.base
  have h1 := (intB_len b.Term).1
  have h2 := (intB_len b.Base).1
  have h3 := (intB_len (b.Records.length : Int)).1
  have hl := bytes6_loop h (pre := (intB b.Term ++ intB b.Base) ++ intB (b.Records.length : Int)) (by rw [List.length_append, List.length_append]; omega) b.Records.length 0 (by omega)
  rw [List.take_zero, show ((0 : Nat) : Int) = 0 from rfl] at hl
  have e : (intB b.Term ++ intB b.Base) ++ intB (b.Records.length : Int) ++ recsB b.Records = encB b := by unfold encB; rw [List.append_assoc, List.append_assoc]
  rw [e] at hl
  have e0 : (intB b.Term ++ intB b.Base) ++ intB (b.Records.length : Int) ++ recsB [] = (intB b.Term ++ intB b.Base) ++ intB (b.Records.length : Int) := List.append_nil _
  rw [e0] at hl
  unfold f_ref06_Bytes
  refine (bindQ (rint_eq _ (by omega))).trans ?_
  refine (bindQ (rint_eq _ (by omega))).trans ?_
  refine (grd_t (by omega)).trans ?_
  refine (bindQ (rint_eq _ (by omega))).trans ?_
  refine (grd_t (by rw [List.length_append]; omega)).trans ?_
  exact (bindQ ((bindQ hl).trans rfl)).trans rfl
theorem int1M {f : Bool} {n : Int} (hn : n ≤ 9223372036854775807) : f_ref07_int1 n f = some (cI f n) := by
  unfold f_ref07_int1 cI
  cases f
  · rfl
  · exact (if_neg (by decide)).trans ((bindQ (rint_eq n hn)).trans rfl)
theorem flag1M {f x : Bool} : f_ref07_flag1 x f = some (cF f x) := by
  unfold f_ref07_flag1 cF
  cases f
  · rfl
  · exact (if_neg (by decide)).trans ((bindQ (rflag_eq x)).trans rfl)
theorem text1M {f : Bool} {l d : List Int} (hl : l.length ≤ 1000000) (hd : d.length ≤ 1000000) : (((some f : Option Bool)).bind fun (r173 : Bool) => (if r173 = true then ((f_ref02_Text d).bind fun (r179 : (List Int)) => (grd (l.length + r179.length ≤ 274877906944) (some (l ++ r179)))) else (some l))) = some (l ++ cD f d) := by
  unfold cD
  cases f
  · simp
  · have := textB_len d
    refine (bindQ (y := true) rfl).trans ?_
    refine (if_pos rfl).trans ?_
    refine (bindQ (rtext_eq d (by omega))).trans ?_
    exact grd_t (by omega)
theorem bytes7_loop {m : Rpc} (h : okRpc m) {pre : List Int} (hp : pre.length ≤ 1000) : ∀ (d i : Nat), i + d = m.Batches.length → iter (f_ref07_Bytes_l0 m) (pre ++ batsB (m.Batches.take i), (i : Int)) = some (pre ++ batsB m.Batches)
  | 0, i, hi => by
    have hm := many7 h.many
    refine iter_stop ?_
    unfold f_ref07_Bytes_l0
    simp only
    rw [if_neg (fun z => absurd (of_decide_eq_true z) (by omega)), List.take_of_length_le (by omega)]
  | d + 1, i, hi => by
    have hm := many7 h.many
    have hlt : i < m.Batches.length := by omega
    have hb := h.bats _ (List.getElem_mem hlt)
    have hle := batsB_len (m.Batches.take i) (fun r hr => h.bats r (List.mem_of_mem_take hr))
    have hle2 := encB_len hb
    rw [List.length_take] at hle
    have hs : f_ref07_Bytes_l0 m (pre ++ batsB (m.Batches.take i), (i : Int)) = some (.inl (pre ++ batsB (m.Batches.take (i + 1)), ((i + 1 : Nat) : Int))) := by
      unfold f_ref07_Bytes_l0
      simp only
      rw [if_pos (decide_eq_true (by omega)), grd_t (by omega), rdR hlt, w_i64 (by omega) (by omega)]
      refine (bindQ (bytes6 hb)).trans ?_
      refine (grd_t (by rw [List.length_append]; omega)).trans ?_
      rw [take_next hlt, batsB_append, batsB_one, List.append_assoc]
      rfl
    rw [iter_next hs]
    exact bytes7_loop h hp d (i + 1) (by omega)
theorem bytes7 {m : Rpc} (h : okRpc m) : f_ref07_Bytes m = some (enc7 m) := by
  obtain ⟨ga, gg, gl, gp, gh, gc, gb, gs, go, gd⟩ := has_eqM h.kind
  have hm := many7 h.many
  have hf := from7 h.from_
  have ht := term7 h.term
  have hd := (data7 h.data).1
  have m4 := (numW_b (notF h.lead) (by decide) (by decide)).2
  have m5 := (numW_b (place7 h.place).1 (by decide) (by decide)).2
  have m6 := (numW_b (place7 h.place).2 (by decide) (by decide)).2
  have m7 := (numW_b (notF h.high) (by decide) (by decide)).2
  have m8 := (numW_b (notF h.code) (by decide) (by decide)).2
  have m9 := (numW_b (place7 h.size).1 (by decide) (by decide)).2
  have m10 := (numW_b (place7 h.size).2 (by decide) (by decide)).2
  have h1 := (intB_len m.From).1
  have h2 := (intB_len m.To).1
  have h3 := (intB_len m.Term).1
  have h4 := cF_len (hasM m.Kind 1) m.Pre
  have h5 := cF_len (hasM m.Kind 2) m.Ok
  have h6 := cI_len (hasM m.Kind 4) m.Leader
  have h7 := cI_len (hasM m.Kind 8) m.At
  have h8 := cI_len (hasM m.Kind 8) m.AtTerm
  have h9 := cI_len (hasM m.Kind 16) m.High
  have h10 := cI_len (hasM m.Kind 32) m.Code
  have h11 := cI_len (hasM m.Kind 128) m.Size
  have h12 := cI_len (hasM m.Kind 256) m.Pos
  have h13 := cD_len (decide (m.Kind = 8)) m.Data
  have h14 := cI_len (hasM m.Kind 64) (m.Batches.length : Int)
  have hl := head7_len h
  have en : head7 m = intB m.From ++ intB m.To ++ intB m.Term ++ cF (hasM m.Kind 1) m.Pre ++ cF (hasM m.Kind 2) m.Ok ++ cI (hasM m.Kind 4) m.Leader ++ cI (hasM m.Kind 8) m.At ++ cI (hasM m.Kind 8) m.AtTerm ++ cI (hasM m.Kind 16) m.High ++ cI (hasM m.Kind 32) m.Code ++ cI (hasM m.Kind 128) m.Size ++ cI (hasM m.Kind 256) m.Pos ++ cD (decide (m.Kind = 8)) m.Data ++ cI (hasM m.Kind 64) (m.Batches.length : Int) := by
    unfold head7 head6
    rw [List.nil_append]
  have lo := bytes7_loop h hl m.Batches.length 0 (by omega)
  have e0 : head7 m ++ batsB (m.Batches.take 0) = head7 m := List.append_nil _
  rw [e0, show ((0 : Nat) : Int) = 0 from rfl, head7_enc, en] at lo
  unfold f_ref07_Bytes
  refine (bindQ (rint_eq _ (by omega))).trans ?_
  refine (bindQ (rint_eq _ (by omega))).trans ?_
  refine (grd_t (by omega)).trans ?_
  refine (bindQ (rint_eq _ (by omega))).trans ?_
  refine (grd_t (by simp only [List.length_append]; omega)).trans ?_
  refine (bindQ ga).trans ?_
  refine (bindQ flag1M).trans ?_
  refine (grd_t (by simp only [List.length_append]; omega)).trans ?_
  refine (bindQ gg).trans ?_
  refine (bindQ flag1M).trans ?_
  refine (grd_t (by simp only [List.length_append]; omega)).trans ?_
  refine (bindQ gl).trans ?_
  refine (bindQ (int1M (by omega))).trans ?_
  refine (grd_t (by simp only [List.length_append]; omega)).trans ?_
  refine (bindQ gp).trans ?_
  refine (bindQ (int1M (by omega))).trans ?_
  refine (grd_t (by simp only [List.length_append]; omega)).trans ?_
  refine (bindQ gp).trans ?_
  refine (bindQ (int1M (by omega))).trans ?_
  refine (grd_t (by simp only [List.length_append]; omega)).trans ?_
  refine (bindQ gh).trans ?_
  refine (bindQ (int1M (by omega))).trans ?_
  refine (grd_t (by simp only [List.length_append]; omega)).trans ?_
  refine (bindQ gc).trans ?_
  refine (bindQ (int1M (by omega))).trans ?_
  refine (grd_t (by simp only [List.length_append]; omega)).trans ?_
  refine (bindQ gs).trans ?_
  refine (bindQ (int1M (by omega))).trans ?_
  refine (grd_t (by simp only [List.length_append]; omega)).trans ?_
  refine (bindQ go).trans ?_
  refine (bindQ (int1M (by omega))).trans ?_
  refine (grd_t (by simp only [List.length_append]; omega)).trans ?_
  rw [gd]
  refine (bindQ (text1M (by simp only [List.length_append]; omega) (by omega))).trans ?_
  refine (bindQ gb).trans ?_
  refine (bindQ (int1M (by omega))).trans ?_
  refine (grd_t (by simp only [List.length_append]; omega)).trans ?_
  exact (bindQ ((bindQ lo).trans rfl)).trans rfl
theorem rput6 {b : Bat} (h : okBat b) : f_ref06_Put b = some (if 16384 < (encB b).length then ([], ⟨⟨batOp, ((encB b).length : Int), 6⟩, -1⟩) else (encB b, ⟨⟨⟨#[]⟩, 0, 0⟩, -1⟩)) := by
  obtain ⟨w, e, h1, h2, h3, _⟩ := check6 b
  rw [check6_okP h] at h2
  cases h2
  have hw : w.W.Code = 0 := Classical.byContradiction fun q => by have := (relE6_nil h3).2 q; cases this
  unfold f_ref06_Put
  refine (bindQ h1).trans ?_
  refine (if_neg (fun z => absurd hw (of_decide_eq_true z))).trans ?_
  refine (bindQ (bytes6 h)).trans ?_
  by_cases g : 16384 < (encB b).length
  · rw [if_pos g]
    exact if_pos (decide_eq_true (by omega))
  · rw [if_neg g]
    exact if_neg (fun z => absurd (of_decide_eq_true z) (by omega))
theorem rput7_step {m : Rpc} (h : okRpc m) {i : Nat} (hlt : i < m.Batches.length) (hs : (encB m.Batches[i]).length ≤ 16384) : f_ref07_Put_l0 m (i : Int) = some (.inl ((i + 1 : Nat) : Int)) := by
  have hm := many7 h.many
  unfold f_ref07_Put_l0
  simp only
  rw [if_pos (decide_eq_true (by omega)), grd_t (by omega), rdR hlt, w_i64 (by omega) (by omega)]
  refine (bindQ (rput6 (h.bats _ (List.getElem_mem hlt)))).trans ?_
  rw [if_neg (show ¬ 16384 < (encB m.Batches[i]).length by omega)]
  exact if_neg (fun z => absurd (of_decide_eq_true z) (show ¬ (0 : Int) ≠ 0 by decide))
theorem rput7_all {m : Rpc} (h : okRpc m) (hs : ∀ b ∈ m.Batches, (encB b).length ≤ 16384) : ∀ (d i : Nat), i + d = m.Batches.length → iter (f_ref07_Put_l0 m) (i : Int) = some (.inl ())
  | 0, i, hi => by
    refine iter_stop ?_
    unfold f_ref07_Put_l0
    simp only
    rw [if_neg (fun z => absurd (of_decide_eq_true z) (by omega))]
  | d + 1, i, hi => by
    have hlt : i < m.Batches.length := by omega
    rw [iter_next (rput7_step h hlt (hs _ (List.getElem_mem hlt)))]
    exact rput7_all h hs d (i + 1) (by omega)
theorem rput7_big {m : Rpc} (h : okRpc m) {j : Nat} (hj : j < m.Batches.length) (hb : 16384 < (encB m.Batches[j]).length) (hs : ∀ i (h : i < m.Batches.length), i < j → (encB m.Batches[i]).length ≤ 16384) : ∀ (d i : Nat), i + d = j → iter (f_ref07_Put_l0 m) (i : Int) = some (.inr (batOp, (j : Int), 6, -1))
  | 0, i, hi => by
    have e : i = j := by omega
    subst e
    refine iter_stop ?_
    unfold f_ref07_Put_l0
    simp only
    rw [if_pos (decide_eq_true (by omega)), grd_t (by omega), rdR hj]
    refine (bindQ (rput6 (h.bats _ (List.getElem_mem hj)))).trans ?_
    rw [if_pos hb]
    exact if_pos (decide_eq_true (show (6 : Int) ≠ 0 by decide))
  | d + 1, i, hi => by
    have hlt : i < m.Batches.length := by omega
    rw [iter_next (rput7_step h hlt (hs i hlt (by omega)))]
    exact rput7_big h hj hb hs d (i + 1) (by omega)
theorem pure_RpcPuts (m : Rpc) {p0 : Prop} (_ : p0) : f_law07_RpcPuts m = some true := by
  obtain ⟨c, hs, hs2⟩ := short7 m
  unfold f_law07_RpcPuts
  refine (bindQ hs).trans ?_
  cases c
  · exact (if_pos rfl).trans ((bindQ works07).trans rfl)
  refine (if_neg (by decide)).trans ?_
  obtain ⟨w, e, h1, hc, hr⟩ := check7B m
  obtain ⟨e', hc', hk⟩ := check7P m
  rw [hc] at hc'
  cases hc'
  have fin : ∀ (f : T_api_Frame) (e : GErr) (w : T_ref06_Wrong), f.Body.length ≤ 274877906944 → rel7 w e → f_rpc_Put m = some (f, e) → f_ref07_Put m = some (f, w) → ((f_rpc_Put m).bind fun (r33, r34) => ((f_ref07_Put m).bind fun (r41, r42) => (((if (decide (r33.Kind = r41.Kind)) = true then ((f_ref02_Same r33.Body r41.Body).bind fun (r53 : Bool) => (if r53 = true then ((f_law07_wrong r34 r42).bind fun (r65 : Bool) => (if r65 = true then ((f_law07_works).bind fun (r71 : Bool) => (some r71)) else (some false))) else (some false))) else (some false)) : Option Bool).bind fun (x50 : Bool) => (some x50)))) = some true := by
    intro f e w hl hr hp hq
    refine (bindQ hp).trans ?_
    refine (bindQ hq).trans ?_
    refine (bindQ (y := true) ?_).trans rfl
    refine (if_pos (decide_eq_true rfl)).trans ?_
    refine (bindQ (rsame_eq _ hl)).trans ?_
    refine (if_pos rfl).trans ?_
    refine (bindQ (wrong7 hr)).trans ?_
    refine (if_pos rfl).trans ?_
    exact (bindQ works07).trans rfl
  by_cases hw : w.W.Code = 0
  · have he : e = .nil := by
      rcases hr with ⟨_, he⟩ | ⟨q, _⟩
      · exact he
      · exact absurd hw q
    have ok := hk.1 (by rw [he]; rfl)
    have hlen := batsB_len m.Batches ok.bats
    have hm := many7 ok.many
    have hl := head7_len ok
    have hen : (enc7 m).length ≤ 2000000 := by
      rw [← head7_enc, List.length_append]
      omega
    have key : ∀ X, iter (f_ref07_Put_l0 m) (0 : Int) = some X → f_ref07_Put m = ((((some X).bind (Sum.elim (fun _ => (some (Sum.inl ()))) (fun (x35, x36, x37, x38) => (((some ((⟨(0 : Int), []⟩ : T_api_Frame), (⟨(⟨x35, x36, x37⟩ : T_ref05_Wrong), x38⟩ : T_ref06_Wrong)))).bind fun r => some (Sum.inr r))))) : Option (Unit ⊕ (T_api_Frame × T_ref06_Wrong))).bind (Sum.elim (fun _ => ((f_ref07_Bytes m).bind fun (r58 : (List Int)) => (if (decide ((16384 : Int) < (r58.length : Int))) = true then ((f_ref07_no (⟨#[109, 101, 115, 115, 97, 103, 101]⟩ : ByteArray) (r58.length : Int) (6 : Int)).bind fun (r64 : T_ref06_Wrong) => (some ((⟨(0 : Int), []⟩ : T_api_Frame), r64))) else (some ((⟨m.Kind, r58⟩ : T_api_Frame), (⟨(⟨(⟨#[]⟩ : ByteArray), (0 : Int), (0 : Int)⟩ : T_ref05_Wrong), (-1 : Int)⟩ : T_ref06_Wrong)))))) some)) := by
      intro X hX
      unfold f_ref07_Put
      refine (bindQ h1).trans ?_
      refine (if_neg (fun z => absurd hw (of_decide_eq_true z))).trans ?_
      rw [hX]
    rcases put7 ok with ⟨k2, hp⟩ | ⟨j, hj, g1, g2, hp⟩
    · have ha := rput7_all ok k2 m.Batches.length 0 (by omega)
      have kq : f_ref07_Put m = ((f_ref07_Bytes m).bind fun (r58 : (List Int)) => (if (decide ((16384 : Int) < (r58.length : Int))) = true then ((f_ref07_no (⟨#[109, 101, 115, 115, 97, 103, 101]⟩ : ByteArray) (r58.length : Int) (6 : Int)).bind fun (r64 : T_ref06_Wrong) => (some ((⟨(0 : Int), []⟩ : T_api_Frame), r64))) else (some ((⟨m.Kind, r58⟩ : T_api_Frame), (⟨(⟨(⟨#[]⟩ : ByteArray), (0 : Int), (0 : Int)⟩ : T_ref05_Wrong), (-1 : Int)⟩ : T_ref06_Wrong))))) := (key _ ha).trans rfl
      by_cases g : 16384 < (enc7 m).length
      · rw [if_pos g] at hp
        refine fin _ _ ⟨⟨mesOp, ((enc7 m).length : Int), 6⟩, -1⟩ (Nat.zero_le _) (rel7_f ne6) hp ?_
        rw [kq]
        refine (bindQ (bytes7 ok)).trans ?_
        exact (if_pos (decide_eq_true (by omega))).trans rfl
      · rw [if_neg g] at hp
        refine fin _ _ ⟨⟨⟨#[]⟩, 0, 0⟩, -1⟩ (show (enc7 m).length ≤ 274877906944 by omega) rel7_z hp ?_
        rw [kq]
        refine (bindQ (bytes7 ok)).trans ?_
        exact if_neg (fun z => absurd (of_decide_eq_true z) (by omega))
    · have hb := rput7_big ok hj g1 g2 j 0 (by omega)
      refine fin _ _ ⟨⟨batOp, (j : Int), 6⟩, -1⟩ (Nat.zero_le _) (.inr ⟨ne6, rfl, rfl, rfl, by simp [PathE], by simp [PathE]⟩) hp ?_
      exact (key _ hb).trans rfl
  · have hn : e.isNil = false := by
      rcases hr with ⟨q, _⟩ | ⟨_, q, _⟩
      · exact absurd q hw
      · exact q
    refine fin _ _ w (Nat.zero_le _) hr (put7_bad hc hn) ?_
    unfold f_ref07_Put
    refine (bindQ h1).trans ?_
    exact if_pos (decide_eq_true hw)
end Go.Proofs.YtkflneabcannnaaGreatDoor.G
