/- The plain part: what the printed functions compute, and that the laws hold of it. No condition. -/
import Derived.Test.YtjgnbbakamellaaGreatDoorB19
import Derived.Test.YtjgnbbakamellaaGreatDoorKArith
import Derived.KernelRfl
import Derived.OpenShut
import Derived.Test.YtjgnbbakamellaaGreatDoorKConv
set_option linter.unusedSimpArgs false
set_option linter.unusedVariables false
namespace Go.Proofs.YtjgnbbakamellaaGreatDoor.G
open Go Go.KK
def codeIn : GErr → Option Int
  | .nil => none
  | .code n => some n
  | .fault _ _ e => codeIn e
  | .other _ => none
def OfE (e : GErr) : Int := match e with | .nil => 0 | e => (codeIn e).getD 21
def WhereE : GErr → Int × Bool
  | .fault _ a _ => (a, true)
  | _ => (0, false)
@[simp] theorem OfE_nil : OfE .nil = 0 := rfl
@[simp] theorem OfE_code (n : Int) : OfE (.code n) = n := rfl
@[simp] theorem OfE_fault (o : ByteArray) (a n : Int) : OfE (.fault o a (.code n)) = n := rfl
theorem as_code_loop (old : Int) : ∀ (e : GErr), e.isNil = false → iter (f_errors_as_code_l0 old) e = some (match codeIn e with | some n => (true, n) | none => (false, old))
  | .nil, h => by cases h
  | .code n, _ => iter_stop rfl
  | .other a, _ => iter_stop rfl
  | .fault o a e, _ => by
    cases e with
    | nil => exact iter_stop rfl
    | code n => rw [iter_next (show f_errors_as_code_l0 old (.fault o a (.code n)) = some (.inl (.code n)) from rfl)]; exact iter_stop rfl
    | other b => rw [iter_next (show f_errors_as_code_l0 old (.fault o a (.other b)) = some (.inl (.other b)) from rfl)]; exact iter_stop rfl
    | fault p b e => rw [iter_next (show f_errors_as_code_l0 old (.fault o a (.fault p b e)) = some (.inl (.fault p b e)) from rfl), as_code_loop old (.fault p b e) rfl]; rfl
theorem of_eq (e : GErr) : f_fault_Of e = some (OfE e) := by
  cases e with
  | nil => rfl
  | code n => unfold f_fault_Of f_errors_As_code f_errors_as_code; rw [as_code_loop _ _ rfl]; rfl
  | other a => unfold f_fault_Of f_errors_As_code f_errors_as_code; rw [as_code_loop _ _ rfl]; rfl
  | fault o a e =>
    unfold f_fault_Of f_errors_As_code f_errors_as_code
    rw [as_code_loop _ _ rfl]
    simp only [GErr.isNil, OfE]
    cases codeIn (.fault o a e) <;> rfl
theorem as_fault_eq (old : T_api_Fault) (e : GErr) : f_errors_As_fault e old = some (match e with | .fault o a e => (true, o, a, e) | _ => (false, old.Op, old.At, old.Err)) := by
  cases e with
  | nil => rfl
  | code n => unfold f_errors_As_fault f_errors_as_fault; rw [iter_stop (show f_errors_as_fault_l0 old (.code n) = some (.inr _) from rfl)]; rfl
  | other a => unfold f_errors_As_fault f_errors_as_fault; rw [iter_stop (show f_errors_as_fault_l0 old (.other a) = some (.inr _) from rfl)]; rfl
  | fault o a e => unfold f_errors_As_fault f_errors_as_fault; rw [iter_stop (show f_errors_as_fault_l0 old (.fault o a e) = some (.inr _) from rfl)]; rfl
theorem where_eq (e : GErr) : f_fault_Where e = some (WhereE e) := by
  unfold f_fault_Where
  rw [as_fault_eq]
  cases e <;> rfl
def IsE : GErr → Int → Bool
  | .code n, c => decide (n = c)
  | .fault _ _ e, c => IsE e c
  | _, _ => false
theorem is_loop (c : Int) : ∀ (e : GErr), iter (f_errors_is_l0 c) e = some (IsE e c)
  | .nil => iter_stop rfl
  | .other _ => iter_stop rfl
  | .code n => by
    refine iter_stop ?_
    unfold f_errors_is_l0 IsE
    simp only
    by_cases h : n = c
    · rw [if_pos (decide_eq_true h), decide_eq_true h]
    · rw [if_neg (fun q => h (of_decide_eq_true q)), decide_eq_false h]
  | .fault o a e => by
    cases e with
    | nil => exact iter_stop rfl
    | other b => rw [iter_next (show f_errors_is_l0 c (.fault o a (.other b)) = some (.inl (.other b)) from rfl), is_loop c (.other b)]; rfl
    | code n => rw [iter_next (show f_errors_is_l0 c (.fault o a (.code n)) = some (.inl (.code n)) from rfl), is_loop c (.code n)]; rfl
    | fault p b e => rw [iter_next (show f_errors_is_l0 c (.fault o a (.fault p b e)) = some (.inl (.fault p b e)) from rfl), is_loop c (.fault p b e)]; rfl
theorem is_eq (e : GErr) (c : Int) : f_fault_Is e c = some (IsE e c) := by
  unfold f_fault_Is f_errors_Is f_errors_is
  rw [is_loop]
  cases e <;> rfl
def PathE : GErr → List ByteArray
  | .fault o _ e => o :: PathE e
  | _ => []
theorem path_loop : ∀ (e : GErr) (l : List ByteArray), l.length + (PathE e).length ≤ 274877906944 → iter f_fault_Path_l0 (e, l) = some (l ++ PathE e)
  | .nil, l, _ => (iter_stop (by unfold f_fault_Path_l0; rfl)).trans (by simp [PathE])
  | .code n, l, _ => (iter_stop (e := l) (by
      unfold f_fault_Path_l0
      simp only [GErr.isNil, Bool.not_false, if_true, as_fault_eq, Option.bind_some])).trans (by simp [PathE])
  | .other n, l, _ => (iter_stop (e := l) (by
      unfold f_fault_Path_l0
      simp only [GErr.isNil, Bool.not_false, if_true, as_fault_eq, Option.bind_some])).trans (by simp [PathE])
  | .fault o a e, l, h => by
    have hstep : f_fault_Path_l0 (.fault o a e, l) = some (.inl (e, l ++ [o])) := by
      unfold f_fault_Path_l0
      simp only [GErr.isNil, Bool.not_false, if_true, as_fault_eq, Option.bind_some, Bool.not_true, Bool.false_eq_true, if_false]
      rw [grd_t (by simp [PathE] at h ⊢; omega)]
    rw [iter_next hstep, path_loop e (l ++ [o]) (by simp [PathE] at h ⊢; omega)]
    simp [PathE]
theorem path_eq (e : GErr) (h : (PathE e).length ≤ 274877906944) : f_fault_Path e = some (PathE e) := by
  unfold f_fault_Path
  rw [path_loop e [] (by simpa using h)]
  simp
open Classical in
theorem under_loop (op : ByteArray) (l : List ByteArray) (hl : l.length ≤ 274877906944) : ∀ (d i : Nat), i + d = l.length → iter (f_fault_Under_l0 op l) (i : Int) = some (if op ∈ l.drop i then .inr () else .inl ())
  | 0, i, h => by
    refine iter_stop ?_
    unfold f_fault_Under_l0
    simp only
    rw [if_neg (fun q => absurd (of_decide_eq_true q) (by omega)), List.drop_of_length_le (by omega), if_neg (by simp)]
  | d + 1, i, h => by
    have hlt : i < l.length := by omega
    have e1 : rd l (i : Int) = l[i] := len_lt hlt
    by_cases g : l[i] = op
    · refine iter_stop ?_
      unfold f_fault_Under_l0
      simp only
      rw [if_pos (decide_eq_true (by omega)), grd_t ⟨by omega, by omega⟩, e1, if_pos (decide_eq_true g), List.drop_eq_getElem_cons hlt, if_pos (by simp [g])]
    · have hstep : f_fault_Under_l0 op l (i : Int) = some (.inl ((i + 1 : Nat) : Int)) := by
        unfold f_fault_Under_l0
        simp only
        rw [if_pos (decide_eq_true (by omega)), grd_t ⟨by omega, by omega⟩, e1, if_neg (fun q => g (of_decide_eq_true q)), w_i64 (by omega) (by omega)]
        rfl
      rw [iter_next hstep, under_loop op l hl d (i + 1) (by omega), List.drop_eq_getElem_cons hlt]
      have : (op ∈ l[i] :: l.drop (i + 1)) ↔ op ∈ l.drop (i + 1) := by
        simp only [List.mem_cons]
        exact ⟨fun q => q.elim (fun q => absurd q.symm g) id, .inr⟩
      simp only [this]
open Classical in
theorem under_eq (e : GErr) (op : ByteArray) (h : (PathE e).length ≤ 274877906944) : f_fault_Under e op = some (decide (op ∈ PathE e)) := by
  unfold f_fault_Under
  rw [path_eq e h]
  simp only [Option.bind_some]
  have := under_loop op (PathE e) h (PathE e).length 0 (by omega)
  rw [show ((0 : Nat) : Int) = 0 from rfl] at this
  rw [this, List.drop_zero]
  by_cases g : op ∈ PathE e
  · rw [if_pos g, decide_eq_true g]; rfl
  · rw [if_neg g, decide_eq_false g]; rfl
theorem rdn {α : Type} [Inhabited α] {xs : List α} {i : Nat} (h : i < xs.length) : rd xs (i : Int) = xs[i] := len_lt h
def okB (l : List Int) : Prop := ∀ x ∈ l, 0 ≤ x ∧ x ≤ 255
theorem okB.nil : okB [] := fun _ h => by cases h
theorem okB.append {a b : List Int} (h : okB a) (k : okB b) : okB (a ++ b) := fun x hx => (List.mem_append.1 hx).elim (h x) (k x)
theorem okB.left {a b : List Int} (h : okB (a ++ b)) : okB a := fun x hx => h x (List.mem_append.2 (.inl hx))
theorem okB.right {a b : List Int} (h : okB (a ++ b)) : okB b := fun x hx => h x (List.mem_append.2 (.inr hx))
theorem okB.at {l : List Int} (h : okB l) {i : Nat} (hi : i < l.length) : 0 ≤ rd l (i : Int) ∧ rd l (i : Int) ≤ 255 := by
  rw [rdn hi]; exact h _ (List.getElem_mem hi)
theorem okB.drop {l : List Int} (h : okB l) (n : Nat) : okB (l.drop n) := fun x hx => h x (List.mem_of_mem_drop hx)
theorem okB.take {l : List Int} (h : okB l) (n : Nat) : okB (l.take n) := fun x hx => h x (List.mem_of_mem_take hx)
theorem sub_end (b : List Int) (i : Nat) : sub b (i : Int) (b.length : Int) = b.drop i := by
  unfold sub
  rw [show ((i : Int)).toNat = i by omega, show ((b.length : Int)).toNat = b.length by omega]
  exact List.take_of_length_le (by simp)
theorem sub_nat {α : Type} (b : List α) (i j : Nat) : sub b (i : Int) (j : Int) = (b.drop i).take (j - i) := by
  unfold sub
  rw [show ((i : Int)).toNat = i by omega, show ((j : Int)).toNat = j by omega]
theorem rd_drop (b : List Int) (i j : Nat) : rd (b.drop i) (j : Int) = rd b ((i + j : Nat) : Int) := by
  unfold rd
  rw [show ((j : Int)).toNat = j by omega, show (((i + j : Nat) : Int)).toNat = i + j by omega]
  simp [List.getD_eq_getElem?_getD]

/-! ### operations on numbers -/
theorem fdiv_nn {a b : Int} (h : 0 < b) : a.fdiv b = a / b := Int.fdiv_eq_ediv_of_nonneg _ (Int.le_of_lt h)
theorem shr8 (n : Int) (k : Nat) (hk : k + 8 ≤ 64) : shrI .u64 n ((k + 8 : Nat) : Int) = shrI .u64 n (k : Int) / 256 := by
  unfold shrI
  rw [show min (((k + 8 : Nat) : Int)).toNat IntKind.u64.bits = k + 8 by show min _ 64 = _; omega, show min ((k : Int)).toNat IntKind.u64.bits = k by show min _ 64 = _; omega]
  rw [fdiv_nn (Int.pow_pos (by decide)), fdiv_nn (Int.pow_pos (by decide)), Int.pow_add]
  exact (Int.ediv_ediv_of_nonneg (Int.pow_nonneg (by decide))).symm
theorem shr0 (n : Int) : shrI .u64 n (0 : Int) = n := by
  unfold shrI
  show n.fdiv (2 ^ 0) = n
  rw [fdiv_nn (by decide)]
  omega
theorem s8 (n : Int) : shrI .u64 n 8 = n / 256 := by have := shr8 n 0 (by decide); rw [show ((0 : Nat) : Int) = 0 from rfl, shr0] at this; exact this
theorem s16 (n : Int) : shrI .u64 n 16 = n / 256 / 256 := by have := shr8 n 8 (by decide); rw [show ((8 : Nat) : Int) = 8 from rfl, s8] at this; exact this
theorem s24 (n : Int) : shrI .u64 n 24 = n / 256 / 256 / 256 := by have := shr8 n 16 (by decide); rw [show ((16 : Nat) : Int) = 16 from rfl, s16] at this; exact this
theorem s32 (n : Int) : shrI .u64 n 32 = n / 256 / 256 / 256 / 256 := by have := shr8 n 24 (by decide); rw [show ((24 : Nat) : Int) = 24 from rfl, s24] at this; exact this
theorem s40 (n : Int) : shrI .u64 n 40 = n / 256 / 256 / 256 / 256 / 256 := by have := shr8 n 32 (by decide); rw [show ((32 : Nat) : Int) = 32 from rfl, s32] at this; exact this
theorem s48 (n : Int) : shrI .u64 n 48 = n / 256 / 256 / 256 / 256 / 256 / 256 := by have := shr8 n 40 (by decide); rw [show ((40 : Nat) : Int) = 40 from rfl, s40] at this; exact this
theorem s56 (n : Int) : shrI .u64 n 56 = n / 256 / 256 / 256 / 256 / 256 / 256 / 256 := by have := shr8 n 48 (by decide); rw [show ((48 : Nat) : Int) = 48 from rfl, s48] at this; exact this
theorem or_tab : ∀ x : Fin 64, orI .u8 64 (x.val : Int) = 64 + x.val ∧ orI .u8 128 (x.val : Int) = 128 + x.val ∧ orI .u8 192 (x.val : Int) = 192 + x.val := by decide +kernel
theorem or64 {x : Int} (h0 : 0 ≤ x) (h1 : x < 64) : orI .u8 64 x = 64 + x ∧ orI .u8 128 x = 128 + x ∧ orI .u8 192 x = 192 + x := by
  have := or_tab ⟨x.toNat, by omega⟩
  simp only [show ((x.toNat : Nat) : Int) = x by omega] at this
  exact this
theorem head_tab : ∀ x : Fin 256, andI .u8 (x.val : Int) 63 = (x.val : Int) % 64 ∧ shrI .u8 (x.val : Int) 6 = (x.val : Int) / 64 := by decide +kernel
theorem head_eq {x : Int} (h0 : 0 ≤ x) (h1 : x ≤ 255) : andI .u8 x 63 = x % 64 ∧ shrI .u8 x 6 = x / 64 := by
  have := head_tab ⟨x.toNat, by omega⟩
  simp only [show ((x.toNat : Nat) : Int) = x by omega] at this
  exact this
theorem shl_tab : shlI .i64 1 0 = 1 ∧ shlI .i64 1 1 = 2 ∧ shlI .i64 1 2 = 4 ∧ shlI .i64 1 3 = 8 := by decide +kernel
theorem next8 {n b : Int} (h0 : 0 ≤ n) (h1 : n < 72057594037927936) (b0 : 0 ≤ b) (b1 : b ≤ 255) : orI .u64 (shlI .u64 n 8) (IntKind.u64.wrap b) = n * 256 + b := by
  rw [w_u64 b0 (by omega)]
  have e1 : shlI .u64 n 8 = n * 256 := by
    unfold shlI
    show IntKind.u64.wrap (n * 2 ^ 8) = _
    rw [w_u64 (by omega) (by omega)]; omega
  rw [e1]
  obtain ⟨N, rfl⟩ := Int.eq_ofNat_of_zero_le h0
  obtain ⟨B, rfl⟩ := Int.eq_ofNat_of_zero_le b0
  unfold orI
  show IntKind.u64.wrap (((BitVec.ofInt 64 ((N : Int) * 256)) ||| (BitVec.ofInt 64 (B : Int))).toNat : Int) = _
  have e2 : (BitVec.ofInt 64 ((N : Int) * 256)).toNat = N * 256 := by
    rw [show ((N : Int) * 256) = ((N * 256 : Nat) : Int) by omega, BitVec.ofInt_natCast, BitVec.toNat_ofNat]
    exact Nat.mod_eq_of_lt (by omega)
  have e3 : (BitVec.ofInt 64 (B : Int)).toNat = B := by
    rw [BitVec.ofInt_natCast, BitVec.toNat_ofNat]
    exact Nat.mod_eq_of_lt (by omega)
  rw [BitVec.toNat_or, e2, e3]
  have e4 : N * 256 ||| B = N * 256 + B := by
    have := Nat.shiftLeft_add_eq_or_of_lt (a := N) (b := B) (i := 8) (by omega)
    rw [Nat.shiftLeft_eq] at this
    exact this.symm
  rw [e4, w_u64 (by omega) (by omega)]
  omega

/-! ### a number as bytes -/
def top : Int := 4611686018427387903
def cap62 (n : Int) : Int := if top < n then top else n
def numC (k : Int) : List Int :=
  if k < 64 then [k]
  else if k < 16384 then [64 + k / 256, k % 256]
  else if k < 1073741824 then [128 + k / 256 / 256 / 256, k / 256 / 256 % 256, k / 256 % 256, k % 256]
  else [192 + k / 256 / 256 / 256 / 256 / 256 / 256 / 256, k / 256 / 256 / 256 / 256 / 256 / 256 % 256, k / 256 / 256 / 256 / 256 / 256 % 256, k / 256 / 256 / 256 / 256 % 256, k / 256 / 256 / 256 % 256, k / 256 / 256 % 256, k / 256 % 256, k % 256]
def numB (n : Int) : List Int := numC (cap62 n)
theorem cap62_le {n : Int} (h : 0 ≤ n) : 0 ≤ cap62 n ∧ cap62 n ≤ top := by
  unfold cap62 top
  split <;> constructor <;> (try unfold top at *) <;> omega
theorem numC_len (k : Int) : (numC k).length ≤ 8 ∧ 1 ≤ (numC k).length := by
  unfold numC
  split
  · simp
  split
  · simp
  split <;> simp
theorem numB_len (n : Int) : (numB n).length ≤ 8 ∧ 1 ≤ (numB n).length := numC_len _
theorem numC_ok {k : Int} (h0 : 0 ≤ k) (h1 : k ≤ top) : okB (numC k) := by
  unfold top at h1
  unfold numC okB
  intro x hx
  split at hx
  · simp at hx; omega
  split at hx
  · simp at hx; omega
  split at hx
  · simp at hx; omega
  · simp at hx
    have q : 0 ≤ k / 256 / 256 / 256 / 256 / 256 / 256 / 256 ∧ k / 256 / 256 / 256 / 256 / 256 / 256 / 256 < 64 := by omega
    rcases hx with h | h | h | h | h | h | h | h
    · omega
    all_goals
      subst h
      omega
theorem numB_ok {n : Int} (h0 : 0 ≤ n) : okB (numB n) := numC_ok (cap62_le h0).1 (cap62_le h0).2
theorem wnum_eq (b : List Int) (n : Int) (h0 : 0 ≤ n) (hb : b.length ≤ 274877900000) : f_wire_Num b n = some (b ++ numB n) := by
  have hc := cap62_le h0
  unfold f_wire_Num numB
  rw [show (if (4611686018427387903 : Int) < n then (4611686018427387903 : Int) else n) = cap62 n from rfl]
  generalize cap62 n = k at hc
  unfold top at hc
  unfold numC
  by_cases h1 : k < 64
  · rw [if_pos (decide_eq_true h1), if_pos h1, grd_t (by simp; omega), w_u8 (by omega) (by omega)]
  rw [if_neg (fun q => h1 (of_decide_eq_true q)), if_neg h1]
  have m0 : IntKind.u8.wrap k = k % 256 := u8_mod k
  by_cases h2 : k < 16384
  · have e1 : IntKind.u8.wrap (shrI .u64 k 8) = k / 256 := by rw [s8, w_u8 (by omega) (by omega)]
    rw [if_pos (decide_eq_true h2), if_pos h2, grd_t (by simp; omega), e1, m0, (or64 (x := k / 256) (by omega) (by omega)).1]
  rw [if_neg (fun q => h2 (of_decide_eq_true q)), if_neg h2]
  by_cases h3 : k < 1073741824
  · have e1 : IntKind.u8.wrap (shrI .u64 k 24) = k / 256 / 256 / 256 := by rw [s24, w_u8 (by omega) (by omega)]
    rw [if_pos (decide_eq_true h3), if_pos h3, grd_t (by simp; omega), e1, m0, s16, s8, u8_mod, u8_mod, (or64 (x := k / 256 / 256 / 256) (by omega) (by omega)).2.1]
  · have e1 : IntKind.u8.wrap (shrI .u64 k 56) = k / 256 / 256 / 256 / 256 / 256 / 256 / 256 := by rw [s56, w_u8 (by omega) (by omega)]
    rw [if_neg (fun q => h3 (of_decide_eq_true q)), if_neg h3, grd_t (by simp; omega), e1, m0, s48, s40, s32, s24, s16, s8, u8_mod, u8_mod, u8_mod, u8_mod, u8_mod, u8_mod,
      (or64 (x := k / 256 / 256 / 256 / 256 / 256 / 256 / 256) (by omega) (by omega)).2.2]
def intB (n : Int) : List Int := numB (if n < 0 then 0 else n)
theorem intB_len (n : Int) : (intB n).length ≤ 8 ∧ 1 ≤ (intB n).length := numB_len _
theorem intB_ok (n : Int) : okB (intB n) := numB_ok (by split <;> omega)
theorem wint_eq (b : List Int) (n : Int) (hn : n ≤ 9223372036854775807) (hb : b.length ≤ 274877900000) : f_wire_Int b n = some (b ++ intB n) := by
  unfold f_wire_Int intB
  have h : 0 ≤ (if n < 0 then (0 : Int) else n) ∧ (if n < 0 then (0 : Int) else n) ≤ 9223372036854775807 := by split <;> omega
  rw [w_u64 h.1 (by omega), wnum_eq b _ h.1 hb]
  rfl
def flagB (is : Bool) : List Int := if is = true then [1] else [0]
theorem wflag_eq (b : List Int) (is : Bool) (hb : b.length ≤ 274877900000) : f_wire_Flag b is = some (b ++ flagB is) := by
  unfold f_wire_Flag flagB
  cases is
  · rw [if_neg (by decide), grd_t (by simp only [List.length_singleton]; omega)]; rfl
  · rw [if_pos rfl, grd_t (by simp only [List.length_singleton]; omega)]; rfl
def textB (s : List Int) : List Int := intB (s.length : Int) ++ s
theorem wtext_eq (b s : List Int) (hb : b.length + s.length ≤ 274877800000) : f_wire_Text b s = some (b ++ textB s) := by
  unfold f_wire_Text textB
  rw [wint_eq b _ (by omega) (by omega)]
  simp only [Option.bind_some]
  have := intB_len (s.length : Int)
  rw [grd_t (by simp; omega), List.append_assoc]
def intsB (l : List Int) : List Int := (l.map intB).flatten
theorem intsB_cons (x : Int) (l : List Int) : intsB (x :: l) = intB x ++ intsB l := rfl
def rowB (l : List Int) : List Int := intB (l.length : Int) ++ intsB l
theorem intsB_len : ∀ (l : List Int), (intsB l).length ≤ 8 * l.length
  | [] => by simp [intsB]
  | x :: l => by
    have h1 := intsB_len l
    have h2 := (intB_len x).1
    simp only [intsB, List.map_cons, List.flatten_cons, List.length_append, List.length_cons] at *
    omega
theorem wrow_loop (l : List Int) (hl : ∀ x ∈ l, x ≤ 9223372036854775807) (hn : l.length ≤ 1000000) : ∀ (d i : Nat) (b : List Int), i + d = l.length → b.length + 8 * d ≤ 274877900000 →
    iter (f_wire_Row_l0 l) (b, (i : Int)) = some (b ++ intsB (l.drop i))
  | 0, i, b, hi, hb => by
    rw [List.drop_of_length_le (by omega)]
    refine iter_stop ?_
    unfold f_wire_Row_l0
    simp only
    rw [if_neg (fun q => absurd (of_decide_eq_true q) (by omega))]
    simp [intsB]
  | d + 1, i, b, hi, hb => by
    have hlt : i < l.length := by omega
    have hstep : f_wire_Row_l0 l (b, (i : Int)) = some (.inl (b ++ intB l[i], ((i + 1 : Nat) : Int))) := by
      unfold f_wire_Row_l0
      simp only
      rw [if_pos (decide_eq_true (by omega)), grd_t ⟨by omega, by omega⟩, rdn hlt, wint_eq _ _ (hl _ (List.getElem_mem hlt)) (by omega), w_i64 (by omega) (by omega)]
      rfl
    rw [iter_next hstep, wrow_loop l hl hn d (i + 1) _ (by omega) (by have := (intB_len l[i]).1; simp; omega), List.drop_eq_getElem_cons hlt, intsB_cons, List.append_assoc]
theorem wrow_eq (b l : List Int) (hl : ∀ x ∈ l, x ≤ 9223372036854775807) (hn : l.length ≤ 1000000) (hb : b.length ≤ 274800000000) : f_wire_Row b l = some (b ++ rowB l) := by
  unfold f_wire_Row rowB
  rw [wint_eq b _ (by omega) (by omega)]
  simp only [Option.bind_some]
  have h := wrow_loop l hl hn l.length 0 (b ++ intB (l.length : Int)) (by omega) (by have := (intB_len (l.length : Int)).1; simp; omega)
  rw [show ((0 : Nat) : Int) = 0 from rfl] at h
  rw [h]
  simp
/-! ### the reference writes -/
theorem size_eq (k : Int) : f_ref02_size k = some (if k < 64 then 1 else if k < 16384 then 2 else if k < 1073741824 then 4 else 8) := by
  unfold f_ref02_size
  by_cases h1 : k < 64
  · rw [if_pos (decide_eq_true h1), if_pos h1]
  rw [if_neg (fun q => h1 (of_decide_eq_true q)), if_neg h1]
  by_cases h2 : k < 16384
  · rw [if_pos (decide_eq_true h2), if_pos h2]
  rw [if_neg (fun q => h2 (of_decide_eq_true q)), if_neg h2]
  by_cases h3 : k < 1073741824
  · rw [if_pos (decide_eq_true h3), if_pos h3]
  rw [if_neg (fun q => h3 (of_decide_eq_true q)), if_neg h3]
/-! ### a number read -/
def accN (b : List Int) (a : Nat) : Nat → Int
  | 0 => rd b (a : Int) % 64
  | i + 1 => accN b a i * 256 + rd b ((a + (i + 1) : Nat) : Int)
def capN : Nat → Int
  | 0 => 63
  | i + 1 => capN i * 256 + 255
theorem capN_le : ∀ i : Fin 8, capN i.val ≤ top := by decide
theorem capN_le6 : ∀ i : Fin 7, capN i.val ≤ 18014398509481983 := by decide
theorem accN_bnd {b : List Int} (hb : okB b) {a : Nat} : ∀ i : Nat, a + i < b.length → 0 ≤ accN b a i ∧ accN b a i ≤ capN i
  | 0, h => by
    have := hb.at (i := a) (by omega)
    simp only [accN, capN]
    omega
  | i + 1, h => by
    have h1 := accN_bnd (a := a) hb i (by omega)
    have h2 := hb.at (i := a + (i + 1)) h
    simp only [accN, capN]
    omega
def headK (h : Int) : Nat := if h / 64 = 0 then 1 else if h / 64 = 1 then 2 else if h / 64 = 2 then 4 else 8
def sizeK (n : Int) : Nat := if n < 64 then 1 else if n < 16384 then 2 else if n < 1073741824 then 4 else 8
def numR (b : List Int) (a : Nat) (most : Int) : Int ⊕ (Int × Nat) :=
  if b.length ≤ a then .inl 3
  else if b.length < a + headK (rd b (a : Int)) then .inl 3
  else if sizeK (accN b a (headK (rd b (a : Int)) - 1)) ≠ headK (rd b (a : Int)) then .inl 5
  else if most < accN b a (headK (rd b (a : Int)) - 1) then .inl 6
  else .inr (accN b a (headK (rd b (a : Int)) - 1), a + headK (rd b (a : Int)))
theorem size_eq' (k : Int) : f_ref02_size k = some ((sizeK k : Nat) : Int) := by
  rw [size_eq]
  unfold sizeK
  split
  · rfl
  split
  · rfl
  split <;> rfl
theorem headK_le (h : Int) : headK h ≤ 8 ∧ 1 ≤ headK h := by
  unfold headK
  split
  · simp
  split
  · simp
  split <;> simp
abbrev numOp : ByteArray := ⟨#[110, 117, 109]⟩
theorem rnum_l1 {b : List Int} (hb : okB b) (hl : b.length ≤ 1000000000000) {a : Nat} {s : T_ref02_State} (hs : s.At = (a : Int)) (k : Nat) (hk : a + k ≤ b.length) (hk8 : k ≤ 8) : ∀ (d i : Nat), i + 1 + d = k →
    iter (f_ref02_num_l1 b s (k : Int)) (accN b a i, ((i + 1 : Nat) : Int)) = some (accN b a (k - 1))
  | 0, i, h => by
    refine iter_stop ?_
    unfold f_ref02_num_l1
    simp only
    rw [if_neg (fun q => absurd (of_decide_eq_true q) (by omega)), show k - 1 = i by omega]
  | d + 1, i, h => by
    have hb1 := accN_bnd (a := a) hb i (by omega)
    have hb2 := capN_le6 ⟨i, by omega⟩
    have hb3 := hb.at (i := a + (i + 1)) (by omega)
    have ea : IntKind.i64.wrap (s.At + ((i + 1 : Nat) : Int)) = ((a + (i + 1) : Nat) : Int) := by rw [hs, w_i64 (by omega) (by omega)]; omega
    simp only at hb2
    have hstep : f_ref02_num_l1 b s (k : Int) (accN b a i, ((i + 1 : Nat) : Int)) = some (.inl (accN b a (i + 1), ((i + 1 + 1 : Nat) : Int))) := by
      unfold f_ref02_num_l1
      simp only
      rw [if_pos (decide_eq_true (by omega)), ea, grd_t ⟨by omega, by omega⟩, w_u64 (n := accN b a i * 256) (by omega) (by omega), w_u64 (n := rd b ((a + (i + 1) : Nat) : Int)) (by omega) (by omega), w_u64 (by omega) (by omega), w_i64 (by omega) (by omega)]
      rfl
    rw [iter_next hstep]
    exact rnum_l1 hb hl hs k hk hk8 d (i + 1) (by omega)
theorem rnum_l0 {h : Int} (h0 : 0 ≤ h) (h1 : h ≤ 255) : iter f_ref02_num_l0 ((1 : Int), IntKind.u8.wrap (h.tdiv 64)) = some ((headK h : Nat) : Int) := by
  rw [Int.tdiv_eq_ediv_of_nonneg h0, w_u8 (by omega) (by omega)]
  have hq : h / 64 = 0 ∨ h / 64 = 1 ∨ h / 64 = 2 ∨ h / 64 = 3 := by omega
  unfold headK
  rcases hq with q | q | q | q <;> rw [q]
  · exact iter_run 2 rfl
  · exact iter_run 3 rfl
  · exact iter_run 4 rfl
  · exact iter_run 5 rfl
theorem rbad_eq (s : T_ref02_State) (h : s.Code = 0) (o : ByteArray) (a c : Int) : f_ref02_bad s o a c = some ⟨s.At, c, o, a⟩ := by
  unfold f_ref02_bad
  rw [if_neg (fun q => absurd h (of_decide_eq_true q))]
def numS (b : List Int) (a : Nat) (most : Int) : T_ref02_State × Int :=
  match numR b a most with
  | .inl c => (⟨(a : Int), c, numOp, (a : Int)⟩, 0)
  | .inr (n, a') => (⟨(a' : Int), 0, ⟨#[]⟩, 0⟩, n)
theorem rnum_read {b : List Int} (hb : okB b) (hl : b.length ≤ 1000000000000) {a : Nat} {s : T_ref02_State} (hs : s.At = (a : Int)) (hc : s.Code = 0) (most : Int) : f_ref02_num b s most = some (numS b a most) := by
  unfold f_ref02_num numS numR
  rw [if_neg (fun q => absurd hc (of_decide_eq_true q)), hs]
  by_cases g1 : b.length ≤ a
  · rw [if_pos (decide_eq_true (by omega)), if_pos g1, rbad_eq s hc, hs]; rfl
  rw [if_neg (fun q => absurd (of_decide_eq_true q) (by omega)), if_neg g1, grd_t ⟨by omega, by omega⟩]
  have hB := hb.at (i := a) (by omega)
  rw [rnum_l0 hB.1 hB.2]
  have hK := headK_le (rd b (a : Int))
  generalize hkk : headK (rd b (a : Int)) = k at hK
  simp only [Option.bind_some]
  have ea : IntKind.i64.wrap ((a : Int) + (k : Int)) = ((a + k : Nat) : Int) := by rw [w_i64 (by omega) (by omega)]; omega
  rw [ea]
  by_cases g2 : b.length < a + k
  · rw [if_pos (decide_eq_true (by omega)), if_pos g2, rbad_eq s hc, hs]; rfl
  rw [if_neg (fun q => absurd (of_decide_eq_true q) (by omega)), if_neg g2, grd_t ⟨by omega, by omega⟩]
  have e0 : IntKind.u64.wrap ((rd b (a : Int)).tmod 64) = accN b a 0 := by
    rw [Int.tmod_eq_emod_of_nonneg hB.1, w_u64 (by omega) (by omega)]; rfl
  have hloop := rnum_l1 hb hl hs k (by omega) (by omega) (k - 1) 0 (by omega)
  rw [show ((0 + 1 : Nat) : Int) = 1 from rfl] at hloop
  rw [e0, hloop]
  simp only [Option.bind_some, size_eq']
  by_cases g3 : sizeK (accN b a (k - 1)) = k
  · rw [if_neg (fun q => absurd (of_decide_eq_true q) (by omega)), if_neg (show ¬ (sizeK (accN b a (k - 1)) ≠ k) from fun q => q g3)]
    by_cases g4 : most < accN b a (k - 1)
    · rw [if_pos (decide_eq_true g4), if_pos g4, rbad_eq s hc, hs]; rfl
    · rw [if_neg (fun q => g4 (of_decide_eq_true q)), if_neg g4]
  · rw [if_pos (decide_eq_true (by omega)), if_pos g3, rbad_eq s hc, hs]; rfl
theorem fail_nil (b : List Int) (a : Int) (o : ByteArray) (at_ c : Int) : f_wire_Reader_fail ⟨b, a, .nil⟩ o at_ c = some (.fault o at_ (.code c)) := rfl
theorem fail_bad (b : List Int) (a : Int) (e : GErr) (h : e.isNil = false) (o : ByteArray) (at_ c : Int) : f_wire_Reader_fail ⟨b, a, e⟩ o at_ c = some e := by
  unfold f_wire_Reader_fail
  simp only [h]
  rfl
theorem next1 {b : List Int} (hb : okB b) {a i : Nat} (h : a + (i + 1) < b.length) (hi : i ≤ 6) (hl : b.length ≤ 1000000000000) : f_wire_Reader_Num_1 (accN b a i) (b.drop a) ((i + 1 : Nat) : Int) = some (accN b a (i + 1), ((i + 2 : Nat) : Int)) := by
  have hb1 := accN_bnd (a := a) hb i (by omega)
  have hb2 := capN_le6 ⟨i, by omega⟩
  have hb3 := hb.at (i := a + (i + 1)) h
  simp only at hb2
  unfold f_wire_Reader_Num_1
  rw [grd_t ⟨by omega, by simp; omega⟩, rd_drop, next8 (by omega) (by omega) hb3.1 hb3.2, w_i64 (by omega) (by omega)]
  rfl
theorem shl_head {h : Int} (h0 : 0 ≤ h) (h1 : h ≤ 255) : shlI .i64 1 (shrI .u8 h 6) = ((headK h : Nat) : Int) := by
  rw [(head_eq h0 h1).2]
  have hq : h / 64 = 0 ∨ h / 64 = 1 ∨ h / 64 = 2 ∨ h / 64 = 3 := by omega
  unfold headK
  rcases hq with q | q | q | q <;> rw [q]
  · exact shl_tab.1
  · exact shl_tab.2.1
  · exact shl_tab.2.2.1
  · exact shl_tab.2.2.2
theorem headK_cases (h : Int) : headK h = 1 ∨ headK h = 2 ∨ headK h = 4 ∨ headK h = 8 := by
  unfold headK
  split
  · simp
  split
  · simp
  split <;> simp
def leastK (k : Nat) : Int := if k = 8 then 1073741824 else if k = 4 then 16384 else if k = 2 then 64 else 0
def numP (b : List Int) (a : Nat) (most : Int) : Int × Int × GErr :=
  match numR b a most with
  | .inl c => (0, (a : Int), .fault numOp (a : Int) (.code c))
  | .inr (n, a') => (n, (a' : Int), .nil)
theorem wnum_tail (b : List Int) (a k : Nat) (most n : Int) (hk : k = 1 ∨ k = 2 ∨ k = 4 ∨ k = 8) (hn : 0 ≤ n) (hc : n ≤ capN (k - 1)) (ha : a + k ≤ b.length) (hl : b.length ≤ 1000000000000) :
    (if (decide (n < leastK k)) = true then ((f_wire_Reader_fail ⟨b, (a : Int), .nil⟩ numOp (a : Int) 5).bind fun (r103 : GErr) => (some ((0 : Int), (a : Int), r103))) else (if (decide (most < n)) = true then ((f_wire_Reader_fail ⟨b, (a : Int), .nil⟩ numOp (a : Int) 6).bind fun (r108 : GErr) => (some ((0 : Int), (a : Int), r108))) else (some (n, IntKind.i64.wrap ((a : Int) + (k : Int)), GErr.nil)))) =
    some (match (if sizeK n ≠ k then Sum.inl 5 else if most < n then Sum.inl 6 else Sum.inr (n, a + k) : Int ⊕ (Int × Nat)) with
      | .inl c => (0, (a : Int), .fault numOp (a : Int) (.code c))
      | .inr (n, a') => (n, (a' : Int), .nil)) := by
  have hs : (n < leastK k) ↔ sizeK n ≠ k := by
    unfold leastK sizeK
    rcases hk with rfl | rfl | rfl | rfl
    · have : capN (1 - 1) = 63 := rfl
      simp; omega
    · have : capN (2 - 1) = 16383 := rfl
      simp
      constructor
      · intro h; rw [if_pos h]; decide
      · intro h
        by_cases g : n < 64
        · exact g
        · rw [if_neg g, if_pos (by omega)] at h; exact absurd rfl h
    · have : capN (4 - 1) = 1073741823 := rfl
      simp
      constructor
      · intro h
        by_cases g : n < 64
        · rw [if_pos g]; decide
        · rw [if_neg g, if_pos h]; decide
      · intro h
        by_cases g : n < 16384
        · exact g
        · rw [if_neg (by omega), if_neg g, if_pos (by omega)] at h; exact absurd rfl h
    · simp
      constructor
      · intro h
        by_cases g : n < 64
        · rw [if_pos g]; decide
        · rw [if_neg g]
          by_cases g2 : n < 16384
          · rw [if_pos g2]; decide
          · rw [if_neg g2, if_pos h]; decide
      · intro h
        by_cases g : n < 1073741824
        · exact g
        · rw [if_neg (by omega), if_neg (by omega), if_neg g] at h; exact absurd rfl h
  have hk8 : k ≤ 8 := by omega
  by_cases g3 : sizeK n ≠ k
  · rw [if_pos (decide_eq_true (hs.2 g3)), if_pos g3]; rfl
  · rw [if_neg (fun q => g3 (hs.1 (of_decide_eq_true q))), if_neg g3]
    by_cases g4 : most < n
    · rw [if_pos (decide_eq_true g4), if_pos g4]; rfl
    · rw [if_neg (fun q => g4 (of_decide_eq_true q)), if_neg g4, w_i64 (by omega) (by omega)]; rfl
theorem wnum_read {b : List Int} (hb : okB b) (hl : b.length ≤ 1000000000000) {a : Nat} (ha : a ≤ b.length) (most : Int) : f_wire_Reader_Num ⟨b, (a : Int), .nil⟩ most = some (numP b a most) := by
  unfold f_wire_Reader_Num numP numR
  simp only [sub_end]
  rw [if_neg (show ¬ ((!GErr.isNil GErr.nil) = true) from by decide), grd_t ⟨by omega, by omega, by omega⟩]
  by_cases g1 : b.length ≤ a
  · rw [if_pos (decide_eq_true (by simp; omega)), if_pos g1]; rfl
  have hB := hb.at (i := a) (by omega)
  have e0 : rd (b.drop a) 0 = rd b (a : Int) := rd_drop b a 0
  have hK := headK_cases (rd b (a : Int))
  have eN : IntKind.u64.wrap (andI .u8 (rd b (a : Int)) 63) = accN b a 0 := by
    rw [(head_eq hB.1 hB.2).1, w_u64 (by omega) (by omega)]; rfl
  have hsh : 0 ≤ shrI .u8 (rd b (a : Int)) 6 := by rw [(head_eq hB.1 hB.2).2]; omega
  rw [if_neg (fun q => absurd (of_decide_eq_true q) (by simp; omega)), if_neg g1, grd_t ⟨by omega, by simp; omega⟩]
  simp only [e0, shl_head hB.1 hB.2, eN]
  rw [grd_t hsh]
  generalize hkk : headK (rd b (a : Int)) = k at hK
  by_cases g2 : b.length < a + k
  · rw [if_pos (decide_eq_true (by simp; omega)), if_pos g2]; rfl
  rw [if_neg (fun q => absurd (of_decide_eq_true q) (by simp; omega)), if_neg g2, grd_t ⟨by omega, by simp; omega⟩]
  have hbn : 0 ≤ accN b a (k - 1) ∧ accN b a (k - 1) ≤ capN (k - 1) := accN_bnd hb (k - 1) (by omega)
  have tail := wnum_tail b a k most (accN b a (k - 1)) hK hbn.1 hbn.2 (by omega) hl
  rcases hK with rfl | rfl | rfl | rfl
  · rw [if_neg (by decide), if_neg (by decide), if_neg (by decide)]
    exact tail
  · have n1 : f_wire_Reader_Num_1 (accN b a 0) (b.drop a) 1 = some (accN b a 1, 2) := next1 hb (i := 0) (by omega) (by decide) hl
    rw [if_neg (by decide), if_neg (by decide), if_pos (by decide)]
    simp only [Option.bind_some, Sum.elim_inl, Sum.elim_inr, n1]
    exact tail
  · have n1 : f_wire_Reader_Num_1 (accN b a 0) (b.drop a) 1 = some (accN b a 1, 2) := next1 hb (i := 0) (by omega) (by decide) hl
    have n2 : f_wire_Reader_Num_1 (accN b a 1) (b.drop a) 2 = some (accN b a 2, 3) := next1 hb (i := 1) (by omega) (by decide) hl
    have n3 : f_wire_Reader_Num_1 (accN b a 2) (b.drop a) 3 = some (accN b a 3, 4) := next1 hb (i := 2) (by omega) (by decide) hl
    rw [if_neg (by decide), if_pos (by decide)]
    simp only [Option.bind_some, Sum.elim_inl, Sum.elim_inr, n1, n2, n3]
    exact tail
  · have n1 : f_wire_Reader_Num_1 (accN b a 0) (b.drop a) 1 = some (accN b a 1, 2) := next1 hb (i := 0) (by omega) (by decide) hl
    have n2 : f_wire_Reader_Num_1 (accN b a 1) (b.drop a) 2 = some (accN b a 2, 3) := next1 hb (i := 1) (by omega) (by decide) hl
    have n3 : f_wire_Reader_Num_1 (accN b a 2) (b.drop a) 3 = some (accN b a 3, 4) := next1 hb (i := 2) (by omega) (by decide) hl
    have n4 : f_wire_Reader_Num_1 (accN b a 3) (b.drop a) 4 = some (accN b a 4, 5) := next1 hb (i := 3) (by omega) (by decide) hl
    have n5 : f_wire_Reader_Num_1 (accN b a 4) (b.drop a) 5 = some (accN b a 5, 6) := next1 hb (i := 4) (by omega) (by decide) hl
    have n6 : f_wire_Reader_Num_1 (accN b a 5) (b.drop a) 6 = some (accN b a 6, 7) := next1 hb (i := 5) (by omega) (by decide) hl
    have n7 : f_wire_Reader_Num_1 (accN b a 6) (b.drop a) 7 = some (accN b a 7, 8) := next1 hb (i := 6) (by omega) (by decide) hl
    rw [if_pos (by decide)]
    simp only [Option.bind_some, Sum.elim_inl, Sum.elim_inr, n1, n2, n3, n4, n5, n6, n7]
    exact tail
theorem wnum_bad {b : List Int} {a : Int} {e : GErr} (h : e.isNil = false) (most : Int) : f_wire_Reader_Num ⟨b, a, e⟩ most = some (0, a, e) := by
  unfold f_wire_Reader_Num
  rw [if_pos (by simp [h])]
theorem numR_ok {b : List Int} (hb : okB b) {a : Nat} {most n : Int} {a' : Nat} (h : numR b a most = .inr (n, a')) : 0 ≤ n ∧ n ≤ top ∧ n ≤ most ∧ a < a' ∧ a' ≤ b.length ∧ a' ≤ a + 8 := by
  unfold numR at h
  have hk := headK_le (rd b (a : Int))
  split at h
  · cases h
  split at h
  · cases h
  split at h
  · cases h
  split at h
  · cases h
  · cases h
    have h1 := accN_bnd (a := a) hb (headK (rd b (a : Int)) - 1) (by omega)
    have h2 := capN_le ⟨headK (rd b (a : Int)) - 1, by omega⟩
    simp only at h2
    exact ⟨h1.1, by omega, by omega, by omega, by omega, by omega⟩
theorem numR_code {b : List Int} {a : Nat} {most c : Int} (h : numR b a most = .inl c) : c = 3 ∨ c = 5 ∨ c = 6 := by
  unfold numR at h
  split at h
  · cases h; simp
  split at h
  · cases h; simp
  split at h
  · cases h; simp
  split at h
  · cases h; simp
  · cases h
def pos0 (n : Int) : Int := if n < 0 then 0 else n
theorem wint_read {b : List Int} (hb : okB b) (hl : b.length ≤ 1000000000000) {a : Nat} (ha : a ≤ b.length) {most : Int} (hm : most ≤ 9223372036854775807) : f_wire_Reader_Int ⟨b, (a : Int), .nil⟩ most = some (numP b a (pos0 most)) := by
  unfold f_wire_Reader_Int
  have hp : 0 ≤ pos0 most ∧ pos0 most ≤ 9223372036854775807 := by unfold pos0; split <;> omega
  rw [show (if most < (0 : Int) then (0 : Int) else most) = pos0 most from rfl, w_u64 hp.1 (by omega), wnum_read hb hl ha]
  simp only [Option.bind_some]
  unfold numP
  cases h : numR b a (pos0 most) with
  | inl c => rfl
  | inr x =>
    obtain ⟨n, a'⟩ := x
    have := numR_ok hb h
    unfold top at this
    simp only
    rw [w_i64 (by omega) (by omega)]
theorem wint_bad {b : List Int} {a : Int} {e : GErr} (h : e.isNil = false) (most : Int) : f_wire_Reader_Int ⟨b, a, e⟩ most = some (0, a, e) := by
  unfold f_wire_Reader_Int
  rw [wnum_bad h]; rfl
abbrev flagOp : ByteArray := ⟨#[102, 108, 97, 103]⟩
abbrev textOp : ByteArray := ⟨#[116, 101, 120, 116]⟩
abbrev endOp : ByteArray := ⟨#[101, 110, 100]⟩
abbrev RdR (α : Type) := (Int × ByteArray × Int × Nat) ⊕ (α × Nat)
def numRR (b : List Int) (a : Nat) (most : Int) : RdR Int := match numR b a most with
  | .inl c => .inl (c, numOp, (a : Int), a)
  | .inr x => .inr x
def flagR (b : List Int) (a : Nat) : RdR Bool :=
  if b.length ≤ a then .inl (3, flagOp, (a : Int), a) else if 1 < rd b (a : Int) then .inl (5, flagOp, (a : Int), a) else .inr (decide (rd b (a : Int) = 1), a + 1)
def textR (b : List Int) (a : Nat) (most : Int) : RdR (List Int) := match numR b a (pos0 most) with
  | .inl c => .inl (c, numOp, (a : Int), a)
  | .inr (n, a') => if ((b.length - a' : Nat) : Int) < n then .inl (3, textOp, (a : Int), a) else .inr ((b.drop a').take n.toNat, a' + n.toNat)
def rowG (b : List Int) (each : Int) : Nat → Nat → List Int → RdR (List Int)
  | 0, a, l => .inr (l, a)
  | k + 1, a, l => match numR b a (pos0 each) with
    | .inl c => .inl (c, numOp, (a : Int), a)
    | .inr (n, a') => rowG b each k a' (l ++ [n])
def rowR (b : List Int) (a : Nat) (many each : Int) : RdR (List Int) := match numR b a (pos0 many) with
  | .inl c => .inl (c, numOp, (a : Int), a)
  | .inr (n, a') => rowG b each n.toNat a' []
def asP {α : Type} (z : α) : RdR α → α × Int × GErr
  | .inl (c, o, w, a) => (z, (a : Int), .fault o w (.code c))
  | .inr (x, a) => (x, (a : Int), .nil)
def asS {α : Type} (z : α) : RdR α → T_ref02_State × α
  | .inl (c, o, w, a) => (⟨(a : Int), c, o, w⟩, z)
  | .inr (x, a) => (⟨(a : Int), 0, ⟨#[]⟩, 0⟩, x)
theorem numP_as (b : List Int) (a : Nat) (most : Int) : numP b a most = asP 0 (numRR b a most) := by
  unfold numP numRR
  cases numR b a most <;> rfl
theorem numS_as (b : List Int) (a : Nat) (most : Int) : numS b a most = asS 0 (numRR b a most) := by
  unfold numS numRR
  cases numR b a most <;> rfl
theorem wflag_read {b : List Int} (hb : okB b) (hl : b.length ≤ 1000000000000) (a : Nat) : f_wire_Reader_Flag ⟨b, (a : Int), .nil⟩ = some (asP false (flagR b a)) := by
  unfold f_wire_Reader_Flag flagR
  dsimp only
  rw [if_neg (show ¬ ((!GErr.isNil GErr.nil) = true) from by decide)]
  by_cases g1 : b.length ≤ a
  · rw [if_pos (decide_eq_true (by omega)), if_pos g1]; rfl
  rw [if_neg (fun q => absurd (of_decide_eq_true q) (by omega)), if_neg g1, grd_t ⟨by omega, by omega⟩]
  by_cases g2 : 1 < rd b (a : Int)
  · rw [if_pos (decide_eq_true g2), if_pos g2]; rfl
  have e1 : IntKind.i64.wrap ((a : Int) + 1) = ((a + 1 : Nat) : Int) := by rw [w_i64 (by omega) (by omega)]; omega
  have e2 : IntKind.i64.wrap (((a + 1 : Nat) : Int) - 1) = (a : Int) := by rw [w_i64 (by omega) (by omega)]; omega
  rw [if_neg (fun q => g2 (of_decide_eq_true q)), if_neg g2]
  simp only [e1, e2]
  rw [grd_t ⟨by omega, by omega⟩]; rfl
theorem wflag_bad {b : List Int} {a : Int} {e : GErr} (h : e.isNil = false) : f_wire_Reader_Flag ⟨b, a, e⟩ = some (false, a, e) := by
  unfold f_wire_Reader_Flag
  rw [if_pos (by simp [h])]; rfl
theorem clone_eq (l : List Int) (h : l.length ≤ 1000000000) : f_slices_Clone_byte_byte l = some l := by
  unfold f_slices_Clone_byte_byte
  rw [grd_t (by simp; omega)]; simp
theorem wtext_read {b : List Int} (hb : okB b) (hl : b.length ≤ 1000000000) {a : Nat} (ha : a ≤ b.length) {most : Int} (hm : most ≤ 9223372036854775807) : f_wire_Reader_Text ⟨b, (a : Int), .nil⟩ most = some (asP [] (textR b a most)) := by
  unfold f_wire_Reader_Text textR
  rw [wint_read hb (by omega) ha hm]
  unfold numP
  cases h : numR b a (pos0 most) with
  | inl c => rfl
  | inr x =>
    obtain ⟨n, a'⟩ := x
    have hn := numR_ok hb h
    unfold top at hn
    simp only [Option.bind_some]
    rw [if_neg (show ¬ ((!GErr.isNil GErr.nil) = true) from by decide), w_i64 (n := (b.length : Int) - (a' : Int)) (by omega) (by omega)]
    by_cases g : ((b.length - a' : Nat) : Int) < n
    · rw [if_pos (decide_eq_true (by omega)), if_pos g]; rfl
    · obtain ⟨N, rfl⟩ := Int.eq_ofNat_of_zero_le hn.1
      have e1 : IntKind.i64.wrap ((a' : Int) + (N : Int)) = ((a' + N : Nat) : Int) := by rw [w_i64 (by omega) (by omega)]; omega
      have e2 : IntKind.i64.wrap (((a' + N : Nat) : Int) - (N : Int)) = (a' : Int) := by rw [w_i64 (by omega) (by omega)]; omega
      rw [if_neg (fun q => absurd (of_decide_eq_true q) (by omega)), if_neg g]
      simp only [e1, e2]
      rw [grd_t ⟨by omega, by omega, by omega⟩, sub_nat, clone_eq _ (by simp; omega)]
      rw [show a' + N - a' = N by omega]; rfl
theorem wtext_bad {b : List Int} {a : Int} {e : GErr} (h : e.isNil = false) (most : Int) : f_wire_Reader_Text ⟨b, a, e⟩ most = some ([], a, e) := by
  unfold f_wire_Reader_Text
  rw [wint_bad h]
  simp only [Option.bind_some]
  rw [if_pos (by simp [h])]
theorem wrow_rloop {b : List Int} (hb : okB b) (hl : b.length ≤ 1000000000) (r : T_wire_Reader) (hr : r.b = b) {each : Int} (he : each ≤ 9223372036854775807) (N : Nat) (hN : N ≤ 4611686018427387903) : ∀ (k i a : Nat) (l : List Int), i + k = N → a ≤ b.length → l.length ≤ a →
    ∃ l', iter (f_wire_Reader_Row_l0 r each (N : Int)) (l, (i : Int), (a : Int), .nil) = some (l', (asP [] (rowG b each k a l)).2) ∧ ((asP [] (rowG b each k a l)).2.2.isNil = true → l' = (asP [] (rowG b each k a l)).1)
  | 0, i, a, l, hi, ha, hla => by
    refine ⟨l, iter_stop ?_, fun _ => rfl⟩
    unfold f_wire_Reader_Row_l0
    simp only
    rw [if_neg (fun q => absurd (of_decide_eq_true q) (by omega))]
    rfl
  | k + 1, i, a, l, hi, ha, hla => by
    have hstep : f_wire_Reader_Row_l0 r each (N : Int) (l, (i : Int), (a : Int), .nil) = some (.inl (l ++ [(numP b a (pos0 each)).1], ((i + 1 : Nat) : Int), (numP b a (pos0 each)).2.1, (numP b a (pos0 each)).2.2)) := by
      unfold f_wire_Reader_Row_l0
      simp only
      rw [if_pos (decide_eq_true (by omega)), hr, wint_read hb (by omega) ha he]
      simp only [Option.bind_some, GErr.isNil, if_true]
      rw [grd_t (by simp; omega), w_i64 (by omega) (by omega)]
      rfl
    rw [iter_next hstep]
    unfold numP rowG
    cases h : numR b a (pos0 each) with
    | inl c =>
      refine ⟨l ++ [0], iter_stop ?_, fun q => by cases q⟩
      unfold f_wire_Reader_Row_l0
      simp only
      by_cases g : ((i + 1 : Nat) : Int) < (N : Int)
      · rw [if_pos (decide_eq_true g)]; rfl
      · rw [if_neg (fun q => g (of_decide_eq_true q))]; rfl
    | inr x =>
      obtain ⟨n, a'⟩ := x
      have hn := numR_ok hb h
      exact wrow_rloop hb hl r hr he N hN k (i + 1) a' (l ++ [n]) (by omega) (by omega) (by simp; omega)
theorem wrow_read {b : List Int} (hb : okB b) (hl : b.length ≤ 1000000000) {a : Nat} (ha : a ≤ b.length) {many each : Int} (hm : many ≤ 9223372036854775807) (he : each ≤ 9223372036854775807) : f_wire_Reader_Row ⟨b, (a : Int), .nil⟩ many each = some (asP [] (rowR b a many each)) := by
  unfold f_wire_Reader_Row rowR
  rw [wint_read hb (by omega) ha hm]
  unfold numP
  cases h : numR b a (pos0 many) with
  | inl c =>
    simp only [Option.bind_some]
    rw [iter_stop (e := ([], (a : Int), .fault numOp (a : Int) (.code c))) rfl]
    rfl
  | inr x =>
    obtain ⟨n, a'⟩ := x
    have hn := numR_ok hb h
    unfold top at hn
    obtain ⟨N, rfl⟩ := Int.eq_ofNat_of_zero_le hn.1
    simp only [Option.bind_some]
    obtain ⟨l', h1, h2⟩ := wrow_rloop hb hl ⟨b, (a : Int), .nil⟩ rfl he N (by omega) N 0 a' [] (by omega) (by omega) (by simp)
    rw [show ((0 : Nat) : Int) = 0 from rfl] at h1
    rw [h1, show ((N : Int)).toNat = N by omega]
    simp only [Option.bind_some]
    cases hr : rowG b each N a' [] with
    | inl x => rfl
    | inr x =>
      rw [hr] at h2
      rw [h2 rfl]
      rfl
theorem wrow_bad {b : List Int} {a : Int} {e : GErr} (h : e.isNil = false) (many each : Int) : f_wire_Reader_Row ⟨b, a, e⟩ many each = some ([], a, e) := by
  unfold f_wire_Reader_Row
  rw [wint_bad h]
  simp only [Option.bind_some]
  rw [iter_stop (e := ([], a, e)) (by
    unfold f_wire_Reader_Row_l0
    rfl)]
  simp [h]
theorem wend_eq (b : List Int) (a : Int) (e : GErr) : f_wire_Reader_End ⟨b, a, e⟩ = some (if a < (b.length : Int) ∧ e.isNil = true then (.fault endOp a (.code 5), .fault endOp a (.code 5)) else (e, e)) := by
  unfold f_wire_Reader_End
  by_cases g : a < (b.length : Int)
  · rw [if_pos (decide_eq_true g)]
    cases h : e.isNil with
    | true =>
      rw [if_pos ⟨g, rfl⟩]
      obtain rfl : e = .nil := by cases e <;> first | rfl | cases h
      rfl
    | false => rw [fail_bad _ _ _ h, if_neg (by simp)]; rfl
  · rw [if_neg (fun q => g (of_decide_eq_true q)), if_neg (fun q => g q.1)]; rfl

/-! ### the reference reads -/
theorem above_eq {n : Int} (h : n ≤ 9223372036854775807) : f_ref02_above n = some (pos0 n) := by
  unfold f_ref02_above pos0
  by_cases g : n < 0
  · rw [if_pos (decide_eq_true g), if_pos g]
  · rw [if_neg (fun q => g (of_decide_eq_true q)), if_neg g, w_u64 (by omega) (by omega)]
theorem rtext_read {b : List Int} (hb : okB b) (hl : b.length ≤ 1000000000) {a : Nat} {s : T_ref02_State} (hs : s.At = (a : Int)) (hc : s.Code = 0) {most : Int} (hm : most ≤ 9223372036854775807) : f_ref02_text b s most = some (asS [] (textR b a most)) := by
  unfold f_ref02_text textR
  rw [above_eq hm]
  simp only [Option.bind_some]
  rw [rnum_read hb (by omega) hs hc]
  unfold numS
  cases h : numR b a (pos0 most) with
  | inl c =>
    have hc := numR_code h
    simp only [Option.bind_some]
    rw [if_pos (decide_eq_true (by omega))]; rfl
  | inr x =>
    obtain ⟨n, a'⟩ := x
    have hn := numR_ok hb h
    unfold top at hn
    obtain ⟨N, rfl⟩ := Int.eq_ofNat_of_zero_le hn.1
    simp only [Option.bind_some]
    rw [if_neg (by simp), w_i64 (n := (b.length : Int) - (a' : Int)) (by omega) (by omega), w_u64 (by omega) (by omega), w_i64 (n := (N : Int)) (by omega) (by omega)]
    by_cases g : ((b.length - a' : Nat) : Int) < (N : Int)
    · rw [if_pos (decide_eq_true (by omega)), if_pos g, hs]; rfl
    · have e1 : IntKind.i64.wrap ((a' : Int) + (N : Int)) = ((a' + N : Nat) : Int) := by rw [w_i64 (by omega) (by omega)]; omega
      rw [if_neg (fun q => absurd (of_decide_eq_true q) (by omega)), if_neg g]
      simp only [e1]
      rw [grd_t ⟨by omega, by omega, by omega⟩, sub_nat, show a' + N - a' = N by omega]; rfl
theorem rrow_rloop {b : List Int} (hb : okB b) (hl : b.length ≤ 1000000000) {each : Int} (he : each ≤ 9223372036854775807) (N : Nat) (hN : N ≤ 4611686018427387903) : ∀ (k i a : Nat) (o : ByteArray) (w : Int) (l : List Int), i + k = N → a ≤ b.length → l.length ≤ a →
    ∃ l' o' w', iter (f_ref02_row_l0 b each (N : Int)) (l, (i : Int), (a : Int), 0, o, w) = some (l', (asS [] (rowG b each k a l)).1.At, (asS [] (rowG b each k a l)).1.Code, o', w') ∧
      ((asS [] (rowG b each k a l)).1.Code = 0 → l' = (asS [] (rowG b each k a l)).2) ∧ ((asS [] (rowG b each k a l)).1.Code ≠ 0 → o' = (asS [] (rowG b each k a l)).1.Op ∧ w' = (asS [] (rowG b each k a l)).1.Where)
  | 0, i, a, o, w, l, hi, ha, hla => by
    refine ⟨l, o, w, iter_stop ?_, fun _ => rfl, fun q => absurd rfl q⟩
    unfold f_ref02_row_l0
    simp only
    rw [if_neg (fun q => absurd (of_decide_eq_true q) (by omega))]
    rfl
  | k + 1, i, a, o, w, l, hi, ha, hla => by
    have hv : ∀ n a', numR b a (pos0 each) = .inr (n, a') → IntKind.i64.wrap n = n := fun n a' h => by
      have hn := numR_ok hb h
      unfold top at hn
      exact w_i64 (by omega) (by omega)
    have hstep : f_ref02_row_l0 b each (N : Int) (l, (i : Int), (a : Int), 0, o, w) = some (.inl (l ++ [IntKind.i64.wrap (numS b a (pos0 each)).2], ((i + 1 : Nat) : Int), (numS b a (pos0 each)).1.At, (numS b a (pos0 each)).1.Code, (numS b a (pos0 each)).1.Op, (numS b a (pos0 each)).1.Where)) := by
      unfold f_ref02_row_l0
      simp only
      rw [if_pos (decide_eq_true (by omega)), above_eq he]
      simp only [Option.bind_some]
      rw [rnum_read hb (by omega) (a := a) rfl rfl]
      simp only [Option.bind_some, decide_true, if_true]
      rw [grd_t (by simp; omega), w_u64 (by omega) (by omega)]
      rfl
    rw [iter_next hstep]
    unfold numS rowG
    cases h : numR b a (pos0 each) with
    | inl c =>
      have hc := numR_code h
      have hc0 : c ≠ 0 := by omega
      refine ⟨l ++ [0], numOp, (a : Int), iter_stop ?_, fun q => absurd q hc0, fun _ => ⟨rfl, rfl⟩⟩
      unfold f_ref02_row_l0
      simp only
      have e : (decide (c = 0)) = false := decide_eq_false hc0
      by_cases g : ((i + 1 : Nat) : Int) < (N : Int)
      · rw [if_pos (decide_eq_true g), e]; rfl
      · rw [if_neg (fun q => g (of_decide_eq_true q))]; rfl
    | inr x =>
      obtain ⟨n, a'⟩ := x
      have hn := numR_ok hb h
      simp only
      rw [hv n a' h]
      exact rrow_rloop hb hl he N hN k (i + 1) a' _ _ (l ++ [n]) (by omega) (by omega) (by simp; omega)
def sameS (s t : T_ref02_State) : Prop := s.At = t.At ∧ s.Code = t.Code ∧ (s.Code ≠ 0 → s.Op = t.Op ∧ s.Where = t.Where)
theorem sameS.refl (s : T_ref02_State) : sameS s s := ⟨rfl, rfl, fun _ => ⟨rfl, rfl⟩⟩
theorem rrow_read {b : List Int} (hb : okB b) (hl : b.length ≤ 1000000000) {a : Nat} {s : T_ref02_State} (hs : s.At = (a : Int)) (hc : s.Code = 0) {many each : Int} (hm : many ≤ 9223372036854775807) (he : each ≤ 9223372036854775807) :
    ∃ t, f_ref02_row b s many each = some (t, (asS [] (rowR b a many each)).2) ∧ sameS t (asS [] (rowR b a many each)).1 := by
  unfold f_ref02_row rowR
  rw [above_eq hm]
  simp only [Option.bind_some]
  rw [rnum_read hb (by omega) hs hc]
  unfold numS
  cases h : numR b a (pos0 many) with
  | inl c =>
    have hc := numR_code h
    have hc0 : c ≠ 0 := by omega
    simp only [Option.bind_some]
    rw [iter_stop (e := ([], (a : Int), c, numOp, (a : Int))) rfl]
    simp only [Option.bind_some]
    rw [if_pos (decide_eq_true hc0)]
    exact ⟨_, rfl, .refl _⟩
  | inr x =>
    obtain ⟨n, a'⟩ := x
    have hn := numR_ok hb h
    unfold top at hn
    obtain ⟨N, rfl⟩ := Int.eq_ofNat_of_zero_le hn.1
    simp only [Option.bind_some]
    obtain ⟨l', o', w', h1, h2, h3⟩ := rrow_rloop hb hl he N (by omega) N 0 a' ⟨#[]⟩ 0 [] (by omega) (by omega) (by simp)
    rw [show ((0 : Nat) : Int) = 0 from rfl] at h1
    rw [h1, show ((N : Int)).toNat = N by omega]
    simp only [Option.bind_some]
    generalize rowG b each N a' [] = R at h2 h3 ⊢
    by_cases g : (asS [] R).1.Code = 0
    · rw [if_neg (fun q => absurd g (of_decide_eq_true q)), h2 g]
      exact ⟨_, rfl, rfl, rfl, fun q => absurd g q⟩
    · rw [if_pos (decide_eq_true g)]
      cases R with
      | inl x => exact ⟨_, rfl, rfl, rfl, h3⟩
      | inr x => exact absurd rfl g
theorem rend_eq (b : List Int) (s : T_ref02_State) : f_ref02_End b s = some (if s.At < (b.length : Int) ∧ s.Code = 0 then ⟨s.At, 5, endOp, s.At⟩ else s) := by
  unfold f_ref02_End
  by_cases g : s.At < (b.length : Int)
  · rw [if_pos (decide_eq_true g)]
    by_cases h : s.Code = 0
    · rw [rbad_eq s h, if_pos ⟨g, h⟩]; rfl
    · rw [if_neg (fun q => h q.2)]
      unfold f_ref02_bad
      rw [if_pos (decide_eq_true h)]; rfl
  · rw [if_neg (fun q => g (of_decide_eq_true q)), if_neg (fun q => g q.1)]
/-! ### what is read was written just so -/
/-! ### what is written is read -/
theorem rd_mid (pre x post : List Int) {i : Nat} (hi : i < x.length) : rd (pre ++ (x ++ post)) ((pre.length + i : Nat) : Int) = rd x (i : Int) := by
  rw [rdn (show pre.length + i < (pre ++ (x ++ post)).length by simp; omega), rdn hi]
  rw [List.getElem_append_right (by omega)]
  simp only [Nat.add_sub_cancel_left]
  rw [List.getElem_append_left hi]
theorem rd_mid0 (pre x post : List Int) (hi : 0 < x.length) : rd (pre ++ (x ++ post)) (pre.length : Int) = rd x 0 := rd_mid pre x post hi
theorem num_back (pre post : List Int) {n most : Int} (h0 : 0 ≤ n) (h1 : n ≤ top) (hm : n ≤ most) : numR (pre ++ (numB n ++ post)) pre.length most = .inr (n, pre.length + (numB n).length) := by
  have hcap : cap62 n = n := by unfold cap62; rw [if_neg (by omega)]
  have e : numB n = numC n := by unfold numB; rw [hcap]
  rw [e]
  have ht := h1
  unfold top at ht
  have key : ∀ k, (numC n).length = k → headK (rd (numC n) 0) = k → sizeK n = k → 1 ≤ k → accN (pre ++ (numC n ++ post)) pre.length (k - 1) = n → numR (pre ++ (numC n ++ post)) pre.length most = .inr (n, pre.length + (numC n).length) := by
    intro k hk hh hs hk1 ha
    unfold numR
    rw [rd_mid0 pre (numC n) post (by omega), hh, ha, hs, hk, if_neg (by simp; omega), if_neg (by simp; omega), if_neg (by simp), if_neg (by omega)]
  by_cases c1 : n < 64
  · have ec : numC n = [n] := by unfold numC; rw [if_pos c1]
    refine key 1 (by rw [ec]; rfl) ?_ (by unfold sizeK; rw [if_pos c1]) (by decide) ?_
    · rw [ec]; show headK n = 1; unfold headK; rw [if_pos (by omega)]
    · show rd _ (pre.length : Int) % 64 = n
      rw [rd_mid0 pre (numC n) post (by rw [ec]; simp), ec]
      show n % 64 = n
      omega
  by_cases c2 : n < 16384
  · have ec : numC n = [64 + n / 256, n % 256] := by unfold numC; rw [if_neg c1, if_pos c2]
    refine key 2 (by rw [ec]; rfl) ?_ (by unfold sizeK; rw [if_neg c1, if_pos c2]) (by decide) ?_
    · rw [ec]; show headK (64 + n / 256) = 2; unfold headK; rw [if_neg (by omega), if_pos (by omega)]
    · show rd _ (pre.length : Int) % 64 * 256 + rd _ ((pre.length + 1 : Nat) : Int) = n
      rw [rd_mid0 pre (numC n) post (by rw [ec]; simp), rd_mid pre (numC n) post (i := 1) (by rw [ec]; simp), ec]
      show (64 + n / 256) % 64 * 256 + n % 256 = n
      omega
  by_cases c3 : n < 1073741824
  · have ec : numC n = [128 + n / 256 / 256 / 256, n / 256 / 256 % 256, n / 256 % 256, n % 256] := by unfold numC; rw [if_neg c1, if_neg c2, if_pos c3]
    refine key 4 (by rw [ec]; rfl) ?_ (by unfold sizeK; rw [if_neg c1, if_neg c2, if_pos c3]) (by decide) ?_
    · rw [ec]; show headK (128 + n / 256 / 256 / 256) = 4; unfold headK; rw [if_neg (by omega), if_neg (by omega), if_pos (by omega)]
    · show ((rd _ (pre.length : Int) % 64 * 256 + rd _ ((pre.length + 1 : Nat) : Int)) * 256 + rd _ ((pre.length + 2 : Nat) : Int)) * 256 + rd _ ((pre.length + 3 : Nat) : Int) = n
      rw [rd_mid0 pre (numC n) post (by rw [ec]; simp), rd_mid pre (numC n) post (i := 1) (by rw [ec]; simp), rd_mid pre (numC n) post (i := 2) (by rw [ec]; simp), rd_mid pre (numC n) post (i := 3) (by rw [ec]; simp), ec]
      show (((128 + n / 256 / 256 / 256) % 64 * 256 + n / 256 / 256 % 256) * 256 + n / 256 % 256) * 256 + n % 256 = n
      rw [show (128 + n / 256 / 256 / 256) % 64 = n / 256 / 256 / 256 by omega, show n / 256 / 256 / 256 * 256 + n / 256 / 256 % 256 = n / 256 / 256 by omega, show n / 256 / 256 * 256 + n / 256 % 256 = n / 256 by omega]
      omega
  · have ec : numC n = [192 + n / 256 / 256 / 256 / 256 / 256 / 256 / 256, n / 256 / 256 / 256 / 256 / 256 / 256 % 256, n / 256 / 256 / 256 / 256 / 256 % 256, n / 256 / 256 / 256 / 256 % 256, n / 256 / 256 / 256 % 256, n / 256 / 256 % 256, n / 256 % 256, n % 256] := by unfold numC; rw [if_neg c1, if_neg c2, if_neg c3]
    have hx : 0 ≤ n / 256 / 256 / 256 / 256 / 256 / 256 / 256 ∧ n / 256 / 256 / 256 / 256 / 256 / 256 / 256 < 64 := by omega
    refine key 8 (by rw [ec]; rfl) ?_ (by unfold sizeK; rw [if_neg c1, if_neg c2, if_neg c3]) (by decide) ?_
    · rw [ec]; show headK (192 + n / 256 / 256 / 256 / 256 / 256 / 256 / 256) = 8; unfold headK
      generalize n / 256 / 256 / 256 / 256 / 256 / 256 / 256 = x at hx
      rw [if_neg (by omega), if_neg (by omega), if_neg (by omega)]
    · show ((((((rd _ (pre.length : Int) % 64 * 256 + rd _ ((pre.length + 1 : Nat) : Int)) * 256 + rd _ ((pre.length + 2 : Nat) : Int)) * 256 + rd _ ((pre.length + 3 : Nat) : Int)) * 256 + rd _ ((pre.length + 4 : Nat) : Int)) * 256 + rd _ ((pre.length + 5 : Nat) : Int)) * 256 + rd _ ((pre.length + 6 : Nat) : Int)) * 256 + rd _ ((pre.length + 7 : Nat) : Int) = n
      rw [rd_mid0 pre (numC n) post (by rw [ec]; simp), rd_mid pre (numC n) post (i := 1) (by rw [ec]; simp), rd_mid pre (numC n) post (i := 2) (by rw [ec]; simp), rd_mid pre (numC n) post (i := 3) (by rw [ec]; simp), rd_mid pre (numC n) post (i := 4) (by rw [ec]; simp), rd_mid pre (numC n) post (i := 5) (by rw [ec]; simp), rd_mid pre (numC n) post (i := 6) (by rw [ec]; simp), rd_mid pre (numC n) post (i := 7) (by rw [ec]; simp), ec]
      show (((((((192 + n / 256 / 256 / 256 / 256 / 256 / 256 / 256) % 64 * 256 + n / 256 / 256 / 256 / 256 / 256 / 256 % 256) * 256 + n / 256 / 256 / 256 / 256 / 256 % 256) * 256 + n / 256 / 256 / 256 / 256 % 256) * 256 + n / 256 / 256 / 256 % 256) * 256 + n / 256 / 256 % 256) * 256 + n / 256 % 256) * 256 + n % 256 = n
      have dm : ∀ x : Int, x / 256 * 256 + x % 256 = x := fun x => by omega
      have h64 : (192 + n / 256 / 256 / 256 / 256 / 256 / 256 / 256) % 64 = n / 256 / 256 / 256 / 256 / 256 / 256 / 256 := by
        generalize n / 256 / 256 / 256 / 256 / 256 / 256 / 256 = x at hx
        omega
      rw [h64, dm, dm, dm, dm, dm, dm, dm]
theorem int_back (pre post : List Int) {n most : Int} (h0 : 0 ≤ n) (h1 : n ≤ top) (hm : n ≤ most) : numR (pre ++ (intB n ++ post)) pre.length most = .inr (n, pre.length + (intB n).length) := by
  unfold intB
  rw [if_neg (by omega)]
  exact num_back pre post h0 h1 hm
theorem flag_back (pre post : List Int) (is : Bool) : flagR (pre ++ (flagB is ++ post)) pre.length = .inr (is, pre.length + (flagB is).length) := by
  unfold flagR
  have hl : (flagB is).length = 1 := by cases is <;> rfl
  rw [rd_mid0 pre (flagB is) post (by omega), if_neg (by simp; omega)]
  cases is <;> rfl
theorem text_back (pre post s : List Int) {most : Int} (hm : (s.length : Int) ≤ most) (hs : s.length ≤ 1000000000) : textR (pre ++ (textB s ++ post)) pre.length most = .inr (s, pre.length + (textB s).length) := by
  unfold textR textB
  have hp : pos0 most = most := by unfold pos0; rw [if_neg (by omega)]
  have e : pre ++ (intB (s.length : Int) ++ s ++ post) = pre ++ (intB (s.length : Int) ++ (s ++ post)) := by simp
  rw [e, hp, int_back pre (s ++ post) (by omega) (by unfold top; omega) hm]
  simp only
  rw [if_neg (by simp; omega)]
  congr 2
  · rw [show ((s.length : Int)).toNat = s.length by omega, ← List.append_assoc, show pre.length + (intB (s.length : Int)).length = (pre ++ intB (s.length : Int)).length by simp, List.drop_left, List.take_left]
  · simp; omega
theorem ints_back {each : Int} (he : each ≤ top) : ∀ (l pre post acc : List Int), (∀ x ∈ l, 0 ≤ x ∧ x ≤ each) → rowG (pre ++ (intsB l ++ post)) each l.length pre.length acc = .inr (acc ++ l, pre.length + (intsB l).length)
  | [], pre, post, acc, _ => by simp [rowG, intsB]
  | x :: l, pre, post, acc, h => by
    have hx := h x (by simp)
    have hp : pos0 each = each := by unfold pos0; rw [if_neg (by omega)]
    have e : pre ++ (intsB (x :: l) ++ post) = pre ++ (intB x ++ (intsB l ++ post)) := by rw [intsB_cons]; simp
    rw [e, List.length_cons]
    unfold rowG
    rw [hp, int_back pre (intsB l ++ post) hx.1 (by omega) hx.2]
    simp only
    have ih := ints_back he l (pre ++ intB x) post (acc ++ [x]) (fun y hy => h y (by simp [hy]))
    rw [show pre ++ (intB x ++ (intsB l ++ post)) = (pre ++ intB x) ++ (intsB l ++ post) by simp, show pre.length + (intB x).length = (pre ++ intB x).length by simp, ih, intsB_cons]
    simp
    omega
theorem row_back (pre post l : List Int) {many each : Int} (hm : (l.length : Int) ≤ many) (hl : l.length ≤ 1000000000) (he : each ≤ top) (h : ∀ x ∈ l, 0 ≤ x ∧ x ≤ each) : rowR (pre ++ (rowB l ++ post)) pre.length many each = .inr (l, pre.length + (rowB l).length) := by
  unfold rowR rowB
  have hp : pos0 many = many := by unfold pos0; rw [if_neg (by omega)]
  have e : pre ++ (intB (l.length : Int) ++ intsB l ++ post) = pre ++ (intB (l.length : Int) ++ (intsB l ++ post)) := by simp
  rw [e, hp, int_back pre (intsB l ++ post) (by omega) (by unfold top; omega) hm]
  simp only
  have := ints_back he l (pre ++ intB (l.length : Int)) post [] h
  rw [show ((l.length : Int)).toNat = l.length by omega, show pre ++ (intB (l.length : Int) ++ (intsB l ++ post)) = (pre ++ intB (l.length : Int)) ++ (intsB l ++ post) by simp, show pre.length + (intB (l.length : Int)).length = (pre ++ intB (l.length : Int)).length by simp, this]
  simp
  omega
abbrev RAsk := T_ref02_Ask
abbrev Got := T_ref02_Got
def got0 : Got := ⟨0, false, [], []⟩
def mapR {α β : Type} (f : α → β) : RdR α → RdR β
  | .inl x => .inl x
  | .inr (x, a) => .inr (f x, a)
def readR (b : List Int) (a : Nat) (q : RAsk) : RdR Got :=
  if q.Kind = 0 ∨ q.Kind = 1 then mapR (fun n => ⟨n, false, [], []⟩) (numRR b a (pos0 q.Most))
  else if q.Kind = 2 then mapR (fun x => ⟨0, x, [], []⟩) (flagR b a)
  else if q.Kind = 3 then mapR (fun x => ⟨0, false, x, []⟩) (textR b a q.Most)
  else mapR (fun x => ⟨0, false, [], x⟩) (rowR b a q.Most q.Each)
def okAsk (q : RAsk) : Prop := q.Most ≤ 9223372036854775807 ∧ q.Each ≤ 9223372036854775807
def leR {α : Type} (N : Nat) (P : α → Prop) : RdR α → Prop
  | .inl (c, _, _, a) => a ≤ N ∧ c ≠ 0
  | .inr (x, a) => a ≤ N ∧ P x
theorem leR.map {α β : Type} {N : Nat} {P : α → Prop} {Q : β → Prop} {f : α → β} {R : RdR α} (h : leR N P R) (k : ∀ x, P x → Q (f x)) : leR N Q (mapR f R) := by
  cases R with
  | inl x => exact h
  | inr x => exact ⟨h.1, k _ h.2⟩
theorem num_le {b : List Int} (hb : okB b) {a : Nat} (ha : a ≤ b.length) (most : Int) : leR b.length (fun n => 0 ≤ n ∧ n ≤ top) (numRR b a most) := by
  unfold numRR
  cases h : numR b a most with
  | inl c => have := numR_code h; exact ⟨ha, by omega⟩
  | inr x => have := numR_ok hb h; exact ⟨by omega, this.1, this.2.1⟩
theorem flag_le {b : List Int} {a : Nat} (ha : a ≤ b.length) : leR b.length (fun _ => True) (flagR b a) := by
  unfold flagR
  split
  · exact ⟨ha, by decide⟩
  split
  · exact ⟨ha, by decide⟩
  · exact ⟨by omega, trivial⟩
theorem text_le {b : List Int} (hb : okB b) {a : Nat} (ha : a ≤ b.length) (most : Int) : leR b.length (fun (l : List Int) => l.length ≤ b.length) (textR b a most) := by
  unfold textR
  cases h : numR b a (pos0 most) with
  | inl c => have := numR_code h; exact ⟨ha, by omega⟩
  | inr x =>
    have := numR_ok hb h
    simp only
    split
    · exact ⟨ha, by decide⟩
    · exact ⟨by omega, by simp; omega⟩
theorem rowG_le {b : List Int} (hb : okB b) (each : Int) : ∀ (k a : Nat) (l : List Int), a ≤ b.length → l.length ≤ a → leR b.length (fun (l : List Int) => l.length ≤ b.length) (rowG b each k a l)
  | 0, a, l, ha, hl => ⟨ha, by omega⟩
  | k + 1, a, l, ha, hl => by
    unfold rowG
    cases h : numR b a (pos0 each) with
    | inl c => have := numR_code h; exact ⟨ha, by omega⟩
    | inr x =>
      have := numR_ok hb h
      exact rowG_le hb each k x.2 (l ++ [x.1]) (by omega) (by simp; omega)
theorem row_le {b : List Int} (hb : okB b) {a : Nat} (ha : a ≤ b.length) (many each : Int) : leR b.length (fun (l : List Int) => l.length ≤ b.length) (rowR b a many each) := by
  unfold rowR
  cases h : numR b a (pos0 many) with
  | inl c => have := numR_code h; exact ⟨ha, by omega⟩
  | inr x =>
    have := numR_ok hb h
    exact rowG_le hb each x.1.toNat x.2 [] (by omega) (by simp)
theorem read_le {b : List Int} (hb : okB b) {a : Nat} (ha : a ≤ b.length) (q : RAsk) : leR b.length (fun (g : Got) => g.Text.length ≤ b.length ∧ g.Row.length ≤ b.length) (readR b a q) := by
  unfold readR
  split
  · exact (num_le hb ha _).map fun _ _ => ⟨Nat.zero_le _, Nat.zero_le _⟩
  split
  · exact (flag_le ha).map fun _ _ => ⟨Nat.zero_le _, Nat.zero_le _⟩
  split
  · exact (text_le hb ha _).map fun _ h => ⟨h, Nat.zero_le _⟩
  · exact (row_le hb ha _ _).map fun _ h => ⟨Nat.zero_le _, h⟩
theorem read_eq {b : List Int} (hb : okB b) (hl : b.length ≤ 1000000) {a : Nat} {s : T_ref02_State} (hs : s.At = (a : Int)) (hc : s.Code = 0) {q : RAsk} (hq : okAsk q) :
    ∃ t, f_ref02_Read b s q = some (t, (asS got0 (readR b a q)).2) ∧ sameS t (asS got0 (readR b a q)).1 := by
  unfold f_ref02_Read readR
  rw [if_neg (fun q => absurd hc (of_decide_eq_true q))]
  have ek : ∀ {c : Prop} [Decidable c], (if (decide (q.Kind = (0 : Int))) = true then (some (decide (q.Kind = (0 : Int)))) else (some (decide (q.Kind = (1 : Int))))) = some (decide (q.Kind = 0 ∨ q.Kind = 1)) := by
    intro _ _
    by_cases c0 : q.Kind = 0
    · rw [if_pos (decide_eq_true c0)]; simp [c0]
    · rw [if_neg (fun q => c0 (of_decide_eq_true q))]; simp [c0]
  rw [ek (c := True)]
  simp only [Option.bind_some]
  by_cases c01 : q.Kind = 0 ∨ q.Kind = 1
  · rw [if_pos (decide_eq_true c01), if_pos c01, above_eq hq.1]
    simp only [Option.bind_some]
    rw [rnum_read hb (by omega) hs hc, numS_as]
    cases numRR b a (pos0 q.Most) with
    | inl x => exact ⟨_, rfl, .refl _⟩
    | inr x => exact ⟨_, rfl, .refl _⟩
  rw [if_neg (fun q => c01 (of_decide_eq_true q)), if_neg c01]
  by_cases c2 : q.Kind = 2
  · rw [if_pos (decide_eq_true c2), if_pos c2]
    unfold flagR
    rw [hs]
    by_cases g1 : b.length ≤ a
    · rw [if_pos (decide_eq_true (by omega)), if_pos g1, rbad_eq s hc, hs]
      exact ⟨_, rfl, .refl _⟩
    rw [if_neg (fun q => absurd (of_decide_eq_true q) (by omega)), if_neg g1, grd_t ⟨by omega, by omega⟩]
    by_cases g2 : 1 < rd b (a : Int)
    · rw [if_pos (decide_eq_true g2), if_pos g2, rbad_eq s hc, hs]
      exact ⟨_, rfl, .refl _⟩
    rw [if_neg (fun q => g2 (of_decide_eq_true q)), if_neg g2, grd_t ⟨by omega, by omega⟩, w_i64 (by omega) (by omega)]
    exact ⟨_, rfl, by refine ⟨?_, rfl, fun q => absurd rfl q⟩; simp [asS, mapR]⟩
  rw [if_neg (fun q => c2 (of_decide_eq_true q)), if_neg c2]
  by_cases c3 : q.Kind = 3
  · rw [if_pos (decide_eq_true c3), if_pos c3, rtext_read hb (by omega) hs hc hq.1]
    cases textR b a q.Most with
    | inl x => exact ⟨_, rfl, .refl _⟩
    | inr x => exact ⟨_, rfl, .refl _⟩
  rw [if_neg (fun q => c3 (of_decide_eq_true q)), if_neg c3]
  obtain ⟨t, h1, h2⟩ := rrow_read hb (by omega) hs hc hq.1 hq.2 (many := q.Most) (each := q.Each)
  rw [h1]
  cases e : rowR b a q.Most q.Each with
  | inl x => rw [e] at h2; exact ⟨t, rfl, h2⟩
  | inr x => rw [e] at h2; exact ⟨t, rfl, h2⟩
theorem read_bad {b : List Int} {s : T_ref02_State} (hc : s.Code ≠ 0) (q : RAsk) : f_ref02_Read b s q = some (s, got0) := by
  unfold f_ref02_Read
  rw [if_pos (decide_eq_true hc)]; rfl
def cor (b : List Int) (a : Nat) (e : GErr) (s : T_ref02_State) : Prop := a ≤ b.length ∧ s.At = (a : Int) ∧ ((e = .nil ∧ s.Code = 0) ∨ (s.Code ≠ 0 ∧ e = .fault s.Op s.Where (.code s.Code)))

theorem stepI {b : List Int} (hb : okB b) (hl : b.length ≤ 1000000) {a : Nat} {e : GErr} {s : T_ref02_State} (h : cor b a e s) (m : Int) (hm : m ≤ 9223372036854775807) :
    ∃ (v : Int) (a' : Nat) (e' : GErr) (t : T_ref02_State), f_wire_Reader_Int ⟨b, (a : Int), e⟩ m = some (v, (a' : Int), e') ∧ f_ref02_Read b s ⟨1, m, 0⟩ = some (t, ⟨v, false, [], []⟩) ∧ cor b a' e' t ∧ 0 ≤ v ∧ v ≤ top ∧ v ≤ pos0 m := by
  obtain ⟨ha, hsa, ⟨rfl, hc⟩ | ⟨hc, he⟩⟩ := h
  · obtain ⟨t, h1, h2⟩ := read_eq hb hl hsa hc (q := ⟨1, m, 0⟩) ⟨hm, show (0 : Int) ≤ 9223372036854775807 by decide⟩
    have hle := read_le hb ha ⟨1, m, 0⟩
    have hn := num_le hb ha (pos0 m)
    have er : readR b a ⟨1, m, 0⟩ = mapR (fun n => ⟨n, false, [], []⟩) (numRR b a (pos0 m)) := rfl
    rw [wint_read hb (by omega) ha hm, numP_as, h1]
    rw [er] at hle h2 ⊢
    have hmost : ∀ x, numRR b a (pos0 m) = .inr x → x.1 ≤ pos0 m := by
      intro x hx
      unfold numRR at hx
      cases e2 : numR b a (pos0 m) with
      | inl c => rw [e2] at hx; cases hx
      | inr y => rw [e2] at hx; cases hx; exact (numR_ok hb e2).2.2.1
    cases e : numRR b a (pos0 m) with
    | inl x =>
      rw [e] at hle h2
      obtain ⟨c, o, w, a1⟩ := x
      obtain ⟨k1, k2, k3⟩ := h2
      have k2' : t.Code = c := k2
      have hc' : c ≠ 0 := hle.2
      have k4 := k3 (by rw [k2']; exact hc')
      refine ⟨0, a1, _, t, rfl, rfl, ⟨hle.1, k1, .inr ⟨by rw [k2']; exact hc', ?_⟩⟩, Int.le_refl _, by decide, by unfold pos0; split <;> omega⟩
      show GErr.fault o w (.code c) = _
      rw [k2', k4.1, k4.2]; rfl
    | inr x =>
      rw [e] at hle h2 hn
      exact ⟨_, x.2, _, t, rfl, rfl, ⟨hle.1, h2.1, .inl ⟨rfl, h2.2.1⟩⟩, hn.2.1, hn.2.2, hmost x e⟩
  · have hn : e.isNil = false := by rw [he]; rfl
    rw [wint_bad hn, read_bad hc]
    exact ⟨0, a, e, s, rfl, rfl, ⟨ha, hsa, .inr ⟨hc, he⟩⟩, Int.le_refl _, by decide, by unfold pos0; split <;> omega⟩
theorem stepF {b : List Int} (hb : okB b) (hl : b.length ≤ 1000000) {a : Nat} {e : GErr} {s : T_ref02_State} (h : cor b a e s) :
    ∃ (v : Bool) (a' : Nat) (e' : GErr) (t : T_ref02_State), f_wire_Reader_Flag ⟨b, (a : Int), e⟩ = some (v, (a' : Int), e') ∧ f_ref02_Read b s ⟨2, 0, 0⟩ = some (t, ⟨0, v, [], []⟩) ∧ cor b a' e' t := by
  obtain ⟨ha, hsa, ⟨rfl, hc⟩ | ⟨hc, he⟩⟩ := h
  · obtain ⟨t, h1, h2⟩ := read_eq hb hl hsa hc (q := ⟨2, 0, 0⟩) ⟨by decide, by decide⟩
    have hle := read_le hb ha ⟨2, 0, 0⟩
    have er : readR b a ⟨2, 0, 0⟩ = mapR (fun x => ⟨0, x, [], []⟩) (flagR b a) := rfl
    rw [wflag_read hb (by omega), h1]
    rw [er] at hle h2 ⊢
    cases e : flagR b a with
    | inl x =>
      rw [e] at hle h2
      obtain ⟨c, o, w, a1⟩ := x
      obtain ⟨k1, k2, k3⟩ := h2
      have k2' : t.Code = c := k2
      have hc' : c ≠ 0 := hle.2
      have k4 := k3 (by rw [k2']; exact hc')
      refine ⟨false, a1, _, t, rfl, rfl, ⟨hle.1, k1, .inr ⟨by rw [k2']; exact hc', ?_⟩⟩⟩
      show GErr.fault o w (.code c) = _
      rw [k2', k4.1, k4.2]; rfl
    | inr x =>
      rw [e] at hle h2
      exact ⟨_, x.2, _, t, rfl, rfl, ⟨hle.1, h2.1, .inl ⟨rfl, h2.2.1⟩⟩⟩
  · have hn : e.isNil = false := by rw [he]; rfl
    rw [wflag_bad hn, read_bad hc]
    exact ⟨_, a, e, s, rfl, rfl, ⟨ha, hsa, .inr ⟨hc, he⟩⟩⟩
theorem text_ok {b : List Int} (hb : okB b) {a : Nat} {m : Int} {x : List Int} {a' : Nat} (h : textR b a m = .inr (x, a')) : okB x ∧ (x.length : Int) ≤ pos0 m := by
  unfold textR at h
  cases e : numR b a (pos0 m) with
  | inl c => rw [e] at h; cases h
  | inr y =>
    rw [e] at h
    simp only at h
    have k := numR_ok hb e
    split at h
    · cases h
    · cases h
      refine ⟨(hb.drop _).take _, ?_⟩
      simp
      omega
theorem stepT {b : List Int} (hb : okB b) (hl : b.length ≤ 1000000) {a : Nat} {e : GErr} {s : T_ref02_State} (h : cor b a e s) (m : Int) (hm : m ≤ 9223372036854775807) :
    ∃ (v : List Int) (a' : Nat) (e' : GErr) (t : T_ref02_State), f_wire_Reader_Text ⟨b, (a : Int), e⟩ m = some (v, (a' : Int), e') ∧ f_ref02_Read b s ⟨3, m, 0⟩ = some (t, ⟨0, false, v, []⟩) ∧ cor b a' e' t ∧ okB v ∧ (v.length : Int) ≤ pos0 m ∧ v.length ≤ b.length := by
  obtain ⟨ha, hsa, ⟨rfl, hc⟩ | ⟨hc, he⟩⟩ := h
  · obtain ⟨t, h1, h2⟩ := read_eq hb hl hsa hc (q := ⟨3, m, 0⟩) ⟨hm, show (0 : Int) ≤ 9223372036854775807 by decide⟩
    have hle := read_le hb ha ⟨3, m, 0⟩
    have er : readR b a ⟨3, m, 0⟩ = mapR (fun x => ⟨0, false, x, []⟩) (textR b a m) := rfl
    rw [wtext_read hb (by omega) ha hm, h1]
    rw [er] at hle h2 ⊢
    cases e : textR b a m with
    | inl x =>
      rw [e] at hle h2
      obtain ⟨c, o, w, a1⟩ := x
      obtain ⟨k1, k2, k3⟩ := h2
      have k2' : t.Code = c := k2
      have hc' : c ≠ 0 := hle.2
      have k4 := k3 (by rw [k2']; exact hc')
      refine ⟨[], a1, _, t, rfl, rfl, ⟨hle.1, k1, .inr ⟨by rw [k2']; exact hc', ?_⟩⟩, okB.nil, by unfold pos0; split <;> simp <;> omega, Nat.zero_le _⟩
      show GErr.fault o w (.code c) = _
      rw [k2', k4.1, k4.2]; rfl
    | inr x =>
      rw [e] at hle h2
      have k := text_ok hb (x := x.1) (a' := x.2) e
      exact ⟨_, x.2, _, t, rfl, rfl, ⟨hle.1, h2.1, .inl ⟨rfl, h2.2.1⟩⟩, k.1, k.2, hle.2.1⟩
  · have hn : e.isNil = false := by rw [he]; rfl
    rw [wtext_bad hn, read_bad hc]
    exact ⟨_, a, e, s, rfl, rfl, ⟨ha, hsa, .inr ⟨hc, he⟩⟩, okB.nil, by unfold pos0; split <;> simp <;> omega, Nat.zero_le _⟩
theorem stepR {b : List Int} (hb : okB b) (hl : b.length ≤ 1000000) {a : Nat} {e : GErr} {s : T_ref02_State} (h : cor b a e s) (m k : Int) (hm : m ≤ 9223372036854775807) (hk : k ≤ 9223372036854775807) :
    ∃ (v : List Int) (a' : Nat) (e' : GErr) (t : T_ref02_State), f_wire_Reader_Row ⟨b, (a : Int), e⟩ m k = some (v, (a' : Int), e') ∧ f_ref02_Read b s ⟨4, m, k⟩ = some (t, ⟨0, false, [], v⟩) ∧ cor b a' e' t ∧ v.length ≤ b.length := by
  obtain ⟨ha, hsa, ⟨rfl, hc⟩ | ⟨hc, he⟩⟩ := h
  · obtain ⟨t, h1, h2⟩ := read_eq hb hl hsa hc (q := ⟨4, m, k⟩) ⟨hm, hk⟩
    have hle := read_le hb ha ⟨4, m, k⟩
    have er : readR b a ⟨4, m, k⟩ = mapR (fun x => ⟨0, false, [], x⟩) (rowR b a m k) := rfl
    rw [wrow_read hb (by omega) ha hm hk, h1]
    rw [er] at hle h2 ⊢
    cases e : rowR b a m k with
    | inl x =>
      rw [e] at hle h2
      obtain ⟨c, o, w, a1⟩ := x
      obtain ⟨k1, k2, k3⟩ := h2
      have k2' : t.Code = c := k2
      have hc' : c ≠ 0 := hle.2
      have k4 := k3 (by rw [k2']; exact hc')
      refine ⟨[], a1, _, t, rfl, rfl, ⟨hle.1, k1, .inr ⟨by rw [k2']; exact hc', ?_⟩⟩, Nat.zero_le _⟩
      show GErr.fault o w (.code c) = _
      rw [k2', k4.1, k4.2]; rfl
    | inr x =>
      rw [e] at hle h2
      exact ⟨_, x.2, _, t, rfl, rfl, ⟨hle.1, h2.1, .inl ⟨rfl, h2.2.1⟩⟩, hle.2.2⟩
  · have hn : e.isNil = false := by rw [he]; rfl
    rw [wrow_bad hn, read_bad hc]
    exact ⟨_, a, e, s, rfl, rfl, ⟨ha, hsa, .inr ⟨hc, he⟩⟩, Nat.zero_le _⟩
/-! ### what was written is read -/
theorem pos0_nn {m : Int} (h : 0 ≤ m) : pos0 m = m := by unfold pos0; rw [if_neg (by omega)]
theorem backI {b : List Int} (hb : okB b) (hl : b.length ≤ 1000000) {pre post : List Int} {n m : Int} (e : b = pre ++ (intB n ++ post)) (h0 : 0 ≤ n) (h1 : n ≤ top) (hm : n ≤ m) (hm2 : m ≤ 9223372036854775807) :
    f_wire_Reader_Int ⟨b, (pre.length : Int), .nil⟩ m = some (n, ((pre ++ intB n).length : Int), .nil) := by
  have h := int_back pre post (n := n) (most := m) h0 h1 hm
  rw [← e] at h
  rw [wint_read hb (by omega) (by rw [e]; simp) hm2, pos0_nn (by omega)]
  unfold numP
  rw [h, List.length_append]
theorem backF {b : List Int} (hb : okB b) (hl : b.length ≤ 1000000) {pre post : List Int} {n : Bool} (e : b = pre ++ (flagB n ++ post)) :
    f_wire_Reader_Flag ⟨b, (pre.length : Int), .nil⟩ = some (n, ((pre ++ flagB n).length : Int), .nil) := by
  have h := flag_back pre post n
  rw [← e] at h
  rw [wflag_read hb (by omega), h, List.length_append]
  rfl
theorem backT {b : List Int} (hb : okB b) (hl : b.length ≤ 1000000) {pre post s : List Int} {m : Int} (e : b = pre ++ (textB s ++ post)) (hm : (s.length : Int) ≤ m) (hm2 : m ≤ 9223372036854775807) :
    f_wire_Reader_Text ⟨b, (pre.length : Int), .nil⟩ m = some (s, ((pre ++ textB s).length : Int), .nil) := by
  have hs : s.length ≤ b.length := by rw [e]; unfold textB; simp; omega
  have h := text_back pre post s (most := m) hm (by omega)
  rw [← e] at h
  rw [wtext_read hb (by omega) (by rw [e]; simp) hm2, h, List.length_append]
  rfl
theorem intsB_ge : ∀ (l : List Int), l.length ≤ (intsB l).length
  | [] => Nat.le_refl _
  | x :: l => by
    rw [intsB_cons]
    have h1 := intsB_ge l
    have h2 := (intB_len x).2
    simp only [List.length_cons, List.length_append]
    omega
theorem backR {b : List Int} (hb : okB b) (hl : b.length ≤ 1000000) {pre post s : List Int} {m k : Int} (e : b = pre ++ (rowB s ++ post)) (hm : (s.length : Int) ≤ m) (hm2 : m ≤ 9223372036854775807) (hk : k ≤ top) (hs : ∀ x ∈ s, 0 ≤ x ∧ x ≤ k) :
    f_wire_Reader_Row ⟨b, (pre.length : Int), .nil⟩ m k = some (s, ((pre ++ rowB s).length : Int), .nil) := by
  have hsl : s.length ≤ b.length := by
    have := intsB_ge s
    rw [e]; unfold rowB; simp only [List.length_append]; omega
  have h := row_back pre post s (many := m) (each := k) hm (by omega) hk hs
  rw [← e] at h
  rw [wrow_read hb (by omega) (by rw [e]; simp) hm2 (by unfold top at hk; omega), h, List.length_append]
  rfl
theorem backE {b : List Int} {a : Nat} (h : a = b.length) : f_wire_Reader_End ⟨b, (a : Int), .nil⟩ = some (.nil, .nil) := by
  rw [wend_eq, if_neg (by omega)]

/-! ### what is read was written in just that way -/
abbrev Req := T_api_Request
theorem rdnA {α : Type} [Inhabited α] {xs : List α} {i : Nat} (h : i < xs.length) : rd xs (i : Int) = xs[i] := len_lt h
theorem newA (o : ByteArray) (a c : Int) : f_fault_New o a c = some (.fault o a (.code c)) := rfl

/-! ### brokers -/
def brOk (l : List Int) : Prop := l.length ≤ 7 ∧ ∀ i (h : i < l.length), 1 ≤ l[i] ∧ l[i] ≤ 64 ∧ l[i] ∉ l.take i
theorem index_loop (l : List Int) (x : Int) (hl : l.length ≤ 1000000) : ∀ (d i : Nat), i + d = l.length → (x ∉ l.take i) →
    (x ∈ l ∧ ∃ j : Nat, iter (f_slices_Index_int_int_l0 l x) (i : Int) = some (.inr (j : Int))) ∨ (x ∉ l ∧ iter (f_slices_Index_int_int_l0 l x) (i : Int) = some (.inl ()))
  | 0, i, hi, hx => by
    rw [List.take_of_length_le (by omega)] at hx
    refine .inr ⟨hx, iter_stop ?_⟩
    unfold f_slices_Index_int_int_l0
    simp only
    rw [if_neg (fun q => absurd (of_decide_eq_true q) (by omega))]
  | d + 1, i, hi, hx => by
    have hlt : i < l.length := by omega
    by_cases g : x = l[i]
    · refine .inl ⟨by rw [g]; exact List.getElem_mem hlt, i, iter_stop ?_⟩
      unfold f_slices_Index_int_int_l0
      simp only
      rw [if_pos (decide_eq_true (by omega)), grd_t ⟨by omega, by omega⟩, rdnA hlt, if_pos (decide_eq_true g)]
    · have hstep : f_slices_Index_int_int_l0 l x (i : Int) = some (.inl ((i + 1 : Nat) : Int)) := by
        unfold f_slices_Index_int_int_l0
        simp only
        rw [if_pos (decide_eq_true (by omega)), grd_t ⟨by omega, by omega⟩, rdnA hlt, if_neg (fun q => g (of_decide_eq_true q)), w_i64 (by omega) (by omega)]
        rfl
      rw [iter_next hstep]
      refine index_loop l x hl d (i + 1) (by omega) ?_
      rw [List.take_succ_eq_append_getElem hlt, List.mem_append, List.mem_singleton]
      exact fun q => q.elim hx g
theorem contains_eq (l : List Int) (x : Int) (hl : l.length ≤ 1000000) : f_slices_Contains_int_int l x = some (decide (x ∈ l)) := by
  unfold f_slices_Contains_int_int f_slices_Index_int_int
  have h := index_loop l x hl l.length 0 (by omega) (by simp)
  rw [show ((0 : Nat) : Int) = 0 from rfl] at h
  rcases h with ⟨h1, j, h2⟩ | ⟨h1, h2⟩
  · rw [h2, decide_eq_true h1]
    simp
  · rw [h2, decide_eq_false h1]
    rfl
theorem sub_take (l : List Int) (i : Nat) : sub l 0 (i : Int) = l.take i := by
  unfold sub
  rw [show (0 : Int).toNat = 0 from rfl, show ((i : Int)).toNat = i by omega]
  simp
theorem pbrok_loop (l : List Int) (hl : l.length ≤ 7) : ∀ (d i : Nat), i + d = l.length → (∀ j (h : j < l.length), j < i → 1 ≤ l[j] ∧ l[j] ≤ 64 ∧ l[j] ∉ l.take j) →
    (brOk l ∧ iter (f_record_Brokers_l0 l) (i : Int) = some (.inl ())) ∨ (¬ brOk l ∧ iter (f_record_Brokers_l0 l) (i : Int) = some (.inr ()))
  | 0, i, hi, hp => by
    refine .inl ⟨⟨hl, fun j hj => hp j hj (by omega)⟩, iter_stop ?_⟩
    unfold f_record_Brokers_l0
    simp only
    rw [if_neg (fun q => absurd (of_decide_eq_true q) (by omega))]
  | d + 1, i, hi, hp => by
    have hlt : i < l.length := by omega
    have e : f_record_Brokers_l0 l (i : Int) = if 1 ≤ l[i] ∧ l[i] ≤ 64 ∧ l[i] ∉ l.take i then some (.inl ((i + 1 : Nat) : Int)) else some (.inr (.inr ())) := by
      unfold f_record_Brokers_l0
      simp only
      rw [if_pos (decide_eq_true (by omega)), grd_t ⟨by omega, by omega⟩, rdnA hlt]
      by_cases g1 : l[i] < 1
      · rw [if_pos (decide_eq_true g1), if_neg (show ¬ (1 ≤ l[i] ∧ l[i] ≤ 64 ∧ l[i] ∉ l.take i) from fun q => by omega)]; rfl
      rw [if_neg (fun q => g1 (of_decide_eq_true q))]
      by_cases g2 : 64 < l[i]
      · rw [if_pos (decide_eq_true g2), if_neg (show ¬ (1 ≤ l[i] ∧ l[i] ≤ 64 ∧ l[i] ∉ l.take i) from fun q => by omega)]; rfl
      rw [if_neg (fun q => g2 (of_decide_eq_true q)), grd_t ⟨by omega, by omega, by omega⟩, sub_take, contains_eq _ _ (by simp; omega)]
      simp only [Option.bind_some]
      by_cases g3 : l[i] ∈ l.take i
      · rw [decide_eq_true g3, if_pos rfl, if_neg (show ¬ (1 ≤ l[i] ∧ l[i] ≤ 64 ∧ l[i] ∉ l.take i) from fun q => q.2.2 g3)]
      · rw [decide_eq_false g3, if_neg (by decide), if_pos (show 1 ≤ l[i] ∧ l[i] ≤ 64 ∧ l[i] ∉ l.take i from ⟨by omega, by omega, g3⟩), w_i64 (by omega) (by omega)]; rfl
    by_cases g : 1 ≤ l[i] ∧ l[i] ≤ 64 ∧ l[i] ∉ l.take i
    · rw [if_pos g] at e
      rw [iter_next e]
      refine pbrok_loop l hl d (i + 1) (by omega) fun j hj hji => ?_
      by_cases ej : j = i
      · subst ej; exact g
      · exact hp j hj (by omega)
    · rw [if_neg g] at e
      exact .inr ⟨fun q => g (q.2 i hlt), iter_stop e⟩
theorem pbrokers_eq (l : List Int) : ∃ b : Bool, f_record_Brokers l = some b ∧ (b = true → brOk l) := by
  unfold f_record_Brokers
  by_cases h : 7 < l.length
  · rw [if_pos (decide_eq_true (by omega))]
    exact ⟨false, rfl, fun q => (by cases q)⟩
  · rw [if_neg (fun q => absurd (of_decide_eq_true q) (by omega))]
    have h1 := pbrok_loop l (by omega) l.length 0 (by omega) (fun j hj hji => by omega)
    rw [show ((0 : Nat) : Int) = 0 from rfl] at h1
    rcases h1 with ⟨a1, b1⟩ | ⟨a1, b1⟩
    · exact ⟨true, by rw [b1]; rfl, fun _ => a1⟩
    · exact ⟨false, by rw [b1]; rfl, fun q => (by cases q)⟩
/-! ### what a kind is about -/
def aboutV (k : Int) : Int := if k = 1 then 13 else if k = 2 then 1 else if k = 3 then 5 else if k = 4 then 3 else if k = 5 then 49 else if k = 6 ∨ k = 7 then 17 else if k = 8 then 64 else if k = 9 then 448 else if k = 10 then 512 else if k = 11 then 241 else -1
def hasV (k bit : Int) : Bool := decide (andI .i64 (aboutV k) bit ≠ 0)
theorem kinds (k : Int) : (k = 1 ∨ k = 2 ∨ k = 3 ∨ k = 4 ∨ k = 5 ∨ k = 6 ∨ k = 7 ∨ k = 8 ∨ k = 9 ∨ k = 10 ∨ k = 11) ∨ (k ≠ 1 ∧ k ≠ 2 ∧ k ≠ 3 ∧ k ≠ 4 ∧ k ≠ 5 ∧ k ≠ 6 ∧ k ≠ 7 ∧ k ≠ 8 ∧ k ≠ 9 ∧ k ≠ 10 ∧ k ≠ 11) := by omega
theorem about_eq (k : Int) : f_ask_about k = some (aboutV k) := by
  rcases kinds k with (rfl | rfl | rfl | rfl | rfl | rfl | rfl | rfl | rfl | rfl | rfl) | h
  all_goals first
    | rfl
    | (unfold f_ask_about aboutV
       simp [h])
def known (k : Int) : Prop := k = 1 ∨ k = 2 ∨ k = 3 ∨ k = 4 ∨ k = 5 ∨ k = 6 ∨ k = 7 ∨ k = 8 ∨ k = 9 ∨ k = 10 ∨ k = 11
def textV (s : ByteArray) (has : Bool) (most : Int) : Bool := if has = true then decide ((s.size : Int) ≤ most) else decide (s = ⟨#[]⟩)
def numV (n : Int) (has : Bool) (most : Int) : Bool := if has = true then decide (0 ≤ n ∧ n ≤ most) else decide (n = 0)
def saidV (w : T_api_Word) (has : Bool) : Bool :=
  if has = true then decide (1 ≤ w.Broker ∧ w.Broker ≤ 64 ∧ 0 ≤ w.Epoch ∧ w.Epoch ≤ 1073741824 ∧ 0 ≤ w.High ∧ w.High ≤ 1073741824) else decide (w.Broker = 0 ∧ w.Epoch = 0 ∧ w.High = 0) && (!w.Fence && !w.Leave)
theorem ptext_eq (s : ByteArray) (h : Bool) (m : Int) : f_ask_text s h m = some (textV s h m) := by cases h <;> rfl
theorem pnum_eq (n : Int) (h : Bool) (m : Int) : f_ask_number n h m = some (numV n h m) := by
  unfold f_ask_number numV
  cases h
  · rfl
  · simp only [Bool.not_true, Bool.false_eq_true, if_false, if_true]
    by_cases g : 0 ≤ n
    · simp [g]
    · simp [g]
theorem psaid_eq (w : T_api_Word) (h : Bool) : f_ask_said w h = some (saidV w h) := by
  unfold f_ask_said saidV
  cases h
  · simp only [Bool.not_false, if_true, Bool.false_eq_true, if_false, andL]
    by_cases g1 : w.Broker = 0 <;> by_cases g2 : w.Epoch = 0 <;> by_cases g3 : w.High = 0 <;> cases w.Fence <;> cases w.Leave <;> simp [g1, g2, g3]
  · simp only [Bool.not_true, Bool.false_eq_true, if_false, if_true, Option.bind_some]
    by_cases g1 : 1 ≤ w.Broker
    · by_cases g2 : w.Broker ≤ 64
      · by_cases g3 : 0 ≤ w.Epoch
        · by_cases g4 : w.Epoch ≤ 1073741824
          · by_cases g5 : 0 ≤ w.High <;> simp [g1, g2, g3, g4, g5]
          · simp [g1, g2, g3, g4]
        · simp [g1, g2, g3]
      · simp [g1, g2]
    · simp [g1]
theorem rbrok_in (l : List Int) (hl : l.length ≤ 7) (i : Nat) (hi : i < l.length) : ∀ (d j : Nat), j + d = i → l[i] ∉ l.take j →
    (l[i] ∉ l.take i ∧ iter (f_ref05_Brokers_l1 l (i : Int)) (j : Int) = some (.inl ())) ∨ (l[i] ∈ l.take i ∧ iter (f_ref05_Brokers_l1 l (i : Int)) (j : Int) = some (.inr ()))
  | 0, j, hj, hx => by
    have e : j = i := by omega
    subst e
    refine .inl ⟨hx, iter_stop ?_⟩
    unfold f_ref05_Brokers_l1
    simp only
    rw [if_neg (fun q => absurd (of_decide_eq_true q) (by omega))]
  | d + 1, j, hj, hx => by
    have hlt : j < l.length := by omega
    by_cases g : l[j] = l[i]
    · refine .inr ⟨?_, iter_stop ?_⟩
      · rw [← g]
        exact List.mem_take_iff_getElem.2 ⟨j, by omega, rfl⟩
      · unfold f_ref05_Brokers_l1
        simp only
        rw [if_pos (decide_eq_true (by omega)), grd_t ⟨by omega, by omega⟩, grd_t ⟨by omega, by omega⟩, rdnA hlt, rdnA hi, if_pos (decide_eq_true g)]
    · have hstep : f_ref05_Brokers_l1 l (i : Int) (j : Int) = some (.inl ((j + 1 : Nat) : Int)) := by
        unfold f_ref05_Brokers_l1
        simp only
        rw [if_pos (decide_eq_true (by omega)), grd_t ⟨by omega, by omega⟩, grd_t ⟨by omega, by omega⟩, rdnA hlt, rdnA hi, if_neg (fun q => g (of_decide_eq_true q)), w_i64 (by omega) (by omega)]
        rfl
      rw [iter_next hstep]
      refine rbrok_in l hl i hi d (j + 1) (by omega) ?_
      rw [List.take_succ_eq_append_getElem hlt, List.mem_append, List.mem_singleton]
      exact fun q => q.elim hx fun q => g q.symm
theorem rbrok_loop (l : List Int) (hl : l.length ≤ 7) : ∀ (d i : Nat), i + d = l.length → (∀ j (h : j < l.length), j < i → 1 ≤ l[j] ∧ l[j] ≤ 64 ∧ l[j] ∉ l.take j) →
    (brOk l ∧ iter (f_ref05_Brokers_l0 l) (i : Int) = some (.inl ())) ∨ (¬ brOk l ∧ iter (f_ref05_Brokers_l0 l) (i : Int) = some (.inr ()))
  | 0, i, hi, hp => by
    refine .inl ⟨⟨hl, fun j hj => hp j hj (by omega)⟩, iter_stop ?_⟩
    unfold f_ref05_Brokers_l0
    simp only
    rw [if_neg (fun q => absurd (of_decide_eq_true q) (by omega))]
  | d + 1, i, hi, hp => by
    have hlt : i < l.length := by omega
    have e : f_ref05_Brokers_l0 l (i : Int) = if 1 ≤ l[i] ∧ l[i] ≤ 64 ∧ l[i] ∉ l.take i then some (.inl ((i + 1 : Nat) : Int)) else some (.inr (.inr ())) := by
      unfold f_ref05_Brokers_l0
      simp only
      rw [if_pos (decide_eq_true (by omega)), grd_t ⟨by omega, by omega⟩, rdnA hlt]
      by_cases g1 : l[i] < 1
      · rw [if_pos (decide_eq_true g1), if_neg (show ¬ (1 ≤ l[i] ∧ l[i] ≤ 64 ∧ l[i] ∉ l.take i) from fun q => by omega)]; rfl
      rw [if_neg (fun q => g1 (of_decide_eq_true q)), grd_t ⟨by omega, by omega⟩]
      simp only [Option.bind_some]
      by_cases g2 : 64 < l[i]
      · rw [if_pos (decide_eq_true g2), if_neg (show ¬ (1 ≤ l[i] ∧ l[i] ≤ 64 ∧ l[i] ∉ l.take i) from fun q => by omega)]; rfl
      rw [if_neg (fun q => g2 (of_decide_eq_true q))]
      have h := rbrok_in l hl i hlt i 0 (by omega) (by simp)
      rw [show ((0 : Nat) : Int) = 0 from rfl] at h
      rcases h with ⟨h1, h2⟩ | ⟨h1, h2⟩
      · rw [h2, if_pos (show 1 ≤ l[i] ∧ l[i] ≤ 64 ∧ l[i] ∉ l.take i from ⟨by omega, by omega, h1⟩), w_i64 (by omega) (by omega)]; rfl
      · rw [h2, if_neg (show ¬ (1 ≤ l[i] ∧ l[i] ≤ 64 ∧ l[i] ∉ l.take i) from fun q => q.2.2 h1)]; rfl
    by_cases g : 1 ≤ l[i] ∧ l[i] ≤ 64 ∧ l[i] ∉ l.take i
    · rw [if_pos g] at e
      rw [iter_next e]
      refine rbrok_loop l hl d (i + 1) (by omega) fun j hj hji => ?_
      by_cases ej : j = i
      · subst ej; exact g
      · exact hp j hj (by omega)
    · rw [if_neg g] at e
      exact .inr ⟨fun q => g (q.2 i hlt), iter_stop e⟩
theorem brokers_eq (l : List Int) : ∃ b : Bool, f_record_Brokers l = some b ∧ f_ref05_Brokers l = some b ∧ (b = true ↔ brOk l) := by
  unfold f_record_Brokers f_ref05_Brokers
  by_cases h : 7 < l.length
  · rw [if_pos (decide_eq_true (by omega)), if_pos (decide_eq_true (by omega))]
    exact ⟨false, rfl, rfl, fun q => (by cases q), fun q => absurd q.1 (by omega)⟩
  · rw [if_neg (fun q => absurd (of_decide_eq_true q) (by omega)), if_neg (fun q => absurd (of_decide_eq_true q) (by omega))]
    have h1 := pbrok_loop l (by omega) l.length 0 (by omega) (fun j hj hji => by omega)
    have h2 := rbrok_loop l (by omega) l.length 0 (by omega) (fun j hj hji => by omega)
    rw [show ((0 : Nat) : Int) = 0 from rfl] at h1 h2
    rcases h1 with ⟨a1, b1⟩ | ⟨a1, b1⟩
    · rcases h2 with ⟨a2, b2⟩ | ⟨a2, b2⟩
      · exact ⟨true, by rw [b1]; rfl, by rw [b2]; rfl, fun _ => a1, fun _ => rfl⟩
      · exact absurd a1 a2
    · rcases h2 with ⟨a2, b2⟩ | ⟨a2, b2⟩
      · exact absurd a2 a1
      · exact ⟨false, by rw [b1]; rfl, by rw [b2]; rfl, fun q => (by cases q), fun q => absurd q a1⟩

theorem about_neg {k : Int} (h : k ≠ 1 ∧ k ≠ 2 ∧ k ≠ 3 ∧ k ≠ 4 ∧ k ≠ 5 ∧ k ≠ 6 ∧ k ≠ 7 ∧ k ≠ 8 ∧ k ≠ 9 ∧ k ≠ 10 ∧ k ≠ 11) : aboutV k = -1 ∧ f_ref22_letters k = some ⟨#[]⟩ := by
  constructor
  · unfold aboutV; simp [h]
  · unfold f_ref22_letters; simp [h]
theorem about_pos {k : Int} (h : known k) : ¬ aboutV k < 0 ∧ ∃ s, f_ref22_letters k = some s ∧ decide (s = (⟨#[]⟩ : ByteArray)) = false := by
  rcases h with rfl | rfl | rfl | rfl | rfl | rfl | rfl | rfl | rfl | rfl | rfl <;> exact ⟨by decide, _, rfl, by decide⟩
theorem has_run {k l : Int} {s : ByteArray} {e : Unit ⊕ Unit} (h : f_ref22_letters k = some s) (n : Nat) (hr : runK n (f_ref22_has_l0 l s) 0 = some e) : f_ref22_has k l = some (match e with | .inl _ => false | .inr _ => true) := by
  unfold f_ref22_has
  rw [h]
  simp only [Option.bind_some]
  rw [iter_run n hr]
  cases e <;> rfl
theorem has_eq {k : Int} (h : known k) : f_ref22_has k 110 = some (hasV k 1) ∧ f_ref22_has k 107 = some (hasV k 2) ∧ f_ref22_has k 113 = some (hasV k 4) ∧ f_ref22_has k 114 = some (hasV k 8) ∧ f_ref22_has k 112 = some (hasV k 16) ∧ f_ref22_has k 105 = some (hasV k 32) ∧
    f_ref22_has k 98 = some (hasV k 64) ∧ f_ref22_has k 101 = some (hasV k 128) ∧ f_ref22_has k 99 = some (hasV k 256) ∧ f_ref22_has k 119 = some (hasV k 512) := by
  rcases h with rfl | rfl | rfl | rfl | rfl | rfl | rfl | rfl | rfl | rfl | rfl
  all_goals
    refine ⟨?_, ?_, ?_, ?_, ?_, ?_, ?_, ?_, ?_, ?_⟩
    all_goals first
      | exact (has_run (e := .inr ()) rfl 8 rfl).trans (by decide +kernel)
      | exact (has_run (e := .inl ()) rfl 8 rfl).trans (by decide +kernel)
theorem text_eq (s : ByteArray) (h : Bool) (m : Int) : f_ask_text s h m = some (textV s h m) ∧ f_ref22_txt s h m = some (textV s h m) := by
  cases h <;> exact ⟨rfl, rfl⟩
theorem num_eq (n : Int) (h : Bool) (m : Int) : f_ask_number n h m = some (numV n h m) ∧ f_ref22_num n h m = some (numV n h m) := by
  unfold f_ask_number f_ref22_num numV
  cases h
  · exact ⟨rfl, rfl⟩
  · simp only [Bool.not_true, Bool.false_eq_true, if_false, if_true]
    by_cases g : 0 ≤ n
    · simp [g]
    · simp [g]
theorem said_eq (w : T_api_Word) (h : Bool) : f_ask_said w h = some (saidV w h) ∧ f_ref22_said w h = some (saidV w h) := by
  unfold f_ask_said f_ref22_said saidV
  cases h
  · simp only [Bool.not_false, if_true, Bool.false_eq_true, if_false, andL]
    by_cases g1 : w.Broker = 0 <;> by_cases g2 : w.Epoch = 0 <;> by_cases g3 : w.High = 0 <;> cases w.Fence <;> cases w.Leave <;> simp [g1, g2, g3]
  · simp only [Bool.not_true, Bool.false_eq_true, if_false, if_true, (num_eq _ _ _).2, numV, Option.bind_some]
    by_cases g1 : 1 ≤ w.Broker
    · by_cases g2 : w.Broker ≤ 64
      · by_cases g3 : 0 ≤ w.Epoch
        · by_cases g4 : w.Epoch ≤ 1073741824
          · by_cases g5 : 0 ≤ w.High
            · have g0 : 0 ≤ w.Broker := by omega
              simp [g0, g1, g2, g3, g4, g5]
            · have g0 : 0 ≤ w.Broker := by omega
              simp [g0, g1, g2, g3, g4, g5]
          · have g0 : 0 ≤ w.Broker := by omega
            simp [g0, g1, g2, g3, g4]
        · have g0 : 0 ≤ w.Broker := by omega
          simp [g0, g1, g2, g3]
      · have g0 : 0 ≤ w.Broker := by omega
        simp [g0, g1, g2]
    · simp [g1]
def toE (w : T_ref22_Wrong) : GErr := if w.Code = 0 then .nil else .fault w.Op w.At (.code w.Code)
theorem chk {X Y : Option Bool} {A : T_ref22_Wrong} {R : Option T_ref22_Wrong} {A' : GErr} {R' : Option GErr} (hX : ∃ x, X = some x) (hY : Y = X) (hA : A' = toE A) (h : X = some false → ∃ w, R = some w ∧ R' = some (toE w)) :
    ∃ w, (X.bind fun x => if x = true then some A else R) = some w ∧ (Y.bind fun x => if x = true then some A' else R') = some (toE w) := by
  subst hY hA
  obtain ⟨x, hx⟩ := hX
  cases x with
  | true => exact ⟨A, by rw [hx]; rfl, by rw [hx]; rfl⟩
  | false =>
    obtain ⟨w, h1, h2⟩ := h hx
    exact ⟨w, by rw [hx]; exact h1, by rw [hx]; exact h2⟩
theorem some3 {a b : Bool} {X : Option Bool} (h : ∃ x, X = some x) : ∃ x, (if a = true then some b else X) = some x := by
  cases a
  · exact h
  · exact ⟨b, rfl⟩
theorem check_eq22 (q : Req) : ∃ w, f_ref22_Check q = some w ∧ f_ask_Check q = some (toE w) := by
  unfold f_ref22_Check f_ask_Check
  rw [about_eq]
  rcases kinds q.Kind with hk | hk
  · have hk : known q.Kind := hk
    obtain ⟨p1, s, p2, p3⟩ := about_pos hk
    obtain ⟨hn, hkk, hq, hr, hp, hi, hb, he, hc, hw⟩ := has_eq hk
    have c1 : ∀ bit, f_ask_Check_1 bit (aboutV q.Kind) = some (hasV q.Kind bit) := fun bit => rfl
    obtain ⟨B, hB1, hB2, _⟩ := brokers_eq q.Ids
    rw [p2]
    simp only [Option.bind_some, p3, Bool.false_eq_true, if_false, decide_eq_false p1, c1, hn, hkk, hq, hr, hp, hi, hb, he, hc, hw, (text_eq _ _ _).1, (text_eq _ _ _).2, (num_eq _ _ _).1, (num_eq _ _ _).2, (said_eq _ _).1, (said_eq _ _).2, newA, hB1, hB2]
    refine chk (some3 (some3 (some3 ⟨_, rfl⟩))) rfl rfl fun _ => ?_
    refine chk (some3 (some3 ⟨_, rfl⟩)) rfl rfl fun _ => ?_
    refine chk (some3 ?_) ?_ rfl fun _ => ?_
    · cases q.Flag <;> exact ⟨_, rfl⟩
    · cases q.Flag <;> cases hasV q.Kind 2 <;> rfl
    refine chk (some3 (some3 ⟨_, rfl⟩)) rfl rfl fun _ => ?_
    refine chk (some3 (some3 ⟨_, rfl⟩)) rfl rfl fun _ => ?_
    refine chk ?_ ?_ rfl fun _ => ?_
    · by_cases g : (0 : Int) < (q.Ids.length : Int)
      · rw [if_pos (decide_eq_true g)]; exact some3 ⟨_, rfl⟩
      · rw [if_neg (fun q => g (of_decide_eq_true q))]; exact ⟨_, rfl⟩
    · by_cases g : (0 : Int) < (q.Ids.length : Int)
      · simp only [decide_eq_true g, if_true]
        all_goals (cases hasV q.Kind 32 <;> rfl)
      · simp only [decide_eq_false g, Bool.false_eq_true, if_false]
        all_goals (cases hasV q.Kind 32 <;> rfl)
    exact ⟨_, rfl, rfl⟩
  · obtain ⟨h1, h2⟩ := about_neg hk
    rw [h1, h2]
    exact ⟨_, rfl, rfl⟩
theorem bytesOf_ok (s : ByteArray) : okB (bytesOf s) := by
  intro x hx
  unfold bytesOf at hx
  obtain ⟨b, _, rfl⟩ := List.mem_map.1 hx
  have := b.toNat_lt
  omega
theorem str_bytes (s : ByteArray) : strOfNums (bytesOf s) = s := by
  unfold bytesOf strOfNums
  rw [List.map_map]
  have : ∀ x ∈ s.data.toList, ((fun n => UInt8.ofNat n.toNat) ∘ fun (b : UInt8) => (b.toNat : Int)) x = x := by
    intro x _
    show UInt8.ofNat ((x.toNat : Int)).toNat = x
    rw [Int.toNat_natCast]
    simp
  rw [List.map_congr_left this, List.map_id']
/-! ### what may be sent -/
theorem text_t {s : ByteArray} {h : Bool} {m : Int} (k : textV s h m = true) : (h = true → (s.size : Int) ≤ m) ∧ (h = false → s = ⟨#[]⟩) := by
  unfold textV at k
  cases h
  · exact ⟨fun q => (by cases q), fun _ => of_decide_eq_true (by simpa using k)⟩
  · exact ⟨fun _ => of_decide_eq_true (by simpa using k), fun q => (by cases q)⟩
theorem num_t {n : Int} {h : Bool} {m : Int} (k : numV n h m = true) : (h = true → 0 ≤ n ∧ n ≤ m) ∧ (h = false → n = 0) := by
  unfold numV at k
  cases h
  · exact ⟨fun q => (by cases q), fun _ => of_decide_eq_true (by simpa using k)⟩
  · exact ⟨fun _ => of_decide_eq_true (by simpa using k), fun q => (by cases q)⟩
structure okQ (q : Req) : Prop where
  known : known q.Kind
  client : 1 ≤ q.Client ∧ q.Client ≤ 1073741824
  serial : 1 ≤ q.Serial ∧ q.Serial ≤ 1073741824
  name : textV q.Name (hasV q.Kind 1) 40 = true
  key : textV q.Key (hasV q.Kind 2) 40 = true
  rack : textV q.Rack (hasV q.Kind 256) 40 = true
  value : textV q.Value (hasV q.Kind 2) 256 = true
  flag : hasV q.Kind 2 = false → q.Flag = false
  parts : numV q.Parts (hasV q.Kind 4) 256 = true
  replicas : numV q.Replicas (hasV q.Kind 8) 7 = true
  part : numV q.Part (hasV q.Kind 16) 256 = true
  broker : numV q.Broker (hasV q.Kind 64) 64 = true
  epoch : numV q.Epoch (hasV q.Kind 128) 1073741824 = true
  word : saidV q.Word (hasV q.Kind 512) = true
  ids : hasV q.Kind 32 = false → q.Ids = []
  brok : brOk q.Ids
theorem fault_ne {o : ByteArray} {a c : Int} {P : Prop} (h : (f_fault_New o a c).bind (fun r => some r) = some GErr.nil) : P := by cases h
theorem check_ok {q : Req} (h : f_ask_Check q = some .nil) : okQ q := by
  unfold f_ask_Check at h
  simp only [about_eq, Option.bind_some, f_ask_Check_1, ptext_eq, pnum_eq, psaid_eq] at h
  split at h
  · exact fault_ne h
  rename_i g0
  by_cases g1 : q.Client < 1
  · rw [if_pos (decide_eq_true g1)] at h; exact fault_ne h
  rw [if_neg (fun z => g1 (of_decide_eq_true z))] at h
  by_cases g2 : 1073741824 < q.Client
  · rw [if_pos (decide_eq_true g2)] at h; exact fault_ne h
  rw [if_neg (fun z => g2 (of_decide_eq_true z))] at h
  by_cases g3 : q.Serial < 1
  · rw [if_pos (decide_eq_true g3)] at h; exact fault_ne h
  rw [if_neg (fun z => g3 (of_decide_eq_true z))] at h
  by_cases g4 : 1073741824 < q.Serial
  · rw [decide_eq_true g4] at h; exact fault_ne h
  rw [decide_eq_false g4] at h
  simp only [Option.bind_some, Bool.false_eq_true, if_false] at h
  change ((if (!textV q.Name (hasV q.Kind 1) 40) = true then some true else if (!textV q.Key (hasV q.Kind 2) 40) = true then some true else some (!textV q.Rack (hasV q.Kind 256) 40)) : Option Bool).bind _ = _ at h
  cases k1 : textV q.Name (hasV q.Kind 1) 40
  · rw [k1] at h; exact fault_ne h
  cases k2 : textV q.Key (hasV q.Kind 2) 40
  · rw [k1, k2] at h; exact fault_ne h
  cases k3 : textV q.Rack (hasV q.Kind 256) 40
  · rw [k1, k2, k3] at h; exact fault_ne h
  rw [k1, k2, k3] at h
  simp only [Bool.not_true, Bool.false_eq_true, if_false, Option.bind_some] at h
  change ((if (!textV q.Value (hasV q.Kind 2) 256) = true then some true else if (!hasV q.Kind 2) = true then some q.Flag else some false) : Option Bool).bind _ = _ at h
  cases k4 : textV q.Value (hasV q.Kind 2) 256
  · rw [k4] at h; exact fault_ne h
  rw [k4] at h
  simp only [Bool.not_true, Bool.false_eq_true, if_false] at h
  have k5 : hasV q.Kind 2 = false → q.Flag = false := by
    intro e
    cases hf : q.Flag
    · rfl
    · rw [e, hf] at h; exact fault_ne h
  have k5' : (if (!hasV q.Kind 2) = true then some q.Flag else some false) = some false := by
    cases e : hasV q.Kind 2
    · rw [k5 e]; rfl
    · rfl
  rw [k5'] at h
  simp only [Option.bind_some, Bool.false_eq_true, if_false] at h
  change ((if (!numV q.Parts (hasV q.Kind 4) 256) = true then some true else if (!numV q.Replicas (hasV q.Kind 8) 7) = true then some true else some (!numV q.Part (hasV q.Kind 16) 256)) : Option Bool).bind _ = _ at h
  cases k6 : numV q.Parts (hasV q.Kind 4) 256
  · rw [k6] at h; exact fault_ne h
  cases k7 : numV q.Replicas (hasV q.Kind 8) 7
  · rw [k6, k7] at h; exact fault_ne h
  cases k8 : numV q.Part (hasV q.Kind 16) 256
  · rw [k6, k7, k8] at h; exact fault_ne h
  rw [k6, k7, k8] at h
  simp only [Bool.not_true, Bool.false_eq_true, if_false, Option.bind_some] at h
  change ((if (!numV q.Broker (hasV q.Kind 64) 64) = true then some true else if (!numV q.Epoch (hasV q.Kind 128) 1073741824) = true then some true else some (!saidV q.Word (hasV q.Kind 512))) : Option Bool).bind _ = _ at h
  cases k9 : numV q.Broker (hasV q.Kind 64) 64
  · rw [k9] at h; exact fault_ne h
  cases k10 : numV q.Epoch (hasV q.Kind 128) 1073741824
  · rw [k9, k10] at h; exact fault_ne h
  cases k11 : saidV q.Word (hasV q.Kind 512)
  · rw [k9, k10, k11] at h; exact fault_ne h
  rw [k9, k10, k11] at h
  simp only [Bool.not_true, Bool.false_eq_true, if_false, Option.bind_some] at h
  obtain ⟨b, hb, hb2⟩ := pbrokers_eq q.Ids
  rw [hb] at h
  simp only [Option.bind_some] at h
  change ((if (!hasV q.Kind 32) = true then if decide ((0 : Int) < (q.Ids.length : Int)) = true then some true else some (!b) else some (!b)) : Option Bool).bind _ = _ at h
  have hb3 : b = true := by
    cases b
    · cases e : hasV q.Kind 32
      · rw [e] at h
        by_cases g : (0 : Int) < (q.Ids.length : Int)
        · rw [decide_eq_true g] at h; exact fault_ne h
        · rw [decide_eq_false g] at h; exact fault_ne h
      · rw [e] at h; exact fault_ne h
    · rfl
  have hi : hasV q.Kind 32 = false → q.Ids = [] := by
    intro e
    rw [e] at h
    by_cases g : (0 : Int) < (q.Ids.length : Int)
    · rw [decide_eq_true g] at h; exact fault_ne h
    · exact List.eq_nil_of_length_eq_zero (by omega)
  have hk : known q.Kind := by
    rcases kinds q.Kind with k | k
    · exact k
    · have : aboutV q.Kind = -1 := by unfold aboutV; simp [k]
      rw [this] at g0
      exact absurd rfl g0
  exact ⟨hk, by omega, by omega, k1, k2, k3, k4, k5, k6, k7, k8, k9, k10, k11, hi, hb2 hb3⟩
theorem bindQ {α β : Type} {x : Option α} {y : α} {f : α → Option β} (h : x = some y) : x.bind f = f y := by rw [h]; rfl
def cI (f : Bool) (n : Int) : List Int := if f = true then intB n else []
def cT (f : Bool) (s : ByteArray) : List Int := if f = true then textB (bytesOf s) else []
def cK (f : Bool) (k v : ByteArray) (x : Bool) : List Int := if f = true then textB (bytesOf k) ++ (textB (bytesOf v) ++ flagB x) else []
def cR (f : Bool) (l : List Int) : List Int := if f = true then rowB l else []
def cW (f : Bool) (w : T_api_Word) : List Int := if f = true then intB w.Broker ++ (intB w.Epoch ++ (intB w.High ++ (flagB w.Fence ++ flagB w.Leave))) else []
def enc (q : Req) : List Int :=
  intB q.Client ++ (intB q.Serial ++ (intB q.Kind ++ (cT (hasV q.Kind 1) q.Name ++ (cK (hasV q.Kind 2) q.Key q.Value q.Flag ++ (cI (hasV q.Kind 4) q.Parts ++ (cI (hasV q.Kind 8) q.Replicas ++ (cI (hasV q.Kind 16) q.Part ++
    (cI (hasV q.Kind 64) q.Broker ++ (cI (hasV q.Kind 128) q.Epoch ++ (cR (hasV q.Kind 32) q.Ids ++ (cT (hasV q.Kind 256) q.Rack ++ cW (hasV q.Kind 512) q.Word)))))))))))
theorem flagB_len (x : Bool) : (flagB x).length = 1 := by cases x <;> rfl
theorem flagB_ok (x : Bool) : okB (flagB x) := by cases x <;> (intro y hy; unfold flagB at hy; simp at hy; omega)
theorem textB_len (s : List Int) : (textB s).length ≤ 8 + s.length := by unfold textB; rw [List.length_append]; have := (intB_len (s.length : Int)).1; omega
theorem textB_ok {s : List Int} (h : okB s) : okB (textB s) := (intB_ok _).append h
theorem intsB_ok : ∀ (l : List Int), okB (intsB l)
  | [] => okB.nil
  | x :: l => by rw [intsB_cons]; exact (intB_ok x).append (intsB_ok l)
theorem rowB_ok (l : List Int) : okB (rowB l) := (intB_ok _).append (intsB_ok l)
theorem rowB_len (l : List Int) : (rowB l).length ≤ 8 + 8 * l.length := by unfold rowB; rw [List.length_append]; have := (intB_len (l.length : Int)).1; have := intsB_len l; omega
theorem cI_len (f : Bool) (n : Int) : (cI f n).length ≤ 8 := by unfold cI; split; exact (intB_len n).1; exact Nat.zero_le _
theorem cI_ok (f : Bool) (n : Int) : okB (cI f n) := by unfold cI; split; exact intB_ok n; exact okB.nil
theorem cT_len {f : Bool} {s : ByteArray} {m : Nat} (h : textV s f (m : Int) = true) : (cT f s).length ≤ 8 + m := by
  unfold cT
  cases f
  · exact Nat.zero_le _
  · rw [if_pos rfl]
    have := textB_len (bytesOf s)
    rw [bytesOf_len] at this
    have := (text_t h).1 rfl
    omega
theorem cT_ok (f : Bool) (s : ByteArray) : okB (cT f s) := by unfold cT; split; exact textB_ok (bytesOf_ok s); exact okB.nil
theorem cK_len {f : Bool} {k v : ByteArray} {x : Bool} (h : textV k f 40 = true) (h2 : textV v f 256 = true) : (cK f k v x).length ≤ 400 := by
  unfold cK
  cases f
  · exact Nat.zero_le _
  · rw [if_pos rfl]
    have h3 := textB_len (bytesOf k)
    have h4 := textB_len (bytesOf v)
    rw [bytesOf_len] at h3 h4
    have := (text_t h).1 rfl
    have := (text_t h2).1 rfl
    simp only [List.length_append, flagB_len]
    omega
theorem cK_ok (f : Bool) (k v : ByteArray) (x : Bool) : okB (cK f k v x) := by unfold cK; split; exact (textB_ok (bytesOf_ok k)).append ((textB_ok (bytesOf_ok v)).append (flagB_ok x)); exact okB.nil
theorem cR_len {f : Bool} {l : List Int} (h : l.length ≤ 7) : (cR f l).length ≤ 64 := by unfold cR; split; have := rowB_len l; omega; exact Nat.zero_le _
theorem cR_ok (f : Bool) (l : List Int) : okB (cR f l) := by unfold cR; split; exact rowB_ok l; exact okB.nil
theorem cW_len (f : Bool) (w : T_api_Word) : (cW f w).length ≤ 26 := by
  unfold cW
  split
  · have := (intB_len w.Broker).1
    have := (intB_len w.Epoch).1
    have := (intB_len w.High).1
    simp only [List.length_append, flagB_len]
    omega
  · exact Nat.zero_le _
theorem cW_ok (f : Bool) (w : T_api_Word) : okB (cW f w) := by unfold cW; split; exact (intB_ok _).append ((intB_ok _).append ((intB_ok _).append ((flagB_ok _).append (flagB_ok _)))); exact okB.nil
theorem enc_ok (q : Req) : okB (enc q) := (intB_ok _).append ((intB_ok _).append ((intB_ok _).append ((cT_ok _ _).append ((cK_ok _ _ _ _).append ((cI_ok _ _).append ((cI_ok _ _).append ((cI_ok _ _).append ((cI_ok _ _).append ((cI_ok _ _).append ((cR_ok _ _).append ((cT_ok _ _).append (cW_ok _ _))))))))))))
theorem enc_len {q : Req} (h : okQ q) : (enc q).length ≤ 2000 := by
  have h1 := (intB_len q.Client).1
  have h2 := (intB_len q.Serial).1
  have h3 := (intB_len q.Kind).1
  have h4 := cT_len (m := 40) h.name
  have h5 := cK_len (x := q.Flag) h.key h.value
  have h6 := cI_len (hasV q.Kind 4) q.Parts
  have h7 := cI_len (hasV q.Kind 8) q.Replicas
  have h8 := cI_len (hasV q.Kind 16) q.Part
  have h9 := cI_len (hasV q.Kind 64) q.Broker
  have h10 := cI_len (hasV q.Kind 128) q.Epoch
  have h11 := cR_len (f := hasV q.Kind 32) h.brok.1
  have h12 := cT_len (m := 40) h.rack
  have h13 := cW_len (hasV q.Kind 512) q.Word
  unfold enc
  simp only [List.length_append]
  omega
/-! ### written -/
theorem pI {g bit n : Int} {k : Int} (hk : aboutV k = g) {b : List Int} (hn : n ≤ 9223372036854775807) (hb : b.length ≤ 1000000) : f_ask_Put_1 bit n g b = some (b ++ cI (hasV k bit) n) := by
  subst hk
  unfold f_ask_Put_1
  show (if hasV k bit = true then _ else _) = _
  unfold cI
  cases hasV k bit
  · simp
  · simp only [if_true]
    rw [wint_eq b n hn (by omega)]
    rfl
theorem pT {f : Bool} {b : List Int} {s : ByteArray} {m : Nat} (h : textV s f (m : Int) = true) (hm : m ≤ 1000) (hb : b.length ≤ 1000000) : (if f = true then (f_wire_Text b (bytesOf s)).bind fun r => some r else some b) = some (b ++ cT f s) := by
  unfold cT
  cases f
  · simp
  · have := (text_t h).1 rfl
    simp only [if_true]
    rw [wtext_eq b _ (by rw [bytesOf_len]; omega)]
    rfl
theorem pK {f : Bool} {b : List Int} {k v : ByteArray} {x : Bool} (h : textV k f 40 = true) (h2 : textV v f 256 = true) (hb : b.length ≤ 1000000) :
    (if f = true then (f_wire_Text b (bytesOf k)).bind fun r => (f_wire_Text r (bytesOf v)).bind fun r => (f_wire_Flag r x).bind fun r => some r else some b) = some (b ++ cK f k v x) := by
  unfold cK
  cases f
  · simp
  · have := (text_t h).1 rfl
    have := (text_t h2).1 rfl
    have h3 := textB_len (bytesOf k)
    have h4 := textB_len (bytesOf v)
    rw [bytesOf_len] at h3 h4
    simp only [if_true]
    rw [wtext_eq b _ (by rw [bytesOf_len]; omega)]
    simp only [Option.bind_some]
    rw [wtext_eq _ _ (by rw [bytesOf_len, List.length_append]; omega)]
    simp only [Option.bind_some]
    rw [wflag_eq _ _ (by simp only [List.length_append]; omega)]
    simp only [Option.bind_some, List.append_assoc]
theorem pR {f : Bool} {b l : List Int} (h : l.length ≤ 7) (h2 : ∀ x ∈ l, x ≤ 9223372036854775807) (hb : b.length ≤ 1000000) : (if f = true then (f_wire_Row b l).bind fun r => some r else some b) = some (b ++ cR f l) := by
  unfold cR
  cases f
  · simp
  · simp only [if_true]
    rw [wrow_eq b l h2 (by omega) (by omega)]
    rfl
theorem pW {f : Bool} {b : List Int} {w : T_api_Word} (h : saidV w f = true) (hb : b.length ≤ 1000000) :
    (if f = true then (f_wire_Int b w.Broker).bind fun r => (f_wire_Int r w.Epoch).bind fun r => (f_wire_Int r w.High).bind fun r => (f_wire_Flag r w.Fence).bind fun r => (f_wire_Flag r w.Leave).bind fun r => some r else some b) = some (b ++ cW f w) := by
  unfold cW
  cases f
  · simp
  · have hw : 1 ≤ w.Broker ∧ w.Broker ≤ 64 ∧ 0 ≤ w.Epoch ∧ w.Epoch ≤ 1073741824 ∧ 0 ≤ w.High ∧ w.High ≤ 1073741824 := of_decide_eq_true (by simpa [saidV] using h)
    have l1 := (intB_len w.Broker).1
    have l2 := (intB_len w.Epoch).1
    have l3 := (intB_len w.High).1
    have l4 := flagB_len w.Fence
    simp only [if_true]
    rw [wint_eq b _ (by omega) (by omega)]
    simp only [Option.bind_some]
    rw [wint_eq _ _ (by omega) (by simp only [List.length_append]; omega)]
    simp only [Option.bind_some]
    rw [wint_eq _ _ (by omega) (by simp only [List.length_append]; omega)]
    simp only [Option.bind_some]
    rw [wflag_eq _ _ (by simp only [List.length_append]; omega)]
    simp only [Option.bind_some]
    rw [wflag_eq _ _ (by simp only [List.length_append]; omega)]
    simp only [Option.bind_some, List.append_assoc]
theorem num_le_max {n : Int} {f : Bool} {m : Int} (h : numV n f m = true) (hm : m ≤ 9223372036854775807) : n ≤ 9223372036854775807 := by
  have := num_t h
  cases f
  · have := this.2 rfl; omega
  · have := this.1 rfl; omega
theorem put_eq {q : Req} (hc : f_ask_Check q = some .nil) : f_ask_Put q = some (⟨16, enc q⟩, .nil) := by
  have h := check_ok hc
  have h1 := (intB_len q.Client).1
  have h2 := (intB_len q.Serial).1
  have h3 := (intB_len q.Kind).1
  have h4 := cT_len (m := 40) h.name
  have h5 := cK_len (x := q.Flag) h.key h.value
  have h6 := cI_len (hasV q.Kind 4) q.Parts
  have h7 := cI_len (hasV q.Kind 8) q.Replicas
  have h8 := cI_len (hasV q.Kind 16) q.Part
  have h9 := cI_len (hasV q.Kind 64) q.Broker
  have h10 := cI_len (hasV q.Kind 128) q.Epoch
  have h11 := cR_len (f := hasV q.Kind 32) h.brok.1
  have h12 := cT_len (m := 40) h.rack
  have hk : q.Kind ≤ 11 := by have := h.known; unfold known at this; omega
  have hi : ∀ x ∈ q.Ids, x ≤ 9223372036854775807 := by
    intro x hx
    obtain ⟨i, hi, rfl⟩ := List.getElem_of_mem hx
    have := (h.brok.2 i hi).2.1
    omega
  have c1 := h.client
  have c2 := h.serial
  unfold f_ask_Put
  refine (bindQ hc).trans ?_
  refine (if_neg (by decide)).trans ?_
  refine (bindQ (about_eq q.Kind)).trans ?_
  refine (bindQ ((bindQ (wint_eq [] q.Client (by omega) (by simp))).trans ((bindQ (wint_eq _ q.Serial (by omega) (by simp; omega))).trans ((bindQ (wint_eq _ q.Kind (by omega) (by simp; omega))).trans rfl)))).trans ?_
  refine (bindQ (pT (f := hasV q.Kind 1) (m := 40) h.name (by decide) (by simp; omega))).trans ?_
  refine (bindQ (pK (f := hasV q.Kind 2) h.key h.value (by simp; omega))).trans ?_
  refine (bindQ (pI rfl (num_le_max h.parts (by decide)) (by simp; omega))).trans ?_
  refine (bindQ (pI rfl (num_le_max h.replicas (by decide)) (by simp; omega))).trans ?_
  refine (bindQ (pI rfl (num_le_max h.part (by decide)) (by simp; omega))).trans ?_
  refine (bindQ (pI rfl (num_le_max h.broker (by decide)) (by simp; omega))).trans ?_
  refine (bindQ (pI rfl (num_le_max h.epoch (by decide)) (by simp; omega))).trans ?_
  refine (bindQ (pR (f := hasV q.Kind 32) h.brok.1 hi (by simp; omega))).trans ?_
  refine (bindQ (pT (f := hasV q.Kind 256) (m := 40) h.rack (by decide) (by simp; omega))).trans ?_
  refine (bindQ (pW (f := hasV q.Kind 512) h.word (by simp; omega))).trans ?_
  simp only [enc, List.nil_append, List.append_assoc]
theorem nxt {b pre x post : List Int} (h : b = pre ++ (x ++ post)) : b = (pre ++ x) ++ post := by rw [List.append_assoc]; exact h
/-! ### what was written is read -/
theorem rI {g bit n m : Int} {k : Int} (hk : aboutV k = g) {b : List Int} (hb : okB b) (hl : b.length ≤ 1000000) {pre post : List Int} (e : b = pre ++ (cI (hasV k bit) n ++ post)) (hn : numV n (hasV k bit) m = true) (hm : m ≤ 1073741824) :
    f_ask_Read_1_60_19_100 bit g ⟨b, (pre.length : Int), .nil⟩ = some (n, ((pre ++ cI (hasV k bit) n).length : Int), .nil) := by
  subst hk
  unfold f_ask_Read_1_60_19_100
  have hh := num_t hn
  cases hf : hasV k bit
  · rw [if_pos (decide_eq_true (Classical.byContradiction fun z => by unfold hasV at hf; exact absurd (of_decide_eq_false hf) (fun y => y z)))]
    simp [cI, hh.2 hf]
  · rw [if_neg (fun z => by unfold hasV at hf; exact (of_decide_eq_true hf) (of_decide_eq_true z))]
    have := hh.1 hf
    rw [hf] at e
    refine (bindQ (backI hb hl (n := n) (m := 1073741824) e (by omega) (by unfold top; omega) (by omega) (by decide))).trans ?_
    rfl
theorem rT {f : Bool} {s : ByteArray} {m : Int} {b : List Int} (hb : okB b) (hl : b.length ≤ 1000000) {pre post : List Int} (e : b = pre ++ (cT f s ++ post)) (hs : textV s f m = true) (hm : m ≤ 1000000) :
    (if f = true then (f_wire_Reader_Text ⟨b, (pre.length : Int), .nil⟩ m).bind fun (r152, r153, r154) => some (r153, r154, strOfNums r152) else some ((pre.length : Int), GErr.nil, (⟨#[]⟩ : ByteArray))) = some (((pre ++ cT f s).length : Int), GErr.nil, s) := by
  have hh := text_t hs
  cases f
  · simp [cT, hh.2 rfl]
  · have := hh.1 rfl
    simp only [if_true]
    refine (bindQ (backT hb hl (s := bytesOf s) (m := m) e (by rw [bytesOf_len]; omega) (by omega))).trans ?_
    rw [str_bytes]
    rfl
theorem rT' {f : Bool} {s : ByteArray} {m : Int} {b : List Int} (hb : okB b) (hl : b.length ≤ 1000000) {pre post : List Int} (e : b = pre ++ (cT f s ++ post)) (hs : textV s f m = true) (hm : m ≤ 1000000) :
    (if f = true then (f_wire_Reader_Text ⟨b, (pre.length : Int), .nil⟩ m).bind fun (r152, r153, r154) => some (strOfNums r152, r153, r154) else some ((⟨#[]⟩ : ByteArray), (pre.length : Int), GErr.nil)) = some (s, ((pre ++ cT f s).length : Int), GErr.nil) := by
  have hh := text_t hs
  cases f
  · simp [cT, hh.2 rfl]
  · have := hh.1 rfl
    simp only [if_true]
    refine (bindQ (backT hb hl (s := bytesOf s) (m := m) e (by rw [bytesOf_len]; omega) (by omega))).trans ?_
    rw [str_bytes]
    rfl
theorem rK {f : Bool} {k v : ByteArray} {x : Bool} {b : List Int} (hb : okB b) (hl : b.length ≤ 1000000) {pre post : List Int} (e : b = pre ++ (cK f k v x ++ post)) (hk : textV k f 40 = true) (hv : textV v f 256 = true) (hx : f = false → x = false) :
    (if f = true then (f_wire_Reader_Text ⟨b, (pre.length : Int), .nil⟩ 40).bind fun (r166, r167, r168) => (f_wire_Reader_Text ⟨b, r167, r168⟩ 256).bind fun (r173, r174, r175) => (f_wire_Reader_Flag ⟨b, r174, r175⟩).bind fun (r180, r181, r182) => some (r181, r182, strOfNums r166, strOfNums r173, r180)
      else some ((pre.length : Int), GErr.nil, (⟨#[]⟩ : ByteArray), (⟨#[]⟩ : ByteArray), false)) = some (((pre ++ cK f k v x).length : Int), GErr.nil, k, v, x) := by
  have h1 := text_t hk
  have h2 := text_t hv
  cases f
  · simp [cK, h1.2 rfl, h2.2 rfl, hx rfl]
  · have l1 := h1.1 rfl
    have l2 := h2.1 rfl
    have e0 : b = pre ++ (textB (bytesOf k) ++ (textB (bytesOf v) ++ (flagB x ++ post))) := by rw [e]; simp [cK]
    simp only [if_true]
    refine (bindQ (backT hb hl (s := bytesOf k) (m := 40) e0 (by rw [bytesOf_len]; omega) (by decide))).trans ?_
    refine (bindQ (backT hb hl (s := bytesOf v) (m := 256) (nxt e0) (by rw [bytesOf_len]; omega) (by decide))).trans ?_
    refine (bindQ (backF hb hl (n := x) (nxt (nxt e0)))).trans ?_
    rw [str_bytes, str_bytes]
    unfold cK
    simp only [if_true, List.append_assoc]
theorem rR {f : Bool} {l : List Int} {b : List Int} (hb : okB b) (hl : b.length ≤ 1000000) {pre post : List Int} (e : b = pre ++ (cR f l ++ post)) (h : brOk l) (hx : f = false → l = []) :
    (if f = true then (f_wire_Reader_Row ⟨b, (pre.length : Int), .nil⟩ 7 64).bind fun (r227, r228, r229) => some (r227, r228, r229) else some ([], (pre.length : Int), GErr.nil)) = some (l, ((pre ++ cR f l).length : Int), GErr.nil) := by
  cases f
  · simp [cR, hx rfl]
  · simp only [if_true]
    refine (bindQ (backR hb hl (s := l) (m := 7) (k := 64) e (by have := h.1; omega) (by decide) (by decide) (fun x hx => ?_))).trans rfl
    obtain ⟨i, hi, rfl⟩ := List.getElem_of_mem hx
    have := h.2 i hi
    omega
theorem rW {f : Bool} {w : T_api_Word} {b : List Int} (hb : okB b) (hl : b.length ≤ 1000000) {pre post : List Int} (e : b = pre ++ (cW f w ++ post)) (h : saidV w f = true) :
    (if f = true then (f_wire_Reader_Int ⟨b, (pre.length : Int), .nil⟩ 1073741824).bind fun (r255, r256, r257) => (f_wire_Reader_Int ⟨b, r256, r257⟩ 1073741824).bind fun (r262, r263, r264) => (f_wire_Reader_Int ⟨b, r263, r264⟩ 1073741824).bind fun (r269, r270, r271) =>
      (f_wire_Reader_Flag ⟨b, r270, r271⟩).bind fun (r276, r277, r278) => (f_wire_Reader_Flag ⟨b, r277, r278⟩).bind fun (r283, r284, r285) => some (r255, r262, r269, r276, r283, r284, r285)
      else some ((0 : Int), (0 : Int), (0 : Int), false, false, (pre.length : Int), GErr.nil)) = some (w.Broker, w.Epoch, w.High, w.Fence, w.Leave, ((pre ++ cW f w).length : Int), GErr.nil) := by
  cases f
  · have hw : (w.Broker = 0 ∧ w.Epoch = 0 ∧ w.High = 0) ∧ w.Fence = false ∧ w.Leave = false := by simpa [saidV] using h
    simp [cW, hw.1.1, hw.1.2.1, hw.1.2.2, hw.2.1, hw.2.2]
  · have hw : 1 ≤ w.Broker ∧ w.Broker ≤ 64 ∧ 0 ≤ w.Epoch ∧ w.Epoch ≤ 1073741824 ∧ 0 ≤ w.High ∧ w.High ≤ 1073741824 := of_decide_eq_true (by simpa [saidV] using h)
    have e0 : b = pre ++ (intB w.Broker ++ (intB w.Epoch ++ (intB w.High ++ (flagB w.Fence ++ (flagB w.Leave ++ post))))) := by rw [e]; simp [cW]
    simp only [if_true]
    refine (bindQ (backI hb hl (m := 1073741824) e0 (by omega) (by unfold top; omega) (by omega) (by decide))).trans ?_
    refine (bindQ (backI hb hl (m := 1073741824) (nxt e0) (by omega) (by unfold top; omega) (by omega) (by decide))).trans ?_
    refine (bindQ (backI hb hl (m := 1073741824) (nxt (nxt e0)) (by omega) (by unfold top; omega) (by omega) (by decide))).trans ?_
    refine (bindQ (backF hb hl (nxt (nxt (nxt e0))))).trans ?_
    refine (bindQ (backF hb hl (nxt (nxt (nxt (nxt e0)))))).trans ?_
    unfold cW
    simp only [if_true, List.append_assoc]
theorem read_back' {q : Req} (hc : f_ask_Check q = some .nil) {b : List Int} (hb : okB b) (hl : b.length ≤ 1000000)
    (e0 : b = [] ++ (intB q.Client ++ (intB q.Serial ++ (intB q.Kind ++ (cT (hasV q.Kind 1) q.Name ++ (cK (hasV q.Kind 2) q.Key q.Value q.Flag ++ (cI (hasV q.Kind 4) q.Parts ++ (cI (hasV q.Kind 8) q.Replicas ++ (cI (hasV q.Kind 16) q.Part ++
    (cI (hasV q.Kind 64) q.Broker ++ (cI (hasV q.Kind 128) q.Epoch ++ (cR (hasV q.Kind 32) q.Ids ++ (cT (hasV q.Kind 256) q.Rack ++ (cW (hasV q.Kind 512) q.Word ++ [])))))))))))))) : f_ask_Read ⟨16, b⟩ = some (q, .nil) := by
  have h := check_ok hc
  have hk : 1 ≤ q.Kind ∧ q.Kind ≤ 11 := by have := h.known; unfold known at this; omega
  have hg : ¬ aboutV q.Kind < 0 := by rcases h.known with k | k | k | k | k | k | k | k | k | k | k <;> (rw [k]; decide)
  have c1 := h.client
  have c2 := h.serial
  have e1 := nxt e0
  have e2 := nxt e1
  have e3 := nxt e2
  have e4 := nxt e3
  have e5 := nxt e4
  have e6 := nxt e5
  have e7 := nxt e6
  have e8 := nxt e7
  have e9 := nxt e8
  have e10 := nxt e9
  have e11 := nxt e10
  have e12 := nxt e11
  have e13 := nxt e12
  have tp : (1073741824 : Int) ≤ top := by decide
  unfold f_ask_Read
  refine (if_neg (by simp)).trans ?_
  refine (bindQ (show f_wire_Read b = some ⟨b, ((([] : List Int).length : Nat) : Int), .nil⟩ from rfl)).trans ?_
  refine (bindQ ((bindQ (backI hb hl (m := 1073741824) e0 (by omega) (by omega) (by omega) (by decide))).trans ((bindQ (backI hb hl (m := 1073741824) e1 (by omega) (by omega) (by omega) (by decide))).trans ((bindQ (backI hb hl (m := 63) e2 (by omega) (by omega) (by omega) (by decide))).trans rfl)))).trans ?_
  refine (bindQ (about_eq q.Kind)).trans ?_
  refine (if_neg (fun z => hg (of_decide_eq_true z))).trans ?_
  refine (bindQ (rT (f := hasV q.Kind 1) hb hl e3 h.name (by decide))).trans ?_
  refine (bindQ (rK (f := hasV q.Kind 2) hb hl e4 h.key h.value h.flag)).trans ?_
  refine (bindQ (rI rfl hb hl e5 h.parts (by decide))).trans ?_
  refine (bindQ (rI rfl hb hl e6 h.replicas (by decide))).trans ?_
  refine (bindQ (rI rfl hb hl e7 h.part (by decide))).trans ?_
  refine (bindQ (rI rfl hb hl e8 h.broker (by decide))).trans ?_
  refine (bindQ (rI rfl hb hl e9 h.epoch (by decide))).trans ?_
  refine (bindQ (rR (f := hasV q.Kind 32) hb hl e10 h.brok h.ids)).trans ?_
  refine (bindQ (rT' (f := hasV q.Kind 256) hb hl e11 h.rack (by decide))).trans ?_
  refine (bindQ (rW (f := hasV q.Kind 512) hb hl e12 h.word)).trans ?_
  refine (bindQ (backE (by rw [List.append_nil] at e13; exact congrArg List.length e13.symm))).trans ?_
  refine (if_neg (by decide)).trans ?_
  refine (bindQ hc).trans ?_
  rfl
theorem read_back {q : Req} (hc : f_ask_Check q = some .nil) : f_ask_Read ⟨16, enc q⟩ = some (q, .nil) :=
  read_back' hc (enc_ok q) (by have := enc_len (check_ok hc); omega) (by unfold enc; rw [List.nil_append, List.append_nil])
abbrev Rep := T_api_Reply
def okR (a : Rep) : Prop := 1 ≤ a.Client ∧ a.Client ≤ 1073741824 ∧ 1 ≤ a.Serial ∧ a.Serial ≤ 1073741824 ∧ 0 ≤ a.Code ∧ a.Code ≤ 21 ∧ 0 ≤ a.Leader ∧ a.Leader ≤ 1073741824
instance (a : Rep) : Decidable (okR a) := by unfold okR; infer_instance
abbrev replyOp : ByteArray := ⟨#[114, 101, 112, 108, 121]⟩
def checkR (a : Rep) : GErr := if okR a then .nil else .fault replyOp a.Client (.code 2)
theorem or8 (p1 p2 p3 p4 p5 p6 p7 p8 : Prop) [Decidable p1] [Decidable p2] [Decidable p3] [Decidable p4] [Decidable p5] [Decidable p6] [Decidable p7] [Decidable p8] :
    (if decide p1 = true then some true else if decide p2 = true then some true else if decide p3 = true then some true else if decide p4 = true then some true else if decide p5 = true then some true else if decide p6 = true then some true else if decide p7 = true then some true else some (decide p8)) = some (decide (p1 ∨ p2 ∨ p3 ∨ p4 ∨ p5 ∨ p6 ∨ p7 ∨ p8)) := by
  by_cases h1 : p1
  · simp [h1]
  by_cases h2 : p2
  · simp [h1, h2]
  by_cases h3 : p3
  · simp [h1, h2, h3]
  by_cases h4 : p4
  · simp [h1, h2, h3, h4]
  by_cases h5 : p5
  · simp [h1, h2, h3, h4, h5]
  by_cases h6 : p6
  · simp [h1, h2, h3, h4, h5, h6]
  by_cases h7 : p7
  · simp [h1, h2, h3, h4, h5, h6, h7]
  simp [h1, h2, h3, h4, h5, h6, h7]
theorem creply_eq (a : Rep) : f_ask_CheckReply a = some (checkR a) := by
  unfold f_ask_CheckReply checkR
  refine (bindQ (or8 _ _ _ _ _ _ _ _)).trans ?_
  by_cases h : okR a
  · rw [if_pos h, if_neg (fun z => by have := of_decide_eq_true z; unfold okR at h; omega)]
  · rw [if_neg h, if_pos (decide_eq_true (by unfold okR at h; omega))]
    rfl
def encR (a : Rep) : List Int := intB a.Client ++ (intB a.Serial ++ (intB a.Code ++ (intB a.Leader ++ (flagB a.Told.Fenced ++ (flagB a.Told.Leaving ++ flagB a.Told.Stop)))))
theorem encR_ok (a : Rep) : okB (encR a) := (intB_ok _).append ((intB_ok _).append ((intB_ok _).append ((intB_ok _).append ((flagB_ok _).append ((flagB_ok _).append (flagB_ok _))))))
theorem encR_len (a : Rep) : (encR a).length ≤ 40 := by
  have h1 := (intB_len a.Client).1
  have h2 := (intB_len a.Serial).1
  have h3 := (intB_len a.Code).1
  have h4 := (intB_len a.Leader).1
  unfold encR
  simp only [List.length_append, flagB_len]
  omega
theorem checkR_nil {a : Rep} : checkR a = .nil ↔ okR a := by
  unfold checkR
  by_cases h : okR a
  · rw [if_pos h]; exact ⟨fun _ => h, fun _ => rfl⟩
  · rw [if_neg h]; exact ⟨fun q => (by cases q), fun q => absurd q h⟩
theorem putR_eq (a : Rep) : f_ask_PutReply a = some (if okR a then (⟨17, encR a⟩, .nil) else (⟨0, []⟩, checkR a)) := by
  unfold f_ask_PutReply
  refine (bindQ (creply_eq a)).trans ?_
  by_cases h : okR a
  · have hn := checkR_nil.2 h
    have h' := h
    unfold okR at h'
    have h1 := (intB_len a.Client).1
    have h2 := (intB_len a.Serial).1
    have h3 := (intB_len a.Code).1
    have h4 := (intB_len a.Leader).1
    have h5 := flagB_len a.Told.Fenced
    have h6 := flagB_len a.Told.Leaving
    rw [hn, if_pos h]
    refine (if_neg (by simp [GErr.isNil])).trans ?_
    refine (bindQ (wint_eq [] _ (by omega) (by simp))).trans ?_
    refine (bindQ (wint_eq _ _ (by omega) (by simp; omega))).trans ?_
    refine (bindQ (wint_eq _ _ (by omega) (by simp; omega))).trans ?_
    refine (bindQ (wint_eq _ _ (by omega) (by simp; omega))).trans ?_
    refine (bindQ (wflag_eq _ _ (by simp; omega))).trans ?_
    refine (bindQ (wflag_eq _ _ (by simp; omega))).trans ?_
    refine (bindQ (wflag_eq _ _ (by simp; omega))).trans ?_
    simp only [encR, List.nil_append, List.append_assoc]
  · have hn : (checkR a).isNil = false := by unfold checkR; rw [if_neg h]; rfl
    rw [if_neg h]
    exact if_pos (by rw [hn]; rfl)
theorem readR_back' {a : Rep} (h : okR a) {b : List Int} (hb : okB b) (hl : b.length ≤ 1000000) (e0 : b = [] ++ (intB a.Client ++ (intB a.Serial ++ (intB a.Code ++ (intB a.Leader ++ (flagB a.Told.Fenced ++ (flagB a.Told.Leaving ++ (flagB a.Told.Stop ++ [])))))))) : f_ask_ReadReply ⟨17, b⟩ = some (a, .nil) := by
  have h' := h
  unfold okR at h'
  have e1 := nxt e0
  have e2 := nxt e1
  have e3 := nxt e2
  have e4 := nxt e3
  have e5 := nxt e4
  have e6 := nxt e5
  have e7 := nxt e6
  have tp : (1073741824 : Int) ≤ top := by decide
  unfold f_ask_ReadReply
  refine (if_neg (by simp)).trans ?_
  refine (bindQ (show f_wire_Read b = some ⟨b, ((([] : List Int).length : Nat) : Int), .nil⟩ from rfl)).trans ?_
  refine (bindQ (backI hb hl (m := 1073741824) e0 (by omega) (by omega) (by omega) (by decide))).trans ?_
  refine (bindQ (backI hb hl (m := 1073741824) e1 (by omega) (by omega) (by omega) (by decide))).trans ?_
  refine (bindQ (backI hb hl (m := 1073741824) e2 (by omega) (by omega) (by omega) (by decide))).trans ?_
  refine (bindQ (backI hb hl (m := 1073741824) e3 (by omega) (by omega) (by omega) (by decide))).trans ?_
  refine (bindQ (backF hb hl e4)).trans ?_
  refine (bindQ (backF hb hl e5)).trans ?_
  refine (bindQ (backF hb hl e6)).trans ?_
  refine (bindQ (backE (by rw [List.append_nil] at e7; exact congrArg List.length e7.symm))).trans ?_
  refine (if_neg (by simp [GErr.isNil])).trans ?_
  refine (bindQ ((creply_eq a).trans (by rw [checkR_nil.2 h]))).trans ?_
  rfl
theorem readR_back {a : Rep} (h : okR a) : f_ask_ReadReply ⟨17, encR a⟩ = some (a, .nil) :=
  readR_back' h (encR_ok a) (by have := encR_len a; omega) (by unfold encR; rw [List.nil_append, List.append_nil])
/-! ### the example -/
def q22 : Req := ⟨3, 4, 5, ⟨#[116]⟩, ⟨#[]⟩, ⟨#[]⟩, false, 0, 0, 1, [2, 5], 0, 0, ⟨#[]⟩, ⟨0, 0, 0, false, false⟩⟩
def a22 : Rep := ⟨3, 4, 8, 1, ⟨false, false, true⟩⟩
theorem br25 : f_record_Brokers [2, 5] = some true := by
  have hb : brOk [2, 5] := ⟨by decide, fun i h => by
    have : i = 0 ∨ i = 1 := by simp at h; omega
    rcases this with rfl | rfl <;> simp⟩
  unfold f_record_Brokers
  rw [if_neg (by decide)]
  have h1 := pbrok_loop [2, 5] (by decide) 2 0 (by decide) (fun j hj hji => by omega)
  rw [show ((0 : Nat) : Int) = 0 from rfl] at h1
  rcases h1 with ⟨a1, b1⟩ | ⟨a1, b1⟩
  · rw [b1]; rfl
  · exact absurd hb a1
theorem check22 : f_ask_Check q22 = some .nil := by
  unfold f_ask_Check q22
  simp only [about_eq, ptext_eq, pnum_eq, psaid_eq, f_ask_Check_1, Option.bind_some, br25]
  rfl
theorem eq25 : f_slices_Equal_int_int [2, 5] [2, 5] = some true := by
  unfold f_slices_Equal_int_int
  rw [iter_run (e := .inl ()) 4 rfl]
  rfl
theorem same22 : f_ask_Same q22 q22 = some true := by
  unfold f_ask_Same f_ask_Same_1 f_ask_Same_2 q22
  simp only [Option.bind_some, eq25]
  rfl
theorem works22 : f_law22_works = some true := by
  have h1 := put_eq check22
  have h2 := read_back check22
  have h3 : f_ask_PutReply a22 = some (⟨17, encR a22⟩, .nil) := by rw [putR_eq, if_pos (by decide)]
  have h4 := readR_back (a := a22) (by decide)
  have h5 : f_ask_Read ⟨17, encR a22⟩ = some (⟨0, 0, 0, ⟨#[]⟩, ⟨#[]⟩, ⟨#[]⟩, false, 0, 0, 0, [], 0, 0, ⟨#[]⟩, ⟨0, 0, 0, false, false⟩⟩, .fault ⟨#[102, 114, 97, 109, 101]⟩ 17 (.code 5)) := rfl
  have h6 : (enc q22).length = 9 := by decide +kernel
  have h7 : f_ask_Same q22 ⟨0, 0, 0, ⟨#[]⟩, ⟨#[]⟩, ⟨#[]⟩, false, 0, 0, 0, [], 0, 0, ⟨#[]⟩, ⟨0, 0, 0, false, false⟩⟩ = some false := rfl
  have h8 : f_ask_Check ⟨0, 0, 0, ⟨#[]⟩, ⟨#[]⟩, ⟨#[]⟩, false, 0, 0, 0, [], 0, 0, ⟨#[]⟩, ⟨0, 0, 0, false, false⟩⟩ = some (.fault ⟨#[107, 105, 110, 100]⟩ 0 (.code 5)) := rfl
  have h9 : f_ask_CheckReply ⟨0, 0, 0, 0, ⟨false, false, false⟩⟩ = some (.fault replyOp 0 (.code 2)) := rfl
  unfold f_law22_works
  refine (bindQ h1).trans ?_
  refine (bindQ h2).trans ?_
  refine (bindQ h3).trans ?_
  refine (bindQ h4).trans ?_
  refine (bindQ h5).trans ?_
  refine (bindQ (y := true) ?_).trans rfl
  refine (if_pos rfl).trans ?_
  refine (if_pos rfl).trans ?_
  refine (if_pos (decide_eq_true (by show ((enc q22).length : Int) = 9; rw [h6]; rfl))).trans ?_
  refine (if_pos rfl).trans ?_
  refine (bindQ same22).trans ?_
  refine (if_pos rfl).trans ?_
  refine (bindQ h7).trans ?_
  refine (if_pos rfl).trans ?_
  refine (if_pos rfl).trans ?_
  refine (if_pos rfl).trans ?_
  refine (if_pos rfl).trans ?_
  refine (if_pos rfl).trans ?_
  refine (bindQ (is_eq _ _)).trans ?_
  refine (if_pos rfl).trans ?_
  refine (bindQ h8).trans ?_
  refine (bindQ (is_eq _ _)).trans ?_
  refine (if_pos rfl).trans ?_
  refine (bindQ h9).trans ?_
  refine (bindQ (is_eq _ _)).trans ?_
  rfl
theorem ints_loop (a b : List Int) (hl : a.length = b.length) (hm : a.length ≤ 1000000) : ∀ (d i : Nat), i + d = a.length → (iter (f_ref02_Ints_l0 a b) (i : Int) = some (.inl ())) ∨ (iter (f_ref02_Ints_l0 a b) (i : Int) = some (.inr ()))
  | 0, i, h => .inl (iter_stop (by
      unfold f_ref02_Ints_l0
      simp only
      rw [if_neg (fun z => absurd (of_decide_eq_true z) (by omega))]))
  | d + 1, i, h => by
    by_cases g : rd a (i : Int) = rd b (i : Int)
    · have hs : f_ref02_Ints_l0 a b (i : Int) = some (.inl ((i + 1 : Nat) : Int)) := by
        unfold f_ref02_Ints_l0
        simp only
        rw [if_pos (decide_eq_true (by omega)), grd_t (by omega), grd_t (by omega), if_neg (by simpa using g), w_i64 (by omega) (by omega)]
        rfl
      rw [iter_next hs]
      exact ints_loop a b hl hm d (i + 1) (by omega)
    · refine .inr (iter_stop ?_)
      unfold f_ref02_Ints_l0
      simp only
      rw [if_pos (decide_eq_true (by omega)), grd_t (by omega), grd_t (by omega), if_pos (by simpa using g)]
theorem ints_ex (a b : List Int) (hm : a.length ≤ 1000000) : ∃ t, f_ref02_Ints a b = some t := by
  unfold f_ref02_Ints
  by_cases h : a.length = b.length
  · rw [if_neg (by simp; omega)]
    have := ints_loop a b h hm a.length 0 (by omega)
    rw [show ((0 : Nat) : Int) = 0 from rfl] at this
    rcases this with e | e
    · rw [e]; exact ⟨_, rfl⟩
    · rw [e]; exact ⟨_, rfl⟩
  · rw [if_pos (by simp; omega)]; exact ⟨_, rfl⟩
theorem same_shape (c1 c2 c3 c4 c5 c6 c7 c8 s1 s2 s3 s4 fl w t : Bool) :
    (if andL [c1, c2, c3, c4, c5, c6, c7, c8] = true then if andL [s1, s2, s3, s4] = true then if fl = true then if w = true then some t else some false else some false else some false else some false) =
    ((if (!c1) = true then some true else if (!c2) = true then some true else if (!c3) = true then some true else if (!s1) = true then some true else if (!s2) = true then some true else some (!s3)) : Option Bool).bind fun x => if x = true then some false else
      ((if (!fl) = true then some true else if (!c4) = true then some true else if (!c5) = true then some true else if (!c6) = true then some true else if (!c7) = true then some true else some (!c8)) : Option Bool).bind fun x => if x = true then some false else
        if s4 = true then if w = true then some t else some false else some false := by
  cases c1
  · simp [andL]
  cases c2
  · simp [andL]
  cases c3
  · simp [andL]
  cases s1
  · simp [andL]
  cases s2
  · simp [andL]
  cases s3
  · simp [andL]
  cases fl
  · simp [andL]
  cases c4
  · simp [andL]
  cases c5
  · simp [andL]
  cases c6
  · simp [andL]
  cases c7
  · simp [andL]
  cases c8
  · simp [andL]
  cases s4
  · simp [andL]
  cases w <;> simp [andL]
theorem same_ex (c s fl w t : Bool) : ∃ x, (if c = true then if s = true then if fl = true then if w = true then some t else some false else some false else some false else some false) = some x := by
  cases c <;> cases s <;> cases fl <;> cases w <;> exact ⟨_, rfl⟩
theorem beqB (x y : ByteArray) : (x == y) = decide (x = y) := by
  obtain ⟨a⟩ := x
  obtain ⟨b⟩ := y
  have : ((⟨a⟩ : ByteArray) == ⟨b⟩) = (a == b) := rfl
  rw [this, Bool.eq_iff_iff]
  simp
theorem same_eq22 (a b : Req) (hm : a.Ids.length ≤ 1000000) : ∃ x, f_ask_Same a b = some x ∧ f_ref22_Same a b = some x := by
  obtain ⟨t, ht⟩ := ints_ex a.Ids b.Ids hm
  have ht' : f_slices_Equal_int_int a.Ids b.Ids = some t := ht
  have e1 : f_ask_Same a b = (if andL [decide (a.Client = b.Client), decide (a.Serial = b.Serial), decide (a.Kind = b.Kind), decide (a.Parts = b.Parts), decide (a.Replicas = b.Replicas), decide (a.Part = b.Part), decide (a.Broker = b.Broker), decide (a.Epoch = b.Epoch)] = true then
      if andL [decide (a.Name = b.Name), decide (a.Key = b.Key), decide (a.Value = b.Value), decide (a.Rack = b.Rack)] = true then if (a.Flag == b.Flag) = true then if andL [decide (a.Word.Broker = b.Word.Broker), decide (a.Word.Epoch = b.Word.Epoch), decide (a.Word.High = b.Word.High), a.Word.Fence == b.Word.Fence, a.Word.Leave == b.Word.Leave] = true then some t else some false else some false else some false else some false) := by
    unfold f_ask_Same f_ask_Same_1 f_ask_Same_2
    simp only [Option.bind_some, ht', Option.bind_fun_some, beqB]
    rfl
  obtain ⟨x, hx⟩ := same_ex (andL [decide (a.Client = b.Client), decide (a.Serial = b.Serial), decide (a.Kind = b.Kind), decide (a.Parts = b.Parts), decide (a.Replicas = b.Replicas), decide (a.Part = b.Part), decide (a.Broker = b.Broker), decide (a.Epoch = b.Epoch)])
    (andL [decide (a.Name = b.Name), decide (a.Key = b.Key), decide (a.Value = b.Value), decide (a.Rack = b.Rack)]) (a.Flag == b.Flag) (andL [decide (a.Word.Broker = b.Word.Broker), decide (a.Word.Epoch = b.Word.Epoch), decide (a.Word.High = b.Word.High), a.Word.Fence == b.Word.Fence, a.Word.Leave == b.Word.Leave]) t
  refine ⟨x, e1.trans hx, ?_⟩
  rw [same_shape] at hx
  rw [← hx]
  unfold f_ref22_Same
  simp only [ht, decide_not, ne_eq, Option.bind_some, Option.bind_fun_some]
theorem wrong22 (w : T_ref22_Wrong) : f_law22_wrong (toE w) w = some true := by
  unfold f_law22_wrong toE
  by_cases h : w.Code = 0
  · rw [if_pos h]
    simp [GErr.isNil, h]
  · rw [if_neg h]
    refine (if_neg (by simp [GErr.isNil])).trans ?_
    rw [where_eq, of_eq, under_eq _ _ (by simp [PathE])]
    simp [WhereE, OfE_fault, PathE]
def wR (a : Rep) : T_ref22_Wrong := if okR a then ⟨⟨#[]⟩, 0, 0⟩ else ⟨replyOp, a.Client, 2⟩
theorem wR_eq (a : Rep) : toE (wR a) = checkR a := by
  unfold toE wR checkR
  by_cases h : okR a
  · rw [if_pos h, if_pos h]; rfl
  · rw [if_neg h, if_neg h]; rfl
theorem rcreply_eq (a : Rep) : f_ref22_CheckReply a = some (wR a) := by
  unfold f_ref22_CheckReply wR
  simp only [(num_eq _ _ _).2, Option.bind_some]
  have hx : (if decide (a.Client < 1) = true then some true else if decide ((1073741824 : Int) < a.Client) = true then some true else if decide (a.Serial < 1) = true then some true else if decide ((1073741824 : Int) < a.Serial) = true then some true
      else if (!numV a.Code true 21) = true then some true else some (!numV a.Leader true 1073741824)) = some (decide (¬ okR a)) := by
    unfold okR numV
    by_cases h1 : a.Client < 1
    · rw [if_pos (decide_eq_true h1), decide_eq_true (by omega)]
    rw [if_neg (fun z => h1 (of_decide_eq_true z))]
    by_cases h2 : 1073741824 < a.Client
    · rw [if_pos (decide_eq_true h2), decide_eq_true (by omega)]
    rw [if_neg (fun z => h2 (of_decide_eq_true z))]
    by_cases h3 : a.Serial < 1
    · rw [if_pos (decide_eq_true h3), decide_eq_true (by omega)]
    rw [if_neg (fun z => h3 (of_decide_eq_true z))]
    by_cases h4 : 1073741824 < a.Serial
    · rw [if_pos (decide_eq_true h4), decide_eq_true (by omega)]
    rw [if_neg (fun z => h4 (of_decide_eq_true z))]
    by_cases h5 : 0 ≤ a.Code ∧ a.Code ≤ 21
    · by_cases h6 : 0 ≤ a.Leader ∧ a.Leader ≤ 1073741824
      · rw [decide_eq_false (show ¬ ¬ (1 ≤ a.Client ∧ a.Client ≤ 1073741824 ∧ 1 ≤ a.Serial ∧ a.Serial ≤ 1073741824 ∧ 0 ≤ a.Code ∧ a.Code ≤ 21 ∧ 0 ≤ a.Leader ∧ a.Leader ≤ 1073741824) by omega)]
        simp [h5, h6]
      · rw [decide_eq_true (show ¬ (1 ≤ a.Client ∧ a.Client ≤ 1073741824 ∧ 1 ≤ a.Serial ∧ a.Serial ≤ 1073741824 ∧ 0 ≤ a.Code ∧ a.Code ≤ 21 ∧ 0 ≤ a.Leader ∧ a.Leader ≤ 1073741824) by omega)]
        simp [h5, h6]
    · rw [decide_eq_true (show ¬ (1 ≤ a.Client ∧ a.Client ≤ 1073741824 ∧ 1 ≤ a.Serial ∧ a.Serial ≤ 1073741824 ∧ 0 ≤ a.Code ∧ a.Code ≤ 21 ∧ 0 ≤ a.Leader ∧ a.Leader ≤ 1073741824) by omega)]
      simp [h5]
  refine (bindQ hx).trans ?_
  by_cases h : okR a
  · rw [if_pos h, if_neg (by simp [h])]
  · rw [if_neg h, if_pos (by simp [h])]
theorem curI {b : List Int} (hb : okB b) (hl : b.length ≤ 1000000) {a : Nat} {e : GErr} {s : T_ref02_State} (h : cor b a e s) (m : Int) (hm : m ≤ 9223372036854775807) :
    ∃ (v : Int) (a' : Nat) (e' : GErr) (t : T_ref02_State), f_wire_Reader_Int ⟨b, (a : Int), e⟩ m = some (v, (a' : Int), e') ∧ f_ref05_Cursor_Int ⟨b, ⟨s.At, s.Code, s.Op, s.Where⟩⟩ m = some (v, t.At, t.Code, t.Op, t.Where) ∧ cor b a' e' t := by
  obtain ⟨v, a', e', t, h1, h2, h3, h4, h5, _⟩ := stepI hb hl h m hm
  refine ⟨v, a', e', t, h1, ?_, h3⟩
  have h2' : f_ref02_Read b ⟨s.At, s.Code, s.Op, s.Where⟩ ⟨1, m, 0⟩ = some (t, ⟨v, false, [], []⟩) := h2
  unfold top at h5
  unfold f_ref05_Cursor_Int
  simp only [h2', Option.bind_some]
  rw [w_i64 (by omega) (by omega)]
theorem curF {b : List Int} (hb : okB b) (hl : b.length ≤ 1000000) {a : Nat} {e : GErr} {s : T_ref02_State} (h : cor b a e s) :
    ∃ (v : Bool) (a' : Nat) (e' : GErr) (t : T_ref02_State), f_wire_Reader_Flag ⟨b, (a : Int), e⟩ = some (v, (a' : Int), e') ∧ f_ref05_Cursor_Flag ⟨b, ⟨s.At, s.Code, s.Op, s.Where⟩⟩ = some (v, t.At, t.Code, t.Op, t.Where) ∧ cor b a' e' t := by
  obtain ⟨v, a', e', t, h1, h2, h3⟩ := stepF hb hl h
  exact ⟨v, a', e', t, h1, (by
    have h2' : f_ref02_Read b ⟨s.At, s.Code, s.Op, s.Where⟩ ⟨2, 0, 0⟩ = some (t, ⟨0, v, [], []⟩) := h2
    unfold f_ref05_Cursor_Flag
    simp only [h2', Option.bind_some]), h3⟩
theorem curT {b : List Int} (hb : okB b) (hl : b.length ≤ 1000000) {a : Nat} {e : GErr} {s : T_ref02_State} (h : cor b a e s) (m : Int) (hm : m ≤ 9223372036854775807) :
    ∃ (v : List Int) (a' : Nat) (e' : GErr) (t : T_ref02_State), f_wire_Reader_Text ⟨b, (a : Int), e⟩ m = some (v, (a' : Int), e') ∧ f_ref05_Cursor_Text ⟨b, ⟨s.At, s.Code, s.Op, s.Where⟩⟩ m = some (v, t.At, t.Code, t.Op, t.Where) ∧ cor b a' e' t := by
  obtain ⟨v, a', e', t, h1, h2, h3, _⟩ := stepT hb hl h m hm
  exact ⟨v, a', e', t, h1, (by
    have h2' : f_ref02_Read b ⟨s.At, s.Code, s.Op, s.Where⟩ ⟨3, m, 0⟩ = some (t, ⟨0, false, v, []⟩) := h2
    unfold f_ref05_Cursor_Text
    simp only [h2', Option.bind_some]), h3⟩
theorem curR {b : List Int} (hb : okB b) (hl : b.length ≤ 1000000) {a : Nat} {e : GErr} {s : T_ref02_State} (h : cor b a e s) (m k : Int) (hm : m ≤ 9223372036854775807) (hk : k ≤ 9223372036854775807) :
    ∃ (v : List Int) (a' : Nat) (e' : GErr) (t : T_ref02_State), f_wire_Reader_Row ⟨b, (a : Int), e⟩ m k = some (v, (a' : Int), e') ∧ f_ref05_Cursor_Row ⟨b, ⟨s.At, s.Code, s.Op, s.Where⟩⟩ m k = some (v, t.At, t.Code, t.Op, t.Where) ∧ cor b a' e' t ∧ v.length ≤ b.length := by
  obtain ⟨v, a', e', t, h1, h2, h3, h4⟩ := stepR hb hl h m k hm hk
  exact ⟨v, a', e', t, h1, (by
    have h2' : f_ref02_Read b ⟨s.At, s.Code, s.Op, s.Where⟩ ⟨4, m, k⟩ = some (t, ⟨0, false, [], v⟩) := h2
    unfold f_ref05_Cursor_Row
    simp only [h2', Option.bind_some]), h3, h4⟩
theorem qI {g bit k : Int} (hk : aboutV k = g) {b : List Int} (hb : okB b) (hl : b.length ≤ 1000000) {a : Nat} {e : GErr} {s : T_ref02_State} (h : cor b a e s) :
    ∃ (v : Int) (a' : Nat) (e' : GErr) (t : T_ref02_State), f_ask_Read_1_60_19_100 bit g ⟨b, (a : Int), e⟩ = some (v, (a' : Int), e') ∧ f_ref22_some ⟨b, ⟨s.At, s.Code, s.Op, s.Where⟩⟩ (hasV k bit) = some (v, t.At, t.Code, t.Op, t.Where) ∧ cor b a' e' t := by
  subst hk
  unfold f_ask_Read_1_60_19_100 f_ref22_some
  cases hf : hasV k bit
  · rw [if_pos (decide_eq_true (Classical.byContradiction fun z => by unfold hasV at hf; exact absurd (of_decide_eq_false hf) (fun y => y z)))]
    exact ⟨0, a, e, s, rfl, rfl, h⟩
  · rw [if_neg (fun z => by unfold hasV at hf; exact (of_decide_eq_true hf) (of_decide_eq_true z))]
    obtain ⟨v, a', e', t, h1, h2, h3⟩ := curI hb hl h 1073741824 (by decide)
    exact ⟨v, a', e', t, (bindQ h1).trans rfl, (bindQ h2).trans rfl, h3⟩
theorem qT {f : Bool} {m : Int} (hm : m ≤ 9223372036854775807) {b : List Int} (hb : okB b) (hl : b.length ≤ 1000000) {a : Nat} {e : GErr} {s : T_ref02_State} (h : cor b a e s) :
    ∃ (x : ByteArray) (a' : Nat) (e' : GErr) (t : T_ref02_State), (if f = true then (f_wire_Reader_Text ⟨b, (a : Int), e⟩ m).bind fun (r152, r153, r154) => some (r153, r154, strOfNums r152) else some ((a : Int), e, (⟨#[]⟩ : ByteArray))) = some ((a' : Int), e', x) ∧
      (if f = true then (f_wire_Reader_Text ⟨b, (a : Int), e⟩ m).bind fun (r152, r153, r154) => some (strOfNums r152, r153, r154) else some ((⟨#[]⟩ : ByteArray), (a : Int), e)) = some (x, (a' : Int), e') ∧
      f_ref22_word ⟨b, ⟨s.At, s.Code, s.Op, s.Where⟩⟩ f m = some (x, t.At, t.Code, t.Op, t.Where) ∧ cor b a' e' t := by
  unfold f_ref22_word
  cases f
  · exact ⟨⟨#[]⟩, a, e, s, rfl, rfl, rfl, h⟩
  · obtain ⟨v, a', e', t, h1, h2, h3⟩ := curT hb hl h m hm
    simp only [if_true]
    exact ⟨strOfNums v, a', e', t, (bindQ h1).trans rfl, (bindQ h1).trans rfl, (bindQ h2).trans rfl, h3⟩
theorem qK {f : Bool} {b : List Int} (hb : okB b) (hl : b.length ≤ 1000000) {a : Nat} {e : GErr} {s : T_ref02_State} (h : cor b a e s) :
    ∃ (k v : ByteArray) (x : Bool) (a' : Nat) (e' : GErr) (t1 t2 t : T_ref02_State), (if f = true then (f_wire_Reader_Text ⟨b, (a : Int), e⟩ 40).bind fun (r166, r167, r168) => (f_wire_Reader_Text ⟨b, r167, r168⟩ 256).bind fun (r173, r174, r175) => (f_wire_Reader_Flag ⟨b, r174, r175⟩).bind fun (r180, r181, r182) => some (r181, r182, strOfNums r166, strOfNums r173, r180)
      else some ((a : Int), e, (⟨#[]⟩ : ByteArray), (⟨#[]⟩ : ByteArray), false)) = some ((a' : Int), e', k, v, x) ∧
      f_ref22_word ⟨b, ⟨s.At, s.Code, s.Op, s.Where⟩⟩ f 40 = some (k, t1.At, t1.Code, t1.Op, t1.Where) ∧ f_ref22_word ⟨b, ⟨t1.At, t1.Code, t1.Op, t1.Where⟩⟩ f 256 = some (v, t2.At, t2.Code, t2.Op, t2.Where) ∧
      (if f = true then (f_ref05_Cursor_Flag ⟨b, ⟨t2.At, t2.Code, t2.Op, t2.Where⟩⟩).bind fun (r127, r128, r129, r130, r131) => some (r127, r128, r129, r130, r131) else some (false, t2.At, t2.Code, t2.Op, t2.Where)) = some (x, t.At, t.Code, t.Op, t.Where) ∧ cor b a' e' t := by
  unfold f_ref22_word
  cases f
  · exact ⟨⟨#[]⟩, ⟨#[]⟩, false, a, e, s, s, s, rfl, rfl, rfl, rfl, h⟩
  · obtain ⟨v1, a1, e1, t1, h1, k1, c1⟩ := curT hb hl h 40 (by decide)
    obtain ⟨v2, a2, e2, t2, h2, k2, c2⟩ := curT hb hl c1 256 (by decide)
    obtain ⟨v3, a3, e3, t3, h3, k3, c3⟩ := curF hb hl c2
    simp only [if_true]
    exact ⟨strOfNums v1, strOfNums v2, v3, a3, e3, t1, t2, t3, (bindQ h1).trans ((bindQ h2).trans ((bindQ h3).trans rfl)), (bindQ k1).trans rfl, (bindQ k2).trans rfl, (bindQ k3).trans rfl, c3⟩
theorem qR {f : Bool} {b : List Int} (hb : okB b) (hl : b.length ≤ 1000000) {a : Nat} {e : GErr} {s : T_ref02_State} (h : cor b a e s) :
    ∃ (l : List Int) (a' : Nat) (e' : GErr) (t : T_ref02_State), (if f = true then (f_wire_Reader_Row ⟨b, (a : Int), e⟩ 7 64).bind fun (r227, r228, r229) => some (r227, r228, r229) else some ([], (a : Int), e)) = some (l, (a' : Int), e') ∧
      (if f = true then (f_ref05_Cursor_Row ⟨b, ⟨s.At, s.Code, s.Op, s.Where⟩⟩ 7 64).bind fun (r127, r128, r129, r130, r131) => some (r127, r128, r129, r130, r131) else some ([], s.At, s.Code, s.Op, s.Where)) = some (l, t.At, t.Code, t.Op, t.Where) ∧ cor b a' e' t ∧ l.length ≤ b.length := by
  cases f
  · exact ⟨[], a, e, s, rfl, rfl, h, Nat.zero_le _⟩
  · obtain ⟨v, a', e', t, h1, h2, h3, h4⟩ := curR hb hl h 7 64 (by decide) (by decide)
    simp only [if_true]
    exact ⟨v, a', e', t, (bindQ h1).trans rfl, (bindQ h2).trans rfl, h3, h4⟩
theorem qW {f : Bool} {b : List Int} (hb : okB b) (hl : b.length ≤ 1000000) {a : Nat} {e : GErr} {s : T_ref02_State} (h : cor b a e s) :
    ∃ (w : T_api_Word) (a' : Nat) (e' : GErr) (t : T_ref02_State), (if f = true then (f_wire_Reader_Int ⟨b, (a : Int), e⟩ 1073741824).bind fun (r255, r256, r257) => (f_wire_Reader_Int ⟨b, r256, r257⟩ 1073741824).bind fun (r262, r263, r264) => (f_wire_Reader_Int ⟨b, r263, r264⟩ 1073741824).bind fun (r269, r270, r271) =>
      (f_wire_Reader_Flag ⟨b, r270, r271⟩).bind fun (r276, r277, r278) => (f_wire_Reader_Flag ⟨b, r277, r278⟩).bind fun (r283, r284, r285) => some (r255, r262, r269, r276, r283, r284, r285)
      else some ((0 : Int), (0 : Int), (0 : Int), false, false, (a : Int), e)) = some (w.Broker, w.Epoch, w.High, w.Fence, w.Leave, (a' : Int), e') ∧
      (if f = true then (f_ref05_Cursor_Int ⟨b, ⟨s.At, s.Code, s.Op, s.Where⟩⟩ 1073741824).bind fun (r258, r259, r260, r261, r262) => (f_ref05_Cursor_Int ⟨b, ⟨r259, r260, r261, r262⟩⟩ 1073741824).bind fun (r267, r268, r269, r270, r271) => (f_ref05_Cursor_Int ⟨b, ⟨r268, r269, r270, r271⟩⟩ 1073741824).bind fun (r276, r277, r278, r279, r280) =>
        (f_ref05_Cursor_Flag ⟨b, ⟨r277, r278, r279, r280⟩⟩).bind fun (r285, r286, r287, r288, r289) => (f_ref05_Cursor_Flag ⟨b, ⟨r286, r287, r288, r289⟩⟩).bind fun (r294, r295, r296, r297, r298) => some (r258, r267, r276, r285, r294, r295, r296, r297, r298)
        else some ((0 : Int), (0 : Int), (0 : Int), false, false, s.At, s.Code, s.Op, s.Where)) = some (w.Broker, w.Epoch, w.High, w.Fence, w.Leave, t.At, t.Code, t.Op, t.Where) ∧ cor b a' e' t := by
  cases f
  · exact ⟨⟨0, 0, 0, false, false⟩, a, e, s, rfl, rfl, h⟩
  · obtain ⟨v1, a1, e1, t1, h1, k1, c1⟩ := curI hb hl h 1073741824 (by decide)
    obtain ⟨v2, a2, e2, t2, h2, k2, c2⟩ := curI hb hl c1 1073741824 (by decide)
    obtain ⟨v3, a3, e3, t3, h3, k3, c3⟩ := curI hb hl c2 1073741824 (by decide)
    obtain ⟨v4, a4, e4, t4, h4, k4, c4⟩ := curF hb hl c3
    obtain ⟨v5, a5, e5, t5, h5, k5, c5⟩ := curF hb hl c4
    simp only [if_true]
    exact ⟨⟨v1, v2, v3, v4, v5⟩, a5, e5, t5, (bindQ h1).trans ((bindQ h2).trans ((bindQ h3).trans ((bindQ h4).trans ((bindQ h5).trans rfl)))), (bindQ k1).trans ((bindQ k2).trans ((bindQ k3).trans ((bindQ k4).trans ((bindQ k5).trans rfl)))), c5⟩
def bad22 (t : T_ref02_State) : T_ref22_Wrong := ⟨t.Op, t.Where, t.Code⟩
theorem qE {b : List Int} {a : Nat} {e : GErr} {s : T_ref02_State} (h : cor b a e s) :
    ∃ t, f_wire_Reader_End ⟨b, (a : Int), e⟩ = some (toE (bad22 t), toE (bad22 t)) ∧ f_ref05_Cursor_End ⟨b, ⟨s.At, s.Code, s.Op, s.Where⟩⟩ = some (t.At, t.Code, t.Op, t.Where) ∧ ((toE (bad22 t)).isNil = true ↔ t.Code = 0) := by
  have hz : ∀ t : T_ref02_State, (toE (bad22 t)).isNil = true ↔ t.Code = 0 := by
    intro t
    unfold toE bad22
    by_cases g : t.Code = 0
    · simp [g, GErr.isNil]
    · simp [g, GErr.isNil]
  obtain ⟨ha, hs, h⟩ := h
  unfold f_ref05_Cursor_End
  have er : f_ref02_End b ⟨s.At, s.Code, s.Op, s.Where⟩ = some (if s.At < (b.length : Int) ∧ s.Code = 0 then ⟨s.At, 5, endOp, s.At⟩ else s) := rend_eq b s
  rw [wend_eq]
  rcases h with ⟨rfl, hc⟩ | ⟨hc, he⟩
  · by_cases g : (a : Int) < (b.length : Int)
    · rw [if_pos (by omega)] at er
      refine ⟨⟨s.At, 5, endOp, s.At⟩, ?_, (bindQ er).trans rfl, hz _⟩
      rw [if_pos ⟨g, rfl⟩, ← hs]
      rfl
    · rw [if_neg (by omega)] at er
      refine ⟨s, ?_, (bindQ er).trans rfl, hz _⟩
      rw [if_neg (fun z => g z.1)]
      unfold toE bad22
      rw [if_pos hc]
  · have hn : e.isNil = false := by rw [he]; rfl
    rw [if_neg (fun z => hc z.2)] at er
    refine ⟨s, ?_, (bindQ er).trans rfl, hz _⟩
    rw [if_neg (fun z => by rw [hn] at z; cases z.2)]
    unfold toE bad22
    rw [if_neg hc, he]
theorem qX {b : List Int} {a : Nat} {e : GErr} {s : T_ref02_State} (h : cor b a e s) (o : ByteArray) :
    ∃ t1 t2 t3, f_wire_Reader_Refuse ⟨b, (a : Int), e⟩ o 5 = some (toE ⟨t2, t3, t1⟩) ∧ f_ref05_Cursor_Refuse ⟨b, ⟨s.At, s.Code, s.Op, s.Where⟩⟩ o 5 = some (t1, t2, t3) := by
  obtain ⟨ha, hs, h⟩ := h
  unfold f_wire_Reader_Refuse f_ref05_Cursor_Refuse
  rcases h with ⟨rfl, hc⟩ | ⟨hc, he⟩
  · refine ⟨5, o, s.At, ?_, if_pos (decide_eq_true hc)⟩
    rw [fail_nil, hs]
    rfl
  · have hn : e.isNil = false := by rw [he]; rfl
    refine ⟨s.Code, s.Op, s.Where, ?_, if_neg (fun z => hc (of_decide_eq_true z))⟩
    rw [fail_bad _ _ _ hn]
    unfold toE
    rw [if_neg hc, he]
    rfl
def zq : Req := ⟨0, 0, 0, ⟨#[]⟩, ⟨#[]⟩, ⟨#[]⟩, false, 0, 0, 0, [], 0, 0, ⟨#[]⟩, ⟨0, 0, 0, false, false⟩⟩
theorem start {b : List Int} : cor b 0 .nil ⟨0, 0, ⟨#[]⟩, 0⟩ := ⟨Nat.zero_le _, rfl, .inl ⟨rfl, rfl⟩⟩
theorem reads_eq (k : Int) {b : List Int} (hb : okB b) (hl : b.length ≤ 1000000) : ∃ p w, f_ask_Read ⟨k, b⟩ = some (p, toE w) ∧ f_ref22_Read ⟨k, b⟩ = some (p, w) ∧ p.Ids.length ≤ b.length := by
  by_cases hk : k = 16
  · obtain ⟨v1, a1, e1, t1, h1, k1, c1⟩ := curI hb hl start 1073741824 (by decide)
    obtain ⟨v2, a2, e2, t2, h2, k2, c2⟩ := curI hb hl c1 1073741824 (by decide)
    obtain ⟨v3, a3, e3, t3, h3, k3, c3⟩ := curI hb hl c2 63 (by decide)
    rcases kinds v3 with hn | hn
    · have hg := about_pos (show known v3 from hn)
      obtain ⟨hg1, ls, hg2, hg3⟩ := hg
      obtain ⟨m1, m2, m4, m8, m16, m32, m64, m128, m256, m512⟩ := has_eq (show known v3 from hn)
      obtain ⟨n4, a4, e4, t4, h4, _, k4, c4⟩ := qT (f := hasV v3 1) (m := 40) (by decide) hb hl c3
      obtain ⟨q5, w5, x5, a5, e5, t51, t52, t5, h5, k51, k52, k53, c5⟩ := qK (f := hasV v3 2) hb hl c4
      obtain ⟨v6, a6, e6, t6, h6, k6, c6⟩ := qI (k := v3) (bit := 4) rfl hb hl c5
      obtain ⟨v7, a7, e7, t7, h7, k7, c7⟩ := qI (k := v3) (bit := 8) rfl hb hl c6
      obtain ⟨v8, a8, e8, t8, h8, k8, c8⟩ := qI (k := v3) (bit := 16) rfl hb hl c7
      obtain ⟨v9, a9, e9, t9, h9, k9, c9⟩ := qI (k := v3) (bit := 64) rfl hb hl c8
      obtain ⟨v10, a10, e10, t10, h10, k10, c10⟩ := qI (k := v3) (bit := 128) rfl hb hl c9
      obtain ⟨v11, a11, e11, t11, h11, k11, c11, hlen⟩ := qR (f := hasV v3 32) hb hl c10
      obtain ⟨v12, a12, e12, t12, _, h12, k12, c12⟩ := qT (f := hasV v3 256) (m := 40) (by decide) hb hl c11
      obtain ⟨v13, a13, e13, t13, h13, k13, c13⟩ := qW (f := hasV v3 512) hb hl c12
      obtain ⟨t14, h14, k14, hz⟩ := qE c13
      obtain ⟨w, hw1, hw2⟩ := check_eq22 ⟨v1, v2, v3, n4, q5, w5, x5, v6, v7, v8, v11, v9, v10, v12, v13⟩
      have H : f_ask_Read ⟨k, b⟩ = if (!(toE (bad22 t14)).isNil) = true then some (zq, toE (bad22 t14)) else if (!(toE w).isNil) = true then some (zq, toE w) else some (⟨v1, v2, v3, n4, q5, w5, x5, v6, v7, v8, v11, v9, v10, v12, v13⟩, .nil) := by
        subst hk
        unfold f_ask_Read
        refine (if_neg (by simp)).trans ?_
        refine (bindQ (show f_wire_Read b = some ⟨b, ((0 : Nat) : Int), .nil⟩ from rfl)).trans ?_
        refine (bindQ ((bindQ h1).trans ((bindQ h2).trans ((bindQ h3).trans rfl)))).trans ?_
        refine (bindQ (about_eq v3)).trans ?_
        refine (if_neg (fun z => hg1 (of_decide_eq_true z))).trans ?_
        refine (bindQ h4).trans ?_
        refine (bindQ h5).trans ?_
        refine (bindQ h6).trans ?_
        refine (bindQ h7).trans ?_
        refine (bindQ h8).trans ?_
        refine (bindQ h9).trans ?_
        refine (bindQ h10).trans ?_
        refine (bindQ h11).trans ?_
        refine (bindQ h12).trans ?_
        refine (bindQ h13).trans ?_
        refine (bindQ h14).trans ?_
        show (if (!(toE (bad22 t14)).isNil) = true then _ else _) = _
        by_cases hx : (!(toE (bad22 t14)).isNil) = true
        · exact (if_pos hx).trans (if_pos hx).symm
        · refine (if_neg hx).trans (Eq.trans ?_ (if_neg hx).symm)
          exact (bindQ hw2).trans rfl
      have K : f_ref22_Read ⟨k, b⟩ = if decide (t14.Code ≠ 0) = true then some (zq, bad22 t14) else if decide (w.Code ≠ 0) = true then some (zq, w) else some (⟨v1, v2, v3, n4, q5, w5, x5, v6, v7, v8, v11, v9, v10, v12, v13⟩, ⟨⟨#[]⟩, 0, 0⟩) := by
        subst hk
        unfold f_ref22_Read
        refine (if_neg (by simp)).trans ?_
        refine (bindQ k1).trans ?_
        refine (bindQ k2).trans ?_
        refine (bindQ k3).trans ?_
        refine (bindQ hg2).trans ?_
        refine (if_neg (by rw [hg3]; simp)).trans ?_
        refine (bindQ m1).trans ?_
        refine (bindQ k4).trans ?_
        refine (bindQ m2).trans ?_
        refine (bindQ k51).trans ?_
        refine (bindQ m2).trans ?_
        refine (bindQ k52).trans ?_
        refine (bindQ ((bindQ m2).trans k53)).trans ?_
        refine (bindQ m4).trans ?_
        refine (bindQ k6).trans ?_
        refine (bindQ m8).trans ?_
        refine (bindQ k7).trans ?_
        refine (bindQ m16).trans ?_
        refine (bindQ k8).trans ?_
        refine (bindQ m64).trans ?_
        refine (bindQ k9).trans ?_
        refine (bindQ m128).trans ?_
        refine (bindQ k10).trans ?_
        refine (bindQ ((bindQ m32).trans k11)).trans ?_
        refine (bindQ m256).trans ?_
        refine (bindQ k12).trans ?_
        refine (bindQ ((bindQ m512).trans k13)).trans ?_
        refine (bindQ k14).trans ?_
        show (if decide (t14.Code ≠ 0) = true then _ else _) = _
        by_cases hx : decide (t14.Code ≠ 0) = true
        · refine (if_pos hx).trans (Eq.trans ?_ (if_pos hx).symm)
          rfl
        · refine (if_neg hx).trans (Eq.trans ?_ (if_neg hx).symm)
          exact (bindQ hw1).trans rfl
      by_cases hx : t14.Code = 0
      · rw [hz.2 hx, if_neg (by simp)] at H
        rw [if_neg (by simp [hx])] at K
        by_cases hy : w.Code = 0
        · have : (toE w) = .nil := by unfold toE; rw [if_pos hy]
          rw [this, if_neg (by simp [GErr.isNil])] at H
          rw [if_neg (by simp [hy])] at K
          exact ⟨_, ⟨⟨#[]⟩, 0, 0⟩, H, K, hlen⟩
        · have : (toE w).isNil = false := by unfold toE; rw [if_neg hy]; rfl
          rw [this, if_pos (by simp)] at H
          rw [if_pos (by simp [hy])] at K
          exact ⟨_, w, H, K, Nat.zero_le _⟩
      · have : (toE (bad22 t14)).isNil = false := by
          cases hb : (toE (bad22 t14)).isNil
          · rfl
          · exact absurd (hz.1 hb) hx
        rw [this, if_pos (by simp)] at H
        rw [if_pos (by simp [hx])] at K
        exact ⟨_, _, H, K, Nat.zero_le _⟩
    · obtain ⟨hg1, hg2⟩ := about_neg hn
      obtain ⟨x1, x2, x3, hx, kx⟩ := qX c3 ⟨#[107, 105, 110, 100]⟩
      refine ⟨zq, ⟨x2, x3, x1⟩, ?_, ?_, Nat.zero_le _⟩
      · subst hk
        unfold f_ask_Read
        refine (if_neg (by simp)).trans ?_
        refine (bindQ (show f_wire_Read b = some ⟨b, ((0 : Nat) : Int), .nil⟩ from rfl)).trans ?_
        refine (bindQ ((bindQ h1).trans ((bindQ h2).trans ((bindQ h3).trans rfl)))).trans ?_
        refine (bindQ (about_eq v3)).trans ?_
        refine (if_pos (decide_eq_true (by show aboutV v3 < 0; rw [hg1]; decide))).trans ?_
        refine (bindQ hx).trans ?_
        rfl
      · subst hk
        unfold f_ref22_Read
        refine (if_neg (by simp)).trans ?_
        refine (bindQ k1).trans ?_
        refine (bindQ k2).trans ?_
        refine (bindQ k3).trans ?_
        refine (bindQ hg2).trans ?_
        refine (if_pos (by simp)).trans ?_
        refine (bindQ kx).trans ?_
        rfl
  · refine ⟨zq, ⟨⟨#[102, 114, 97, 109, 101]⟩, k, 5⟩, ?_, ?_, Nat.zero_le _⟩
    · unfold f_ask_Read
      exact (if_pos (decide_eq_true hk)).trans rfl
    · unfold f_ref22_Read
      exact (if_pos (decide_eq_true hk)).trans rfl
def zr : Rep := ⟨0, 0, 0, 0, ⟨false, false, false⟩⟩
theorem rreads_eq (k : Int) {b : List Int} (hb : okB b) (hl : b.length ≤ 1000000) : ∃ p w, f_ask_ReadReply ⟨k, b⟩ = some (p, toE w) ∧ f_ref22_ReadReply ⟨k, b⟩ = some (p, w) := by
  by_cases hk : k = 17
  · subst hk
    obtain ⟨v1, a1, e1, t1, h1, k1, c1⟩ := curI hb hl start 1073741824 (by decide)
    obtain ⟨v2, a2, e2, t2, h2, k2, c2⟩ := curI hb hl c1 1073741824 (by decide)
    obtain ⟨v3, a3, e3, t3, h3, k3, c3⟩ := curI hb hl c2 1073741824 (by decide)
    obtain ⟨v4, a4, e4, t4, h4, k4, c4⟩ := curI hb hl c3 1073741824 (by decide)
    obtain ⟨v5, a5, e5, t5, h5, k5, c5⟩ := curF hb hl c4
    obtain ⟨v6, a6, e6, t6, h6, k6, c6⟩ := curF hb hl c5
    obtain ⟨v7, a7, e7, t7, h7, k7, c7⟩ := curF hb hl c6
    obtain ⟨t8, h8, k8, hz⟩ := qE c7
    have H : f_ask_ReadReply ⟨17, b⟩ = if (!(toE (bad22 t8)).isNil) = true then some (zr, toE (bad22 t8)) else if (!(toE (wR ⟨v1, v2, v3, v4, ⟨v5, v6, v7⟩⟩)).isNil) = true then some (zr, toE (wR ⟨v1, v2, v3, v4, ⟨v5, v6, v7⟩⟩)) else some (⟨v1, v2, v3, v4, ⟨v5, v6, v7⟩⟩, .nil) := by
      unfold f_ask_ReadReply
      refine (if_neg (by simp)).trans ?_
      refine (bindQ (show f_wire_Read b = some ⟨b, ((0 : Nat) : Int), .nil⟩ from rfl)).trans ?_
      refine (bindQ h1).trans ?_
      refine (bindQ h2).trans ?_
      refine (bindQ h3).trans ?_
      refine (bindQ h4).trans ?_
      refine (bindQ h5).trans ?_
      refine (bindQ h6).trans ?_
      refine (bindQ h7).trans ?_
      refine (bindQ h8).trans ?_
      show (if (!(toE (bad22 t8)).isNil) = true then _ else _) = _
      by_cases hx : (!(toE (bad22 t8)).isNil) = true
      · exact (if_pos hx).trans (if_pos hx).symm
      · refine (if_neg hx).trans (Eq.trans ?_ (if_neg hx).symm)
        exact (bindQ ((creply_eq _).trans (by rw [← wR_eq]))).trans rfl
    have K : f_ref22_ReadReply ⟨17, b⟩ = if decide (t8.Code ≠ 0) = true then some (zr, bad22 t8) else if decide ((wR ⟨v1, v2, v3, v4, ⟨v5, v6, v7⟩⟩).Code ≠ 0) = true then some (zr, wR ⟨v1, v2, v3, v4, ⟨v5, v6, v7⟩⟩) else some (⟨v1, v2, v3, v4, ⟨v5, v6, v7⟩⟩, ⟨⟨#[]⟩, 0, 0⟩) := by
      unfold f_ref22_ReadReply
      refine (if_neg (by simp)).trans ?_
      refine (bindQ k1).trans ?_
      refine (bindQ k2).trans ?_
      refine (bindQ k3).trans ?_
      refine (bindQ k4).trans ?_
      refine (bindQ k5).trans ?_
      refine (bindQ k6).trans ?_
      refine (bindQ k7).trans ?_
      refine (bindQ k8).trans ?_
      show (if decide (t8.Code ≠ 0) = true then _ else _) = _
      by_cases hx : decide (t8.Code ≠ 0) = true
      · refine (if_pos hx).trans (Eq.trans ?_ (if_pos hx).symm)
        rfl
      · refine (if_neg hx).trans (Eq.trans ?_ (if_neg hx).symm)
        exact (bindQ (rcreply_eq _)).trans rfl
    generalize hwr : wR ⟨v1, v2, v3, v4, ⟨v5, v6, v7⟩⟩ = w at H K
    by_cases hx : t8.Code = 0
    · rw [hz.2 hx, if_neg (by simp)] at H
      rw [if_neg (by simp [hx])] at K
      by_cases hy : w.Code = 0
      · have : (toE w) = .nil := by unfold toE; rw [if_pos hy]
        rw [this, if_neg (by simp [GErr.isNil])] at H
        rw [if_neg (by simp [hy])] at K
        exact ⟨_, ⟨⟨#[]⟩, 0, 0⟩, H, K⟩
      · have : (toE w).isNil = false := by unfold toE; rw [if_neg hy]; rfl
        rw [this, if_pos (by simp)] at H
        rw [if_pos (by simp [hy])] at K
        exact ⟨_, w, H, K⟩
    · have : (toE (bad22 t8)).isNil = false := by
        cases hb : (toE (bad22 t8)).isNil
        · rfl
        · exact absurd (hz.1 hb) hx
      rw [this, if_pos (by simp)] at H
      rw [if_pos (by simp [hx])] at K
      exact ⟨_, _, H, K⟩
  · refine ⟨zr, ⟨⟨#[102, 114, 97, 109, 101]⟩, k, 5⟩, ?_, ?_⟩
    · unfold f_ask_ReadReply
      exact (if_pos (decide_eq_true hk)).trans rfl
    · unfold f_ref22_ReadReply
      exact (if_pos (decide_eq_true hk)).trans rfl
theorem okB_of8 {b : List Int} (h : ∀ x ∈ b, (Lit.int .u8 x).wf = true) : okB b := by
  intro x hx
  have := h x hx
  simp [Lit.wf, IntKind.min, IntKind.max, IntKind.signed, IntKind.bits] at this
  omega
theorem rsameR (q : Req) (hl : q.Ids.length ≤ 1000000) : f_ref22_Same q q = some true := by
  obtain ⟨x, h1, h2⟩ := same_eq22 q q hl
  obtain ⟨t, ht⟩ := ints_ex q.Ids q.Ids hl
  have hi : f_ref02_Ints q.Ids q.Ids = some true := by
    unfold f_ref02_Ints
    rw [if_neg (by simp)]
    have go : ∀ (d i : Nat), i + d = q.Ids.length → iter (f_ref02_Ints_l0 q.Ids q.Ids) (i : Int) = some (.inl ()) := by
      intro d
      induction d with
      | zero =>
        intro i h
        refine iter_stop ?_
        unfold f_ref02_Ints_l0
        simp only
        rw [if_neg (fun z => absurd (of_decide_eq_true z) (by omega))]
      | succ d ih =>
        intro i h
        have hs : f_ref02_Ints_l0 q.Ids q.Ids (i : Int) = some (.inl ((i + 1 : Nat) : Int)) := by
          unfold f_ref02_Ints_l0
          simp only
          rw [if_pos (decide_eq_true (by omega)), grd_t (by omega), grd_t (by omega), if_neg (by simp), w_i64 (by omega) (by omega)]
          rfl
        rw [iter_next hs]
        exact ih (i + 1) (by omega)
    have := go q.Ids.length 0 (by omega)
    rw [show ((0 : Nat) : Int) = 0 from rfl] at this
    rw [this]
    rfl
  unfold f_ref22_Same
  simp [hi, andL]
theorem pure_AskReads (k : Int) (b : List Int) {p0 : Prop} (_ : p0) (h1 : (∀ x ∈ b, (Lit.int .u8 x).wf = true) ∧ b.length ≤ maxLen) : f_law22_AskReads k b = some true := by
  have hb := okB_of8 h1.1
  unfold f_law22_AskReads
  by_cases g : (1000 : Int) < (b.length : Int)
  · refine (if_pos (decide_eq_true g)).trans ?_
    exact (bindQ works22).trans rfl
  refine (if_neg (fun z => g (of_decide_eq_true z))).trans ?_
  obtain ⟨p, w, h2, h3, h4⟩ := reads_eq k hb (by omega)
  obtain ⟨x, y, h5, h6⟩ := rreads_eq k hb (by omega)
  refine (bindQ h2).trans ?_
  refine (bindQ h3).trans ?_
  refine (bindQ h5).trans ?_
  refine (bindQ h6).trans ?_
  refine (bindQ (y := true) ?_).trans rfl
  refine (bindQ (wrong22 w)).trans ?_
  refine (if_pos rfl).trans ?_
  refine (bindQ (rsameR p (by omega))).trans ?_
  refine (if_pos rfl).trans ?_
  refine (bindQ (wrong22 y)).trans ?_
  refine (if_pos rfl).trans ?_
  refine (if_pos (by simp [andL])).trans ?_
  exact (bindQ works22).trans rfl
end Go.Proofs.YtjgnbbakamellaaGreatDoor.G
