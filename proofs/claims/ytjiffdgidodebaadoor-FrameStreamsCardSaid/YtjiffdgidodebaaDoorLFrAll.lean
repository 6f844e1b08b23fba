/- The plain part: what the printed functions compute, and that the laws hold of it. No condition. -/
import Derived.Test.YtjiffdgidodebaaDoorF10
import Derived.Test.YtjiffdgidodebaaDoorKArith
import Derived.KernelRfl
import Derived.OpenShut
set_option linter.unusedSimpArgs false
set_option linter.unusedVariables false
set_option maxHeartbeats 8000000
namespace Go.Proofs.YtjiffdgidodebaaDoor.G
open Go Go.KK
/-- The code that an error's chain bears. -/
def codeIn : GErr → Option Int
  | .nil => none
  | .code n => some n
  | .fault _ _ e => codeIn e
  | .other _ => none
def OfE (e : GErr) : Int := match e with | .nil => 0 | e => (codeIn e).getD 21
def WhereE : GErr → Int × Bool
  | .fault _ a _ => (a, true)
  | _ => (0, false)
@[simp] theorem OfE_nil : OfE .nil = 0 := rfl
@[simp] theorem OfE_code (n : Int) : OfE (.code n) = n := rfl
@[simp] theorem OfE_fault (o : ByteArray) (a n : Int) : OfE (.fault o a (.code n)) = n := rfl
theorem as_code_loop (old : Int) : ∀ (e : GErr), e.isNil = false → iter (f_errors_as_code_l0 old) e = some (match codeIn e with | some n => (true, n) | none => (false, old))
  | .nil, h => by cases h
  | .code n, _ => iter_stop rfl
  | .other a, _ => iter_stop rfl
  | .fault o a e, _ => by
    cases e with
    | nil => exact iter_stop rfl
    | code n => rw [iter_next (show f_errors_as_code_l0 old (.fault o a (.code n)) = some (.inl (.code n)) from rfl)]; exact iter_stop rfl
    | other b => rw [iter_next (show f_errors_as_code_l0 old (.fault o a (.other b)) = some (.inl (.other b)) from rfl)]; exact iter_stop rfl
    | fault p b e => rw [iter_next (show f_errors_as_code_l0 old (.fault o a (.fault p b e)) = some (.inl (.fault p b e)) from rfl), as_code_loop old (.fault p b e) rfl]; rfl
theorem of_eq (e : GErr) : f_fault_Of e = some (OfE e) := by
  cases e with
  | nil => rfl
  | code n => unfold f_fault_Of f_errors_As_code f_errors_as_code; rw [as_code_loop _ _ rfl]; rfl
  | other a => unfold f_fault_Of f_errors_As_code f_errors_as_code; rw [as_code_loop _ _ rfl]; rfl
  | fault o a e =>
    unfold f_fault_Of f_errors_As_code f_errors_as_code
    rw [as_code_loop _ _ rfl]
    simp only [GErr.isNil, OfE]
    cases codeIn (.fault o a e) <;> rfl
theorem as_fault_eq (old : T_api_Fault) (e : GErr) : f_errors_As_fault e old = some (match e with | .fault o a e => (true, o, a, e) | _ => (false, old.Op, old.At, old.Err)) := by
  cases e with
  | nil => rfl
  | code n => unfold f_errors_As_fault f_errors_as_fault; rw [iter_stop (show f_errors_as_fault_l0 old (.code n) = some (.inr _) from rfl)]; rfl
  | other a => unfold f_errors_As_fault f_errors_as_fault; rw [iter_stop (show f_errors_as_fault_l0 old (.other a) = some (.inr _) from rfl)]; rfl
  | fault o a e => unfold f_errors_As_fault f_errors_as_fault; rw [iter_stop (show f_errors_as_fault_l0 old (.fault o a e) = some (.inr _) from rfl)]; rfl
theorem where_eq (e : GErr) : f_fault_Where e = some (WhereE e) := by
  unfold f_fault_Where
  rw [as_fault_eq]
  cases e <;> rfl
theorem new_eq (o : ByteArray) (a c : Int) : f_fault_New o a c = some (.fault o a (.code c)) := rfl
def IsE : GErr → Int → Bool
  | .code n, c => decide (n = c)
  | .fault _ _ e, c => IsE e c
  | _, _ => false
theorem is_loop (c : Int) : ∀ (e : GErr), iter (f_errors_is_l0 c) e = some (IsE e c)
  | .nil => iter_stop rfl
  | .other _ => iter_stop rfl
  | .code n => by
    refine iter_stop ?_
    unfold f_errors_is_l0 IsE
    simp only
    by_cases h : n = c
    · rw [if_pos (decide_eq_true h), decide_eq_true h]
    · rw [if_neg (fun q => h (of_decide_eq_true q)), decide_eq_false h]
  | .fault o a e => by
    cases e with
    | nil => exact iter_stop rfl
    | other b => rw [iter_next (show f_errors_is_l0 c (.fault o a (.other b)) = some (.inl (.other b)) from rfl), is_loop c (.other b)]; rfl
    | code n => rw [iter_next (show f_errors_is_l0 c (.fault o a (.code n)) = some (.inl (.code n)) from rfl), is_loop c (.code n)]; rfl
    | fault p b e => rw [iter_next (show f_errors_is_l0 c (.fault o a (.fault p b e)) = some (.inl (.fault p b e)) from rfl), is_loop c (.fault p b e)]; rfl
theorem is_eq (e : GErr) (c : Int) : f_fault_Is e c = some (IsE e c) := by
  unfold f_fault_Is f_errors_Is f_errors_is
  rw [is_loop]
  cases e <;> rfl
def PathE : GErr → List ByteArray
  | .fault o _ e => o :: PathE e
  | _ => []
theorem path_loop : ∀ (e : GErr) (l : List ByteArray), l.length + (PathE e).length ≤ 274877906944 → iter f_fault_Path_l0 (e, l) = some (l ++ PathE e)
  | .nil, l, _ => (iter_stop (by unfold f_fault_Path_l0; rfl)).trans (by simp [PathE])
  | .code n, l, _ => (iter_stop (e := l) (by
      unfold f_fault_Path_l0
      simp only [GErr.isNil, Bool.not_false, if_true, as_fault_eq, Option.bind_some])).trans (by simp [PathE])
  | .other n, l, _ => (iter_stop (e := l) (by
      unfold f_fault_Path_l0
      simp only [GErr.isNil, Bool.not_false, if_true, as_fault_eq, Option.bind_some])).trans (by simp [PathE])
  | .fault o a e, l, h => by
    have hstep : f_fault_Path_l0 (.fault o a e, l) = some (.inl (e, l ++ [o])) := by
      unfold f_fault_Path_l0
      simp only [GErr.isNil, Bool.not_false, if_true, as_fault_eq, Option.bind_some, Bool.not_true, Bool.false_eq_true, if_false]
      rw [grd_t (by simp [PathE] at h ⊢; omega)]
    rw [iter_next hstep, path_loop e (l ++ [o]) (by simp [PathE] at h ⊢; omega)]
    simp [PathE]
theorem path_eq (e : GErr) (h : (PathE e).length ≤ 274877906944) : f_fault_Path e = some (PathE e) := by
  unfold f_fault_Path
  rw [path_loop e [] (by simpa using h)]
  simp
open Classical in
theorem under_loop (op : ByteArray) (l : List ByteArray) (hl : l.length ≤ 274877906944) : ∀ (d i : Nat), i + d = l.length → iter (f_fault_Under_l0 op l) (i : Int) = some (if op ∈ l.drop i then .inr () else .inl ())
  | 0, i, h => by
    refine iter_stop ?_
    unfold f_fault_Under_l0
    simp only
    rw [if_neg (fun q => absurd (of_decide_eq_true q) (by omega)), List.drop_of_length_le (by omega), if_neg (by simp)]
  | d + 1, i, h => by
    have hlt : i < l.length := by omega
    have e1 : rd l (i : Int) = l[i] := len_lt hlt
    by_cases g : l[i] = op
    · refine iter_stop ?_
      unfold f_fault_Under_l0
      simp only
      rw [if_pos (decide_eq_true (by omega)), grd_t ⟨by omega, by omega⟩, e1, if_pos (decide_eq_true g), List.drop_eq_getElem_cons hlt, if_pos (by simp [g])]
    · have hstep : f_fault_Under_l0 op l (i : Int) = some (.inl ((i + 1 : Nat) : Int)) := by
        unfold f_fault_Under_l0
        simp only
        rw [if_pos (decide_eq_true (by omega)), grd_t ⟨by omega, by omega⟩, e1, if_neg (fun q => g (of_decide_eq_true q)), w_i64 (by omega) (by omega)]
        rfl
      rw [iter_next hstep, under_loop op l hl d (i + 1) (by omega), List.drop_eq_getElem_cons hlt]
      have : (op ∈ l[i] :: l.drop (i + 1)) ↔ op ∈ l.drop (i + 1) := by
        simp only [List.mem_cons]
        exact ⟨fun q => q.elim (fun q => absurd q.symm g) id, .inr⟩
      simp only [this]
open Classical in
theorem under_eq (e : GErr) (op : ByteArray) (h : (PathE e).length ≤ 274877906944) : f_fault_Under e op = some (decide (op ∈ PathE e)) := by
  unfold f_fault_Under
  rw [path_eq e h]
  simp only [Option.bind_some]
  have := under_loop op (PathE e) h (PathE e).length 0 (by omega)
  rw [show ((0 : Nat) : Int) = 0 from rfl] at this
  rw [this, List.drop_zero]
  by_cases g : op ∈ PathE e
  · rw [if_pos g, decide_eq_true g]; rfl
  · rw [if_neg g, decide_eq_false g]; rfl
theorem rdn {α : Type} [Inhabited α] {xs : List α} {i : Nat} (h : i < xs.length) : rd xs (i : Int) = xs[i] := len_lt h
def okB (l : List Int) : Prop := ∀ x ∈ l, 0 ≤ x ∧ x ≤ 255
theorem okB.nil : okB [] := fun _ h => by cases h
theorem okB.append {a b : List Int} (h : okB a) (k : okB b) : okB (a ++ b) := fun x hx => (List.mem_append.1 hx).elim (h x) (k x)
theorem okB.left {a b : List Int} (h : okB (a ++ b)) : okB a := fun x hx => h x (List.mem_append.2 (.inl hx))
theorem okB.right {a b : List Int} (h : okB (a ++ b)) : okB b := fun x hx => h x (List.mem_append.2 (.inr hx))
theorem okB.at {l : List Int} (h : okB l) {i : Nat} (hi : i < l.length) : 0 ≤ rd l (i : Int) ∧ rd l (i : Int) ≤ 255 := by
  rw [rdn hi]; exact h _ (List.getElem_mem hi)
theorem okB.drop {l : List Int} (h : okB l) (n : Nat) : okB (l.drop n) := fun x hx => h x (List.mem_of_mem_drop hx)
theorem okB.take {l : List Int} (h : okB l) (n : Nat) : okB (l.take n) := fun x hx => h x (List.mem_of_mem_take hx)
theorem sub_end (b : List Int) (i : Nat) : sub b (i : Int) (b.length : Int) = b.drop i := by
  unfold sub
  rw [show ((i : Int)).toNat = i by omega, show ((b.length : Int)).toNat = b.length by omega]
  exact List.take_of_length_le (by simp)
theorem sub_nat {α : Type} (b : List α) (i j : Nat) : sub b (i : Int) (j : Int) = (b.drop i).take (j - i) := by
  unfold sub
  rw [show ((i : Int)).toNat = i by omega, show ((j : Int)).toNat = j by omega]
theorem rd_drop (b : List Int) (i j : Nat) : rd (b.drop i) (j : Int) = rd b ((i + j : Nat) : Int) := by
  unfold rd
  rw [show ((j : Int)).toNat = j by omega, show (((i + j : Nat) : Int)).toNat = i + j by omega]
  simp [List.getD_eq_getElem?_getD]

/-! ### operations on numbers -/
theorem fdiv_nn {a b : Int} (h : 0 < b) : a.fdiv b = a / b := Int.fdiv_eq_ediv_of_nonneg _ (Int.le_of_lt h)
theorem shr8 (n : Int) (k : Nat) (hk : k + 8 ≤ 64) : shrI .u64 n ((k + 8 : Nat) : Int) = shrI .u64 n (k : Int) / 256 := by
  unfold shrI
  rw [show min (((k + 8 : Nat) : Int)).toNat IntKind.u64.bits = k + 8 by show min _ 64 = _; omega, show min ((k : Int)).toNat IntKind.u64.bits = k by show min _ 64 = _; omega]
  rw [fdiv_nn (Int.pow_pos (by decide)), fdiv_nn (Int.pow_pos (by decide)), Int.pow_add]
  exact (Int.ediv_ediv_of_nonneg (Int.pow_nonneg (by decide))).symm
theorem shr0 (n : Int) : shrI .u64 n (0 : Int) = n := by
  unfold shrI
  show n.fdiv (2 ^ 0) = n
  rw [fdiv_nn (by decide)]
  omega
theorem s8 (n : Int) : shrI .u64 n 8 = n / 256 := by have := shr8 n 0 (by decide); rw [show ((0 : Nat) : Int) = 0 from rfl, shr0] at this; exact this
theorem s16 (n : Int) : shrI .u64 n 16 = n / 256 / 256 := by have := shr8 n 8 (by decide); rw [show ((8 : Nat) : Int) = 8 from rfl, s8] at this; exact this
theorem s24 (n : Int) : shrI .u64 n 24 = n / 256 / 256 / 256 := by have := shr8 n 16 (by decide); rw [show ((16 : Nat) : Int) = 16 from rfl, s16] at this; exact this
theorem s32 (n : Int) : shrI .u64 n 32 = n / 256 / 256 / 256 / 256 := by have := shr8 n 24 (by decide); rw [show ((24 : Nat) : Int) = 24 from rfl, s24] at this; exact this
theorem s40 (n : Int) : shrI .u64 n 40 = n / 256 / 256 / 256 / 256 / 256 := by have := shr8 n 32 (by decide); rw [show ((32 : Nat) : Int) = 32 from rfl, s32] at this; exact this
theorem s48 (n : Int) : shrI .u64 n 48 = n / 256 / 256 / 256 / 256 / 256 / 256 := by have := shr8 n 40 (by decide); rw [show ((40 : Nat) : Int) = 40 from rfl, s40] at this; exact this
theorem s56 (n : Int) : shrI .u64 n 56 = n / 256 / 256 / 256 / 256 / 256 / 256 / 256 := by have := shr8 n 48 (by decide); rw [show ((48 : Nat) : Int) = 48 from rfl, s48] at this; exact this
theorem or_tab : ∀ x : Fin 64, orI .u8 64 (x.val : Int) = 64 + x.val ∧ orI .u8 128 (x.val : Int) = 128 + x.val ∧ orI .u8 192 (x.val : Int) = 192 + x.val := by decide +kernel
theorem or64 {x : Int} (h0 : 0 ≤ x) (h1 : x < 64) : orI .u8 64 x = 64 + x ∧ orI .u8 128 x = 128 + x ∧ orI .u8 192 x = 192 + x := by
  have := or_tab ⟨x.toNat, by omega⟩
  simp only [show ((x.toNat : Nat) : Int) = x by omega] at this
  exact this
theorem head_tab : ∀ x : Fin 256, andI .u8 (x.val : Int) 63 = (x.val : Int) % 64 ∧ shrI .u8 (x.val : Int) 6 = (x.val : Int) / 64 := by decide +kernel
theorem head_eq {x : Int} (h0 : 0 ≤ x) (h1 : x ≤ 255) : andI .u8 x 63 = x % 64 ∧ shrI .u8 x 6 = x / 64 := by
  have := head_tab ⟨x.toNat, by omega⟩
  simp only [show ((x.toNat : Nat) : Int) = x by omega] at this
  exact this
theorem shl_tab : shlI .i64 1 0 = 1 ∧ shlI .i64 1 1 = 2 ∧ shlI .i64 1 2 = 4 ∧ shlI .i64 1 3 = 8 := by decide +kernel
/-- n<<8|b -/
theorem next8 {n b : Int} (h0 : 0 ≤ n) (h1 : n < 72057594037927936) (b0 : 0 ≤ b) (b1 : b ≤ 255) : orI .u64 (shlI .u64 n 8) (IntKind.u64.wrap b) = n * 256 + b := by
  rw [w_u64 b0 (by omega)]
  have e1 : shlI .u64 n 8 = n * 256 := by
    unfold shlI
    show IntKind.u64.wrap (n * 2 ^ 8) = _
    rw [w_u64 (by omega) (by omega)]; omega
  rw [e1]
  obtain ⟨N, rfl⟩ := Int.eq_ofNat_of_zero_le h0
  obtain ⟨B, rfl⟩ := Int.eq_ofNat_of_zero_le b0
  unfold orI
  show IntKind.u64.wrap (((BitVec.ofInt 64 ((N : Int) * 256)) ||| (BitVec.ofInt 64 (B : Int))).toNat : Int) = _
  have e2 : (BitVec.ofInt 64 ((N : Int) * 256)).toNat = N * 256 := by
    rw [show ((N : Int) * 256) = ((N * 256 : Nat) : Int) by omega, BitVec.ofInt_natCast, BitVec.toNat_ofNat]
    exact Nat.mod_eq_of_lt (by omega)
  have e3 : (BitVec.ofInt 64 (B : Int)).toNat = B := by
    rw [BitVec.ofInt_natCast, BitVec.toNat_ofNat]
    exact Nat.mod_eq_of_lt (by omega)
  rw [BitVec.toNat_or, e2, e3]
  have e4 : N * 256 ||| B = N * 256 + B := by
    have := Nat.shiftLeft_add_eq_or_of_lt (a := N) (b := B) (i := 8) (by omega)
    rw [Nat.shiftLeft_eq] at this
    exact this.symm
  rw [e4, w_u64 (by omega) (by omega)]
  omega

/-! ### a number as bytes -/
def top : Int := 4611686018427387903
def cap62 (n : Int) : Int := if top < n then top else n
/-- A number that is no greater than the greatest as bytes. -/
def numC (k : Int) : List Int :=
  if k < 64 then [k]
  else if k < 16384 then [64 + k / 256, k % 256]
  else if k < 1073741824 then [128 + k / 256 / 256 / 256, k / 256 / 256 % 256, k / 256 % 256, k % 256]
  else [192 + k / 256 / 256 / 256 / 256 / 256 / 256 / 256, k / 256 / 256 / 256 / 256 / 256 / 256 % 256, k / 256 / 256 / 256 / 256 / 256 % 256, k / 256 / 256 / 256 / 256 % 256, k / 256 / 256 / 256 % 256, k / 256 / 256 % 256, k / 256 % 256, k % 256]
def numB (n : Int) : List Int := numC (cap62 n)
theorem cap62_le {n : Int} (h : 0 ≤ n) : 0 ≤ cap62 n ∧ cap62 n ≤ top := by
  unfold cap62 top
  split <;> constructor <;> (try unfold top at *) <;> omega
theorem numC_len (k : Int) : (numC k).length ≤ 8 ∧ 1 ≤ (numC k).length := by
  unfold numC
  split
  · simp
  split
  · simp
  split <;> simp
theorem numB_len (n : Int) : (numB n).length ≤ 8 ∧ 1 ≤ (numB n).length := numC_len _
theorem numC_ok {k : Int} (h0 : 0 ≤ k) (h1 : k ≤ top) : okB (numC k) := by
  unfold top at h1
  unfold numC okB
  intro x hx
  split at hx
  · simp at hx; omega
  split at hx
  · simp at hx; omega
  split at hx
  · simp at hx; omega
  · simp at hx
    have q : 0 ≤ k / 256 / 256 / 256 / 256 / 256 / 256 / 256 ∧ k / 256 / 256 / 256 / 256 / 256 / 256 / 256 < 64 := by omega
    rcases hx with h | h | h | h | h | h | h | h
    · omega
    all_goals
      subst h
      omega
theorem numB_ok {n : Int} (h0 : 0 ≤ n) : okB (numB n) := numC_ok (cap62_le h0).1 (cap62_le h0).2
theorem wnum_eq (b : List Int) (n : Int) (h0 : 0 ≤ n) (hb : b.length ≤ 274877900000) : f_wire_Num b n = some (b ++ numB n) := by
  have hc := cap62_le h0
  unfold f_wire_Num numB
  rw [show (if (4611686018427387903 : Int) < n then (4611686018427387903 : Int) else n) = cap62 n from rfl]
  generalize cap62 n = k at hc
  unfold top at hc
  unfold numC
  by_cases h1 : k < 64
  · rw [if_pos (decide_eq_true h1), if_pos h1, grd_t (by simp; omega), w_u8 (by omega) (by omega)]
  rw [if_neg (fun q => h1 (of_decide_eq_true q)), if_neg h1]
  have m0 : IntKind.u8.wrap k = k % 256 := u8_mod k
  by_cases h2 : k < 16384
  · have e1 : IntKind.u8.wrap (shrI .u64 k 8) = k / 256 := by rw [s8, w_u8 (by omega) (by omega)]
    rw [if_pos (decide_eq_true h2), if_pos h2, grd_t (by simp; omega), e1, m0, (or64 (x := k / 256) (by omega) (by omega)).1]
  rw [if_neg (fun q => h2 (of_decide_eq_true q)), if_neg h2]
  by_cases h3 : k < 1073741824
  · have e1 : IntKind.u8.wrap (shrI .u64 k 24) = k / 256 / 256 / 256 := by rw [s24, w_u8 (by omega) (by omega)]
    rw [if_pos (decide_eq_true h3), if_pos h3, grd_t (by simp; omega), e1, m0, s16, s8, u8_mod, u8_mod, (or64 (x := k / 256 / 256 / 256) (by omega) (by omega)).2.1]
  · have e1 : IntKind.u8.wrap (shrI .u64 k 56) = k / 256 / 256 / 256 / 256 / 256 / 256 / 256 := by rw [s56, w_u8 (by omega) (by omega)]
    rw [if_neg (fun q => h3 (of_decide_eq_true q)), if_neg h3, grd_t (by simp; omega), e1, m0, s48, s40, s32, s24, s16, s8, u8_mod, u8_mod, u8_mod, u8_mod, u8_mod, u8_mod,
      (or64 (x := k / 256 / 256 / 256 / 256 / 256 / 256 / 256) (by omega) (by omega)).2.2]
def intB (n : Int) : List Int := numB (if n < 0 then 0 else n)
theorem intB_len (n : Int) : (intB n).length ≤ 8 ∧ 1 ≤ (intB n).length := numB_len _
theorem intB_ok (n : Int) : okB (intB n) := numB_ok (by split <;> omega)
theorem wint_eq (b : List Int) (n : Int) (hn : n ≤ 9223372036854775807) (hb : b.length ≤ 274877900000) : f_wire_Int b n = some (b ++ intB n) := by
  unfold f_wire_Int intB
  have h : 0 ≤ (if n < 0 then (0 : Int) else n) ∧ (if n < 0 then (0 : Int) else n) ≤ 9223372036854775807 := by split <;> omega
  rw [w_u64 h.1 (by omega), wnum_eq b _ h.1 hb]
  rfl
def flagB (is : Bool) : List Int := if is = true then [1] else [0]
def textB (s : List Int) : List Int := intB (s.length : Int) ++ s
theorem wtext_eq (b s : List Int) (hb : b.length + s.length ≤ 274877800000) : f_wire_Text b s = some (b ++ textB s) := by
  unfold f_wire_Text textB
  rw [wint_eq b _ (by omega) (by omega)]
  simp only [Option.bind_some]
  have := intB_len (s.length : Int)
  rw [grd_t (by simp; omega), List.append_assoc]
def intsB (l : List Int) : List Int := (l.map intB).flatten
theorem intsB_cons (x : Int) (l : List Int) : intsB (x :: l) = intB x ++ intsB l := rfl
def rowB (l : List Int) : List Int := intB (l.length : Int) ++ intsB l
theorem intsB_len : ∀ (l : List Int), (intsB l).length ≤ 8 * l.length
  | [] => by simp [intsB]
  | x :: l => by
    have h1 := intsB_len l
    have h2 := (intB_len x).1
    simp only [intsB, List.map_cons, List.flatten_cons, List.length_append, List.length_cons] at *
    omega
/-! ### the reference writes -/
theorem numStep (x : Int) (l : List Int) (i : Nat) (h0 : 0 ≤ x) (h1 : x ≤ top) (hi : i < l.length) (hl : l.length ≤ 8) : f_ref02_Num_l0 (x, l, (i : Int)) = some (.inl (x / 256, l.set i (x % 256), (i : Int) - 1)) := by
  unfold top at h1
  unfold f_ref02_Num_l0
  simp only
  rw [if_pos (decide_eq_true (by omega)), grd_t ⟨by omega, by omega⟩, Int.tdiv_eq_ediv_of_nonneg h0, Int.tmod_eq_emod_of_nonneg h0, w_u64 (by omega) (by omega), w_u8 (n := x % 256) (by omega) (by omega), w_i64 (by omega) (by omega), show ((i : Int)).toNat = i by omega]
theorem numStop (x : Int) (l : List Int) : iter f_ref02_Num_l0 (x, l, (-1 : Int)) = some l := iter_stop (by
  unfold f_ref02_Num_l0
  simp only
  rw [if_neg (by decide)])
theorem size_eq (k : Int) : f_ref02_size k = some (if k < 64 then 1 else if k < 16384 then 2 else if k < 1073741824 then 4 else 8) := by
  unfold f_ref02_size
  by_cases h1 : k < 64
  · rw [if_pos (decide_eq_true h1), if_pos h1]
  rw [if_neg (fun q => h1 (of_decide_eq_true q)), if_neg h1]
  by_cases h2 : k < 16384
  · rw [if_pos (decide_eq_true h2), if_pos h2]
  rw [if_neg (fun q => h2 (of_decide_eq_true q)), if_neg h2]
  by_cases h3 : k < 1073741824
  · rw [if_pos (decide_eq_true h3), if_pos h3]
  rw [if_neg (fun q => h3 (of_decide_eq_true q)), if_neg h3]
theorem rnum_eq (n : Int) (h0 : 0 ≤ n) : f_ref02_Num n = some (numB n) := by
  have hc := cap62_le h0
  unfold f_ref02_Num numB
  have e0 : (if (decide ((4611686018427387903 : Int) < n)) = true then (some (4611686018427387903 : Int)) else (some n)) = some (cap62 n) := by
    unfold cap62 top
    by_cases h : 4611686018427387903 < n
    · rw [if_pos (decide_eq_true h), if_pos h]
    · rw [if_neg (fun q => h (of_decide_eq_true q)), if_neg h]
  rw [e0]
  generalize cap62 n = k at hc
  have hk := hc
  unfold top at hk
  simp only [Option.bind_some, size_eq]
  unfold numC
  by_cases h1 : k < 64
  · rw [if_pos h1, if_pos h1, grd_t (by decide), show IntKind.i64.wrap (1 - 1) = ((0 : Nat) : Int) from rfl, show List.replicate (1 : Int).toNat (0 : Int) = [0] from rfl]
    rw [iter_next (numStep k [0] 0 hc.1 hc.2 (by decide) (by decide)), show (((0 : Nat) : Int) - 1) = -1 from rfl, numStop]
    simp only [Option.bind_some]
    rw [iter_run (e := 0) 3 rfl]
    simp only [Option.bind_some]
    rw [grd_t (by simp), grd_t (by simp)]
    show some [IntKind.u8.wrap (k % 256 + 0)] = _
    rw [w_u8 (by omega) (by omega)]
    congr 2
    omega
  rw [if_neg h1, if_neg h1]
  by_cases h2 : k < 16384
  · rw [if_pos h2, if_pos h2, grd_t (by decide), show IntKind.i64.wrap (2 - 1) = ((1 : Nat) : Int) from rfl, show List.replicate (2 : Int).toNat (0 : Int) = [0, 0] from rfl]
    rw [iter_next (numStep k [0, 0] 1 hc.1 hc.2 (by decide) (by decide)), show (((1 : Nat) : Int) - 1) = ((0 : Nat) : Int) from rfl, iter_next (numStep (k / 256) _ 0 (by omega) (by unfold top; omega) (by simp) (by simp)), show (((0 : Nat) : Int) - 1) = -1 from rfl, numStop]
    simp only [Option.bind_some]
    rw [iter_run (e := 64) 3 rfl]
    simp only [Option.bind_some]
    rw [grd_t (by simp), grd_t (by simp)]
    show some [IntKind.u8.wrap (k / 256 % 256 + 64), k % 256] = _
    rw [w_u8 (by omega) (by omega)]
    congr 2
    omega
  rw [if_neg h2, if_neg h2]
  by_cases h3 : k < 1073741824
  · rw [if_pos h3, if_pos h3, grd_t (by decide), show IntKind.i64.wrap (4 - 1) = ((3 : Nat) : Int) from rfl, show List.replicate (4 : Int).toNat (0 : Int) = [0, 0, 0, 0] from rfl]
    rw [iter_next (numStep k [0, 0, 0, 0] 3 hc.1 hc.2 (by decide) (by decide)), show (((3 : Nat) : Int) - 1) = ((2 : Nat) : Int) from rfl, iter_next (numStep (k / 256) _ 2 (by omega) (by unfold top; omega) (by simp) (by simp)),
      show (((2 : Nat) : Int) - 1) = ((1 : Nat) : Int) from rfl, iter_next (numStep (k / 256 / 256) _ 1 (by omega) (by unfold top; omega) (by simp) (by simp)), show (((1 : Nat) : Int) - 1) = ((0 : Nat) : Int) from rfl, iter_next (numStep (k / 256 / 256 / 256) _ 0 (by omega) (by unfold top; omega) (by simp) (by simp)), show (((0 : Nat) : Int) - 1) = -1 from rfl, numStop]
    simp only [Option.bind_some]
    rw [iter_run (e := 128) 4 rfl]
    simp only [Option.bind_some]
    rw [grd_t (by simp), grd_t (by simp)]
    show some [IntKind.u8.wrap (k / 256 / 256 / 256 % 256 + 128), k / 256 / 256 % 256, k / 256 % 256, k % 256] = _
    rw [w_u8 (by omega) (by omega)]
    congr 2
    omega
  · rw [if_neg h3, if_neg h3, grd_t (by decide), show IntKind.i64.wrap (8 - 1) = ((7 : Nat) : Int) from rfl, show List.replicate (8 : Int).toNat (0 : Int) = [0, 0, 0, 0, 0, 0, 0, 0] from rfl]
    rw [iter_next (numStep k [0, 0, 0, 0, 0, 0, 0, 0] 7 hc.1 hc.2 (by decide) (by decide)), show (((7 : Nat) : Int) - 1) = ((6 : Nat) : Int) from rfl, iter_next (numStep (k / 256) _ 6 (by omega) (by unfold top; omega) (by simp) (by simp)),
      show (((6 : Nat) : Int) - 1) = ((5 : Nat) : Int) from rfl, iter_next (numStep (k / 256 / 256) _ 5 (by omega) (by unfold top; omega) (by simp) (by simp)),
      show (((5 : Nat) : Int) - 1) = ((4 : Nat) : Int) from rfl, iter_next (numStep (k / 256 / 256 / 256) _ 4 (by omega) (by unfold top; omega) (by simp) (by simp)),
      show (((4 : Nat) : Int) - 1) = ((3 : Nat) : Int) from rfl, iter_next (numStep (k / 256 / 256 / 256 / 256) _ 3 (by omega) (by unfold top; omega) (by simp) (by simp)),
      show (((3 : Nat) : Int) - 1) = ((2 : Nat) : Int) from rfl, iter_next (numStep (k / 256 / 256 / 256 / 256 / 256) _ 2 (by omega) (by unfold top; omega) (by simp) (by simp)),
      show (((2 : Nat) : Int) - 1) = ((1 : Nat) : Int) from rfl, iter_next (numStep (k / 256 / 256 / 256 / 256 / 256 / 256) _ 1 (by omega) (by unfold top; omega) (by simp) (by simp)), show (((1 : Nat) : Int) - 1) = ((0 : Nat) : Int) from rfl, iter_next (numStep (k / 256 / 256 / 256 / 256 / 256 / 256 / 256) _ 0 (by omega) (by unfold top; omega) (by simp) (by simp)), show (((0 : Nat) : Int) - 1) = -1 from rfl, numStop]
    simp only [Option.bind_some]
    rw [iter_run (e := 192) 5 rfl]
    simp only [Option.bind_some]
    rw [grd_t (by simp), grd_t (by simp)]
    show some [IntKind.u8.wrap (k / 256 / 256 / 256 / 256 / 256 / 256 / 256 % 256 + 192), k / 256 / 256 / 256 / 256 / 256 / 256 % 256, k / 256 / 256 / 256 / 256 / 256 % 256, k / 256 / 256 / 256 / 256 % 256, k / 256 / 256 / 256 % 256, k / 256 / 256 % 256, k / 256 % 256, k % 256] = _
    rw [w_u8 (by omega) (by omega)]
    congr 2
    omega
theorem rint_eq (n : Int) (hn : n ≤ 9223372036854775807) : f_ref02_Int n = some (intB n) := by
  unfold f_ref02_Int intB
  by_cases h : n < 0
  · rw [if_pos (decide_eq_true h), if_pos h]; rfl
  · rw [if_neg (fun q => h (of_decide_eq_true q)), if_neg h, w_u64 (by omega) (by omega), rnum_eq n (by omega)]; rfl
theorem rtext_eq (s : List Int) (hs : s.length ≤ 274877800000) : f_ref02_Text s = some (textB s) := by
  unfold f_ref02_Text textB
  rw [rint_eq _ (by omega)]
  have := intB_len (s.length : Int)
  simp only [Option.bind_some]
  rw [grd_t (by omega)]
theorem rsame_loop (l : List Int) (hl : l.length ≤ 274877906944) : ∀ (d m : Nat), m + d = l.length → iter (f_ref02_Same_l0 l l) (m : Int) = some (.inl ())
  | 0, m, hm => by
    refine iter_stop ?_
    unfold f_ref02_Same_l0
    simp only
    rw [if_neg (fun q => absurd (of_decide_eq_true q) (by omega))]
  | d + 1, m, hm => by
    have hstep : f_ref02_Same_l0 l l (m : Int) = some (.inl ((m + 1 : Nat) : Int)) := by
      unfold f_ref02_Same_l0
      simp only
      rw [if_pos (decide_eq_true (by omega)), grd_t ⟨by omega, by omega⟩, grd_t ⟨by omega, by omega⟩, w_i64 (by omega) (by omega)]
      simp
    rw [iter_next hstep]
    exact rsame_loop l hl d (m + 1) (by omega)
theorem rsame_eq (l : List Int) (hl : l.length ≤ 274877906944) : f_ref02_Same l l = some true := by
  unfold f_ref02_Same
  have h := rsame_loop l hl l.length 0 (by omega)
  rw [show ((0 : Nat) : Int) = 0 from rfl] at h
  rw [h, if_neg (by simp)]
  rfl

/-! ### a number read -/
/-- What stands in the bytes from a on, i more of them taken. -/
def accN (b : List Int) (a : Nat) : Nat → Int
  | 0 => rd b (a : Int) % 64
  | i + 1 => accN b a i * 256 + rd b ((a + (i + 1) : Nat) : Int)
def capN : Nat → Int
  | 0 => 63
  | i + 1 => capN i * 256 + 255
theorem capN_le : ∀ i : Fin 8, capN i.val ≤ top := by decide
theorem capN_le6 : ∀ i : Fin 7, capN i.val ≤ 18014398509481983 := by decide
theorem accN_bnd {b : List Int} (hb : okB b) {a : Nat} : ∀ i : Nat, a + i < b.length → 0 ≤ accN b a i ∧ accN b a i ≤ capN i
  | 0, h => by
    have := hb.at (i := a) (by omega)
    simp only [accN, capN]
    omega
  | i + 1, h => by
    have h1 := accN_bnd (a := a) hb i (by omega)
    have h2 := hb.at (i := a + (i + 1)) h
    simp only [accN, capN]
    omega
def headK (h : Int) : Nat := if h / 64 = 0 then 1 else if h / 64 = 1 then 2 else if h / 64 = 2 then 4 else 8
def sizeK (n : Int) : Nat := if n < 64 then 1 else if n < 16384 then 2 else if n < 1073741824 then 4 else 8
/-- A number read at a place: what is wrong, or it and where it ends. -/
def numR (b : List Int) (a : Nat) (most : Int) : Int ⊕ (Int × Nat) :=
  if b.length ≤ a then .inl 3
  else if b.length < a + headK (rd b (a : Int)) then .inl 3
  else if sizeK (accN b a (headK (rd b (a : Int)) - 1)) ≠ headK (rd b (a : Int)) then .inl 5
  else if most < accN b a (headK (rd b (a : Int)) - 1) then .inl 6
  else .inr (accN b a (headK (rd b (a : Int)) - 1), a + headK (rd b (a : Int)))
theorem size_eq' (k : Int) : f_ref02_size k = some ((sizeK k : Nat) : Int) := by
  rw [size_eq]
  unfold sizeK
  split
  · rfl
  split
  · rfl
  split <;> rfl
theorem headK_le (h : Int) : headK h ≤ 8 ∧ 1 ≤ headK h := by
  unfold headK
  split
  · simp
  split
  · simp
  split <;> simp
abbrev numOp : ByteArray := ⟨#[110, 117, 109]⟩
theorem rnum_l1 {b : List Int} (hb : okB b) (hl : b.length ≤ 1000000000000) {a : Nat} {s : T_ref02_State} (hs : s.At = (a : Int)) (k : Nat) (hk : a + k ≤ b.length) (hk8 : k ≤ 8) : ∀ (d i : Nat), i + 1 + d = k →
    iter (f_ref02_num_l1 b s (k : Int)) (accN b a i, ((i + 1 : Nat) : Int)) = some (accN b a (k - 1))
  | 0, i, h => by
    refine iter_stop ?_
    unfold f_ref02_num_l1
    simp only
    rw [if_neg (fun q => absurd (of_decide_eq_true q) (by omega)), show k - 1 = i by omega]
  | d + 1, i, h => by
    have hb1 := accN_bnd (a := a) hb i (by omega)
    have hb2 := capN_le6 ⟨i, by omega⟩
    have hb3 := hb.at (i := a + (i + 1)) (by omega)
    have ea : IntKind.i64.wrap (s.At + ((i + 1 : Nat) : Int)) = ((a + (i + 1) : Nat) : Int) := by rw [hs, w_i64 (by omega) (by omega)]; omega
    simp only at hb2
    have hstep : f_ref02_num_l1 b s (k : Int) (accN b a i, ((i + 1 : Nat) : Int)) = some (.inl (accN b a (i + 1), ((i + 1 + 1 : Nat) : Int))) := by
      unfold f_ref02_num_l1
      simp only
      rw [if_pos (decide_eq_true (by omega)), ea, grd_t ⟨by omega, by omega⟩, w_u64 (n := accN b a i * 256) (by omega) (by omega), w_u64 (n := rd b ((a + (i + 1) : Nat) : Int)) (by omega) (by omega), w_u64 (by omega) (by omega), w_i64 (by omega) (by omega)]
      rfl
    rw [iter_next hstep]
    exact rnum_l1 hb hl hs k hk hk8 d (i + 1) (by omega)
theorem rnum_l0 {h : Int} (h0 : 0 ≤ h) (h1 : h ≤ 255) : iter f_ref02_num_l0 ((1 : Int), IntKind.u8.wrap (h.tdiv 64)) = some ((headK h : Nat) : Int) := by
  rw [Int.tdiv_eq_ediv_of_nonneg h0, w_u8 (by omega) (by omega)]
  have hq : h / 64 = 0 ∨ h / 64 = 1 ∨ h / 64 = 2 ∨ h / 64 = 3 := by omega
  unfold headK
  rcases hq with q | q | q | q <;> rw [q]
  · exact iter_run 2 rfl
  · exact iter_run 3 rfl
  · exact iter_run 4 rfl
  · exact iter_run 5 rfl
theorem rbad_eq (s : T_ref02_State) (h : s.Code = 0) (o : ByteArray) (a c : Int) : f_ref02_bad s o a c = some ⟨s.At, c, o, a⟩ := by
  unfold f_ref02_bad
  rw [if_neg (fun q => absurd h (of_decide_eq_true q))]
def numS (b : List Int) (a : Nat) (most : Int) : T_ref02_State × Int :=
  match numR b a most with
  | .inl c => (⟨(a : Int), c, numOp, (a : Int)⟩, 0)
  | .inr (n, a') => (⟨(a' : Int), 0, ⟨#[]⟩, 0⟩, n)
theorem rnum_read {b : List Int} (hb : okB b) (hl : b.length ≤ 1000000000000) {a : Nat} {s : T_ref02_State} (hs : s.At = (a : Int)) (hc : s.Code = 0) (most : Int) : f_ref02_num b s most = some (numS b a most) := by
  unfold f_ref02_num numS numR
  rw [if_neg (fun q => absurd hc (of_decide_eq_true q)), hs]
  by_cases g1 : b.length ≤ a
  · rw [if_pos (decide_eq_true (by omega)), if_pos g1, rbad_eq s hc, hs]; rfl
  rw [if_neg (fun q => absurd (of_decide_eq_true q) (by omega)), if_neg g1, grd_t ⟨by omega, by omega⟩]
  have hB := hb.at (i := a) (by omega)
  rw [rnum_l0 hB.1 hB.2]
  have hK := headK_le (rd b (a : Int))
  generalize hkk : headK (rd b (a : Int)) = k at hK
  simp only [Option.bind_some]
  have ea : IntKind.i64.wrap ((a : Int) + (k : Int)) = ((a + k : Nat) : Int) := by rw [w_i64 (by omega) (by omega)]; omega
  rw [ea]
  by_cases g2 : b.length < a + k
  · rw [if_pos (decide_eq_true (by omega)), if_pos g2, rbad_eq s hc, hs]; rfl
  rw [if_neg (fun q => absurd (of_decide_eq_true q) (by omega)), if_neg g2, grd_t ⟨by omega, by omega⟩]
  have e0 : IntKind.u64.wrap ((rd b (a : Int)).tmod 64) = accN b a 0 := by
    rw [Int.tmod_eq_emod_of_nonneg hB.1, w_u64 (by omega) (by omega)]; rfl
  have hloop := rnum_l1 hb hl hs k (by omega) (by omega) (k - 1) 0 (by omega)
  rw [show ((0 + 1 : Nat) : Int) = 1 from rfl] at hloop
  rw [e0, hloop]
  simp only [Option.bind_some, size_eq']
  by_cases g3 : sizeK (accN b a (k - 1)) = k
  · rw [if_neg (fun q => absurd (of_decide_eq_true q) (by omega)), if_neg (show ¬ (sizeK (accN b a (k - 1)) ≠ k) from fun q => q g3)]
    by_cases g4 : most < accN b a (k - 1)
    · rw [if_pos (decide_eq_true g4), if_pos g4, rbad_eq s hc, hs]; rfl
    · rw [if_neg (fun q => g4 (of_decide_eq_true q)), if_neg g4]
  · rw [if_pos (decide_eq_true (by omega)), if_pos g3, rbad_eq s hc, hs]; rfl
theorem rnum_bad {b : List Int} {s : T_ref02_State} (hc : s.Code ≠ 0) (most : Int) : f_ref02_num b s most = some (s, 0) := by
  unfold f_ref02_num
  rw [if_pos (decide_eq_true hc)]
abbrev RdT := T_wire_Reader
theorem fail_nil (b : List Int) (a : Int) (o : ByteArray) (at_ c : Int) : f_wire_Reader_fail ⟨b, a, .nil⟩ o at_ c = some (.fault o at_ (.code c)) := rfl
theorem fail_bad (b : List Int) (a : Int) (e : GErr) (h : e.isNil = false) (o : ByteArray) (at_ c : Int) : f_wire_Reader_fail ⟨b, a, e⟩ o at_ c = some e := by
  unfold f_wire_Reader_fail
  simp only [h]
  rfl
theorem next1 {b : List Int} (hb : okB b) {a i : Nat} (h : a + (i + 1) < b.length) (hi : i ≤ 6) (hl : b.length ≤ 1000000000000) : f_wire_Reader_Num_1 (accN b a i) (b.drop a) ((i + 1 : Nat) : Int) = some (accN b a (i + 1), ((i + 2 : Nat) : Int)) := by
  have hb1 := accN_bnd (a := a) hb i (by omega)
  have hb2 := capN_le6 ⟨i, by omega⟩
  have hb3 := hb.at (i := a + (i + 1)) h
  simp only at hb2
  unfold f_wire_Reader_Num_1
  rw [grd_t ⟨by omega, by simp; omega⟩, rd_drop, next8 (by omega) (by omega) hb3.1 hb3.2, w_i64 (by omega) (by omega)]
  rfl
theorem shl_head {h : Int} (h0 : 0 ≤ h) (h1 : h ≤ 255) : shlI .i64 1 (shrI .u8 h 6) = ((headK h : Nat) : Int) := by
  rw [(head_eq h0 h1).2]
  have hq : h / 64 = 0 ∨ h / 64 = 1 ∨ h / 64 = 2 ∨ h / 64 = 3 := by omega
  unfold headK
  rcases hq with q | q | q | q <;> rw [q]
  · exact shl_tab.1
  · exact shl_tab.2.1
  · exact shl_tab.2.2.1
  · exact shl_tab.2.2.2
theorem headK_cases (h : Int) : headK h = 1 ∨ headK h = 2 ∨ headK h = 4 ∨ headK h = 8 := by
  unfold headK
  split
  · simp
  split
  · simp
  split <;> simp
def leastK (k : Nat) : Int := if k = 8 then 1073741824 else if k = 4 then 16384 else if k = 2 then 64 else 0
/-- What a reader's number comes to: it, where the reader is then, what is wrong. -/
def numP (b : List Int) (a : Nat) (most : Int) : Int × Int × GErr :=
  match numR b a most with
  | .inl c => (0, (a : Int), .fault numOp (a : Int) (.code c))
  | .inr (n, a') => (n, (a' : Int), .nil)
theorem wnum_tail (b : List Int) (a k : Nat) (most n : Int) (hk : k = 1 ∨ k = 2 ∨ k = 4 ∨ k = 8) (hn : 0 ≤ n) (hc : n ≤ capN (k - 1)) (ha : a + k ≤ b.length) (hl : b.length ≤ 1000000000000) :
    (if (decide (n < leastK k)) = true then ((f_wire_Reader_fail ⟨b, (a : Int), .nil⟩ numOp (a : Int) 5).bind fun (r103 : GErr) => (some ((0 : Int), (a : Int), r103))) else (if (decide (most < n)) = true then ((f_wire_Reader_fail ⟨b, (a : Int), .nil⟩ numOp (a : Int) 6).bind fun (r108 : GErr) => (some ((0 : Int), (a : Int), r108))) else (some (n, IntKind.i64.wrap ((a : Int) + (k : Int)), GErr.nil)))) =
    some (match (if sizeK n ≠ k then Sum.inl 5 else if most < n then Sum.inl 6 else Sum.inr (n, a + k) : Int ⊕ (Int × Nat)) with
      | .inl c => (0, (a : Int), .fault numOp (a : Int) (.code c))
      | .inr (n, a') => (n, (a' : Int), .nil)) := by
  have hs : (n < leastK k) ↔ sizeK n ≠ k := by
    unfold leastK sizeK
    rcases hk with rfl | rfl | rfl | rfl
    · have : capN (1 - 1) = 63 := rfl
      simp; omega
    · have : capN (2 - 1) = 16383 := rfl
      simp
      constructor
      · intro h; rw [if_pos h]; decide
      · intro h
        by_cases g : n < 64
        · exact g
        · rw [if_neg g, if_pos (by omega)] at h; exact absurd rfl h
    · have : capN (4 - 1) = 1073741823 := rfl
      simp
      constructor
      · intro h
        by_cases g : n < 64
        · rw [if_pos g]; decide
        · rw [if_neg g, if_pos h]; decide
      · intro h
        by_cases g : n < 16384
        · exact g
        · rw [if_neg (by omega), if_neg g, if_pos (by omega)] at h; exact absurd rfl h
    · simp
      constructor
      · intro h
        by_cases g : n < 64
        · rw [if_pos g]; decide
        · rw [if_neg g]
          by_cases g2 : n < 16384
          · rw [if_pos g2]; decide
          · rw [if_neg g2, if_pos h]; decide
      · intro h
        by_cases g : n < 1073741824
        · exact g
        · rw [if_neg (by omega), if_neg (by omega), if_neg g] at h; exact absurd rfl h
  have hk8 : k ≤ 8 := by omega
  by_cases g3 : sizeK n ≠ k
  · rw [if_pos (decide_eq_true (hs.2 g3)), if_pos g3]; rfl
  · rw [if_neg (fun q => g3 (hs.1 (of_decide_eq_true q))), if_neg g3]
    by_cases g4 : most < n
    · rw [if_pos (decide_eq_true g4), if_pos g4]; rfl
    · rw [if_neg (fun q => g4 (of_decide_eq_true q)), if_neg g4, w_i64 (by omega) (by omega)]; rfl
theorem wnum_read {b : List Int} (hb : okB b) (hl : b.length ≤ 1000000000000) {a : Nat} (ha : a ≤ b.length) (most : Int) : f_wire_Reader_Num ⟨b, (a : Int), .nil⟩ most = some (numP b a most) := by
  unfold f_wire_Reader_Num numP numR
  simp only [sub_end]
  rw [if_neg (show ¬ ((!GErr.isNil GErr.nil) = true) from by decide), grd_t ⟨by omega, by omega, by omega⟩]
  by_cases g1 : b.length ≤ a
  · rw [if_pos (decide_eq_true (by simp; omega)), if_pos g1]; rfl
  have hB := hb.at (i := a) (by omega)
  have e0 : rd (b.drop a) 0 = rd b (a : Int) := rd_drop b a 0
  have hK := headK_cases (rd b (a : Int))
  have eN : IntKind.u64.wrap (andI .u8 (rd b (a : Int)) 63) = accN b a 0 := by
    rw [(head_eq hB.1 hB.2).1, w_u64 (by omega) (by omega)]; rfl
  have hsh : 0 ≤ shrI .u8 (rd b (a : Int)) 6 := by rw [(head_eq hB.1 hB.2).2]; omega
  rw [if_neg (fun q => absurd (of_decide_eq_true q) (by simp; omega)), if_neg g1, grd_t ⟨by omega, by simp; omega⟩]
  simp only [e0, shl_head hB.1 hB.2, eN]
  rw [grd_t hsh]
  generalize hkk : headK (rd b (a : Int)) = k at hK
  by_cases g2 : b.length < a + k
  · rw [if_pos (decide_eq_true (by simp; omega)), if_pos g2]; rfl
  rw [if_neg (fun q => absurd (of_decide_eq_true q) (by simp; omega)), if_neg g2, grd_t ⟨by omega, by simp; omega⟩]
  have hbn : 0 ≤ accN b a (k - 1) ∧ accN b a (k - 1) ≤ capN (k - 1) := accN_bnd hb (k - 1) (by omega)
  have tail := wnum_tail b a k most (accN b a (k - 1)) hK hbn.1 hbn.2 (by omega) hl
  rcases hK with rfl | rfl | rfl | rfl
  · rw [if_neg (by decide), if_neg (by decide), if_neg (by decide)]
    exact tail
  · have n1 : f_wire_Reader_Num_1 (accN b a 0) (b.drop a) 1 = some (accN b a 1, 2) := next1 hb (i := 0) (by omega) (by decide) hl
    rw [if_neg (by decide), if_neg (by decide), if_pos (by decide)]
    simp only [Option.bind_some, Sum.elim_inl, Sum.elim_inr, n1]
    exact tail
  · have n1 : f_wire_Reader_Num_1 (accN b a 0) (b.drop a) 1 = some (accN b a 1, 2) := next1 hb (i := 0) (by omega) (by decide) hl
    have n2 : f_wire_Reader_Num_1 (accN b a 1) (b.drop a) 2 = some (accN b a 2, 3) := next1 hb (i := 1) (by omega) (by decide) hl
    have n3 : f_wire_Reader_Num_1 (accN b a 2) (b.drop a) 3 = some (accN b a 3, 4) := next1 hb (i := 2) (by omega) (by decide) hl
    rw [if_neg (by decide), if_pos (by decide)]
    simp only [Option.bind_some, Sum.elim_inl, Sum.elim_inr, n1, n2, n3]
    exact tail
  · have n1 : f_wire_Reader_Num_1 (accN b a 0) (b.drop a) 1 = some (accN b a 1, 2) := next1 hb (i := 0) (by omega) (by decide) hl
    have n2 : f_wire_Reader_Num_1 (accN b a 1) (b.drop a) 2 = some (accN b a 2, 3) := next1 hb (i := 1) (by omega) (by decide) hl
    have n3 : f_wire_Reader_Num_1 (accN b a 2) (b.drop a) 3 = some (accN b a 3, 4) := next1 hb (i := 2) (by omega) (by decide) hl
    have n4 : f_wire_Reader_Num_1 (accN b a 3) (b.drop a) 4 = some (accN b a 4, 5) := next1 hb (i := 3) (by omega) (by decide) hl
    have n5 : f_wire_Reader_Num_1 (accN b a 4) (b.drop a) 5 = some (accN b a 5, 6) := next1 hb (i := 4) (by omega) (by decide) hl
    have n6 : f_wire_Reader_Num_1 (accN b a 5) (b.drop a) 6 = some (accN b a 6, 7) := next1 hb (i := 5) (by omega) (by decide) hl
    have n7 : f_wire_Reader_Num_1 (accN b a 6) (b.drop a) 7 = some (accN b a 7, 8) := next1 hb (i := 6) (by omega) (by decide) hl
    rw [if_pos (by decide)]
    simp only [Option.bind_some, Sum.elim_inl, Sum.elim_inr, n1, n2, n3, n4, n5, n6, n7]
    exact tail
theorem wnum_bad {b : List Int} {a : Int} {e : GErr} (h : e.isNil = false) (most : Int) : f_wire_Reader_Num ⟨b, a, e⟩ most = some (0, a, e) := by
  unfold f_wire_Reader_Num
  rw [if_pos (by simp [h])]
theorem numR_ok {b : List Int} (hb : okB b) {a : Nat} {most n : Int} {a' : Nat} (h : numR b a most = .inr (n, a')) : 0 ≤ n ∧ n ≤ top ∧ n ≤ most ∧ a < a' ∧ a' ≤ b.length ∧ a' ≤ a + 8 := by
  unfold numR at h
  have hk := headK_le (rd b (a : Int))
  split at h
  · cases h
  split at h
  · cases h
  split at h
  · cases h
  split at h
  · cases h
  · cases h
    have h1 := accN_bnd (a := a) hb (headK (rd b (a : Int)) - 1) (by omega)
    have h2 := capN_le ⟨headK (rd b (a : Int)) - 1, by omega⟩
    simp only at h2
    exact ⟨h1.1, by omega, by omega, by omega, by omega, by omega⟩
theorem numR_code {b : List Int} {a : Nat} {most c : Int} (h : numR b a most = .inl c) : c = 3 ∨ c = 5 ∨ c = 6 := by
  unfold numR at h
  split at h
  · cases h; simp
  split at h
  · cases h; simp
  split at h
  · cases h; simp
  split at h
  · cases h; simp
  · cases h
def pos0 (n : Int) : Int := if n < 0 then 0 else n
theorem wint_read {b : List Int} (hb : okB b) (hl : b.length ≤ 1000000000000) {a : Nat} (ha : a ≤ b.length) {most : Int} (hm : most ≤ 9223372036854775807) : f_wire_Reader_Int ⟨b, (a : Int), .nil⟩ most = some (numP b a (pos0 most)) := by
  unfold f_wire_Reader_Int
  have hp : 0 ≤ pos0 most ∧ pos0 most ≤ 9223372036854775807 := by unfold pos0; split <;> omega
  rw [show (if most < (0 : Int) then (0 : Int) else most) = pos0 most from rfl, w_u64 hp.1 (by omega), wnum_read hb hl ha]
  simp only [Option.bind_some]
  unfold numP
  cases h : numR b a (pos0 most) with
  | inl c => rfl
  | inr x =>
    obtain ⟨n, a'⟩ := x
    have := numR_ok hb h
    unfold top at this
    simp only
    rw [w_i64 (by omega) (by omega)]
theorem wint_bad {b : List Int} {a : Int} {e : GErr} (h : e.isNil = false) (most : Int) : f_wire_Reader_Int ⟨b, a, e⟩ most = some (0, a, e) := by
  unfold f_wire_Reader_Int
  rw [wnum_bad h]; rfl
abbrev flagOp : ByteArray := ⟨#[102, 108, 97, 103]⟩
abbrev textOp : ByteArray := ⟨#[116, 101, 120, 116]⟩
abbrev endOp : ByteArray := ⟨#[101, 110, 100]⟩
/-- What a thing read comes to: what is wrong (a code, what was being done, where; and where the reader is then), or it and where it ends. -/
abbrev RdR (α : Type) := (Int × ByteArray × Int × Nat) ⊕ (α × Nat)
def numRR (b : List Int) (a : Nat) (most : Int) : RdR Int := match numR b a most with
  | .inl c => .inl (c, numOp, (a : Int), a)
  | .inr x => .inr x
def flagR (b : List Int) (a : Nat) : RdR Bool :=
  if b.length ≤ a then .inl (3, flagOp, (a : Int), a) else if 1 < rd b (a : Int) then .inl (5, flagOp, (a : Int), a) else .inr (decide (rd b (a : Int) = 1), a + 1)
def textR (b : List Int) (a : Nat) (most : Int) : RdR (List Int) := match numR b a (pos0 most) with
  | .inl c => .inl (c, numOp, (a : Int), a)
  | .inr (n, a') => if ((b.length - a' : Nat) : Int) < n then .inl (3, textOp, (a : Int), a) else .inr ((b.drop a').take n.toNat, a' + n.toNat)
def rowG (b : List Int) (each : Int) : Nat → Nat → List Int → RdR (List Int)
  | 0, a, l => .inr (l, a)
  | k + 1, a, l => match numR b a (pos0 each) with
    | .inl c => .inl (c, numOp, (a : Int), a)
    | .inr (n, a') => rowG b each k a' (l ++ [n])
def rowR (b : List Int) (a : Nat) (many each : Int) : RdR (List Int) := match numR b a (pos0 many) with
  | .inl c => .inl (c, numOp, (a : Int), a)
  | .inr (n, a') => rowG b each n.toNat a' []
/-- As the reader tells it. -/
def asP {α : Type} (z : α) : RdR α → α × Int × GErr
  | .inl (c, o, w, a) => (z, (a : Int), .fault o w (.code c))
  | .inr (x, a) => (x, (a : Int), .nil)
/-- As the reference tells it. -/
def asS {α : Type} (z : α) : RdR α → T_ref02_State × α
  | .inl (c, o, w, a) => (⟨(a : Int), c, o, w⟩, z)
  | .inr (x, a) => (⟨(a : Int), 0, ⟨#[]⟩, 0⟩, x)
theorem numP_as (b : List Int) (a : Nat) (most : Int) : numP b a most = asP 0 (numRR b a most) := by
  unfold numP numRR
  cases numR b a most <;> rfl
theorem numS_as (b : List Int) (a : Nat) (most : Int) : numS b a most = asS 0 (numRR b a most) := by
  unfold numS numRR
  cases numR b a most <;> rfl
/-! ### the reference reads -/
theorem above_eq {n : Int} (h : n ≤ 9223372036854775807) : f_ref02_above n = some (pos0 n) := by
  unfold f_ref02_above pos0
  by_cases g : n < 0
  · rw [if_pos (decide_eq_true g), if_pos g]
  · rw [if_neg (fun q => g (of_decide_eq_true q)), if_neg g, w_u64 (by omega) (by omega)]
theorem rtext_read {b : List Int} (hb : okB b) (hl : b.length ≤ 1000000000) {a : Nat} {s : T_ref02_State} (hs : s.At = (a : Int)) (hc : s.Code = 0) {most : Int} (hm : most ≤ 9223372036854775807) : f_ref02_text b s most = some (asS [] (textR b a most)) := by
  unfold f_ref02_text textR
  rw [above_eq hm]
  simp only [Option.bind_some]
  rw [rnum_read hb (by omega) hs hc]
  unfold numS
  cases h : numR b a (pos0 most) with
  | inl c =>
    have hc := numR_code h
    simp only [Option.bind_some]
    rw [if_pos (decide_eq_true (by omega))]; rfl
  | inr x =>
    obtain ⟨n, a'⟩ := x
    have hn := numR_ok hb h
    unfold top at hn
    obtain ⟨N, rfl⟩ := Int.eq_ofNat_of_zero_le hn.1
    simp only [Option.bind_some]
    rw [if_neg (by simp), w_i64 (n := (b.length : Int) - (a' : Int)) (by omega) (by omega), w_u64 (by omega) (by omega), w_i64 (n := (N : Int)) (by omega) (by omega)]
    by_cases g : ((b.length - a' : Nat) : Int) < (N : Int)
    · rw [if_pos (decide_eq_true (by omega)), if_pos g, hs]; rfl
    · have e1 : IntKind.i64.wrap ((a' : Int) + (N : Int)) = ((a' + N : Nat) : Int) := by rw [w_i64 (by omega) (by omega)]; omega
      rw [if_neg (fun q => absurd (of_decide_eq_true q) (by omega)), if_neg g]
      simp only [e1]
      rw [grd_t ⟨by omega, by omega, by omega⟩, sub_nat, show a' + N - a' = N by omega]; rfl
theorem rrow_rloop {b : List Int} (hb : okB b) (hl : b.length ≤ 1000000000) {each : Int} (he : each ≤ 9223372036854775807) (N : Nat) (hN : N ≤ 4611686018427387903) : ∀ (k i a : Nat) (o : ByteArray) (w : Int) (l : List Int), i + k = N → a ≤ b.length → l.length ≤ a →
    ∃ l' o' w', iter (f_ref02_row_l0 b each (N : Int)) (l, (i : Int), (a : Int), 0, o, w) = some (l', (asS [] (rowG b each k a l)).1.At, (asS [] (rowG b each k a l)).1.Code, o', w') ∧
      ((asS [] (rowG b each k a l)).1.Code = 0 → l' = (asS [] (rowG b each k a l)).2) ∧ ((asS [] (rowG b each k a l)).1.Code ≠ 0 → o' = (asS [] (rowG b each k a l)).1.Op ∧ w' = (asS [] (rowG b each k a l)).1.Where)
  | 0, i, a, o, w, l, hi, ha, hla => by
    refine ⟨l, o, w, iter_stop ?_, fun _ => rfl, fun q => absurd rfl q⟩
    unfold f_ref02_row_l0
    simp only
    rw [if_neg (fun q => absurd (of_decide_eq_true q) (by omega))]
    rfl
  | k + 1, i, a, o, w, l, hi, ha, hla => by
    have hv : ∀ n a', numR b a (pos0 each) = .inr (n, a') → IntKind.i64.wrap n = n := fun n a' h => by
      have hn := numR_ok hb h
      unfold top at hn
      exact w_i64 (by omega) (by omega)
    have hstep : f_ref02_row_l0 b each (N : Int) (l, (i : Int), (a : Int), 0, o, w) = some (.inl (l ++ [IntKind.i64.wrap (numS b a (pos0 each)).2], ((i + 1 : Nat) : Int), (numS b a (pos0 each)).1.At, (numS b a (pos0 each)).1.Code, (numS b a (pos0 each)).1.Op, (numS b a (pos0 each)).1.Where)) := by
      unfold f_ref02_row_l0
      simp only
      rw [if_pos (decide_eq_true (by omega)), above_eq he]
      simp only [Option.bind_some]
      rw [rnum_read hb (by omega) (a := a) rfl rfl]
      simp only [Option.bind_some, decide_true, if_true]
      rw [grd_t (by simp; omega), w_u64 (by omega) (by omega)]
      rfl
    rw [iter_next hstep]
    unfold numS rowG
    cases h : numR b a (pos0 each) with
    | inl c =>
      have hc := numR_code h
      have hc0 : c ≠ 0 := by omega
      refine ⟨l ++ [0], numOp, (a : Int), iter_stop ?_, fun q => absurd q hc0, fun _ => ⟨rfl, rfl⟩⟩
      unfold f_ref02_row_l0
      simp only
      have e : (decide (c = 0)) = false := decide_eq_false hc0
      by_cases g : ((i + 1 : Nat) : Int) < (N : Int)
      · rw [if_pos (decide_eq_true g), e]; rfl
      · rw [if_neg (fun q => g (of_decide_eq_true q))]; rfl
    | inr x =>
      obtain ⟨n, a'⟩ := x
      have hn := numR_ok hb h
      simp only
      rw [hv n a' h]
      exact rrow_rloop hb hl he N hN k (i + 1) a' _ _ (l ++ [n]) (by omega) (by omega) (by simp; omega)
/-- Two states that say the same: where, and, if something is wrong, what. -/
def sameS (s t : T_ref02_State) : Prop := s.At = t.At ∧ s.Code = t.Code ∧ (s.Code ≠ 0 → s.Op = t.Op ∧ s.Where = t.Where)
theorem sameS.refl (s : T_ref02_State) : sameS s s := ⟨rfl, rfl, fun _ => ⟨rfl, rfl⟩⟩
theorem rrow_read {b : List Int} (hb : okB b) (hl : b.length ≤ 1000000000) {a : Nat} {s : T_ref02_State} (hs : s.At = (a : Int)) (hc : s.Code = 0) {many each : Int} (hm : many ≤ 9223372036854775807) (he : each ≤ 9223372036854775807) :
    ∃ t, f_ref02_row b s many each = some (t, (asS [] (rowR b a many each)).2) ∧ sameS t (asS [] (rowR b a many each)).1 := by
  unfold f_ref02_row rowR
  rw [above_eq hm]
  simp only [Option.bind_some]
  rw [rnum_read hb (by omega) hs hc]
  unfold numS
  cases h : numR b a (pos0 many) with
  | inl c =>
    have hc := numR_code h
    have hc0 : c ≠ 0 := by omega
    simp only [Option.bind_some]
    rw [iter_stop (e := ([], (a : Int), c, numOp, (a : Int))) rfl]
    simp only [Option.bind_some]
    rw [if_pos (decide_eq_true hc0)]
    exact ⟨_, rfl, .refl _⟩
  | inr x =>
    obtain ⟨n, a'⟩ := x
    have hn := numR_ok hb h
    unfold top at hn
    obtain ⟨N, rfl⟩ := Int.eq_ofNat_of_zero_le hn.1
    simp only [Option.bind_some]
    obtain ⟨l', o', w', h1, h2, h3⟩ := rrow_rloop hb hl he N (by omega) N 0 a' ⟨#[]⟩ 0 [] (by omega) (by omega) (by simp)
    rw [show ((0 : Nat) : Int) = 0 from rfl] at h1
    rw [h1, show ((N : Int)).toNat = N by omega]
    simp only [Option.bind_some]
    generalize rowG b each N a' [] = R at h2 h3 ⊢
    by_cases g : (asS [] R).1.Code = 0
    · rw [if_neg (fun q => absurd g (of_decide_eq_true q)), h2 g]
      exact ⟨_, rfl, rfl, rfl, fun q => absurd g q⟩
    · rw [if_pos (decide_eq_true g)]
      cases R with
      | inl x => exact ⟨_, rfl, rfl, rfl, h3⟩
      | inr x => exact absurd rfl g
/-! ### what is read was written just so -/
theorem take_rd (b : List Int) (a : Nat) : ∀ k, a + k ≤ b.length → (b.drop a).take k = (List.range k).map fun (i : Nat) => rd b ((a + i : Nat) : Int)
  | 0, _ => by simp
  | k + 1, h => by
    have hlt : k < (b.drop a).length := by simp; omega
    rw [List.take_succ_eq_append_getElem hlt, take_rd b a k (by omega), List.range_succ, List.map_append]
    congr 1
    simp only [List.map_cons, List.map_nil]
    rw [rdn (show a + k < b.length by omega)]
    simp
theorem acc_div {b : List Int} (hb : okB b) {a i : Nat} (h : a + (i + 1) < b.length) : accN b a (i + 1) / 256 = accN b a i ∧ accN b a (i + 1) % 256 = rd b ((a + (i + 1) : Nat) : Int) := by
  have h2 := hb.at (i := a + (i + 1)) h
  simp only [accN]
  constructor <;> omega
theorem num_once {b : List Int} (hb : okB b) {a : Nat} {most n : Int} {a' : Nat} (h : numR b a most = .inr (n, a')) : numB n = (b.drop a).take (a' - a) ∧ a' = a + (numB n).length := by
  have hn := numR_ok hb h
  have hcap : cap62 n = n := by unfold cap62; rw [if_neg (by omega)]
  unfold numB
  rw [hcap]
  unfold numR at h
  split at h
  · cases h
  rename_i g1
  split at h
  · cases h
  rename_i g2
  split at h
  · cases h
  rename_i g3
  split at h
  · cases h
  rename_i g4
  have hh := hb.at (i := a) (by omega)
  have hq : rd b (a : Int) / 64 = 0 ∨ rd b (a : Int) / 64 = 1 ∨ rd b (a : Int) / 64 = 2 ∨ rd b (a : Int) / 64 = 3 := by omega
  have hd0 : accN b a 0 = rd b (a : Int) % 64 := rfl
  have g3 : sizeK (accN b a (headK (rd b (a : Int)) - 1)) = headK (rd b (a : Int)) := Classical.byContradiction g3
  have key : ∀ k, headK (rd b (a : Int)) = k → a + k ≤ b.length ∧ n = accN b a (k - 1) ∧ a' = a + k ∧ sizeK (accN b a (k - 1)) = k := by
    intro k hk
    rw [hk] at g2 g3 h
    cases h
    exact ⟨by omega, rfl, rfl, g3⟩
  rcases hq with q | q | q | q
  · obtain ⟨k1, rfl, rfl, k4⟩ := key 1 (by unfold headK; rw [if_pos q])
    have e : numC (accN b a 0) = [rd b (a : Int)] := by
      unfold numC
      rw [if_pos (by omega), hd0]
      congr 1
      omega
    show numC (accN b a 0) = _ ∧ _
    rw [e, show a + 1 - a = 1 by omega, take_rd b a 1 k1]
    exact ⟨rfl, rfl⟩
  · obtain ⟨k1, rfl, rfl, k4⟩ := key 2 (by unfold headK; rw [if_neg (by omega), if_pos q])
    have d1 := acc_div hb (a := a) (i := 0) (by omega)
    have e : numC (accN b a 1) = [rd b (a : Int), rd b ((a + 1 : Nat) : Int)] := by
      have k4' : sizeK (accN b a 1) = 2 := k4
      unfold sizeK at k4'
      unfold numC
      by_cases c1 : accN b a 1 < 64
      · rw [if_pos c1] at k4'; cases k4'
      rw [if_neg c1] at k4' ⊢
      by_cases c2 : accN b a 1 < 16384
      · rw [if_pos c2, d1.1, d1.2, hd0]
        congr 1
        omega
      · rw [if_neg c2] at k4'; split at k4' <;> cases k4'
    show numC (accN b a 1) = _ ∧ _
    rw [e, show a + 2 - a = 2 by omega, take_rd b a 2 k1]
    exact ⟨rfl, rfl⟩
  · obtain ⟨k1, rfl, rfl, k4⟩ := key 4 (by unfold headK; rw [if_neg (by omega), if_neg (by omega), if_pos q])
    have d1 := acc_div hb (a := a) (i := 0) (by omega)
    have d2 := acc_div hb (a := a) (i := 1) (by omega)
    have d3 := acc_div hb (a := a) (i := 2) (by omega)
    have e : numC (accN b a 3) = [rd b (a : Int), rd b ((a + 1 : Nat) : Int), rd b ((a + 2 : Nat) : Int), rd b ((a + 3 : Nat) : Int)] := by
      have k4' : sizeK (accN b a 3) = 4 := k4
      unfold sizeK at k4'
      unfold numC
      by_cases c1 : accN b a 3 < 64
      · rw [if_pos c1] at k4'; cases k4'
      rw [if_neg c1] at k4' ⊢
      by_cases c2 : accN b a 3 < 16384
      · rw [if_pos c2] at k4'; cases k4'
      rw [if_neg c2] at k4' ⊢
      by_cases c3 : accN b a 3 < 1073741824
      · rw [if_pos c3, d3.1, d3.2, d2.1, d2.2, d1.1, d1.2, hd0]
        congr 1
        omega
      · rw [if_neg c3] at k4'; cases k4'
    show numC (accN b a 3) = _ ∧ _
    rw [e, show a + 4 - a = 4 by omega, take_rd b a 4 k1]
    exact ⟨rfl, rfl⟩
  · obtain ⟨k1, rfl, rfl, k4⟩ := key 8 (by unfold headK; rw [if_neg (by omega), if_neg (by omega), if_neg (by omega)])
    have d1 := acc_div hb (a := a) (i := 0) (by omega)
    have d2 := acc_div hb (a := a) (i := 1) (by omega)
    have d3 := acc_div hb (a := a) (i := 2) (by omega)
    have d4 := acc_div hb (a := a) (i := 3) (by omega)
    have d5 := acc_div hb (a := a) (i := 4) (by omega)
    have d6 := acc_div hb (a := a) (i := 5) (by omega)
    have d7 := acc_div hb (a := a) (i := 6) (by omega)
    have e : numC (accN b a 7) = [rd b (a : Int), rd b ((a + 1 : Nat) : Int), rd b ((a + 2 : Nat) : Int), rd b ((a + 3 : Nat) : Int), rd b ((a + 4 : Nat) : Int), rd b ((a + 5 : Nat) : Int), rd b ((a + 6 : Nat) : Int), rd b ((a + 7 : Nat) : Int)] := by
      have k4' : sizeK (accN b a 7) = 8 := k4
      unfold sizeK at k4'
      unfold numC
      by_cases c1 : accN b a 7 < 64
      · rw [if_pos c1] at k4'; cases k4'
      rw [if_neg c1] at k4' ⊢
      by_cases c2 : accN b a 7 < 16384
      · rw [if_pos c2] at k4'; cases k4'
      rw [if_neg c2] at k4' ⊢
      by_cases c3 : accN b a 7 < 1073741824
      · rw [if_pos c3] at k4'; cases k4'
      rw [if_neg c3, d7.1, d7.2, d6.1, d6.2, d5.1, d5.2, d4.1, d4.2, d3.1, d3.2, d2.1, d2.2, d1.1, d1.2, hd0]
      congr 1
      omega
    show numC (accN b a 7) = _ ∧ _
    rw [e, show a + 8 - a = 8 by omega, take_rd b a 8 k1]
    exact ⟨rfl, rfl⟩

/-! ### what is written is read -/
theorem rd_mid (pre x post : List Int) {i : Nat} (hi : i < x.length) : rd (pre ++ (x ++ post)) ((pre.length + i : Nat) : Int) = rd x (i : Int) := by
  rw [rdn (show pre.length + i < (pre ++ (x ++ post)).length by simp; omega), rdn hi]
  rw [List.getElem_append_right (by omega)]
  simp only [Nat.add_sub_cancel_left]
  rw [List.getElem_append_left hi]
theorem rd_mid0 (pre x post : List Int) (hi : 0 < x.length) : rd (pre ++ (x ++ post)) (pre.length : Int) = rd x 0 := rd_mid pre x post hi
theorem num_back (pre post : List Int) {n most : Int} (h0 : 0 ≤ n) (h1 : n ≤ top) (hm : n ≤ most) : numR (pre ++ (numB n ++ post)) pre.length most = .inr (n, pre.length + (numB n).length) := by
  have hcap : cap62 n = n := by unfold cap62; rw [if_neg (by omega)]
  have e : numB n = numC n := by unfold numB; rw [hcap]
  rw [e]
  have ht := h1
  unfold top at ht
  have key : ∀ k, (numC n).length = k → headK (rd (numC n) 0) = k → sizeK n = k → 1 ≤ k → accN (pre ++ (numC n ++ post)) pre.length (k - 1) = n → numR (pre ++ (numC n ++ post)) pre.length most = .inr (n, pre.length + (numC n).length) := by
    intro k hk hh hs hk1 ha
    unfold numR
    rw [rd_mid0 pre (numC n) post (by omega), hh, ha, hs, hk, if_neg (by simp; omega), if_neg (by simp; omega), if_neg (by simp), if_neg (by omega)]
  by_cases c1 : n < 64
  · have ec : numC n = [n] := by unfold numC; rw [if_pos c1]
    refine key 1 (by rw [ec]; rfl) ?_ (by unfold sizeK; rw [if_pos c1]) (by decide) ?_
    · rw [ec]; show headK n = 1; unfold headK; rw [if_pos (by omega)]
    · show rd _ (pre.length : Int) % 64 = n
      rw [rd_mid0 pre (numC n) post (by rw [ec]; simp), ec]
      show n % 64 = n
      omega
  by_cases c2 : n < 16384
  · have ec : numC n = [64 + n / 256, n % 256] := by unfold numC; rw [if_neg c1, if_pos c2]
    refine key 2 (by rw [ec]; rfl) ?_ (by unfold sizeK; rw [if_neg c1, if_pos c2]) (by decide) ?_
    · rw [ec]; show headK (64 + n / 256) = 2; unfold headK; rw [if_neg (by omega), if_pos (by omega)]
    · show rd _ (pre.length : Int) % 64 * 256 + rd _ ((pre.length + 1 : Nat) : Int) = n
      rw [rd_mid0 pre (numC n) post (by rw [ec]; simp), rd_mid pre (numC n) post (i := 1) (by rw [ec]; simp), ec]
      show (64 + n / 256) % 64 * 256 + n % 256 = n
      omega
  by_cases c3 : n < 1073741824
  · have ec : numC n = [128 + n / 256 / 256 / 256, n / 256 / 256 % 256, n / 256 % 256, n % 256] := by unfold numC; rw [if_neg c1, if_neg c2, if_pos c3]
    refine key 4 (by rw [ec]; rfl) ?_ (by unfold sizeK; rw [if_neg c1, if_neg c2, if_pos c3]) (by decide) ?_
    · rw [ec]; show headK (128 + n / 256 / 256 / 256) = 4; unfold headK; rw [if_neg (by omega), if_neg (by omega), if_pos (by omega)]
    · show ((rd _ (pre.length : Int) % 64 * 256 + rd _ ((pre.length + 1 : Nat) : Int)) * 256 + rd _ ((pre.length + 2 : Nat) : Int)) * 256 + rd _ ((pre.length + 3 : Nat) : Int) = n
      rw [rd_mid0 pre (numC n) post (by rw [ec]; simp), rd_mid pre (numC n) post (i := 1) (by rw [ec]; simp), rd_mid pre (numC n) post (i := 2) (by rw [ec]; simp), rd_mid pre (numC n) post (i := 3) (by rw [ec]; simp), ec]
      show (((128 + n / 256 / 256 / 256) % 64 * 256 + n / 256 / 256 % 256) * 256 + n / 256 % 256) * 256 + n % 256 = n
      rw [show (128 + n / 256 / 256 / 256) % 64 = n / 256 / 256 / 256 by omega, show n / 256 / 256 / 256 * 256 + n / 256 / 256 % 256 = n / 256 / 256 by omega, show n / 256 / 256 * 256 + n / 256 % 256 = n / 256 by omega]
      omega
  · have ec : numC n = [192 + n / 256 / 256 / 256 / 256 / 256 / 256 / 256, n / 256 / 256 / 256 / 256 / 256 / 256 % 256, n / 256 / 256 / 256 / 256 / 256 % 256, n / 256 / 256 / 256 / 256 % 256, n / 256 / 256 / 256 % 256, n / 256 / 256 % 256, n / 256 % 256, n % 256] := by unfold numC; rw [if_neg c1, if_neg c2, if_neg c3]
    have hx : 0 ≤ n / 256 / 256 / 256 / 256 / 256 / 256 / 256 ∧ n / 256 / 256 / 256 / 256 / 256 / 256 / 256 < 64 := by omega
    refine key 8 (by rw [ec]; rfl) ?_ (by unfold sizeK; rw [if_neg c1, if_neg c2, if_neg c3]) (by decide) ?_
    · rw [ec]; show headK (192 + n / 256 / 256 / 256 / 256 / 256 / 256 / 256) = 8; unfold headK
      generalize n / 256 / 256 / 256 / 256 / 256 / 256 / 256 = x at hx
      rw [if_neg (by omega), if_neg (by omega), if_neg (by omega)]
    · show ((((((rd _ (pre.length : Int) % 64 * 256 + rd _ ((pre.length + 1 : Nat) : Int)) * 256 + rd _ ((pre.length + 2 : Nat) : Int)) * 256 + rd _ ((pre.length + 3 : Nat) : Int)) * 256 + rd _ ((pre.length + 4 : Nat) : Int)) * 256 + rd _ ((pre.length + 5 : Nat) : Int)) * 256 + rd _ ((pre.length + 6 : Nat) : Int)) * 256 + rd _ ((pre.length + 7 : Nat) : Int) = n
      rw [rd_mid0 pre (numC n) post (by rw [ec]; simp), rd_mid pre (numC n) post (i := 1) (by rw [ec]; simp), rd_mid pre (numC n) post (i := 2) (by rw [ec]; simp), rd_mid pre (numC n) post (i := 3) (by rw [ec]; simp), rd_mid pre (numC n) post (i := 4) (by rw [ec]; simp), rd_mid pre (numC n) post (i := 5) (by rw [ec]; simp), rd_mid pre (numC n) post (i := 6) (by rw [ec]; simp), rd_mid pre (numC n) post (i := 7) (by rw [ec]; simp), ec]
      show (((((((192 + n / 256 / 256 / 256 / 256 / 256 / 256 / 256) % 64 * 256 + n / 256 / 256 / 256 / 256 / 256 / 256 % 256) * 256 + n / 256 / 256 / 256 / 256 / 256 % 256) * 256 + n / 256 / 256 / 256 / 256 % 256) * 256 + n / 256 / 256 / 256 % 256) * 256 + n / 256 / 256 % 256) * 256 + n / 256 % 256) * 256 + n % 256 = n
      have dm : ∀ x : Int, x / 256 * 256 + x % 256 = x := fun x => by omega
      have h64 : (192 + n / 256 / 256 / 256 / 256 / 256 / 256 / 256) % 64 = n / 256 / 256 / 256 / 256 / 256 / 256 / 256 := by
        generalize n / 256 / 256 / 256 / 256 / 256 / 256 / 256 = x at hx
        omega
      rw [h64, dm, dm, dm, dm, dm, dm, dm]
theorem int_back (pre post : List Int) {n most : Int} (h0 : 0 ≤ n) (h1 : n ≤ top) (hm : n ≤ most) : numR (pre ++ (intB n ++ post)) pre.length most = .inr (n, pre.length + (intB n).length) := by
  unfold intB
  rw [if_neg (by omega)]
  exact num_back pre post h0 h1 hm
theorem flag_back (pre post : List Int) (is : Bool) : flagR (pre ++ (flagB is ++ post)) pre.length = .inr (is, pre.length + (flagB is).length) := by
  unfold flagR
  have hl : (flagB is).length = 1 := by cases is <;> rfl
  rw [rd_mid0 pre (flagB is) post (by omega), if_neg (by simp; omega)]
  cases is <;> rfl
theorem text_back (pre post s : List Int) {most : Int} (hm : (s.length : Int) ≤ most) (hs : s.length ≤ 1000000000) : textR (pre ++ (textB s ++ post)) pre.length most = .inr (s, pre.length + (textB s).length) := by
  unfold textR textB
  have hp : pos0 most = most := by unfold pos0; rw [if_neg (by omega)]
  have e : pre ++ (intB (s.length : Int) ++ s ++ post) = pre ++ (intB (s.length : Int) ++ (s ++ post)) := by simp
  rw [e, hp, int_back pre (s ++ post) (by omega) (by unfold top; omega) hm]
  simp only
  rw [if_neg (by simp; omega)]
  congr 2
  · rw [show ((s.length : Int)).toNat = s.length by omega, ← List.append_assoc, show pre.length + (intB (s.length : Int)).length = (pre ++ intB (s.length : Int)).length by simp, List.drop_left, List.take_left]
  · simp; omega
theorem ints_back {each : Int} (he : each ≤ top) : ∀ (l pre post acc : List Int), (∀ x ∈ l, 0 ≤ x ∧ x ≤ each) → rowG (pre ++ (intsB l ++ post)) each l.length pre.length acc = .inr (acc ++ l, pre.length + (intsB l).length)
  | [], pre, post, acc, _ => by simp [rowG, intsB]
  | x :: l, pre, post, acc, h => by
    have hx := h x (by simp)
    have hp : pos0 each = each := by unfold pos0; rw [if_neg (by omega)]
    have e : pre ++ (intsB (x :: l) ++ post) = pre ++ (intB x ++ (intsB l ++ post)) := by rw [intsB_cons]; simp
    rw [e, List.length_cons]
    unfold rowG
    rw [hp, int_back pre (intsB l ++ post) hx.1 (by omega) hx.2]
    simp only
    have ih := ints_back he l (pre ++ intB x) post (acc ++ [x]) (fun y hy => h y (by simp [hy]))
    rw [show pre ++ (intB x ++ (intsB l ++ post)) = (pre ++ intB x) ++ (intsB l ++ post) by simp, show pre.length + (intB x).length = (pre ++ intB x).length by simp, ih, intsB_cons]
    simp
    omega
theorem row_back (pre post l : List Int) {many each : Int} (hm : (l.length : Int) ≤ many) (hl : l.length ≤ 1000000000) (he : each ≤ top) (h : ∀ x ∈ l, 0 ≤ x ∧ x ≤ each) : rowR (pre ++ (rowB l ++ post)) pre.length many each = .inr (l, pre.length + (rowB l).length) := by
  unfold rowR rowB
  have hp : pos0 many = many := by unfold pos0; rw [if_neg (by omega)]
  have e : pre ++ (intB (l.length : Int) ++ intsB l ++ post) = pre ++ (intB (l.length : Int) ++ (intsB l ++ post)) := by simp
  rw [e, hp, int_back pre (intsB l ++ post) (by omega) (by unfold top; omega) hm]
  simp only
  have := ints_back he l (pre ++ intB (l.length : Int)) post [] h
  rw [show ((l.length : Int)).toNat = l.length by omega, show pre ++ (intB (l.length : Int) ++ (intsB l ++ post)) = (pre ++ intB (l.length : Int)) ++ (intsB l ++ post) by simp, show pre.length + (intB (l.length : Int)).length = (pre ++ intB (l.length : Int)).length by simp, this]
  simp
  omega
abbrev RAsk := T_ref02_Ask
abbrev Got := T_ref02_Got
def got0 : Got := ⟨0, false, [], []⟩
def mapR {α β : Type} (f : α → β) : RdR α → RdR β
  | .inl x => .inl x
  | .inr (x, a) => .inr (f x, a)
def readR (b : List Int) (a : Nat) (q : RAsk) : RdR Got :=
  if q.Kind = 0 ∨ q.Kind = 1 then mapR (fun n => ⟨n, false, [], []⟩) (numRR b a (pos0 q.Most))
  else if q.Kind = 2 then mapR (fun x => ⟨0, x, [], []⟩) (flagR b a)
  else if q.Kind = 3 then mapR (fun x => ⟨0, false, x, []⟩) (textR b a q.Most)
  else mapR (fun x => ⟨0, false, [], x⟩) (rowR b a q.Most q.Each)
def okAsk (q : RAsk) : Prop := q.Most ≤ 9223372036854775807 ∧ q.Each ≤ 9223372036854775807
/-- Where a thing read leaves the reader; P: what is told of it. -/
def leR {α : Type} (N : Nat) (P : α → Prop) : RdR α → Prop
  | .inl (c, _, _, a) => a ≤ N ∧ c ≠ 0
  | .inr (x, a) => a ≤ N ∧ P x
theorem leR.map {α β : Type} {N : Nat} {P : α → Prop} {Q : β → Prop} {f : α → β} {R : RdR α} (h : leR N P R) (k : ∀ x, P x → Q (f x)) : leR N Q (mapR f R) := by
  cases R with
  | inl x => exact h
  | inr x => exact ⟨h.1, k _ h.2⟩
theorem num_le {b : List Int} (hb : okB b) {a : Nat} (ha : a ≤ b.length) (most : Int) : leR b.length (fun n => 0 ≤ n ∧ n ≤ top) (numRR b a most) := by
  unfold numRR
  cases h : numR b a most with
  | inl c => have := numR_code h; exact ⟨ha, by omega⟩
  | inr x => have := numR_ok hb h; exact ⟨by omega, this.1, this.2.1⟩
theorem flag_le {b : List Int} {a : Nat} (ha : a ≤ b.length) : leR b.length (fun _ => True) (flagR b a) := by
  unfold flagR
  split
  · exact ⟨ha, by decide⟩
  split
  · exact ⟨ha, by decide⟩
  · exact ⟨by omega, trivial⟩
theorem text_le {b : List Int} (hb : okB b) {a : Nat} (ha : a ≤ b.length) (most : Int) : leR b.length (fun (l : List Int) => l.length ≤ b.length) (textR b a most) := by
  unfold textR
  cases h : numR b a (pos0 most) with
  | inl c => have := numR_code h; exact ⟨ha, by omega⟩
  | inr x =>
    have := numR_ok hb h
    simp only
    split
    · exact ⟨ha, by decide⟩
    · exact ⟨by omega, by simp; omega⟩
theorem rowG_le {b : List Int} (hb : okB b) (each : Int) : ∀ (k a : Nat) (l : List Int), a ≤ b.length → l.length ≤ a → leR b.length (fun (l : List Int) => l.length ≤ b.length) (rowG b each k a l)
  | 0, a, l, ha, hl => ⟨ha, by omega⟩
  | k + 1, a, l, ha, hl => by
    unfold rowG
    cases h : numR b a (pos0 each) with
    | inl c => have := numR_code h; exact ⟨ha, by omega⟩
    | inr x =>
      have := numR_ok hb h
      exact rowG_le hb each k x.2 (l ++ [x.1]) (by omega) (by simp; omega)
theorem row_le {b : List Int} (hb : okB b) {a : Nat} (ha : a ≤ b.length) (many each : Int) : leR b.length (fun (l : List Int) => l.length ≤ b.length) (rowR b a many each) := by
  unfold rowR
  cases h : numR b a (pos0 many) with
  | inl c => have := numR_code h; exact ⟨ha, by omega⟩
  | inr x =>
    have := numR_ok hb h
    exact rowG_le hb each x.1.toNat x.2 [] (by omega) (by simp)
theorem read_le {b : List Int} (hb : okB b) {a : Nat} (ha : a ≤ b.length) (q : RAsk) : leR b.length (fun (g : Got) => g.Text.length ≤ b.length ∧ g.Row.length ≤ b.length) (readR b a q) := by
  unfold readR
  split
  · exact (num_le hb ha _).map fun _ _ => ⟨Nat.zero_le _, Nat.zero_le _⟩
  split
  · exact (flag_le ha).map fun _ _ => ⟨Nat.zero_le _, Nat.zero_le _⟩
  split
  · exact (text_le hb ha _).map fun _ h => ⟨h, Nat.zero_le _⟩
  · exact (row_le hb ha _ _).map fun _ h => ⟨Nat.zero_le _, h⟩
theorem read_eq {b : List Int} (hb : okB b) (hl : b.length ≤ 1000000) {a : Nat} {s : T_ref02_State} (hs : s.At = (a : Int)) (hc : s.Code = 0) {q : RAsk} (hq : okAsk q) :
    ∃ t, f_ref02_Read b s q = some (t, (asS got0 (readR b a q)).2) ∧ sameS t (asS got0 (readR b a q)).1 := by
  unfold f_ref02_Read readR
  rw [if_neg (fun q => absurd hc (of_decide_eq_true q))]
  have ek : ∀ {c : Prop} [Decidable c], (if (decide (q.Kind = (0 : Int))) = true then (some (decide (q.Kind = (0 : Int)))) else (some (decide (q.Kind = (1 : Int))))) = some (decide (q.Kind = 0 ∨ q.Kind = 1)) := by
    intro _ _
    by_cases c0 : q.Kind = 0
    · rw [if_pos (decide_eq_true c0)]; simp [c0]
    · rw [if_neg (fun q => c0 (of_decide_eq_true q))]; simp [c0]
  rw [ek (c := True)]
  simp only [Option.bind_some]
  by_cases c01 : q.Kind = 0 ∨ q.Kind = 1
  · rw [if_pos (decide_eq_true c01), if_pos c01, above_eq hq.1]
    simp only [Option.bind_some]
    rw [rnum_read hb (by omega) hs hc, numS_as]
    cases numRR b a (pos0 q.Most) with
    | inl x => exact ⟨_, rfl, .refl _⟩
    | inr x => exact ⟨_, rfl, .refl _⟩
  rw [if_neg (fun q => c01 (of_decide_eq_true q)), if_neg c01]
  by_cases c2 : q.Kind = 2
  · rw [if_pos (decide_eq_true c2), if_pos c2]
    unfold flagR
    rw [hs]
    by_cases g1 : b.length ≤ a
    · rw [if_pos (decide_eq_true (by omega)), if_pos g1, rbad_eq s hc, hs]
      exact ⟨_, rfl, .refl _⟩
    rw [if_neg (fun q => absurd (of_decide_eq_true q) (by omega)), if_neg g1, grd_t ⟨by omega, by omega⟩]
    by_cases g2 : 1 < rd b (a : Int)
    · rw [if_pos (decide_eq_true g2), if_pos g2, rbad_eq s hc, hs]
      exact ⟨_, rfl, .refl _⟩
    rw [if_neg (fun q => g2 (of_decide_eq_true q)), if_neg g2, grd_t ⟨by omega, by omega⟩, w_i64 (by omega) (by omega)]
    exact ⟨_, rfl, by refine ⟨?_, rfl, fun q => absurd rfl q⟩; simp [asS, mapR]⟩
  rw [if_neg (fun q => c2 (of_decide_eq_true q)), if_neg c2]
  by_cases c3 : q.Kind = 3
  · rw [if_pos (decide_eq_true c3), if_pos c3, rtext_read hb (by omega) hs hc hq.1]
    cases textR b a q.Most with
    | inl x => exact ⟨_, rfl, .refl _⟩
    | inr x => exact ⟨_, rfl, .refl _⟩
  rw [if_neg (fun q => c3 (of_decide_eq_true q)), if_neg c3]
  obtain ⟨t, h1, h2⟩ := rrow_read hb (by omega) hs hc hq.1 hq.2 (many := q.Most) (each := q.Each)
  rw [h1]
  cases e : rowR b a q.Most q.Each with
  | inl x => rw [e] at h2; exact ⟨t, rfl, h2⟩
  | inr x => rw [e] at h2; exact ⟨t, rfl, h2⟩
theorem read_bad {b : List Int} {s : T_ref02_State} (hc : s.Code ≠ 0) (q : RAsk) : f_ref02_Read b s q = some (s, got0) := by
  unfold f_ref02_Read
  rw [if_pos (decide_eq_true hc)]; rfl
/-- Reader and state say the same. -/
def cor (b : List Int) (a : Nat) (e : GErr) (s : T_ref02_State) : Prop := a ≤ b.length ∧ s.At = (a : Int) ∧ ((e = .nil ∧ s.Code = 0) ∨ (s.Code ≠ 0 ∧ e = .fault s.Op s.Where (.code s.Code)))

theorem stepI {b : List Int} (hb : okB b) (hl : b.length ≤ 1000000) {a : Nat} {e : GErr} {s : T_ref02_State} (h : cor b a e s) (m : Int) (hm : m ≤ 9223372036854775807) :
    ∃ (v : Int) (a' : Nat) (e' : GErr) (t : T_ref02_State), f_wire_Reader_Int ⟨b, (a : Int), e⟩ m = some (v, (a' : Int), e') ∧ f_ref02_Read b s ⟨1, m, 0⟩ = some (t, ⟨v, false, [], []⟩) ∧ cor b a' e' t ∧ 0 ≤ v ∧ v ≤ top ∧ v ≤ pos0 m := by
  obtain ⟨ha, hsa, ⟨rfl, hc⟩ | ⟨hc, he⟩⟩ := h
  · obtain ⟨t, h1, h2⟩ := read_eq hb hl hsa hc (q := ⟨1, m, 0⟩) ⟨hm, show (0 : Int) ≤ 9223372036854775807 by decide⟩
    have hle := read_le hb ha ⟨1, m, 0⟩
    have hn := num_le hb ha (pos0 m)
    have er : readR b a ⟨1, m, 0⟩ = mapR (fun n => ⟨n, false, [], []⟩) (numRR b a (pos0 m)) := rfl
    rw [wint_read hb (by omega) ha hm, numP_as, h1]
    rw [er] at hle h2 ⊢
    have hmost : ∀ x, numRR b a (pos0 m) = .inr x → x.1 ≤ pos0 m := by
      intro x hx
      unfold numRR at hx
      cases e2 : numR b a (pos0 m) with
      | inl c => rw [e2] at hx; cases hx
      | inr y => rw [e2] at hx; cases hx; exact (numR_ok hb e2).2.2.1
    cases e : numRR b a (pos0 m) with
    | inl x =>
      rw [e] at hle h2
      obtain ⟨c, o, w, a1⟩ := x
      obtain ⟨k1, k2, k3⟩ := h2
      have k2' : t.Code = c := k2
      have hc' : c ≠ 0 := hle.2
      have k4 := k3 (by rw [k2']; exact hc')
      refine ⟨0, a1, _, t, rfl, rfl, ⟨hle.1, k1, .inr ⟨by rw [k2']; exact hc', ?_⟩⟩, Int.le_refl _, by decide, by unfold pos0; split <;> omega⟩
      show GErr.fault o w (.code c) = _
      rw [k2', k4.1, k4.2]; rfl
    | inr x =>
      rw [e] at hle h2 hn
      exact ⟨_, x.2, _, t, rfl, rfl, ⟨hle.1, h2.1, .inl ⟨rfl, h2.2.1⟩⟩, hn.2.1, hn.2.2, hmost x e⟩
  · have hn : e.isNil = false := by rw [he]; rfl
    rw [wint_bad hn, read_bad hc]
    exact ⟨0, a, e, s, rfl, rfl, ⟨ha, hsa, .inr ⟨hc, he⟩⟩, Int.le_refl _, by decide, by unfold pos0; split <;> omega⟩
theorem text_ok {b : List Int} (hb : okB b) {a : Nat} {m : Int} {x : List Int} {a' : Nat} (h : textR b a m = .inr (x, a')) : okB x ∧ (x.length : Int) ≤ pos0 m := by
  unfold textR at h
  cases e : numR b a (pos0 m) with
  | inl c => rw [e] at h; cases h
  | inr y =>
    rw [e] at h
    simp only at h
    have k := numR_ok hb e
    split at h
    · cases h
    · cases h
      refine ⟨(hb.drop _).take _, ?_⟩
      simp
      omega
/-! ### what was written is read -/
theorem pos0_nn {m : Int} (h : 0 ≤ m) : pos0 m = m := by unfold pos0; rw [if_neg (by omega)]
theorem backI {b : List Int} (hb : okB b) (hl : b.length ≤ 1000000) {pre post : List Int} {n m : Int} (e : b = pre ++ (intB n ++ post)) (h0 : 0 ≤ n) (h1 : n ≤ top) (hm : n ≤ m) (hm2 : m ≤ 9223372036854775807) :
    f_wire_Reader_Int ⟨b, (pre.length : Int), .nil⟩ m = some (n, ((pre ++ intB n).length : Int), .nil) := by
  have h := int_back pre post (n := n) (most := m) h0 h1 hm
  rw [← e] at h
  rw [wint_read hb (by omega) (by rw [e]; simp) hm2, pos0_nn (by omega)]
  unfold numP
  rw [h, List.length_append]
theorem intsB_ge : ∀ (l : List Int), l.length ≤ (intsB l).length
  | [] => Nat.le_refl _
  | x :: l => by
    rw [intsB_cons]
    have h1 := intsB_ge l
    have h2 := (intB_len x).2
    simp only [List.length_cons, List.length_append]
    omega
/-! ### what is read was written in just that way -/
/-- A step that read v: if nothing is wrong behind it, nothing was ahead of it, and it is just what its bytes are. -/
def onceS (b : List Int) (a : Nat) (e : GErr) (a' : Nat) (e' : GErr) (w : List Int) : Prop := a' ≤ b.length ∧ (e'.isNil = true → e.isNil = true ∧ b.take a' = b.take a ++ w)
theorem isNil_iff {e : GErr} : e.isNil = true ↔ e = .nil := by cases e <;> simp [GErr.isNil]
theorem num_once2 {b : List Int} (hb : okB b) {a : Nat} {m n : Int} {a' : Nat} (h : numR b a m = .inr (n, a')) : b.take a' = b.take a ++ intB n ∧ 0 ≤ n ∧ n ≤ top ∧ n ≤ m ∧ a' ≤ b.length := by
  obtain ⟨h1, h2⟩ := num_once hb h
  have h3 := numR_ok hb h
  refine ⟨?_, h3.1, h3.2.1, h3.2.2.1, h3.2.2.2.2.1⟩
  unfold intB
  rw [if_neg (by omega), h1, show a' = a + (a' - a) by omega, List.take_add]
  congr 2
  omega
theorem onceI {b : List Int} (hb : okB b) (hl : b.length ≤ 1000000) {a : Nat} (ha : a ≤ b.length) (e : GErr) (m : Int) (hm : m ≤ 9223372036854775807) :
    ∃ (v : Int) (a' : Nat) (e' : GErr), f_wire_Reader_Int ⟨b, (a : Int), e⟩ m = some (v, (a' : Int), e') ∧ onceS b a e a' e' (intB v) ∧ 0 ≤ v ∧ v ≤ top ∧ v ≤ pos0 m := by
  have hz : (0 : Int) ≤ pos0 m := by unfold pos0; split <;> omega
  cases he : e.isNil with
  | false => exact ⟨0, a, e, wint_bad he m, ⟨ha, fun h => by rw [he] at h; cases h⟩, Int.le_refl _, by decide, hz⟩
  | true =>
    rw [isNil_iff.1 he, wint_read hb (by omega) ha hm]
    unfold numP
    cases h : numR b a (pos0 m) with
    | inl c => exact ⟨0, a, _, rfl, ⟨ha, fun h => by cases h⟩, Int.le_refl _, by decide, hz⟩
    | inr x =>
      have k := num_once2 hb (n := x.1) (a' := x.2) h
      exact ⟨x.1, x.2, _, rfl, ⟨k.2.2.2.2, fun _ => ⟨rfl, k.1⟩⟩, k.2.1, k.2.2.1, k.2.2.2.1⟩
theorem rowG_once {b : List Int} (hb : okB b) (each : Int) : ∀ (k a : Nat) (l l' : List Int) (a' : Nat), a ≤ b.length → rowG b each k a l = .inr (l', a') → ∃ r, l' = l ++ r ∧ r.length = k ∧ b.take a' = b.take a ++ intsB r ∧ a' ≤ b.length ∧ a ≤ a' ∧ r.length ≤ a' - a ∧ ∀ x ∈ r, 0 ≤ x ∧ x ≤ pos0 each
  | 0, a, l, l', a', ha, h => by
    unfold rowG at h
    cases h
    exact ⟨[], by simp, rfl, by simp [intsB], ha, Nat.le_refl _, Nat.zero_le _, fun x hx => by cases hx⟩
  | k + 1, a, l, l', a', ha, h => by
    unfold rowG at h
    cases e : numR b a (pos0 each) with
    | inl c => rw [e] at h; cases h
    | inr x =>
      rw [e] at h
      have h1 := num_once2 hb (n := x.1) (a' := x.2) e
      have h2 := numR_ok hb (n := x.1) (a' := x.2) e
      obtain ⟨r, r1, r2, r3, r4, r6, r7, r5⟩ := rowG_once hb each k x.2 (l ++ [x.1]) l' a' h1.2.2.2.2 h
      refine ⟨x.1 :: r, by rw [r1]; simp, by simp [r2], by rw [r3, h1.1, intsB_cons, List.append_assoc], r4, by omega, by simp; omega, fun y hy => ?_⟩
      rcases List.mem_cons.1 hy with rfl | hy
      · exact ⟨h1.2.1, h1.2.2.2.1⟩
      · exact r5 y hy
/-! ### the register -/
abbrev B32 := BitVec 32
def st (s : B32) : B32 := (s >>> 1) ^^^ (if s.getLsbD 0 then 0x82F63B78#32 else 0#32)
def stn : Nat → B32 → B32
  | 0, s => s
  | n + 1, s => stn n (st s)
theorem st_xor (a b : B32) : st (a ^^^ b) = st a ^^^ st b := by
  unfold st
  rw [BitVec.ushiftRight_xor_distrib, BitVec.getLsbD_xor]
  cases a.getLsbD 0 <;> cases b.getLsbD 0 <;> simp
  · rw [BitVec.xor_assoc]
  · rw [BitVec.xor_assoc, BitVec.xor_assoc, BitVec.xor_comm (b >>> 1)]
  · rw [BitVec.xor_assoc, BitVec.xor_comm (0x82F63B78#32) _, BitVec.xor_assoc, BitVec.xor_self, BitVec.xor_zero]
theorem stn_xor : ∀ (n : Nat) (a b : B32), stn n (a ^^^ b) = stn n a ^^^ stn n b
  | 0, _, _ => rfl
  | n + 1, a, b => by rw [stn, st_xor, stn_xor n]; rfl
theorem stn_add : ∀ (m n : Nat) (s : B32), stn (m + n) s = stn n (stn m s)
  | 0, n, s => by rw [Nat.zero_add]; rfl
  | m + 1, n, s => by rw [show m + 1 + n = (m + n) + 1 by omega, stn, stn_add m n]; rfl
theorem st_even {s : B32} (h : s.getLsbD 0 = false) : st s = s >>> 1 := by unfold st; rw [h]; simp
/-- No step loses anything. -/
theorem st_inj0 {s : B32} (h : st s = 0#32) : s = 0#32 := by
  unfold st at h
  cases h0 : s.getLsbD 0 with
  | true =>
    rw [h0] at h
    have h1 := congrArg (fun x : B32 => x.getLsbD 31) h
    simp at h1
  | false =>
    rw [h0] at h
    simp at h
    apply BitVec.eq_of_getLsbD_eq
    intro i hi
    rcases Nat.eq_zero_or_pos i with rfl | hp
    · rw [h0]; simp
    · have := congrArg (fun x : B32 => x.getLsbD (i - 1)) h
      simp only [BitVec.getLsbD_ushiftRight] at this
      rw [show 1 + (i - 1) = i by omega] at this
      rw [this]; simp
theorem stn_inj0 : ∀ (n : Nat) {s : B32}, stn n s = 0#32 → s = 0#32
  | 0, _, h => h
  | n + 1, s, h => st_inj0 (stn_inj0 n h)
theorem stn_zero : ∀ (n : Nat), stn n 0#32 = 0#32
  | 0 => rfl
  | n + 1 => by rw [stn, show st 0#32 = 0#32 by decide, stn_zero n]
theorem xor_eq_zero {a b : B32} (h : a ^^^ b = 0#32) : a = b := by
  have : (a ^^^ b) ^^^ b = 0#32 ^^^ b := by rw [h]
  rw [BitVec.xor_assoc, BitVec.xor_self, BitVec.xor_zero, BitVec.zero_xor] at this
  exact this
theorem stn_inj (n : Nat) {a b : B32} (h : stn n a = stn n b) : a = b := by
  refine xor_eq_zero (stn_inj0 n ?_)
  rw [stn_xor, h, BitVec.xor_self]

/-! ### half a byte -/
theorem stn_low (k : Nat) : ∀ (n : Nat) (s : B32), (∀ i, i < n → s.getLsbD i = false) → stn n s = s >>> n
  | 0, s, _ => by simp [stn]
  | n + 1, s, h => by
    rw [stn, st_even (h 0 (by omega)), stn_low k n (s >>> 1) (fun i hi => by rw [BitVec.getLsbD_ushiftRight]; exact h _ (by omega))]
    rw [← BitVec.shiftRight_add]
    congr 1; omega
theorem stn4 (s : B32) : stn 4 s = (s >>> 4) ^^^ stn 4 (s &&& 15#32) := by
  have h : s = (s &&& 0xFFFFFFF0#32) ^^^ (s &&& 15#32) := by
    apply BitVec.eq_of_getLsbD_eq
    intro i hi
    simp only [BitVec.getLsbD_xor, BitVec.getLsbD_and]
    have : (0xFFFFFFF0#32 : B32).getLsbD i = !(15#32 : B32).getLsbD i := by
      revert i; decide
    rw [this]
    cases s.getLsbD i <;> cases (15#32 : B32).getLsbD i <;> rfl
  conv => lhs; rw [h, stn_xor]
  rw [stn_low 0 4 (s &&& 0xFFFFFFF0#32) (fun i hi => by
    rw [BitVec.getLsbD_and]
    have : (0xFFFFFFF0#32 : B32).getLsbD i = false := by
      have : i = 0 ∨ i = 1 ∨ i = 2 ∨ i = 3 := by omega
      rcases this with rfl | rfl | rfl | rfl <;> decide
    rw [this]; simp)]
  congr 1
  apply BitVec.eq_of_getLsbD_eq
  intro i hi
  simp only [BitVec.getLsbD_ushiftRight, BitVec.getLsbD_and]
  by_cases h2 : 4 + i < 32
  · have : (0xFFFFFFF0#32 : B32).getLsbD (4 + i) = true := by
      have : ∀ j, j < 32 → 4 ≤ j → (0xFFFFFFF0#32 : B32).getLsbD j = true := by decide
      exact this _ h2 (by omega)
    rw [this]; simp
  · rw [BitVec.getLsbD_of_ge s _ (by omega)]; rfl
def tab : List Int := [0, 274646895, 549293790, 820201905, 1098587580, 1361435347, 1640403810, 1905808397, 2197175160, 2460548119, 2722870694, 2987750089, 3280807620, 3553878443, 3811616794, 4084100981]
theorem tab_ok : ∀ n, n < 16 → tab.getD n 0 = ((stn 4 (BitVec.ofNat 32 n)).toNat : Int) := by decide +kernel
theorem half_eq (s : B32) : f_crc_half (s.toNat : Int) = some ((stn 4 (s &&& 15#32)).toNat : Int) := by
  have h15 : (15 : Int) = ((15#32 : B32).toNat : Int) := by decide
  have hle : (s &&& 15#32).toNat < 16 := by
    rw [BitVec.toNat_and]; exact Nat.lt_of_le_of_lt Nat.and_le_right (by decide)
  unfold f_crc_half
  rw [h15, and32, grd_t ⟨by omega, by omega⟩]
  congr 1
  show tab.getD _ 0 = _
  rw [Int.toNat_natCast, tab_ok _ hle]
  congr 2
  simp

/-! ### bytes -/
def isB (x : Int) : Prop := 0 ≤ x ∧ x ≤ 255
def bv (x : Int) : B32 := BitVec.ofInt 32 x
theorem bv_toNat {x : Int} (h : isB x) : ((bv x).toNat : Int) = x := by
  obtain ⟨h0, h1⟩ := h
  unfold bv
  rw [BitVec.toNat_ofInt]
  omega
def bstep (s : B32) (c : Int) : B32 := stn 8 (s ^^^ bv c)
def fold (s : B32) (b : List Int) : B32 := b.foldl bstep s
theorem stn8 (s : B32) : stn 8 s = stn 4 (stn 4 s) := stn_add 4 4 s
theorem rd_nat {xs : List Int} {i : Nat} (h : i < xs.length) : rd xs (i : Int) = xs[i] := len_lt h
theorem more_loop (b : List Int) (hb : ∀ x ∈ b, isB x) (hl : b.length ≤ 4611686018427387904) : ∀ (k i : Nat) (s : B32), i + k = b.length → iter (f_crc_More_l0 b) ((s.toNat : Int), (i : Int)) = some ((fold s (b.drop i)).toNat : Int)
  | 0, i, s, hi => by
    refine iter_stop ?_
    unfold f_crc_More_l0
    simp only
    rw [if_neg (by simp; omega), List.drop_eq_nil_of_le (by omega)]
    rfl
  | k + 1, i, s, hi => by
    have hlt : i < b.length := by omega
    have hx : isB b[i] := hb _ (List.getElem_mem hlt)
    have hstep : f_crc_More_l0 b ((s.toNat : Int), (i : Int)) = some (.inl (((bstep s b[i]).toNat : Int), ((i + 1 : Nat) : Int))) := by
      unfold f_crc_More_l0
      simp only
      rw [if_pos (by simp; omega), grd_t ⟨by omega, by omega⟩, rd_nat hlt, w_u32 hx.1 (by have := hx.2; omega)]
      have e1 : xorI .u32 (s.toNat : Int) b[i] = ((s ^^^ bv b[i]).toNat : Int) := by rw [← xor32, bv_toNat hx]
      rw [e1, half_eq]
      simp only [Option.bind_some]
      have e4 : (4 : Int) = ((4 : Nat) : Int) := rfl
      rw [e4, shr32 _ 4 (by decide), xor32, ← stn4, half_eq]
      simp only [Option.bind_some]
      rw [shr32 _ 4 (by decide), xor32, ← stn4, ← stn8, w_i64 (by omega) (by omega)]
      rfl
    rw [iter_next hstep, more_loop b hb hl k (i + 1) _ (by omega), List.drop_eq_getElem_cons hlt]
    rfl
theorem more_eq (s : B32) (b : List Int) (hb : ∀ x ∈ b, isB x) (hl : b.length ≤ 4611686018427387904) : f_crc_More (s.toNat : Int) b = some ((~~~(fold (~~~s) b)).toNat : Int) := by
  unfold f_crc_More
  rw [not32, show (0 : Int) = ((0 : Nat) : Int) from rfl, more_loop b hb hl b.length 0 _ (by omega)]
  simp only [Option.bind_some, List.drop_zero, not32]
/-- What the program's sum is. -/
def crc (b : List Int) : B32 := ~~~(fold (~~~0#32) b)
theorem sum_eq (b : List Int) (hb : ∀ x ∈ b, isB x) (hl : b.length ≤ 4611686018427387904) : f_crc_Sum b = some ((crc b).toNat : Int) := by
  unfold f_crc_Sum
  rw [show (0 : Int) = (((0#32 : B32).toNat : Nat) : Int) from rfl, more_eq _ b hb hl]
  rfl

/-! ### bit by bit -/
def low (b : Bool) : B32 := if b then 1#32 else 0#32
def topB (b : Bool) : B32 := if b then 0x80000000#32 else 0#32
def dir : B32 → List Bool → B32
  | d, [] => d
  | d, b :: r => dir (st (d ^^^ low b)) r
def aug : B32 → List Bool → B32
  | r, [] => r
  | r, b :: l => aug (st r ^^^ topB b) l
theorem low_xor (a b : Bool) : low (a ^^ b) = low a ^^^ low b := by cases a <;> cases b <;> decide
theorem top_xor (a b : Bool) : topB (a ^^ b) = topB a ^^^ topB b := by cases a <;> cases b <;> decide
theorem xor4 (a b c d : B32) : (a ^^^ b) ^^^ (c ^^^ d) = (a ^^^ c) ^^^ (b ^^^ d) := by
  rw [BitVec.xor_assoc, BitVec.xor_assoc, ← BitVec.xor_assoc b, ← BitVec.xor_assoc c, BitVec.xor_comm b c]
theorem dir_xor : ∀ (x y : List Bool) (d e : B32), x.length = y.length → dir (d ^^^ e) (List.zipWith (· ^^ ·) x y) = dir d x ^^^ dir e y
  | [], [], d, e, _ => rfl
  | a :: x, b :: y, d, e, h => by
    simp only [List.zipWith_cons_cons, dir]
    rw [low_xor, xor4, st_xor, dir_xor x y _ _ (by simpa using h)]
theorem aug_xor : ∀ (x y : List Bool) (d e : B32), x.length = y.length → aug (d ^^^ e) (List.zipWith (· ^^ ·) x y) = aug d x ^^^ aug e y
  | [], [], d, e, _ => rfl
  | a :: x, b :: y, d, e, h => by
    simp only [List.zipWith_cons_cons, aug]
    rw [top_xor, st_xor, xor4, aug_xor x y _ _ (by simpa using h)]
theorem dir_append : ∀ (x y : List Bool) (d : B32), dir d (x ++ y) = dir (dir d x) y
  | [], _, _ => rfl
  | a :: x, y, d => by simp only [List.cons_append, dir]; exact dir_append x y _
theorem aug_append : ∀ (x y : List Bool) (d : B32), aug d (x ++ y) = aug (aug d x) y
  | [], _, _ => rfl
  | a :: x, y, d => by simp only [List.cons_append, aug]; exact aug_append x y _
theorem dir_zeros : ∀ (n : Nat) (d : B32), dir d (List.replicate n false) = stn n d
  | 0, _ => rfl
  | n + 1, d => by
    rw [List.replicate_succ, dir, show low false = 0#32 from rfl, BitVec.xor_zero, dir_zeros n]; rfl
theorem aug_zeros : ∀ (n : Nat) (d : B32), aug d (List.replicate n false) = stn n d
  | 0, _ => rfl
  | n + 1, d => by
    rw [List.replicate_succ, aug, show topB false = 0#32 from rfl, BitVec.xor_zero, aug_zeros n]; rfl
theorem zip_zeros : ∀ (x : List Bool), List.zipWith (· ^^ ·) x (List.replicate x.length false) = x
  | [] => rfl
  | a :: x => by simp only [List.length_cons, List.replicate_succ, List.zipWith_cons_cons, zip_zeros x, Bool.xor_false]
theorem zip_zeros' : ∀ (x : List Bool), List.zipWith (· ^^ ·) (List.replicate x.length false) x = x
  | [] => rfl
  | a :: x => by simp only [List.length_cons, List.replicate_succ, List.zipWith_cons_cons, zip_zeros' x, Bool.false_xor]
theorem dir_split (x : List Bool) (d : B32) : dir d x = stn x.length d ^^^ dir 0#32 x := by
  have := dir_xor (List.replicate x.length false) x d 0#32 (by simp)
  rw [zip_zeros', BitVec.xor_zero, dir_zeros] at this
  exact this
theorem aug_split (x : List Bool) (d : B32) : aug d x = stn x.length d ^^^ aug 0#32 x := by
  have := aug_xor (List.replicate x.length false) x d 0#32 (by simp)
  rw [zip_zeros', BitVec.xor_zero, aug_zeros] at this
  exact this
theorem top_low (b : Bool) : stn 31 (topB b) = low b := by cases b <;> decide +kernel
/-- With 32 noughts behind, what is led in at the topB is as if it were led in at the bottom. -/
theorem aug_dir : ∀ (x : List Bool), aug 0#32 (x ++ List.replicate 32 false) = dir 0#32 x
  | [] => by rw [List.nil_append, aug_zeros, stn_zero]; rfl
  | b :: x => by
    simp only [List.cons_append, aug, dir]
    rw [show st 0#32 = 0#32 by decide, BitVec.zero_xor, BitVec.zero_xor, aug_split, aug_dir x, dir_split x (st (low b))]
    congr 1
    rw [List.length_append, List.length_replicate, show x.length + 32 = 31 + (1 + x.length) by omega, stn_add, top_low, stn_add]
    rfl
/-- The first 32 turned. -/
def flips (n : Nat) : List Bool := List.replicate 32 true ++ List.replicate n false
theorem aug_flips (n : Nat) : aug 0#32 (flips n) = stn n (~~~0#32) := by
  have h : aug 0#32 (List.replicate 32 true) = ~~~0#32 := by decide +kernel
  unfold flips
  rw [aug_append, aug_zeros, h]
theorem aug_flipped (x : List Bool) : aug 0#32 (List.zipWith (· ^^ ·) (x ++ List.replicate 32 false) (flips x.length)) = dir (~~~0#32) x := by
  have := aug_xor (x ++ List.replicate 32 false) (flips x.length) 0#32 0#32 (by rw [List.length_append, List.length_replicate, flips, List.length_append, List.length_replicate, List.length_replicate]; exact Nat.add_comm _ _)
  rw [BitVec.xor_zero] at this
  rw [this, aug_dir, aug_flips, dir_split x (~~~0#32), BitVec.xor_comm]

/-! ### the bits of bytes -/
def bits8 (c : Int) : List Bool := (List.range 8).map fun j => (bv c).getLsbD j
def bits (b : List Int) : List Bool := b.flatMap bits8
theorem bits8_len (c : Int) : (bits8 c).length = 8 := by simp [bits8]
theorem bits_len : ∀ (b : List Int), (bits b).length = 8 * b.length
  | [] => rfl
  | c :: b => by
    show (bits8 c ++ bits b).length = _
    rw [List.length_append, bits8_len, bits_len b, List.length_cons]; omega
theorem dir8 : ∀ n, n < 256 → dir 0#32 ((List.range 8).map fun j => (BitVec.ofNat 32 n).getLsbD j) = stn 8 (BitVec.ofNat 32 n) := by
  have h : (List.range 256).all (fun n => dir 0#32 ((List.range 8).map fun j => (BitVec.ofNat 32 n).getLsbD j) == stn 8 (BitVec.ofNat 32 n)) = true := by decide +kernel
  intro n hn
  have := List.all_eq_true.1 h n (List.mem_range.2 hn)
  simpa using this
theorem bv_ofNat {c : Int} (h : isB c) : bv c = BitVec.ofNat 32 c.toNat := by
  obtain ⟨m, rfl⟩ := Int.eq_ofNat_of_zero_le h.1
  unfold bv
  simp
theorem dir_byte (s : B32) {c : Int} (h : isB c) : dir s (bits8 c) = bstep s c := by
  rw [dir_split, bits8_len]
  unfold bstep bits8
  rw [stn_xor, bv_ofNat h, dir8 c.toNat (by have := h.1; have := h.2; omega)]
theorem dir_fold : ∀ (b : List Int) (s : B32), (∀ x ∈ b, isB x) → dir s (bits b) = fold s b
  | [], _, _ => rfl
  | c :: b, s, h => by
    show dir s (bits8 c ++ bits b) = _
    rw [dir_append, dir_byte s (h c (by simp)), dir_fold b _ (fun x hx => h x (by simp [hx]))]
    rfl

/-! ### the chapter's sum -/
theorem low_and (s : B32) : s &&& 1#32 = low (s.getLsbD 0) := by
  apply BitVec.eq_of_getLsbD_eq
  intro i hi
  rw [BitVec.getLsbD_and]
  rcases Nat.eq_zero_or_pos i with rfl | hp
  · cases s.getLsbD 0 <;> decide
  · have h1 : (1#32 : B32).getLsbD i = false := by
      have : ∀ j, j < 32 → 0 < j → (1#32 : B32).getLsbD j = false := by decide
      exact this i hi hp
    rw [h1, Bool.and_false]
    cases s.getLsbD 0
    · simp [low]
    · exact h1.symm
theorem low_nat (b : Bool) : ((low b).toNat : Int) = if b then 1 else 0 := by cases b <;> rfl
theorem bits_get : ∀ (b : List Int) (i : Nat) (h : i < 8 * b.length), (bits b)[i]'(by rw [bits_len]; exact h) = (bv (b[i / 8]'(by omega))).getLsbD (i % 8)
  | [], i, h => by simp at h
  | c :: b, i, h => by
    have e : bits (c :: b) = bits8 c ++ bits b := rfl
    by_cases h8 : i < 8
    · have e0 : i / 8 = 0 := by omega
      have e1 : i % 8 = i := by omega
      simp only [e, e0, e1, List.getElem_cons_zero]
      rw [List.getElem_append_left (by rw [bits8_len]; exact h8)]
      simp [bits8]
    · have h' : i - 8 < 8 * b.length := by simp at h; omega
      have e0 : i / 8 = (i - 8) / 8 + 1 := by omega
      have e1 : i % 8 = (i - 8) % 8 := by omega
      simp only [e, e0, e1, List.getElem_cons_succ]
      rw [List.getElem_append_right (by rw [bits8_len]; omega)]
      simp only [bits8_len]
      exact bits_get b (i - 8) h'
def X (b : List Int) : List Bool := List.zipWith (· ^^ ·) (bits b ++ List.replicate 32 false) (flips (8 * b.length))
theorem flips_len (n : Nat) : (flips n).length = 32 + n := by rw [flips, List.length_append, List.length_replicate, List.length_replicate]
theorem X_len (b : List Int) : (X b).length = 8 * b.length + 32 := by
  rw [X, List.length_zipWith, flips_len, List.length_append, bits_len, List.length_replicate]; omega
theorem flips_get (n i : Nat) (h : i < 32 + n) : (flips n)[i]'(by rw [flips_len]; exact h) = decide (i < 32) := by
  unfold flips
  by_cases h2 : i < 32
  · rw [List.getElem_append_left (by rw [List.length_replicate]; exact h2), List.getElem_replicate, decide_eq_true h2]
  · rw [List.getElem_append_right (by rw [List.length_replicate]; omega), List.getElem_replicate, decide_eq_false h2]
def mbit (b : List Int) (i : Nat) : Bool := if h : i < 8 * b.length then (bv (b[i / 8]'(by omega))).getLsbD (i % 8) else false
theorem X_get (b : List Int) (i : Nat) (h : i < 8 * b.length + 32) : (X b)[i]'(by rw [X_len]; exact h) = (mbit b i ^^ decide (i < 32)) := by
  unfold X
  rw [List.getElem_zipWith, flips_get _ _ (by omega)]
  congr 1
  unfold mbit
  split
  · rename_i h1
    rw [List.getElem_append_left (by rw [bits_len]; exact h1), bits_get b i h1]
  · rename_i h1
    rw [List.getElem_append_right (by rw [bits_len]; omega), List.getElem_replicate]
theorem bit_eq (b : List Int) (hb : ∀ x ∈ b, isB x) (hl : b.length ≤ 1000000000000000000) (i : Nat) (h : i < 8 * b.length + 32) : f_ref03_bit b (i : Int) = some ((low (mbit b i ^^ decide (i < 32))).toNat : Int) := by
  have h1 : (if (decide ((i : Int) < (IntKind.i64.wrap ((8 : Int) * (b.length : Int))))) = true then (grd (0 ≤ IntKind.i64.wrap ((i : Int).tdiv (8 : Int)) ∧ IntKind.i64.wrap ((i : Int).tdiv (8 : Int)) < b.length) (grd (0 ≤ (i : Int).tmod (8 : Int)) (some (andI .u32 (shrI .u32 (IntKind.u32.wrap (rd b (IntKind.i64.wrap ((i : Int).tdiv (8 : Int))))) ((i : Int).tmod (8 : Int))) (1 : Int))))) else (some (0 : Int))) = some ((low (mbit b i)).toNat : Int) := by
    rw [w_i64 (n := (8 : Int) * (b.length : Int)) (by omega) (by omega)]
    by_cases h8 : i < 8 * b.length
    · have hlt : i / 8 < b.length := by omega
      have hd : (i : Int).tdiv 8 = ((i / 8 : Nat) : Int) := by rw [Int.tdiv_eq_ediv_of_nonneg (by omega)]; omega
      have hm : (i : Int).tmod 8 = ((i % 8 : Nat) : Int) := by rw [Int.tmod_eq_emod_of_nonneg (by omega)]; omega
      have hx : isB b[i / 8] := hb _ (List.getElem_mem hlt)
      rw [if_pos (by simp; omega), hd, hm, w_i64 (by omega) (by omega), grd_t ⟨by omega, by omega⟩, grd_t (by omega), rd_nat hlt, w_u32 hx.1 (by have := hx.2; omega), ← bv_toNat hx, shr32 _ _ (by omega)]
      rw [show (1 : Int) = ((1#32 : B32).toNat : Int) from rfl, and32, low_and, BitVec.getLsbD_ushiftRight, Nat.add_zero]
      unfold mbit
      rw [dif_pos h8]
    · rw [if_neg (by simp; omega)]
      unfold mbit
      rw [dif_neg h8]
      rfl
  unfold f_ref03_bit
  rw [h1]
  simp only [Option.bind_some]
  by_cases h3 : i < 32
  · rw [if_pos (by simp; omega), decide_eq_true h3]
    cases mbit b i <;> rfl
  · rw [if_neg (by simp; omega), decide_eq_false h3]
    cases mbit b i <;> rfl
theorem top_add (s : B32) (b : Bool) : ((s >>> 1).toNat : Int) + ((topB b).toNat : Int) = (((s >>> 1) ^^^ topB b).toNat : Int) := by
  cases b with
  | false => rw [show topB false = 0#32 from rfl, BitVec.xor_zero]; rfl
  | true =>
    have hlt : (s >>> 1).toNat < 2147483648 := by rw [BitVec.toNat_ushiftRight, Nat.shiftRight_eq_div_pow]; have := s.isLt; omega
    have e : (s >>> 1) ^^^ topB true = (s >>> 1) + topB true := by
      apply BitVec.eq_of_toNat_eq
      have e2 : (s >>> 1).toNat ^^^ 2147483648 = (s >>> 1).toNat + 2147483648 := by
        apply Nat.eq_of_testBit_eq
        intro j
        rw [Nat.testBit_xor, show 2147483648 = 2 ^ 31 by decide, Nat.add_comm]
        rw [Nat.testBit_two_pow]
        by_cases hj : j = 31
        · subst hj
          rw [Nat.testBit_two_pow_add_eq, Nat.testBit_lt_two_pow (by omega)]; simp
        · by_cases hj2 : j < 31
          · rw [Nat.testBit_two_pow_add_gt hj2, decide_eq_false (by omega), Bool.xor_false]
          · rw [Nat.testBit_lt_two_pow (x := (s >>> 1).toNat) (i := j) (Nat.lt_of_lt_of_le hlt (by rw [show 2147483648 = 2 ^ 31 by decide]; exact Nat.pow_le_pow_right (by decide) (by omega)))]
            rw [Nat.testBit_lt_two_pow (Nat.lt_of_lt_of_le (show 2 ^ 31 + (s >>> 1).toNat < 2 ^ 32 by omega) (Nat.pow_le_pow_right (by decide) (by omega)))]
            simp; omega
      rw [BitVec.toNat_xor, BitVec.toNat_add, show (topB true).toNat = 2147483648 from rfl, e2, Nat.mod_eq_of_lt (by omega)]
    rw [e, BitVec.toNat_add, show (topB true).toNat = 2147483648 from rfl, Nat.mod_eq_of_lt (by omega)]
    rfl
theorem ref_loop (b : List Int) (hb : ∀ x ∈ b, isB x) (hl : b.length ≤ 1000000000000000000) : ∀ (k i : Nat) (s : B32), i + k = 8 * b.length + 32 → iter (f_ref03_Sum_l0 b) ((s.toNat : Int), (i : Int)) = some ((aug s ((X b).drop i)).toNat : Int)
  | 0, i, s, hi => by
    refine iter_stop ?_
    unfold f_ref03_Sum_l0
    simp only
    rw [w_i64 (n := (8 : Int) * (b.length : Int)) (by omega) (by omega), w_i64 (n := (8 : Int) * (b.length : Int) + 32) (by omega) (by omega), if_neg (by simp; omega), List.drop_eq_nil_of_le (by rw [X_len]; omega)]
    rfl
  | k + 1, i, s, hi => by
    have hlt : i < 8 * b.length + 32 := by omega
    have hx := X_get b i hlt
    have hstep : f_ref03_Sum_l0 b ((s.toNat : Int), (i : Int)) = some (.inl (((st s ^^^ topB ((X b)[i]'(by rw [X_len]; exact hlt))).toNat : Int), ((i + 1 : Nat) : Int))) := by
      unfold f_ref03_Sum_l0
      simp only
      rw [w_i64 (n := (8 : Int) * (b.length : Int)) (by omega) (by omega), w_i64 (n := (8 : Int) * (b.length : Int) + 32) (by omega) (by omega), if_pos (by simp; omega), bit_eq b hb hl i hlt, ← hx]
      simp only [Option.bind_some]
      generalize (X b)[i]'(by rw [X_len]; exact hlt) = x
      have e1 : IntKind.u32.wrap ((low x).toNat * 2147483648 : Int) = ((topB x).toNat : Int) := by cases x <;> rfl
      have e2 : IntKind.u32.wrap ((s.toNat : Int).tdiv 2) = ((s >>> 1).toNat : Int) := by
        rw [Int.tdiv_eq_ediv_of_nonneg (by omega), BitVec.toNat_ushiftRight, Nat.shiftRight_eq_div_pow, w_u32 (by omega) (by have := nat32 s; omega)]
        omega
      rw [e1, e2, top_add, w_u32 (by omega) (by have := nat32 ((s >>> 1) ^^^ topB x); omega)]
      rw [show (1 : Int) = ((1#32 : B32).toNat : Int) from rfl, and32, low_and, w_i64 (by omega) (by omega)]
      have hst : st s = (s >>> 1) ^^^ (if s.getLsbD 0 then 0x82F63B78#32 else 0#32) := rfl
      cases h0 : s.getLsbD 0 with
      | true =>
        rw [if_pos (by decide), show (2197175160 : Int) = ((0x82F63B78#32 : B32).toNat : Int) from rfl, xor32, hst, h0]
        simp only [Option.bind_some, if_true]
        rw [BitVec.xor_assoc, BitVec.xor_comm (topB x), ← BitVec.xor_assoc]
        rfl
      | false =>
        rw [if_neg (by decide), hst, h0]
        simp only [Option.bind_some, Bool.false_eq_true, if_false, BitVec.xor_zero]
        rfl
    rw [iter_next hstep, ref_loop b hb hl k (i + 1) _ (by omega), List.drop_eq_getElem_cons (i := i) (by rw [X_len]; exact hlt)]
    rfl
theorem ref_eq (b : List Int) (hb : ∀ x ∈ b, isB x) (hl : b.length ≤ 1000000000000000000) : f_ref03_Sum b = some ((crc b).toNat : Int) := by
  unfold f_ref03_Sum
  have e := ref_loop b hb hl (8 * b.length + 32) 0 0#32 (by omega)
  rw [show (((0#32 : B32).toNat : Nat) : Int) = 0 from rfl, show ((0 : Nat) : Int) = 0 from rfl] at e
  rw [e]
  simp only [Option.bind_some, List.drop_zero]
  have e2 : aug 0#32 (X b) = fold (~~~0#32) b := by
    have := aug_flipped (bits b)
    rw [bits_len] at this
    rw [← dir_fold b _ hb, ← this]; rfl
  rw [e2]
  congr 1
  unfold crc
  rw [BitVec.toNat_not, w_u32 (by have := nat32 (fold (~~~0#32) b); omega) (by omega)]
  have := (fold (~~~0#32) b).isLt
  omega

/-! ### a sum as four bytes -/
def le4 (s : B32) : List Int := [(s.toNat : Int) % 256, (s.toNat : Int) / 256 % 256, (s.toNat : Int) / 65536 % 256, (s.toNat : Int) / 16777216 % 256]
theorem shr_nat (s : B32) (k : Nat) : ((s >>> k).toNat : Int) = (s.toNat : Int) / 2 ^ k := by
  rw [BitVec.toNat_ushiftRight, Nat.shiftRight_eq_div_pow, Int.natCast_ediv, Int.natCast_pow]; rfl
theorem put_eq (b : List Int) (hb : ∀ x ∈ b, isB x) (hl : b.length ≤ 274877906000) : f_crc_Put b = some (b ++ le4 (crc b)) := by
  unfold f_crc_Put
  rw [sum_eq b hb (by omega)]
  simp only [Option.bind_some, List.nil_append, List.length_nil, Nat.zero_add, List.length_append, List.length_cons]
  rw [w_i64 (by omega) (by omega), grd_t ⟨by omega, by omega⟩, grd_t (by omega), grd_t (by omega)]
  have h8 := shr32 (crc b) 8 (by decide)
  have h16 := shr32 (crc b) 16 (by decide)
  have h24 := shr32 (crc b) 24 (by decide)
  rw [show (8 : Int) = ((8 : Nat) : Int) from rfl, show (16 : Int) = ((16 : Nat) : Int) from rfl, show (24 : Int) = ((24 : Nat) : Int) from rfl, h8, h16, h24, shr_nat, shr_nat, shr_nat, u8_mod, u8_mod, u8_mod, u8_mod]
  rfl
theorem orI4 {x0 x1 x2 x3 : Int} (h0 : isB x0) (h1 : isB x1) (h2 : isB x2) (h3 : isB x3) :
    orI .u32 (orI .u32 (orI .u32 (IntKind.u32.wrap x0) (shlI .u32 (IntKind.u32.wrap x1) 8)) (shlI .u32 (IntKind.u32.wrap x2) 16)) (shlI .u32 (IntKind.u32.wrap x3) 24) = x0 + 256 * x1 + 65536 * x2 + 16777216 * x3 := by
  have e (x : Int) (h : isB x) : IntKind.u32.wrap x = ((bv x).toNat : Int) := by rw [w_u32 h.1 (by have := h.2; omega), bv_toNat h]
  rw [e _ h0, e _ h1, e _ h2, e _ h3, show (8 : Int) = ((8 : Nat) : Int) from rfl, show (16 : Int) = ((16 : Nat) : Int) from rfl, show (24 : Int) = ((24 : Nat) : Int) from rfl, shl32 _ 8 (by decide), shl32 _ 16 (by decide), shl32 _ 24 (by decide), or32, or32, or32]
  have k0 := bv_toNat h0; have k1 := bv_toNat h1; have k2 := bv_toNat h2; have k3 := bv_toNat h3
  obtain ⟨l0, u0⟩ := h0; obtain ⟨l1, u1⟩ := h1; obtain ⟨l2, u2⟩ := h2; obtain ⟨l3, u3⟩ := h3
  generalize (bv x0) = b0 at *; generalize (bv x1) = b1 at *; generalize (bv x2) = b2 at *; generalize (bv x3) = b3 at *
  have o (a c : Nat) (n : Nat) (h : c < 2 ^ n) : c ||| a <<< n = a * 2 ^ n + c := by
    rw [Nat.or_comm, ← Nat.shiftLeft_add_eq_or_of_lt h, Nat.shiftLeft_eq]
  have sh (c : B32) (n : Nat) (h : c.toNat * 2 ^ n < 4294967296) : (c <<< n).toNat = c.toNat <<< n := by
    rw [BitVec.toNat_shiftLeft, Nat.shiftLeft_eq, Nat.mod_eq_of_lt h]
  rw [BitVec.toNat_or, BitVec.toNat_or, BitVec.toNat_or, sh b1 8 (by omega), sh b2 16 (by omega), sh b3 24 (by omega), o b1.toNat b0.toNat 8 (by omega), o b2.toNat _ 16 (by omega), o b3.toNat _ 24 (by omega)]
  omega
theorem le4_iff (s : B32) {x0 x1 x2 x3 : Int} (h0 : isB x0) (h1 : isB x1) (h2 : isB x2) (h3 : isB x3) : (s.toNat : Int) = x0 + 256 * x1 + 65536 * x2 + 16777216 * x3 ↔ [x0, x1, x2, x3] = le4 s := by
  obtain ⟨l0, u0⟩ := h0; obtain ⟨l1, u1⟩ := h1; obtain ⟨l2, u2⟩ := h2; obtain ⟨l3, u3⟩ := h3
  have := nat32 s
  unfold le4
  simp only [List.cons.injEq, and_true]
  omega
theorem drop4 {b : List Int} {n : Nat} (h : b.length = n + 4) : b.drop n = [b[n]'(by omega), b[n + 1]'(by omega), b[n + 2]'(by omega), b[n + 3]'(by omega)] := by
  rw [List.drop_eq_getElem_cons (by omega), List.drop_eq_getElem_cons (by omega), List.drop_eq_getElem_cons (by omega), List.drop_eq_getElem_cons (by omega), List.drop_eq_nil_of_le (by omega)]
def opened (b : List Int) : List Int × Bool := if b.length < 4 then ([], false) else if b.drop (b.length - 4) = le4 (crc (b.take (b.length - 4))) then (b.take (b.length - 4), true) else ([], false)
theorem open_eq (b : List Int) (hb : ∀ x ∈ b, isB x) (hl : b.length ≤ 274877906000) : f_crc_Open b = some (opened b) := by
  unfold f_crc_Open opened
  by_cases h4 : b.length < 4
  · rw [w_i64 (by omega) (by omega), if_pos (by simp; omega), if_pos h4]
  · obtain ⟨n, hn⟩ : ∃ n, b.length = n + 4 := ⟨b.length - 4, by omega⟩
    have e : IntKind.i64.wrap ((b.length : Int) - 4) = (n : Int) := by rw [w_i64 (by omega) (by omega)]; omega
    rw [e, if_neg (by simp), if_neg h4, show b.length - 4 = n by omega]
    rw [w_i64 (n := (n : Int) + 1) (by omega) (by omega), w_i64 (n := (n : Int) + 2) (by omega) (by omega), w_i64 (n := (n : Int) + 3) (by omega) (by omega)]
    rw [grd_t ⟨by omega, by omega⟩, grd_t ⟨by omega, by omega⟩, grd_t ⟨by omega, by omega⟩, grd_t ⟨by omega, by omega⟩, grd_t ⟨by omega, by omega, by omega⟩]
    have hs : sub b 0 (n : Int) = b.take n := by simp [sub]
    rw [hs, sum_eq _ (fun x hx => hb x (List.mem_of_mem_take hx)) (by rw [List.length_take]; omega)]
    simp only [Option.bind_some]
    have r0 : rd b (n : Int) = b[n] := rd_nat (by omega)
    have r1 : rd b ((n : Int) + 1) = b[n + 1] := rd_nat (i := n + 1) (by omega)
    have r2 : rd b ((n : Int) + 2) = b[n + 2] := rd_nat (i := n + 2) (by omega)
    have r3 : rd b ((n : Int) + 3) = b[n + 3] := rd_nat (i := n + 3) (by omega)
    have x0 := hb _ (List.getElem_mem (show n < b.length by omega))
    have x1 := hb _ (List.getElem_mem (show n + 1 < b.length by omega))
    have x2 := hb _ (List.getElem_mem (show n + 2 < b.length by omega))
    have x3 := hb _ (List.getElem_mem (show n + 3 < b.length by omega))
    rw [r0, r1, r2, r3, orI4 x0 x1 x2 x3, drop4 hn]
    have hiff := le4_iff (crc (b.take n)) x0 x1 x2 x3
    by_cases hc : ((crc (b.take n)).toNat : Int) = b[n] + 256 * b[n + 1] + 65536 * b[n + 2] + 16777216 * b[n + 3]
    · rw [if_neg (by simpa using hc), if_pos (hiff.1 hc), grd_t ⟨by omega, by omega⟩, Int.toNat_natCast, List.length_replicate, List.drop_eq_nil_of_le (by rw [List.length_replicate]; omega), List.append_nil]
    · rw [if_pos (by simpa using hc), if_neg (fun h => hc (hiff.2 h))]
theorem le4_len (s : B32) : (le4 s).length = 4 := rfl
theorem le4_b (s : B32) : ∀ x ∈ le4 s, isB x := by
  intro x hx
  have := nat32 s
  unfold le4 at hx
  simp only [List.mem_cons, List.not_mem_nil, or_false] at hx
  unfold isB
  rcases hx with rfl | rfl | rfl | rfl <;> omega
theorem opened_put (b : List Int) : opened (b ++ le4 (crc b)) = (b, true) := by
  have h : (b ++ le4 (crc b)).length - 4 = b.length := by rw [List.length_append, le4_len]; omega
  unfold opened
  rw [h, if_neg (by rw [List.length_append, le4_len]; omega), List.take_left' rfl, List.drop_left' rfl, if_pos rfl]
theorem same_loop (a b : List Int) (hl : a.length = b.length) (hm : a.length ≤ 4611686018427387904) : ∀ (k i : Nat), i + k = a.length →
    iter (f_ref02_Same_l0 a b) (i : Int) = some (if a.drop i = b.drop i then Sum.inl () else Sum.inr ())
  | 0, i, hi => by
    refine iter_stop ?_
    unfold f_ref02_Same_l0
    simp only
    rw [if_neg (by simp; omega), List.drop_eq_nil_of_le (by omega), List.drop_eq_nil_of_le (by omega), if_pos rfl]
  | k + 1, i, hi => by
    have h1 : i < a.length := by omega
    have h2 : i < b.length := by omega
    by_cases he : a[i] = b[i]
    · have hstep : f_ref02_Same_l0 a b (i : Int) = some (.inl ((i + 1 : Nat) : Int)) := by
        unfold f_ref02_Same_l0
        simp only
        rw [if_pos (by simp; omega), grd_t ⟨by omega, by omega⟩, grd_t ⟨by omega, by omega⟩, rd_nat h1, rd_nat h2, if_neg (by simpa using he), w_i64 (by omega) (by omega)]
        rfl
      rw [iter_next hstep, same_loop a b hl hm k (i + 1) (by omega), List.drop_eq_getElem_cons (i := i) h1, List.drop_eq_getElem_cons (i := i) h2, he]
      simp only [List.cons.injEq, true_and]
    · refine iter_stop ?_
      unfold f_ref02_Same_l0
      simp only
      rw [if_pos (by simp; omega), grd_t ⟨by omega, by omega⟩, grd_t ⟨by omega, by omega⟩, rd_nat h1, rd_nat h2, if_pos (by simpa using he), List.drop_eq_getElem_cons (i := i) h1, List.drop_eq_getElem_cons (i := i) h2, if_neg (fun q => he (List.cons.inj q).1)]
theorem rsameE (a b : List Int) (hm : a.length ≤ 4611686018427387904) : f_ref02_Same a b = some (decide (a = b)) := by
  unfold f_ref02_Same
  by_cases hl : a.length = b.length
  · rw [if_neg (by simp; omega)]
    have h := same_loop a b hl hm a.length 0 (by omega)
    rw [show ((0 : Nat) : Int) = 0 from rfl] at h
    rw [h]
    simp only [List.drop_zero, Option.bind_some]
    by_cases e : a = b
    · rw [if_pos e, decide_eq_true e]; rfl
    · rw [if_neg e, decide_eq_false e]; rfl
  · rw [if_pos (by simp; omega), decide_eq_false (fun e => hl (by rw [e]))]
theorem refput_eq (b : List Int) (hb : ∀ x ∈ b, isB x) (hl : b.length ≤ 274877906000) : f_ref03_Put b = some (b ++ le4 (crc b)) := by
  unfold f_ref03_Put
  rw [grd_t (by simp; omega), ref_eq b hb (by omega)]
  simp only [Option.bind_some, List.nil_append]
  have hs := nat32 (crc b)
  generalize hS : ((crc b).toNat : Int) = S at hs
  have hS0 : 0 ≤ S := by omega
  have step (p : List Int) (s i : Int) (h0 : 0 ≤ s) (h1 : s < 4294967296) (h2 : 0 ≤ i) (h3 : i < 4) (h4 : p.length ≤ 274877906900) : f_ref03_Put_l0 (p, s, i) = some (.inl (p ++ [s % 256], s / 256, i + 1)) := by
    unfold f_ref03_Put_l0
    simp only
    rw [if_pos (by simp; omega), grd_t (by simp; omega), Int.tmod_eq_emod_of_nonneg h0, Int.tdiv_eq_ediv_of_nonneg h0, w_u8 (by omega) (by omega), w_u32 (by omega) (by omega), w_i64 (by omega) (by omega)]
  have stop (p : List Int) (s : Int) : f_ref03_Put_l0 (p, s, 4) = some (.inr p) := by
    unfold f_ref03_Put_l0
    rfl
  rw [iter_next (step b S 0 (by omega) (by omega) (by omega) (by omega) (by omega)), iter_next (step _ _ _ (by omega) (by omega) (by omega) (by omega) (by simp; omega)), iter_next (step _ _ _ (by omega) (by omega) (by omega) (by omega) (by simp; omega)), iter_next (step _ _ _ (by omega) (by omega) (by omega) (by omega) (by simp; omega))]
  rw [show (0 : Int) + 1 + 1 + 1 + 1 = 4 from rfl, iter_stop (stop _ _)]
  simp only [Option.bind_some, le4, hS, List.append_assoc, List.cons_append, List.nil_append]
  have e1 : S / 256 / 256 = S / 65536 := by omega
  have e2 : S / 65536 / 256 = S / 16777216 := by omega
  rw [e1, e2]
theorem okB_isB {b : List Int} (h : okB b) : ∀ x ∈ b, isB x := h
theorem le4_okB (s : B32) : okB (le4 s) := le4_b s
abbrev signOp : ByteArray := ⟨#[115, 105, 103, 110]⟩
abbrev kindOp : ByteArray := ⟨#[107, 105, 110, 100]⟩
abbrev lengthOp : ByteArray := ⟨#[108, 101, 110, 103, 116, 104]⟩
abbrev sumOp : ByteArray := ⟨#[115, 117, 109]⟩
abbrev frameOp : ByteArray := ⟨#[102, 114, 97, 109, 101]⟩
inductive NxR where
  | more
  | bad (c : Int) (op : ByteArray) (at_ : Int)
  | frame (k : Int) (body : List Int) (n : Nat)
def bodyV (b : List Int) (n : Int) (a : Nat) : NxR :=
  if b.length < a + n.toNat + 4 then .more
  else if (b.drop (a + n.toNat)).take 4 = le4 (crc (b.take (a + n.toNat))) then .frame (rd b 1) ((b.take (a + n.toNat)).drop a) (a + n.toNat + 4)
  else .bad 4 sumOp ((a + n.toNat : Nat) : Int)
/-- The frame that bytes begin with. -/
def nextV (b : List Int) : NxR :=
  if b.length = 0 then .more
  else if rd b 0 ≠ 197 then .bad 5 signOp 0
  else if b.length = 1 then .more
  else if 63 < rd b 1 then .bad 5 kindOp 1
  else match numR b 2 16384 with
    | .inl c => if c = 3 then .more else .bad c lengthOp 2
    | .inr (n, a) => bodyV b n a
theorem rd_ext (b c : List Int) {i : Nat} (h : i < b.length) : rd (b ++ c) (i : Int) = rd b (i : Int) := by
  rw [rdn h, rdn (show i < (b ++ c).length by simp; omega), List.getElem_append_left h]
theorem accN_ext (b c : List Int) (a : Nat) : ∀ i, a + i < b.length → accN (b ++ c) a i = accN b a i
  | 0, h => by unfold accN; rw [rd_ext b c (by omega)]
  | i + 1, h => by unfold accN; rw [accN_ext b c a i (by omega), rd_ext b c h]
theorem numR_ext (b c : List Int) (a : Nat) (m : Int) (h : numR b a m ≠ .inl 3) : numR (b ++ c) a m = numR b a m := by
  unfold numR at h ⊢
  by_cases g1 : b.length ≤ a
  · rw [if_pos g1] at h; exact absurd rfl h
  rw [if_neg g1] at h ⊢
  rw [rd_ext b c (by omega)]
  have hk := headK_le (rd b (a : Int))
  by_cases g2 : b.length < a + headK (rd b (a : Int))
  · rw [if_pos g2] at h; exact absurd rfl h
  rw [if_neg g2] at h ⊢
  rw [if_neg (by simp; omega), if_neg (by simp; omega), accN_ext b c a _ (by omega)]
theorem numR_win {b c : List Int} {a : Nat} (m : Int) (h : ∀ i : Nat, i < 8 → (a + i < b.length ↔ i < c.length) ∧ (i < c.length → rd c (i : Int) = rd b ((a + i : Nat) : Int))) :
    numR c 0 m = match numR b a m with | .inl x => .inl x | .inr (n, a') => .inr (n, a' - a) := by
  have hacc : ∀ i : Nat, i < 8 → i < c.length → accN c 0 i = accN b a i := by
    intro i
    induction i with
    | zero =>
      intro h8 hc
      unfold accN
      have := (h 0 (by omega)).2 hc
      rw [this]; rfl
    | succ i ih =>
      intro h8 hc
      unfold accN
      rw [ih (by omega) (by omega), Nat.zero_add, (h (i + 1) h8).2 hc]
  have h0 := (h 0 (by omega)).1
  unfold numR
  by_cases g1 : b.length ≤ a
  · rw [if_pos g1, if_pos (by omega)]
  rw [if_neg g1, if_neg (by omega)]
  have er : rd c ((0 : Nat) : Int) = rd b (a : Int) := (h 0 (by omega)).2 (by omega)
  rw [er]
  have hk := headK_le (rd b (a : Int))
  generalize headK (rd b (a : Int)) = k at hk
  by_cases g2 : b.length < a + k
  · have := (h (k - 1) (by omega)).1
    rw [if_pos g2, if_pos (by omega)]
  · have := (h (k - 1) (by omega)).1
    rw [if_neg g2, if_neg (by omega), hacc (k - 1) (by omega) (by omega)]
    by_cases g3 : sizeK (accN b a (k - 1)) ≠ k
    · rw [if_pos g3, if_pos g3]
    rw [if_neg g3, if_neg g3]
    by_cases g4 : m < accN b a (k - 1)
    · rw [if_pos g4, if_pos g4]
    rw [if_neg g4, if_neg g4]
    simp
theorem nextV_ext {b : List Int} (hb : okB b) (c : List Int) (h : nextV b ≠ .more) : nextV (b ++ c) = nextV b := by
  unfold nextV at h ⊢
  by_cases g0 : b.length = 0
  · rw [if_pos g0] at h; exact absurd rfl h
  rw [if_neg g0] at h ⊢
  rw [if_neg (by rw [List.length_append]; omega), show rd (b ++ c) 0 = rd b 0 from rd_ext b c (i := 0) (by omega)]
  by_cases g1 : rd b 0 ≠ 197
  · rw [if_pos g1, if_pos g1]
  rw [if_neg g1] at h ⊢
  rw [if_neg g1]
  by_cases g2 : b.length = 1
  · rw [if_pos g2] at h; exact absurd rfl h
  rw [if_neg g2] at h ⊢
  rw [if_neg (by rw [List.length_append]; omega), show rd (b ++ c) 1 = rd b 1 from rd_ext b c (i := 1) (by omega)]
  by_cases g3 : 63 < rd b 1
  · rw [if_pos g3, if_pos g3]
  rw [if_neg g3] at h ⊢
  rw [if_neg g3]
  have hn : numR b 2 16384 ≠ .inl 3 := by
    intro e
    rw [e] at h
    exact h rfl
  rw [numR_ext b c 2 _ hn]
  cases e : numR b 2 16384 with
  | inl x => rfl
  | inr x =>
    obtain ⟨n, a⟩ := x
    rw [e] at h
    have hk := numR_ok hb e
    change bodyV b n a ≠ .more at h
    show bodyV (b ++ c) n a = bodyV b n a
    unfold bodyV at h ⊢
    by_cases g4 : b.length < a + n.toNat + 4
    · rw [if_pos g4] at h; exact absurd rfl h
    · rw [if_neg g4, if_neg (by simp; omega)]
      have e1 : (b ++ c).take (a + n.toNat) = b.take (a + n.toNat) := List.take_append_of_le_length (by omega)
      have e2 : ((b ++ c).drop (a + n.toNat)).take 4 = (b.drop (a + n.toNat)).take 4 := by
        rw [List.drop_append_of_le_length (by omega), List.take_append_of_le_length (by simp; omega)]
      rw [e1, e2, show rd (b ++ c) 1 = rd b 1 from rd_ext b c (i := 1) (by omega)]
theorem nextV_frame {b : List Int} (hb : okB b) {k : Int} {body : List Int} {n : Nat} (h : nextV b = .frame k body n) : 0 < n ∧ n ≤ b.length ∧ body.length ≤ b.length ∧ okB body ∧ 0 ≤ k ∧ k ≤ 63 := by
  unfold nextV at h
  split at h
  · cases h
  rename_i g0
  split at h
  · cases h
  split at h
  · cases h
  rename_i g2
  split at h
  · cases h
  rename_i g3
  split at h
  · split at h <;> cases h
  rename_i n' a e
  unfold bodyV at h
  split at h
  · cases h
  split at h
  · cases h
    have := (hb.at (i := 1) (by omega)).1
    exact ⟨by omega, by omega, by simp; omega, (hb.take _).drop _, this, by omega⟩
  · cases h
/-- All whole frames of bytes, how many bytes they have, and what stands behind them. -/
inductive Scan : List Int → List (Int × List Int) → Nat → NxR → Prop
  | more {b : List Int} (h : nextV b = .more) : Scan b [] 0 .more
  | bad {b : List Int} {c : Int} {o : ByteArray} {w : Int} (h : nextV b = .bad c o w) : Scan b [] 0 (.bad c o w)
  | step {b : List Int} {k : Int} {body : List Int} {n m : Nat} {l : List (Int × List Int)} {r : NxR} (h : nextV b = .frame k body n) (t : Scan (b.drop n) l m r) : Scan b ((k, body) :: l) (n + m) r
theorem scan_ex : ∀ (N : Nat) (b : List Int), okB b → b.length ≤ N → ∃ l m r, Scan b l m r
  | 0, b, hb, h => by
    refine ⟨[], 0, .more, .more ?_⟩
    unfold nextV
    rw [if_pos (by omega)]
  | N + 1, b, hb, h => by
    cases e : nextV b with
    | more => exact ⟨_, _, _, .more e⟩
    | bad c o w => exact ⟨_, _, _, .bad e⟩
    | frame k body n =>
      have := nextV_frame hb e
      obtain ⟨l, m, r, hs⟩ := scan_ex N (b.drop n) (hb.drop n) (by simp; omega)
      exact ⟨_, _, _, .step e hs⟩
theorem scan_le {b : List Int} {l : List (Int × List Int)} {m : Nat} {r : NxR} (h : Scan b l m r) : okB b → m ≤ b.length ∧ l.length ≤ m ∧ (∀ x ∈ l, okB x.2 ∧ x.2.length ≤ b.length) ∧ ∀ k d n, r ≠ .frame k d n := by
  induction h with
  | more h => intro _; exact ⟨Nat.zero_le _, Nat.le_refl _, fun x hx => (by cases hx), fun _ _ _ q => by cases q⟩
  | bad h => intro _; exact ⟨Nat.zero_le _, Nat.le_refl _, fun x hx => (by cases hx), fun _ _ _ q => by cases q⟩
  | step h t ih =>
    intro hb
    have h1 := nextV_frame hb h
    obtain ⟨i1, i2, i3, i4⟩ := ih (hb.drop _)
    simp only [List.length_drop] at i1
    refine ⟨by omega, by simp; omega, fun x hx => ?_, i4⟩
    rcases List.mem_cons.1 hx with rfl | hx
    · exact ⟨h1.2.2.2.1, h1.2.2.1⟩
    · have := i3 x hx
      simp only [List.length_drop] at this
      exact ⟨this.1, by omega⟩
theorem scan_det {b : List Int} {l : List (Int × List Int)} {m : Nat} {r : NxR} (h : Scan b l m r) : ∀ {l' m' r'}, Scan b l' m' r' → l = l' ∧ m = m' ∧ r = r' := by
  induction h with
  | more h => intro l' m' r' k; cases k <;> simp_all
  | bad h => intro l' m' r' k; cases k <;> simp_all
  | step h t ih =>
    intro l' m' r' k
    cases k with
    | more h2 => rw [h] at h2; cases h2
    | bad h2 => rw [h] at h2; cases h2
    | step h2 t2 =>
      rw [h] at h2
      cases h2
      obtain ⟨rfl, rfl, rfl⟩ := ih t2
      exact ⟨rfl, rfl, rfl⟩
/-- More bytes behind: what is wrong stays so; else it goes on. -/
theorem scan_more {b : List Int} {l : List (Int × List Int)} {m : Nat} {r : NxR} (h : Scan b l m r) (hr : r = .more) : okB b → ∀ {c l' m' r'}, Scan (b.drop m ++ c) l' m' r' → Scan (b ++ c) (l ++ l') (m + m') r' := by
  induction h with
  | more h => intro _ c l' m' r' k; rw [Nat.zero_add]; exact k
  | bad h => cases hr
  | @step b k body n m l r h t ih =>
    intro hb c l' m' r' hk
    have h1 := nextV_frame hb h
    have := ih hr (hb.drop _) (c := c) (l' := l') (m' := m') (r' := r') (by rw [List.drop_drop]; exact hk)
    rw [Nat.add_assoc]
    refine .step (by rw [nextV_ext hb c (by rw [h]; intro q; cases q)]; exact h) ?_
    rw [List.drop_append_of_le_length (by omega)]
    exact this
theorem scan_bad {b : List Int} {l : List (Int × List Int)} {m : Nat} {r : NxR} (h : Scan b l m r) (hr : r ≠ .more) (c : List Int) : okB b → Scan (b ++ c) l m r := by
  induction h with
  | more h => exact absurd rfl hr
  | bad h => intro hb; exact .bad (by rw [nextV_ext hb c (by rw [h]; intro q; cases q)]; exact h)
  | @step b k body n m l r h t ih =>
    intro hb
    have h1 := nextV_frame hb h
    refine .step (by rw [nextV_ext hb c (by rw [h]; intro q; cases q)]; exact h) ?_
    rw [List.drop_append_of_le_length (by omega)]
    exact ih hr (hb.drop _)
/-- A frame as bytes. -/
def headB (k : Int) (body : List Int) : List Int := [197, k] ++ textB body
def putB (k : Int) (body : List Int) : List Int := headB k body ++ le4 (crc (headB k body))
theorem headB_len (k : Int) (body : List Int) : (headB k body).length = 2 + (intB (body.length : Int)).length + body.length := by
  unfold headB textB
  simp
  omega
theorem nextV_put {k : Int} (hk : 0 ≤ k ∧ k ≤ 63) {body : List Int} (hb : okB body) (hl : body.length ≤ 16384) (rest : List Int) : nextV (putB k body ++ rest) = .frame k body (putB k body).length := by
  have hpre : putB k body ++ rest = [197, k] ++ (intB (body.length : Int) ++ (body ++ (le4 (crc (headB k body)) ++ rest))) := by unfold putB headB textB; simp
  have hi := intB_len (body.length : Int)
  have hlen : (putB k body ++ rest).length = 2 + (intB (body.length : Int)).length + body.length + 4 + rest.length := by
    rw [hpre]; simp [le4_len]; omega
  have hn := int_back [197, k] (body ++ (le4 (crc (headB k body)) ++ rest)) (n := (body.length : Int)) (most := 16384) (by omega) (by unfold top; omega) (by omega)
  rw [← hpre] at hn
  have e0 : rd (putB k body ++ rest) 0 = 197 := by rw [hpre]; rfl
  have e1 : rd (putB k body ++ rest) 1 = k := by rw [hpre]; rfl
  unfold nextV
  rw [if_neg (by omega), e0, if_neg (by simp), if_neg (by omega), e1, if_neg (by omega)]
  rw [show ([197, k] : List Int).length = 2 from rfl] at hn
  rw [hn]
  have hh := headB_len k body
  have hp : (putB k body).length = (headB k body).length + 4 := by unfold putB; rw [List.length_append, le4_len]
  show bodyV _ _ _ = _
  unfold bodyV
  have et : (putB k body ++ rest).take (2 + (intB (body.length : Int)).length + body.length) = headB k body := by
    unfold putB
    rw [List.append_assoc, ← hh, List.take_left' rfl]
  have ed : ((putB k body ++ rest).drop (2 + (intB (body.length : Int)).length + body.length)).take 4 = le4 (crc (headB k body)) := by
    unfold putB
    rw [List.append_assoc, ← hh, List.drop_left' rfl, List.take_left' (le4_len _)]
  rw [Int.toNat_natCast, if_neg (by omega), ed, et, if_pos rfl, e1]
  congr 1
  · unfold headB textB
    rw [← List.append_assoc, List.drop_left' (by simp; omega)]
  · omega
theorem take_two {b : List Int} (h : 2 ≤ b.length) : b.take 2 = [rd b 0, rd b 1] := by
  match b, h with
  | x :: y :: t, _ => rfl
theorem nextV_once {b : List Int} (hb : okB b) {k : Int} {body : List Int} {n : Nat} (h : nextV b = .frame k body n) : b.take n = putB k body := by
  unfold nextV at h
  split at h
  · cases h
  rename_i g0
  split at h
  · cases h
  rename_i g1
  split at h
  · cases h
  rename_i g2
  split at h
  · cases h
  rename_i g3
  split at h
  · split at h <;> cases h
  rename_i m a e
  unfold bodyV at h
  split at h
  · cases h
  rename_i g4
  split at h
  · rename_i g5
    cases h
    obtain ⟨h1, h2, h3, h4, h5⟩ := num_once2 hb (n := m) (a' := a) e
    have g1 : rd b 0 = 197 := Classical.byContradiction fun z => g1 z
    have hlen : ((b.take (a + m.toNat)).drop a).length = m.toNat := by rw [List.length_drop, List.length_take]; omega
    have e1 : b.take (a + m.toNat) = b.take a ++ (b.take (a + m.toNat)).drop a := by
      have := List.take_append_drop a (b.take (a + m.toNat))
      rw [List.take_take, Nat.min_eq_left (by omega)] at this
      exact this.symm
    have e2 : headB (rd b 1) ((b.take (a + m.toNat)).drop a) = b.take (a + m.toNat) := by
      unfold headB textB
      rw [hlen, Int.toNat_of_nonneg h2]
      rw [e1]
      conv => rhs; rw [h1, take_two (by omega), g1]
      rw [← e1]
      simp
    unfold putB
    rw [e2, ← g5, List.take_add]
  · cases h
theorem bindF {α β : Type} {x : Option α} {y : α} {f : α → Option β} (h : x = some y) : x.bind f = f y := by rw [h]; rfl
theorem newF (o : ByteArray) (a c : Int) : f_fault_New o a c = some (.fault o a (.code c)) := rfl
theorem wrapF (o : ByteArray) (a : Int) {e : GErr} (h : e.isNil = false) : f_fault_Wrap o a e = some (.fault o a e) := by
  unfold f_fault_Wrap
  rw [h]
  rfl
abbrev Fra := T_api_Frame
def fz : Fra := ⟨0, []⟩
theorem sub_from (l : List Int) (n : Nat) : sub l (n : Int) (l.length : Int) = l.drop n := by
  unfold sub
  rw [Int.toNat_natCast, Int.toNat_natCast]
  exact List.take_of_length_le (by simp)
theorem sub_upto (l : List Int) (n : Nat) : sub l 0 (n : Int) = l.take n := by
  unfold sub
  rw [Int.toNat_natCast]
  simp
theorem sub_mid (l : List Int) (a c : Nat) : sub l (a : Int) (c : Int) = (l.take c).drop a := by
  unfold sub
  rw [Int.toNat_natCast, Int.toNat_natCast, List.drop_take]
theorem kind8 {k : Int} (h : 0 ≤ k ∧ k ≤ 63) : IntKind.u8.wrap k = k := by
  unfold IntKind.wrap
  simp [IntKind.signed, IntKind.bits]
  omega
/-! ### a frame as bytes -/
abbrev bodyOp : ByteArray := ⟨#[98, 111, 100, 121]⟩
theorem kind_if {k : Int} (h : k < 0 ∨ 63 < k) : (if (decide (k < (0 : Int))) = true then (some true) else (some (decide ((63 : Int) < k)))) = some true := by
  by_cases g : k < 0
  · exact if_pos (decide_eq_true g)
  · refine (if_neg (fun z => g (of_decide_eq_true z))).trans ?_
    rw [decide_eq_true (show 63 < k by omega)]
theorem kind_if0 {k : Int} (h : 0 ≤ k ∧ k ≤ 63) : (if (decide (k < (0 : Int))) = true then (some true) else (some (decide ((63 : Int) < k)))) = some false := by
  refine (if_neg (fun z => by have := of_decide_eq_true z; omega)).trans ?_
  rw [decide_eq_false (show ¬ 63 < k by omega)]
theorem put_kind {f : Fra} (h : f.Kind < 0 ∨ 63 < f.Kind) : f_frame_Put f = some ([], .fault kindOp f.Kind (.code 5)) := by
  unfold f_frame_Put
  exact (bindF (kind_if h)).trans rfl
theorem put_body {f : Fra} (h : 0 ≤ f.Kind ∧ f.Kind ≤ 63) (g : 16384 < f.Body.length) : f_frame_Put f = some ([], .fault bodyOp (f.Body.length : Int) (.code 6)) := by
  unfold f_frame_Put
  refine (bindF (kind_if0 h)).trans ?_
  refine (if_neg (by decide)).trans ?_
  exact (if_pos (decide_eq_true (by omega))).trans rfl
theorem headB_ok {f : Fra} (h : 0 ≤ f.Kind ∧ f.Kind ≤ 63) (hb : okB f.Body) : okB (headB f.Kind f.Body) := by
  refine okB.append ?_ (okB.append (intB_ok _) hb)
  intro x hx
  simp at hx
  omega
theorem put_ok {f : Fra} (h : 0 ≤ f.Kind ∧ f.Kind ≤ 63) (g : f.Body.length ≤ 16384) (hb : okB f.Body) : f_frame_Put f = some (putB f.Kind f.Body, .nil) := by
  unfold f_frame_Put
  refine (bindF (kind_if0 h)).trans ?_
  refine (if_neg (by decide)).trans ?_
  refine (if_neg (fun z => by have := of_decide_eq_true z; omega)).trans ?_
  rw [kind8 h]
  have hi := intB_len (f.Body.length : Int)
  have hl := headB_len f.Kind f.Body
  refine (bindF (wtext_eq _ _ (by simp; omega))).trans ?_
  refine (bindF (put_eq _ (headB_ok h hb) (by omega))).trans ?_
  rfl
theorem rput_kind {f : Fra} (h : f.Kind < 0 ∨ 63 < f.Kind) : f_ref04_Put f = some ([], 5, f.Kind) := by
  unfold f_ref04_Put
  exact (bindF (kind_if h)).trans rfl
theorem rput_body {f : Fra} (h : 0 ≤ f.Kind ∧ f.Kind ≤ 63) (g : 16384 < f.Body.length) : f_ref04_Put f = some ([], 6, (f.Body.length : Int)) := by
  unfold f_ref04_Put
  refine (bindF (kind_if0 h)).trans ?_
  refine (if_neg (by decide)).trans ?_
  exact (if_pos (decide_eq_true (by omega))).trans rfl
theorem rput_ok {f : Fra} (h : 0 ≤ f.Kind ∧ f.Kind ≤ 63) (g : f.Body.length ≤ 16384) (hb : okB f.Body) : f_ref04_Put f = some (putB f.Kind f.Body, 0, 0) := by
  unfold f_ref04_Put
  refine (bindF (kind_if0 h)).trans ?_
  refine (if_neg (by decide)).trans ?_
  refine (if_neg (fun z => by have := of_decide_eq_true z; omega)).trans ?_
  rw [kind8 h]
  have hi := intB_len (f.Body.length : Int)
  have hl := headB_len f.Kind f.Body
  refine (bindF (rtext_eq _ (by omega))).trans ?_
  refine (grd_t (by unfold headB at hl; rw [List.length_append] at hl; simp only [List.length_cons, List.length_nil] at hl ⊢; omega)).trans ?_
  refine (bindF (refput_eq _ (headB_ok h hb) (by show (headB f.Kind f.Body).length ≤ _; omega))).trans ?_
  rfl
/-! ### the frame that bytes begin with -/
def errN (c : Int) (o : ByteArray) (w : Int) : GErr := if o = lengthOp then .fault o w (.fault numOp 0 (.code c)) else .fault o w (.code c)
theorem errN_nn (c : Int) (o : ByteArray) (w : Int) : (errN c o w).isNil = false := by unfold errN; split <;> rfl
def resN : NxR → Fra × Int × GErr
  | .more => (fz, 0, .nil)
  | .bad c o w => (fz, 0, errN c o w)
  | .frame k d n => (⟨k, d⟩, (n : Int), .nil)
theorem win_len (b : List Int) (h : 2 ≤ b.length) : (if (10 : Int) < (b.length : Int) then (10 : Int) else (b.length : Int)) = ((min 10 b.length : Nat) : Int) := by
  by_cases g : (10 : Int) < (b.length : Int)
  · rw [if_pos g]; omega
  · rw [if_neg g]; omega
theorem rd_win {b : List Int} {a c i : Nat} (h : a + i < c) (hc : c ≤ b.length) : rd ((b.take c).drop a) (i : Int) = rd b ((a + i : Nat) : Int) := by
  rw [rd_drop, rdn (show a + i < (b.take c).length by simp; omega), rdn (show a + i < b.length by omega), List.getElem_take]
theorem head_num {b : List Int} (h : 2 ≤ b.length) : numR ((b.take (min 10 b.length)).drop 2) 0 16384 = match numR b 2 16384 with | .inl x => .inl x | .inr (n, a') => .inr (n, a' - 2) := by
  refine numR_win 16384 fun i hi => ?_
  have hl : ((b.take (min 10 b.length)).drop 2).length = min 10 b.length - 2 := by rw [List.length_drop, List.length_take]; omega
  rw [hl]
  refine ⟨by omega, fun q => ?_⟩
  exact rd_win (by omega) (by omega)
theorem tail_num {b : List Int} (h : 2 ≤ b.length) : numR (b.drop 2) 0 16384 = match numR b 2 16384 with | .inl x => .inl x | .inr (n, a') => .inr (n, a' - 2) := by
  refine numR_win 16384 fun i hi => ?_
  rw [List.length_drop]
  refine ⟨by omega, fun q => ?_⟩
  exact rd_drop _ _ _
theorem pnext4 {b : List Int} (hb : okB b) (hl : b.length ≤ 1000000) : f_frame_Next b = some (resN (nextV b)) := by
  unfold f_frame_Next nextV
  by_cases g0 : b.length = 0
  · rw [if_pos g0]
    have hh : f_frame_head b = some (0, 0, 0, false, .nil) := by
      unfold f_frame_head
      exact if_pos (decide_eq_true (by omega))
    exact (bindF hh).trans rfl
  rw [if_neg g0]
  by_cases g1 : rd b 0 ≠ 197
  · rw [if_pos g1]
    have hh : f_frame_head b = some (0, 0, 0, false, .fault signOp 0 (.code 5)) := by
      unfold f_frame_head
      refine (if_neg (fun z => by have := of_decide_eq_true z; omega)).trans ?_
      refine (grd_t (by omega)).trans ?_
      exact (if_pos (decide_eq_true g1)).trans rfl
    exact (bindF hh).trans rfl
  rw [if_neg g1]
  by_cases g2 : b.length = 1
  · rw [if_pos g2]
    have hh : f_frame_head b = some (0, 0, 0, false, .nil) := by
      unfold f_frame_head
      refine (if_neg (fun z => by have := of_decide_eq_true z; omega)).trans ?_
      refine (grd_t (by omega)).trans ?_
      refine (if_neg (fun z => g1 (of_decide_eq_true z))).trans ?_
      exact (if_pos (decide_eq_true (by omega)))
    exact (bindF hh).trans rfl
  rw [if_neg g2]
  by_cases g3 : 63 < rd b 1
  · rw [if_pos g3]
    have hh : f_frame_head b = some (0, 0, 0, false, .fault kindOp 1 (.code 5)) := by
      unfold f_frame_head
      refine (if_neg (fun z => by have := of_decide_eq_true z; omega)).trans ?_
      refine (grd_t (by omega)).trans ?_
      refine (if_neg (fun z => g1 (of_decide_eq_true z))).trans ?_
      refine (if_neg (fun z => by have := of_decide_eq_true z; omega)).trans ?_
      refine (grd_t (by omega)).trans ?_
      exact (if_pos (decide_eq_true g3)).trans rfl
    exact (bindF hh).trans rfl
  rw [if_neg g3]
  have hw : okB ((b.take (min 10 b.length)).drop 2) := (hb.take _).drop _
  have hwl : ((b.take (min 10 b.length)).drop 2).length ≤ 10 := by simp; omega
  have hr := wint_read hw (by omega) (Nat.zero_le _) (most := 16384) (by decide)
  have hp : pos0 16384 = 16384 := rfl
  rw [hp] at hr
  unfold numP at hr
  rw [head_num (by omega)] at hr
  have pre : ∀ (x : Int × Int × Int × Bool × GErr) (n at_ : Int) (e : GErr), f_wire_Reader_Int ⟨(b.take (min 10 b.length)).drop 2, ((0 : Nat) : Int), .nil⟩ 16384 = some (n, at_, e) →
      (if decide (OfE e = (0 : Int)) = true then (grd (0 ≤ (1 : Int) ∧ (1 : Int) < b.length) (some (IntKind.i64.wrap (rd b (1 : Int)), IntKind.i64.wrap ((2 : Int) + at_), n, true, GErr.nil))) else (if decide (OfE e = (3 : Int)) = true then (some ((0 : Int), (0 : Int), (0 : Int), false, GErr.nil)) else ((f_fault_Wrap lengthOp (2 : Int) e).bind fun (r93 : GErr) => (some ((0 : Int), (0 : Int), (0 : Int), false, r93))))) = some x → f_frame_head b = some x := by
    intro x n at_ e h1 h2
    unfold f_frame_head
    refine (if_neg (fun z => by have := of_decide_eq_true z; omega)).trans ?_
    refine (grd_t (by omega)).trans ?_
    refine (if_neg (fun z => g1 (of_decide_eq_true z))).trans ?_
    refine (if_neg (fun z => by have := of_decide_eq_true z; omega)).trans ?_
    refine (grd_t (by omega)).trans ?_
    refine (if_neg (fun z => g3 (of_decide_eq_true z))).trans ?_
    rw [win_len b (by omega)]
    refine (grd_t (by omega)).trans ?_
    rw [show (2 : Int) = ((2 : Nat) : Int) from rfl, sub_mid]
    refine (bindF (show f_wire_Read _ = some ⟨(b.take (min 10 b.length)).drop 2, ((0 : Nat) : Int), .nil⟩ from rfl)).trans ?_
    refine (bindF h1).trans ?_
    refine (bindF (show f_wire_Reader_Err _ = some e from rfl)).trans ?_
    refine (bindF (of_eq e)).trans ?_
    exact h2
  cases e : numR b 2 16384 with
  | inl x =>
    rw [e] at hr
    have hx := numR_code e
    simp only at hr
    by_cases g4 : x = 3
    · subst g4
      have hh := pre (0, 0, 0, false, .nil) _ _ _ hr rfl
      exact (bindF hh).trans rfl
    · have hh := pre (0, 0, 0, false, .fault lengthOp 2 (.fault numOp 0 (.code x))) _ _ _ hr (by
        rw [OfE_fault]
        refine (if_neg (fun z => by have := of_decide_eq_true z; omega)).trans ?_
        refine (if_neg (fun z => g4 (of_decide_eq_true z))).trans ?_
        exact (bindF (wrapF _ _ rfl)).trans rfl)
      refine (bindF hh).trans ?_
      simp only [if_neg g4]
      rfl
  | inr y =>
    obtain ⟨n, a⟩ := y
    rw [e] at hr
    simp only at hr
    have hk := numR_ok hb e
    have h1 := hb.at (i := 1) (by omega)
    have r1 : rd b ((1 : Nat) : Int) = rd b 1 := rfl
    rw [r1] at h1
    have hh := pre (rd b 1, (a : Int), n, true, .nil) _ _ _ hr (by
      refine (if_pos rfl).trans ?_
      refine (grd_t (by omega)).trans ?_
      rw [w_i64 (by omega) (by omega), w_i64 (by omega) (by omega)]
      congr 3
      omega)
    refine (bindF hh).trans ?_
    simp only
    have hn0 : n ≤ 16384 := by have := hk.2.2.1; omega
    rw [w_i64 (show -9223372036854775808 ≤ (a : Int) + n by omega) (by omega), w_i64 (show -9223372036854775808 ≤ (a : Int) + n + 4 by omega) (by omega)]
    have en : (a : Int) + n + 4 = ((a + n.toNat + 4 : Nat) : Int) := by omega
    have en2 : (a : Int) + n = ((a + n.toNat : Nat) : Int) := by omega
    rw [en, en2]
    show (((if (!GErr.nil.isNil) = true then some true else if (!true) = true then some true else some (decide ((b.length : Int) < ((a + n.toNat + 4 : Nat) : Int)))) : Option Bool).bind _) = some (resN (bodyV b n a))
    unfold bodyV
    by_cases g5 : b.length < a + n.toNat + 4
    · rw [if_pos g5, decide_eq_true (show (b.length : Int) < ((a + n.toNat + 4 : Nat) : Int) by omega)]
      rfl
    rw [if_neg g5, decide_eq_false (show ¬ (b.length : Int) < ((a + n.toNat + 4 : Nat) : Int) by omega)]
    refine (bindF (y := false) rfl).trans ?_
    refine (if_neg (by decide)).trans ?_
    refine (grd_t (by omega)).trans ?_
    rw [sub_upto]
    have hlen : (b.take (a + n.toNat + 4)).length = a + n.toNat + 4 := by simp; omega
    have ed : (b.take (a + n.toNat + 4)).drop (a + n.toNat) = (b.drop (a + n.toNat)).take 4 := by
      rw [List.drop_take, show a + n.toNat + 4 - (a + n.toNat) = 4 by omega]
    have ho : opened (b.take (a + n.toNat + 4)) = if (b.drop (a + n.toNat)).take 4 = le4 (crc (b.take (a + n.toNat))) then (b.take (a + n.toNat), true) else ([], false) := by
      unfold opened
      rw [hlen, if_neg (show ¬ a + n.toNat + 4 < 4 by omega), show a + n.toNat + 4 - 4 = a + n.toNat by omega, List.take_take, Nat.min_eq_left (by omega), ed]
    refine (bindF (open_eq _ (hb.take _) (by omega))).trans ?_
    rw [ho]
    by_cases g6 : (b.drop (a + n.toNat)).take 4 = le4 (crc (b.take (a + n.toNat)))
    · rw [if_pos g6, if_pos g6]
      refine (if_neg Bool.false_ne_true).trans ?_
      have hl2 : (b.take (a + n.toNat)).length = a + n.toNat := by simp; omega
      refine (grd_t (by simp only [hl2]; omega)).trans ?_
      simp only
      rw [sub_from]
      rfl
    · rw [if_neg g6, if_neg g6]
      refine (if_pos rfl).trans ?_
      exact (bindF (newF _ _ _)).trans rfl
def foundN : NxR → T_ref04_Found
  | .more => ⟨fz, 0, 0, ⟨#[]⟩, 0⟩
  | .bad c o w => ⟨fz, 0, c, o, w⟩
  | .frame k d n => ⟨⟨k, d⟩, (n : Int), 0, ⟨#[]⟩, 0⟩
theorem rnext4 {b : List Int} (hb : okB b) (hl : b.length ≤ 1000000) : f_ref04_Next b = some (foundN (nextV b)) := by
  unfold f_ref04_Next nextV
  by_cases g0 : b.length = 0
  · rw [if_pos g0]
    refine (bindF (y := false) (if_neg (fun z => by have := of_decide_eq_true z; omega))).trans ?_
    refine (if_neg (by decide)).trans ?_
    refine (bindF (y := false) (if_neg (fun z => by have := of_decide_eq_true z; omega))).trans ?_
    refine (if_neg (by decide)).trans ?_
    exact if_pos (decide_eq_true (by omega))
  rw [if_neg g0]
  by_cases g1 : rd b 0 ≠ 197
  · rw [if_pos g1]
    refine (bindF (y := true) ?_).trans rfl
    refine (if_pos (decide_eq_true (by omega))).trans ?_
    refine (grd_t (by omega)).trans ?_
    rw [decide_eq_true g1]
  rw [if_neg g1]
  refine (bindF (y := false) ?_).trans ?_
  · refine (if_pos (decide_eq_true (by omega))).trans ?_
    refine (grd_t (by omega)).trans ?_
    rw [decide_eq_false g1]
  refine (if_neg (by decide)).trans ?_
  by_cases g2 : b.length = 1
  · rw [if_pos g2]
    refine (bindF (y := false) (if_neg (fun z => by have := of_decide_eq_true z; omega))).trans ?_
    refine (if_neg (by decide)).trans ?_
    exact if_pos (decide_eq_true (by omega))
  rw [if_neg g2]
  by_cases g3 : 63 < rd b 1
  · rw [if_pos g3]
    refine (bindF (y := true) ?_).trans rfl
    refine (if_pos (decide_eq_true (by omega))).trans ?_
    refine (grd_t (by omega)).trans ?_
    rw [decide_eq_true g3]
  rw [if_neg g3]
  refine (bindF (y := false) ?_).trans ?_
  · refine (if_pos (decide_eq_true (by omega))).trans ?_
    refine (grd_t (by omega)).trans ?_
    rw [decide_eq_false g3]
  refine (if_neg (by decide)).trans ?_
  by_cases g4 : b.length < 3
  · have e : numR b 2 16384 = .inl 3 := by
      unfold numR
      rw [if_pos (by omega)]
    rw [e]
    exact if_pos (decide_eq_true (by omega))
  refine (if_neg (fun z => by have := of_decide_eq_true z; omega)).trans ?_
  refine (grd_t (by omega)).trans ?_
  rw [show sub b 2 (b.length : Int) = b.drop 2 from sub_from b 2]
  obtain ⟨t, h1, h2⟩ := read_eq (hb.drop 2) (by rw [List.length_drop]; omega) (a := 0) (s := ⟨0, 0, ⟨#[]⟩, 0⟩) rfl rfl (q := ⟨1, 16384, 0⟩) ⟨by decide, by decide⟩
  have er : readR (b.drop 2) 0 ⟨1, 16384, 0⟩ = mapR (fun n => ⟨n, false, [], []⟩) (numRR (b.drop 2) 0 16384) := rfl
  rw [er] at h1 h2
  unfold numRR at h1 h2
  rw [tail_num (by omega)] at h1 h2
  refine (bindF h1).trans ?_
  simp only
  cases e : numR b 2 16384 with
  | inl x =>
    rw [e] at h2
    have hx := numR_code e
    have hc : t.Code = x := h2.2.1
    rw [hc]
    by_cases g5 : x = 3
    · subst g5
      exact if_pos rfl
    · refine (if_neg (fun z => g5 (of_decide_eq_true z))).trans ?_
      simp only [if_neg g5]
      exact if_pos (decide_eq_true (by omega))
  | inr y =>
    obtain ⟨n, a⟩ := y
    rw [e] at h2
    have hk := numR_ok hb e
    have hn0 : n ≤ 16384 := hk.2.2.1
    have hc : t.Code = 0 := h2.2.1
    have ha : t.At = ((a - 2 : Nat) : Int) := h2.1
    have h1' := hb.at (i := 1) (by omega)
    have r1 : rd b ((1 : Nat) : Int) = rd b 1 := rfl
    rw [r1] at h1'
    rw [hc, ha]
    refine (if_neg (by decide)).trans ?_
    refine (if_neg (by decide)).trans ?_
    show (if decide ((b.length : Int) < IntKind.i64.wrap (IntKind.i64.wrap (IntKind.i64.wrap (2 + ((a - 2 : Nat) : Int)) + IntKind.i64.wrap n) + 4)) = true then _ else _) = some (foundN (bodyV b n a))
    have e0 : IntKind.i64.wrap (2 + ((a - 2 : Nat) : Int)) = (a : Int) := by rw [w_i64 (by omega) (by omega)]; omega
    have e1 : IntKind.i64.wrap n = n := w_i64 (by omega) (by omega)
    have e2 : IntKind.i64.wrap ((a : Int) + n) = ((a + n.toNat : Nat) : Int) := by rw [w_i64 (by omega) (by omega)]; omega
    have e3 : IntKind.i64.wrap (((a + n.toNat : Nat) : Int) + 4) = ((a + n.toNat + 4 : Nat) : Int) := by rw [w_i64 (by omega) (by omega)]; omega
    have e4 : IntKind.i64.wrap (rd b 1) = rd b 1 := w_i64 (by omega) (by omega)
    show (if decide ((b.length : Int) < IntKind.i64.wrap (IntKind.i64.wrap (IntKind.i64.wrap (2 + ((a - 2 : Nat) : Int)) + IntKind.i64.wrap n) + 4)) = true then some (⟨fz, 0, 0, ⟨#[]⟩, 0⟩ : T_ref04_Found) else _) = _
    simp only [show (asS got0 (mapR (fun n => (⟨n, false, [], []⟩ : Got)) (match (Sum.inr (n, a - 2) : Int ⊕ (Int × Nat)) with | .inl c => Sum.inl (c, numOp, ((0 : Nat) : Int), 0) | .inr x => .inr x))).2.Num = n from rfl, e0, e1, e2, e3, e4]
    unfold bodyV
    by_cases g5 : b.length < a + n.toNat + 4
    · rw [if_pos g5]
      exact if_pos (decide_eq_true (by omega))
    rw [if_neg g5]
    refine (if_neg (fun z => by have := of_decide_eq_true z; omega)).trans ?_
    refine (grd_t (by omega)).trans ?_
    refine (grd_t (by omega)).trans ?_
    rw [sub_upto, sub_upto]
    refine (bindF (refput_eq _ (hb.take _) (by rw [List.length_take]; omega))).trans ?_
    have et : b.take (a + n.toNat + 4) = b.take (a + n.toNat) ++ (b.drop (a + n.toNat)).take 4 := List.take_add ..
    refine (bindF (rsameE _ _ (by rw [List.length_append, le4_len, List.length_take]; omega))).trans ?_
    by_cases g6 : (b.drop (a + n.toNat)).take 4 = le4 (crc (b.take (a + n.toNat)))
    · rw [if_pos g6, decide_eq_true (by rw [et, g6])]
      refine (if_neg Bool.false_ne_true).trans ?_
      refine (grd_t (by omega)).trans ?_
      refine (grd_t (by omega)).trans ?_
      rw [sub_mid]
      rfl
    · rw [if_neg g6, decide_eq_false (fun z => g6 (List.append_cancel_left (z.trans et)).symm)]
      exact if_pos rfl
def toF (x : Int × List Int) : Fra := ⟨x.1, x.2⟩
def endF (acc : List Fra) (b : List Int) (gone : Int) (e0 : GErr) (l : List (Int × List Int)) (m : Nat) : NxR → List Fra × List Int × Int × GErr
  | .bad c o w => (acc ++ l.map toF, [], gone + (m : Int), .fault frameOp (gone + (m : Int)) (errN c o w))
  | _ => (acc ++ l.map toF, b.drop m, gone + (m : Int), e0)
theorem feed_loop (a0 : T_frame_Stream) {b : List Int} {l : List (Int × List Int)} {m : Nat} {r : NxR} (h : Scan b l m r) : okB b → b.length ≤ 1000000 → ∀ (acc : List Fra) (gone : Int), acc.length + b.length ≤ 1000000000 → 0 ≤ gone → gone + (b.length : Int) ≤ 1000000000 →
    iter (f_frame_Stream_Feed_l0 a0) (acc, b, gone) = some (endF acc b gone a0.err l m r) := by
  induction h with
  | @more b h =>
    intro hb hl acc gone h1 h2 h3
    refine iter_stop ?_
    unfold f_frame_Stream_Feed_l0
    simp only
    refine (bindF (pnext4 hb hl)).trans ?_
    rw [h]
    refine (if_neg (by decide)).trans ?_
    refine (if_pos rfl).trans ?_
    simp [endF]
  | @bad b c o w h =>
    intro hb hl acc gone h1 h2 h3
    refine iter_stop ?_
    unfold f_frame_Stream_Feed_l0
    simp only
    refine (bindF (pnext4 hb hl)).trans ?_
    rw [h]
    have hn := errN_nn c o w
    refine (if_pos (by show (!(errN c o w).isNil) = true; rw [hn]; rfl)).trans ?_
    refine (bindF (wrapF _ _ hn)).trans ?_
    simp [endF]
  | @step b k d n m l r h t ih =>
    intro hb hl acc gone h1 h2 h3
    have hf := nextV_frame hb h
    have hd : (b.drop n).length = b.length - n := List.length_drop
    have hs : f_frame_Stream_Feed_l0 a0 (acc, b, gone) = some (.inl (acc ++ [⟨k, d⟩], b.drop n, gone + (n : Int))) := by
      unfold f_frame_Stream_Feed_l0
      simp only
      refine (bindF (pnext4 hb hl)).trans ?_
      rw [h]
      refine (if_neg Bool.false_ne_true).trans ?_
      refine (if_neg (fun z => by have : (n : Int) = 0 := of_decide_eq_true z; omega)).trans ?_
      refine (grd_t (by simp; omega)).trans ?_
      refine (grd_t (by show 0 ≤ (n : Int) ∧ (n : Int) ≤ (b.length : Int) ∧ _; omega)).trans ?_
      show some (Sum.inl (acc ++ [⟨k, d⟩], sub b (n : Int) (b.length : Int), IntKind.i64.wrap (gone + (n : Int)))) = _
      rw [sub_from, w_i64 (by omega) (by omega)]
    rw [iter_next hs, ih (hb.drop n) (by omega) (acc ++ [(⟨k, d⟩ : Fra)]) (gone + (n : Int)) (by simp; omega) (by omega) (by omega)]
    cases r <;> simp [endF, toF, Int.add_assoc, List.drop_drop]
/-- What a stream told and holds of the bytes that came. -/
def streamAt (b : List Int) (fr : List Fra) (buf : List Int) (gone : Int) (e : GErr) : Prop :=
  ∃ l m r, Scan b l m r ∧ fr = l.map toF ∧ gone = (m : Int) ∧ ((r = .more ∧ buf = b.drop m ∧ e = .nil) ∨ ∃ c o w, r = .bad c o w ∧ buf = [] ∧ e = .fault frameOp (m : Int) (errN c o w))
theorem stream0 : streamAt [] [] [] 0 .nil := ⟨[], 0, .more, .more rfl, rfl, rfl, .inl ⟨rfl, rfl, rfl⟩⟩
theorem feed_stream {b : List Int} {fr : List Fra} {buf : List Int} {gone : Int} {e : GErr} (h : streamAt b fr buf gone e) {p : List Int} (hb : okB (b ++ p)) (hl : (b ++ p).length ≤ 1000000) :
    ∃ fr' buf' gone' e', f_frame_Stream_Feed ⟨buf, gone, e⟩ p = some (fr', buf', gone', e') ∧ streamAt (b ++ p) (fr ++ fr') buf' gone' e' := by
  have hb1 : okB b := fun x hx => hb x (by simp [hx])
  rw [List.length_append] at hl
  obtain ⟨l, m, r, hs, rfl, rfl, ⟨rfl, rfl, rfl⟩ | ⟨c, o, w, rfl, rfl, rfl⟩⟩ := h
  · have hm := (scan_le hs hb1).1
    have hb2 : okB (b.drop m ++ p) := by
      intro x hx
      rcases List.mem_append.1 hx with hx | hx
      · exact hb x (by simp [List.mem_of_mem_drop hx])
      · exact hb x (by simp [hx])
    obtain ⟨l', m', r', hs'⟩ := scan_ex _ (b.drop m ++ p) hb2 (Nat.le_refl _)
    have hall := scan_more hs rfl hb1 hs'
    have hlen : (b.drop m ++ p).length ≤ 1000000 := by rw [List.length_append, List.length_drop]; omega
    have hlo := feed_loop ⟨b.drop m, (m : Int), .nil⟩ hs' hb2 hlen [] (m : Int) (by simp only [List.length_nil]; omega) (by omega) (by omega)
    have hF : f_frame_Stream_Feed ⟨b.drop m, (m : Int), .nil⟩ p = some (endF [] (b.drop m ++ p) (m : Int) .nil l' m' r') := by
      unfold f_frame_Stream_Feed
      refine (if_neg Bool.false_ne_true).trans ?_
      refine (grd_t (by rw [List.length_append] at hlen; show (b.drop m).length + p.length ≤ _; omega)).trans ?_
      exact (bindF ((bindF hlo).trans rfl)).trans rfl
    have hd : (b.drop m ++ p).drop m' = (b ++ p).drop (m + m') := by
      rw [← List.drop_drop, List.drop_append_of_le_length hm]
    cases r' with
    | more =>
      refine ⟨_, _, _, _, hF, l ++ l', m + m', .more, hall, by simp, by simp, .inl ⟨rfl, hd, rfl⟩⟩
    | bad c o w =>
      exact ⟨_, _, _, _, hF, l ++ l', m + m', .bad c o w, hall, by simp, by simp, .inr ⟨c, o, w, rfl, rfl, by simp⟩⟩
    | frame k d n => exact absurd rfl ((scan_le hs' hb2).2.2.2 k d n)
  · refine ⟨[], [], (m : Int), _, ?_, l, m, .bad c o w, scan_bad hs (by intro q; cases q) p hb1, by simp, rfl, .inr ⟨c, o, w, rfl, rfl, rfl⟩⟩
    unfold f_frame_Stream_Feed
    exact if_pos rfl
/-! ### all whole frames, by the reference -/
def endS (acc : List Fra) (a : Nat) (l : List (Int × List Int)) (m : Nat) (r : NxR) : List Fra × Int × Int × List Int × Int × Int × ByteArray × Int :=
  (acc ++ l.map toF, ((a + m : Nat) : Int), (foundN r).F.Kind, (foundN r).F.Body, (foundN r).Size, (foundN r).Code, (foundN r).Op, (foundN r).At)
theorem scan_loop {b : List Int} (hb : okB b) (hl : b.length ≤ 1000000) : ∀ {c : List Int} {l : List (Int × List Int)} {m : Nat} {r : NxR}, Scan c l m r → ∀ (a : Nat) (acc : List Fra), c = b.drop a → a ≤ b.length → acc.length ≤ a →
    iter (f_ref04_Scan_l0 b) (acc, (a : Int)) = some (.inr (endS acc a l m r)) := by
  intro c l m r h
  induction h with
  | @more c h =>
    intro a acc e ha hacc
    subst e
    refine iter_stop ?_
    unfold f_ref04_Scan_l0
    simp only
    refine (if_pos (decide_eq_true (by omega))).trans ?_
    refine (grd_t (by omega)).trans ?_
    rw [sub_from]
    refine (bindF (rnext4 (hb.drop a) (by rw [List.length_drop]; omega))).trans ?_
    rw [h]
    refine (if_pos rfl).trans ?_
    simp [endS]
  | @bad c x o w h =>
    intro a acc e ha hacc
    subst e
    refine iter_stop ?_
    unfold f_ref04_Scan_l0
    simp only
    refine (if_pos (decide_eq_true (by omega))).trans ?_
    refine (grd_t (by omega)).trans ?_
    rw [sub_from]
    refine (bindF (rnext4 (hb.drop a) (by rw [List.length_drop]; omega))).trans ?_
    rw [h]
    refine (if_pos rfl).trans ?_
    simp [endS]
  | @step c k d n m l r h t ih =>
    intro a acc e ha hacc
    subst e
    have hf := nextV_frame (hb.drop a) h
    rw [List.length_drop] at hf
    have hs : f_ref04_Scan_l0 b (acc, (a : Int)) = some (.inl (acc ++ [⟨k, d⟩], ((a + n : Nat) : Int))) := by
      unfold f_ref04_Scan_l0
      simp only
      refine (if_pos (decide_eq_true (by omega))).trans ?_
      refine (grd_t (by omega)).trans ?_
      rw [sub_from]
      refine (bindF (rnext4 (hb.drop a) (by rw [List.length_drop]; omega))).trans ?_
      rw [h]
      refine (if_neg (fun z => by have : (n : Int) = 0 := of_decide_eq_true z; omega)).trans ?_
      refine (grd_t (by simp; omega)).trans ?_
      show some (Sum.inl (acc ++ [⟨k, d⟩], IntKind.i64.wrap ((a : Int) + (n : Int)))) = _
      rw [w_i64 (by omega) (by omega)]
      rfl
    rw [iter_next hs, ih (a + n) (acc ++ [(⟨k, d⟩ : Fra)]) (by rw [List.drop_drop]) (by omega) (by simp; omega)]
    simp [endS, toF, Nat.add_assoc]
theorem scan4 {b : List Int} (hb : okB b) (hl : b.length ≤ 1000000) {l : List (Int × List Int)} {m : Nat} {r : NxR} (h : Scan b l m r) : f_ref04_Scan b = some (l.map toF, (m : Int), foundN r) := by
  unfold f_ref04_Scan
  have := scan_loop hb hl h 0 [] rfl (Nat.zero_le _) (Nat.le_refl _)
  rw [show ((0 : Nat) : Int) = 0 from rfl] at this
  rw [this]
  simp [endS]
/-! ### frames, one by one -/
theorem same4_loop (l : List Fra) (hl : l.length ≤ 1000000) (hf : ∀ f ∈ l, f.Body.length ≤ 1000000) : ∀ (d i : Nat), i + d = l.length → iter (f_ref04_Same_l0 l l) (i : Int) = some (.inl ())
  | 0, i, h => by
    refine iter_stop ?_
    unfold f_ref04_Same_l0
    simp only
    rw [if_neg (fun z => absurd (of_decide_eq_true z) (by omega))]
  | d + 1, i, h => by
    have hlt : i < l.length := by omega
    have er : rd l (i : Int) = l[i] := len_lt hlt
    have hs : f_ref04_Same_l0 l l (i : Int) = some (.inl ((i + 1 : Nat) : Int)) := by
      unfold f_ref04_Same_l0
      simp only
      refine (if_pos (decide_eq_true (by omega))).trans ?_
      refine (bindF (y := false) ?_).trans ?_
      · refine (grd_t (by omega)).trans ?_
        refine (grd_t (by omega)).trans ?_
        refine (if_neg (by simp)).trans ?_
        refine (grd_t (by omega)).trans ?_
        refine (grd_t (by omega)).trans ?_
        have := hf _ (List.getElem_mem hlt)
        exact (bindF (rsame_eq _ (by rw [er]; omega))).trans rfl
      · refine (if_neg (by decide)).trans ?_
        rw [w_i64 (by omega) (by omega)]
        rfl
    rw [iter_next hs]
    exact same4_loop l hl hf d (i + 1) (by omega)
theorem same4_self (l : List Fra) (hl : l.length ≤ 1000000) (hf : ∀ f ∈ l, f.Body.length ≤ 1000000) : f_ref04_Same l l = some true := by
  unfold f_ref04_Same
  rw [if_neg (by simp)]
  have := same4_loop l hl hf l.length 0 (by omega)
  rw [show ((0 : Nat) : Int) = 0 from rfl] at this
  rw [this]
  rfl
theorem light_loop (l : List Fra) (hl : l.length ≤ 1000000) (hf : ∀ f ∈ l, f.Body.length ≤ 9000000000000000000) : ∀ (d i : Nat) (n : Int), i + d = l.length → 0 ≤ n → n ≤ 1500 → (∀ j (h : j < l.length), j < i → l[j].Body.length ≤ 1500) →
    (iter (f_law04_light_l0 l) (n, (i : Int)) = some (.inl ()) ∧ ∀ f ∈ l, f.Body.length ≤ 1500) ∨ iter (f_law04_light_l0 l) (n, (i : Int)) = some (.inr ())
  | 0, i, n, h, h0, h1, hj => by
    refine .inl ⟨iter_stop ?_, fun f hf => ?_⟩
    · unfold f_law04_light_l0
      simp only
      rw [if_neg (fun z => absurd (of_decide_eq_true z) (by omega))]
    · obtain ⟨j, hj', rfl⟩ := List.getElem_of_mem hf
      exact hj j hj' (by omega)
  | d + 1, i, n, h, h0, h1, hj => by
    have hlt : i < l.length := by omega
    have er : rd l (i : Int) = l[i] := len_lt hlt
    have hbd := hf _ (List.getElem_mem hlt)
    by_cases g : 1500 < n + (l[i].Body.length : Int)
    · refine .inr (iter_stop ?_)
      unfold f_law04_light_l0
      simp only
      rw [if_pos (decide_eq_true (by omega)), grd_t (by omega), er, w_i64 (by omega) (by omega), if_pos (decide_eq_true g)]
    · have hs : f_law04_light_l0 l (n, (i : Int)) = some (.inl (n + (l[i].Body.length : Int), ((i + 1 : Nat) : Int))) := by
        unfold f_law04_light_l0
        simp only
        rw [if_pos (decide_eq_true (by omega)), grd_t (by omega), er, w_i64 (by omega) (by omega), if_neg (fun z => g (of_decide_eq_true z)), w_i64 (show -9223372036854775808 ≤ (i : Int) + 1 by omega) (by omega)]
        rfl
      rw [iter_next hs]
      refine light_loop l hl hf d (i + 1) _ (by omega) (by omega) (by omega) fun j hj' hji => ?_
      by_cases ej : j = i
      · subst ej; omega
      · exact hj j hj' (by omega)
theorem light4 (l : List Fra) (hf : ∀ f ∈ l, f.Body.length ≤ 9000000000000000000) : ∃ x, f_law04_light l = some x ∧ (x = true → l.length ≤ 60 ∧ ∀ f ∈ l, f.Body.length ≤ 1500) := by
  unfold f_law04_light
  by_cases g : (60 : Int) < (l.length : Int)
  · exact ⟨false, if_pos (decide_eq_true g), fun q => by cases q⟩
  · rw [if_neg (fun z => g (of_decide_eq_true z))]
    rcases light_loop l (by omega) hf l.length 0 0 (by omega) (by omega) (by omega) (fun j h q => by omega) with ⟨h1, h2⟩ | h1
    · rw [show ((0 : Nat) : Int) = 0 from rfl] at h1
      rw [h1]
      exact ⟨true, rfl, fun _ => ⟨by omega, h2⟩⟩
    · rw [show ((0 : Nat) : Int) = 0 from rfl] at h1
      rw [h1]
      exact ⟨false, rfl, fun q => by cases q⟩
/-! ### frames that are written -/
def goodF (f : Fra) : Prop := (0 ≤ f.Kind ∧ f.Kind ≤ 63) ∧ f.Body.length ≤ 1500 ∧ okB f.Body
def bytesF : List Fra → List Int
  | [] => []
  | f :: l => putB f.Kind f.Body ++ bytesF l
def pairF (f : Fra) : Int × List Int := (f.Kind, f.Body)
theorem putB_len (k : Int) (d : List Int) : (putB k d).length = 2 + (intB (d.length : Int)).length + d.length + 4 := by
  unfold putB
  rw [List.length_append, headB_len, le4_len]
theorem putB_le {f : Fra} (h : goodF f) : (putB f.Kind f.Body).length ≤ 1514 := by
  have := putB_len f.Kind f.Body
  have := (intB_len (f.Body.length : Int)).1
  have := h.2.1
  omega
theorem putB_ok {f : Fra} (h : goodF f) : okB (putB f.Kind f.Body) := (headB_ok h.1 h.2.2).append (le4_b _)
theorem bytesF_len : ∀ (l : List Fra), (∀ f ∈ l, goodF f) → (bytesF l).length ≤ 1514 * l.length
  | [], _ => by simp [bytesF]
  | f :: l, h => by
    have h1 := putB_le (h f (by simp))
    have h2 := bytesF_len l (fun g hg => h g (by simp [hg]))
    simp only [bytesF, List.length_append, List.length_cons]
    omega
theorem bytesF_ok : ∀ (l : List Fra), (∀ f ∈ l, goodF f) → okB (bytesF l)
  | [], _ => okB.nil
  | f :: l, h => (putB_ok (h f (by simp))).append (bytesF_ok l (fun g hg => h g (by simp [hg])))
theorem scan_bytes : ∀ (l : List Fra), (∀ f ∈ l, goodF f) → Scan (bytesF l) (l.map pairF) (bytesF l).length .more
  | [], _ => .more rfl
  | f :: l, h => by
    have hf := h f (by simp)
    have h2 := scan_bytes l (fun g hg => h g (by simp [hg]))
    have hn := nextV_put hf.1 hf.2.2 (by have := hf.2.1; omega) (bytesF l)
    show Scan (putB f.Kind f.Body ++ bytesF l) ((f.Kind, f.Body) :: l.map pairF) (putB f.Kind f.Body ++ bytesF l).length .more
    rw [List.length_append]
    exact .step hn (by rw [List.drop_left' rfl]; exact h2)
theorem map_toF (l : List Fra) : (l.map pairF).map toF = l := by
  rw [List.map_map]
  have : (toF ∘ pairF) = id := by funext f; rfl
  rw [this, List.map_id]
theorem all_loop (l : List Fra) (hl : l.length ≤ 1000) (hb : ∀ f ∈ l, okB f.Body ∧ f.Body.length ≤ 1500) : ∀ (d i : Nat) (acc : List Int), i + d = l.length → acc.length ≤ 1514 * i →
    ((∀ f ∈ l.drop i, goodF f) ∧ iter (f_frame_All_l0 l) (acc, (i : Int)) = some (.inl (acc ++ bytesF (l.drop i)))) ∨ ∃ e, e.isNil = false ∧ (∃ f ∈ l, ¬ goodF f) ∧ iter (f_frame_All_l0 l) (acc, (i : Int)) = some (.inr ([], e))
  | 0, i, acc, h, ha => by
    rw [List.drop_eq_nil_of_le (by omega)]
    refine .inl ⟨fun f hf => (by cases hf), iter_stop ?_⟩
    unfold f_frame_All_l0
    simp only
    rw [if_neg (fun z => absurd (of_decide_eq_true z) (by omega))]
    simp [bytesF]
  | d + 1, i, acc, h, ha => by
    have hlt : i < l.length := by omega
    have er : rd l (i : Int) = l[i] := len_lt hlt
    have hbi := hb _ (List.getElem_mem hlt)
    by_cases g : 0 ≤ l[i].Kind ∧ l[i].Kind ≤ 63
    · have hg : goodF l[i] := ⟨g, hbi.2, hbi.1⟩
      have hp := putB_le hg
      have hs : f_frame_All_l0 l (acc, (i : Int)) = some (.inl (acc ++ putB l[i].Kind l[i].Body, ((i + 1 : Nat) : Int))) := by
        unfold f_frame_All_l0
        simp only
        refine (if_pos (decide_eq_true (by omega))).trans ?_
        refine (grd_t (by omega)).trans ?_
        rw [er]
        refine (bindF (put_ok g (by omega) hbi.1)).trans ?_
        refine (if_neg Bool.false_ne_true).trans ?_
        refine (grd_t (by show acc.length + (putB _ _).length ≤ _; omega)).trans ?_
        rw [w_i64 (by omega) (by omega)]
        rfl
      rw [iter_next hs, List.drop_eq_getElem_cons hlt]
      rcases all_loop l hl hb d (i + 1) (acc ++ putB l[i].Kind l[i].Body) (by omega) (by rw [List.length_append]; omega) with ⟨h1, h2⟩ | ⟨e, h1, hx, h2⟩
      · refine .inl ⟨fun f hf => ?_, ?_⟩
        · rcases List.mem_cons.1 hf with rfl | hf
          · exact hg
          · exact h1 f hf
        · rw [h2]; simp [bytesF]
      · exact .inr ⟨e, h1, hx, h2⟩
    · refine .inr ⟨.fault frameOp (i : Int) (.fault kindOp l[i].Kind (.code 5)), rfl, ⟨l[i], List.getElem_mem hlt, fun q => g q.1⟩, iter_stop ?_⟩
      unfold f_frame_All_l0
      simp only
      refine (if_pos (decide_eq_true (by omega))).trans ?_
      refine (grd_t (by omega)).trans ?_
      rw [er]
      refine (bindF (put_kind (by omega))).trans ?_
      refine (if_pos rfl).trans ?_
      exact (bindF (wrapF _ _ rfl)).trans rfl
theorem all4 (l : List Fra) (hl : l.length ≤ 1000) (hb : ∀ f ∈ l, okB f.Body ∧ f.Body.length ≤ 1500) : ((∀ f ∈ l, goodF f) ∧ f_frame_All l = some (bytesF l, .nil)) ∨ ∃ e, e.isNil = false ∧ (∃ f ∈ l, ¬ goodF f) ∧ f_frame_All l = some ([], e) := by
  unfold f_frame_All
  rcases all_loop l hl hb l.length 0 [] (by omega) (Nat.zero_le _) with ⟨h1, h2⟩ | ⟨e, h1, hx, h2⟩
  · rw [show ((0 : Nat) : Int) = 0 from rfl] at h2
    rw [List.drop_zero] at h1 h2
    rw [h2]
    exact .inl ⟨h1, rfl⟩
  · rw [show ((0 : Nat) : Int) = 0 from rfl] at h2
    rw [h2]
    exact .inr ⟨e, h1, hx, rfl⟩
theorem all4_good (l : List Fra) (hl : l.length ≤ 1000) (h : ∀ f ∈ l, goodF f) : f_frame_All l = some (bytesF l, .nil) := by
  rcases all4 l hl (fun f hf => ⟨(h f hf).2.2, (h f hf).2.1⟩) with ⟨_, h2⟩ | ⟨_, _, ⟨f, hf, hn⟩, _⟩
  · exact h2
  · exact absurd (h f hf) hn
/-- How many bytes the frames that are told have. -/
theorem scan_size {b : List Int} {l : List (Int × List Int)} {m : Nat} {r : NxR} (h : Scan b l m r) : okB b → m = (bytesF (l.map toF)).length := by
  induction h with
  | more h => intro _; rfl
  | bad h => intro _; rfl
  | @step b k d n m l r h t ih =>
    intro hb
    have hf := nextV_frame hb h
    have ho := nextV_once hb h
    have hn : n = (putB k d).length := by rw [← ho, List.length_take]; omega
    show n + m = (putB k d ++ bytesF (l.map toF)).length
    rw [List.length_append, ← hn, ← ih (hb.drop n)]
theorem scan_front {l l' : List (Int × List Int)} {b : List Int} {k m m' : Nat} {r' : NxR} (hb : okB b) (h : Scan b l m .more) (h' : Scan (b.take k) l' m' r') : r' = .more ∧ ∃ l2, l = l' ++ l2 := by
  have hb' : okB (b.take k) := hb.take k
  have e : b.take k ++ b.drop k = b := List.take_append_drop k b
  by_cases g : r' = .more
  · subst g
    refine ⟨rfl, ?_⟩
    have hb2 : okB ((b.take k).drop m' ++ b.drop k) := (hb'.drop m').append (hb.drop k)
    obtain ⟨l2, m2, r2, h2⟩ := scan_ex _ _ hb2 (Nat.le_refl _)
    have := scan_more h' rfl hb' h2
    rw [e] at this
    obtain ⟨e1, _, _⟩ := scan_det h this
    exact ⟨l2, e1⟩
  · have := scan_bad h' g (b.drop k) hb'
    rw [e] at this
    obtain ⟨_, _, e3⟩ := scan_det h this
    exact absurd e3.symm g
theorem okB_8 {b : List Int} (h : ∀ x ∈ b, (Lit.int .u8 x).wf = true) : okB b := by
  intro x hx
  have := h x hx
  simp [Lit.wf, IntKind.min, IntKind.max, IntKind.signed, IntKind.bits] at this
  omega
abbrev okFr (f : Fra) : Prop := (Lit.int .i64 f.Kind).wf = true ∧ ((∀ x ∈ f.Body, (Lit.int .u8 x).wf = true) ∧ f.Body.length ≤ reachBytes) ∧ True
theorem reach_le : reachBytes ≤ 140737488351232 := by decide
theorem errN_of (c : Int) (o : ByteArray) (w : Int) : OfE (errN c o w) = c := by unfold errN; split <;> rfl
theorem errN_where (c : Int) (o : ByteArray) (w : Int) : WhereE (errN c o w) = (w, true) := by unfold errN; split <;> rfl
theorem errN_path (c : Int) (o : ByteArray) (w : Int) : o ∈ PathE (errN c o w) ∧ (PathE (errN c o w)).length ≤ 10 := by
  unfold errN
  split <;> simp [PathE]
theorem wrong4 {c : Int} (o : ByteArray) (w : Int) (hc : c ≠ 0) : f_law04_wrong (errN c o w) c o w = some true := by
  have hp := errN_path c o w
  unfold f_law04_wrong
  refine (if_neg (by rw [errN_nn]; decide)).trans ?_
  refine (bindF (where_eq _)).trans ?_
  rw [errN_where]
  refine (bindF (y := true) ?_).trans rfl
  refine (bindF (of_eq _)).trans ?_
  rw [errN_of]
  refine (if_pos (decide_eq_true rfl)).trans ?_
  refine (if_pos rfl).trans ?_
  refine (if_pos (decide_eq_true rfl)).trans ?_
  refine (bindF (under_eq _ _ (by omega))).trans ?_
  simp [hp.1]
theorem bad_code {b : List Int} (hb : okB b) {c : Int} {o : ByteArray} {w : Int} (h : nextV b = .bad c o w) : c ≠ 0 := by
  unfold nextV at h
  split at h
  · cases h
  split at h
  · cases h; decide
  split at h
  · cases h
  split at h
  · cases h; decide
  split at h
  · rename_i x e
    split at h
    · cases h
    · cases h
      have := numR_code e
      omega
  · unfold bodyV at h
    split at h
    · cases h
    split at h
    · cases h
    · cases h; decide
theorem scan_code {b : List Int} {l : List (Int × List Int)} {m : Nat} {r : NxR} (h : Scan b l m r) : okB b → ∀ c o w, r = .bad c o w → c ≠ 0 := by
  induction h with
  | more h => intro _ c o w e; cases e
  | bad h => intro hb c o w e; cases e; exact bad_code hb h
  | @step b k d n m l r h t ih => intro hb; exact ih (hb.drop n)
/-! ### the example -/
def f3 : Fra := ⟨3, [7, 8]⟩
def f9 : Fra := ⟨9, []⟩
def l39 : List Fra := [f3, f9]
theorem good39 : ∀ f ∈ l39, goodF f := by
  intro f hf
  simp [l39] at hf
  rcases hf with rfl | rfl
  · exact ⟨by decide, by decide, fun x hx => by simp [f3] at hx; omega⟩
  · exact ⟨by decide, by decide, fun x hx => by simp [f9] at hx⟩
theorem len39 : (putB 3 [7, 8]).length = 9 ∧ (putB 9 []).length = 7 := by
  constructor <;> (rw [putB_len]; decide)
theorem bytes39 : (bytesF l39).length = 16 := by
  show (putB 3 [7, 8] ++ (putB 9 [] ++ [])).length = 16
  rw [List.append_nil, List.length_append, len39.1, len39.2]
theorem scan_parts {l : List Fra} (h : ∀ f ∈ l, goodF f) {L : List (Int × List Int)} {m : Nat} {r : NxR} (k : Scan (bytesF l) L m r) : L = l.map pairF ∧ m = (bytesF l).length ∧ r = .more := by
  obtain ⟨e1, e2, e3⟩ := scan_det k (scan_bytes l h)
  exact ⟨e1, e2, e3⟩
theorem map_inj_toF {L : List (Int × List Int)} {l : List Fra} (h : L.map toF = l) : L = l.map pairF := by
  subst h
  rw [List.map_map]
  have : (pairF ∘ toF) = id := by funext f; rfl
  rw [this, List.map_id]
theorem nextF1 : nextV [1] = .bad 5 signOp 0 := rfl
theorem works04 : f_law04_works = some true := by
  have hok := bytesF_ok l39 good39
  have hlen := bytes39
  have e2 := all4_good l39 (by decide) good39
  obtain ⟨r57, r58, r59, r60, q1, s1⟩ := feed_stream stream0 (p := (bytesF l39).take 5) (by rw [List.nil_append]; exact hok.take 5) (by rw [List.nil_append, List.length_take]; omega)
  rw [List.nil_append, List.nil_append] at s1
  obtain ⟨r70, r71, r72, r73, q2, s2⟩ := feed_stream s1 (p := (bytesF l39).drop 5) (by rw [List.take_append_drop]; exact hok) (by rw [List.take_append_drop]; omega)
  rw [List.take_append_drop] at s2
  obtain ⟨r86, r87, r88, r89, q3, s3⟩ := feed_stream s2 (p := [1]) (hok.append (fun x hx => by simp at hx; omega)) (by rw [List.length_append, hlen]; decide)
  -- what is told
  obtain ⟨L1, m1, x1, k1, a1, _⟩ := s1
  obtain ⟨_, l2, hl2⟩ := scan_front hok (scan_bytes l39 good39) k1
  have hz : r57 = [] := by
    have hm := scan_size k1 (hok.take 5)
    have hle := (scan_le k1 (hok.take 5)).1
    rw [List.length_take] at hle
    rw [← a1] at hm
    cases r57 with
    | nil => rfl
    | cons f t =>
      exfalso
      have hL := map_inj_toF a1.symm
      rw [hL] at hl2
      have hf : pairF f3 = pairF f := by
        have := congrArg List.head? hl2
        simpa [l39] using this
      have hf : f = f3 := by
        have h1 := congrArg Prod.fst hf
        have h2 := congrArg Prod.snd hf
        cases f
        simp [pairF, f3] at h1 h2
        simp [f3, h1, h2]
      subst hf
      have h9 := len39.1
      have : (bytesF (f3 :: t)).length = (putB 3 [7, 8] ++ bytesF t).length := rfl
      rw [List.length_append] at this
      omega
  subst hz
  rw [List.nil_append] at s2 s3
  obtain ⟨L2, m2, x2, k2, a2, g2, c2⟩ := s2
  obtain ⟨p1, p2, p3⟩ := scan_parts good39 k2
  subst p1 p2 p3
  rw [map_toF] at a2
  subst a2
  have hn : Scan (bytesF l39 ++ [1]) (l39.map pairF ++ []) ((bytesF l39).length + 0) (.bad 5 signOp 0) := scan_more (scan_bytes l39 good39) rfl hok (by rw [List.drop_length, List.nil_append]; exact .bad nextF1)
  obtain ⟨L3, m3, x3, k3, a3, g3, c3⟩ := s3
  obtain ⟨p1, p2, p3⟩ := scan_det k3 hn
  subst p1 p2 p3
  rw [List.append_nil, map_toF] at a3
  have hz3 : r86 = [] := by simpa using a3
  subst hz3
  rcases c3 with ⟨z, _, _⟩ | ⟨c, o, w, z, z2, z3⟩
  · cases z
  cases z
  subst z2 z3
  unfold f_law04_works
  refine (bindF e2).trans ?_
  refine (bindF (put_kind (f := ⟨64, []⟩) (by decide))).trans ?_
  refine (if_neg (by simp [hlen])).trans ?_
  refine (grd_t (by rw [hlen]; decide)).trans ?_
  rw [show sub (bytesF l39) 0 5 = (bytesF l39).take 5 from sub_upto _ 5]
  refine (bindF q1).trans ?_
  refine (grd_t (by rw [hlen]; decide)).trans ?_
  rw [show sub (bytesF l39) 5 ((bytesF l39).length : Int) = (bytesF l39).drop 5 from sub_from _ 5]
  refine (bindF q2).trans ?_
  refine (bindF q3).trans ?_
  refine (bindF (y := true) ?_).trans rfl
  refine (if_pos rfl).trans ?_
  refine (bindF (is_eq _ _)).trans ?_
  refine (if_pos rfl).trans ?_
  refine (if_pos rfl).trans ?_
  refine (if_pos rfl).trans ?_
  refine (grd_t (by decide)).trans ?_
  refine (if_pos rfl).trans ?_
  refine (grd_t (by decide)).trans ?_
  refine (if_pos rfl).trans ?_
  refine (if_pos rfl).trans ?_
  refine (bindF (show f_frame_Stream_Err _ = some (.fault frameOp _ (errN 5 signOp 0)) from rfl)).trans ?_
  refine (bindF (is_eq _ _)).trans ?_
  refine (if_pos rfl).trans ?_
  exact (bindF (show f_frame_Stream_Left _ = some 0 from rfl)).trans rfl
/-! ### the laws -/
theorem pure_FramePuts (f : Fra) (h : okFr f) : f_law04_FramePuts f = some true := by
  have hb := okB_8 h.2.1.1
  have hm := h.2.1.2
  have hml := reach_le
  unfold f_law04_FramePuts
  obtain ⟨x, h1, h2⟩ := light4 [f] (fun g hg => by simp at hg; subst hg; omega)
  refine (bindF h1).trans ?_
  cases x
  · exact (if_pos rfl).trans ((bindF works04).trans rfl)
  refine (if_neg (by decide)).trans ?_
  have hl := (h2 rfl).2 f (by simp)
  by_cases g : 0 ≤ f.Kind ∧ f.Kind ≤ 63
  · refine (bindF (put_ok g (by omega) hb)).trans ?_
    refine (bindF (rput_ok g (by omega) hb)).trans ?_
    refine (if_neg (by decide)).trans ?_
    refine (bindF (y := true) ?_).trans rfl
    refine (if_pos rfl).trans ?_
    have := putB_le ⟨g, hl, hb⟩
    refine (bindF (rsame_eq _ (by show (putB f.Kind f.Body).length ≤ _; omega))).trans ?_
    refine (if_pos rfl).trans ?_
    exact (bindF works04).trans rfl
  · refine (bindF (put_kind (by omega))).trans ?_
    refine (bindF (rput_kind (by omega))).trans ?_
    refine (if_pos rfl).trans ?_
    refine (bindF (where_eq _)).trans ?_
    refine (bindF (y := true) ?_).trans rfl
    refine (if_pos rfl).trans ?_
    refine (bindF (of_eq _)).trans ?_
    refine (if_pos rfl).trans ?_
    refine (if_pos rfl).trans ?_
    refine (if_pos (decide_eq_true rfl)).trans ?_
    exact (bindF works04).trans rfl
theorem pure_FrameNext (b : List Int) (h : (∀ x ∈ b, (Lit.int .u8 x).wf = true) ∧ b.length ≤ reachBytes) : f_law04_FrameNext b = some true := by
  have hb := okB_8 h.1
  unfold f_law04_FrameNext
  by_cases g : (1500 : Int) < (b.length : Int)
  · exact (if_pos (decide_eq_true g)).trans ((bindF works04).trans rfl)
  refine (if_neg (fun z => g (of_decide_eq_true z))).trans ?_
  refine (bindF (pnext4 hb (by omega))).trans ?_
  refine (bindF (rnext4 hb (by omega))).trans ?_
  refine (bindF (y := true) ?_).trans rfl
  cases e : nextV b with
  | more =>
    refine (if_pos rfl).trans ?_
    refine (if_pos rfl).trans ?_
    refine (bindF (rsame_eq [] (by decide))).trans ?_
    refine (if_pos rfl).trans ?_
    refine (bindF (y := true) rfl).trans ?_
    refine (if_pos rfl).trans ?_
    exact (bindF works04).trans rfl
  | bad c o w =>
    refine (if_pos rfl).trans ?_
    refine (if_pos rfl).trans ?_
    refine (bindF (rsame_eq [] (by decide))).trans ?_
    refine (if_pos rfl).trans ?_
    refine (bindF (wrong4 o w (bad_code hb e))).trans ?_
    refine (if_pos rfl).trans ?_
    exact (bindF works04).trans rfl
  | frame k d n =>
    have hf := nextV_frame hb e
    refine (if_pos (decide_eq_true rfl)).trans ?_
    refine (if_pos (decide_eq_true rfl)).trans ?_
    refine (bindF (rsame_eq d (by omega))).trans ?_
    refine (if_pos rfl).trans ?_
    refine (bindF (y := true) rfl).trans ?_
    refine (if_pos rfl).trans ?_
    exact (bindF works04).trans rfl
theorem xor8 {x y : Int} (hx : isB x) (hy : isB y) : isB (xorI .u8 x y) ∧ bv (xorI .u8 x y) = bv x ^^^ bv y := by
  have e : xorI .u8 x y = ((x.toNat ^^^ y.toNat : Nat) : Int) := by
    unfold xorI
    show IntKind.u8.wrap (((BitVec.ofInt 8 x) ^^^ (BitVec.ofInt 8 y)).toNat : Int) = _
    have e1 : (BitVec.ofInt 8 x).toNat = x.toNat := by rw [BitVec.toNat_ofInt]; have := hx.1; have := hx.2; omega
    have e2 : (BitVec.ofInt 8 y).toNat = y.toNat := by rw [BitVec.toNat_ofInt]; have := hy.1; have := hy.2; omega
    have hlt := ((BitVec.ofInt 8 x) ^^^ (BitVec.ofInt 8 y)).isLt
    rw [w_u8 (by omega) (by omega), BitVec.toNat_xor, e1, e2]
  have hlt : x.toNat ^^^ y.toNat < 2 ^ 8 := Nat.xor_lt_two_pow (by have := hx.1; have := hx.2; omega) (by have := hy.1; have := hy.2; omega)
  have hb : isB (xorI .u8 x y) := by rw [e]; exact ⟨by omega, by omega⟩
  refine ⟨hb, ?_⟩
  apply BitVec.eq_of_toNat_eq
  have k := bv_toNat hb
  have kx := bv_toNat hx
  have ky := bv_toNat hy
  rw [BitVec.toNat_xor]
  have e3 : (bv x).toNat = x.toNat := by have := hx.1; omega
  have e4 : (bv y).toNat = y.toNat := by have := hy.1; omega
  rw [e3, e4]
  rw [e] at k ⊢
  omega
theorem xor_ne {x y : Int} (hx : isB x) (hy : isB y) (h0 : y ≠ 0) : xorI .u8 x y ≠ x := by
  intro e
  have h := (xor8 hx hy).2
  rw [e] at h
  have : bv y = 0#32 := by
    have h2 : bv x ^^^ (bv x ^^^ bv y) = bv x ^^^ bv x := by rw [← h]
    rw [← BitVec.xor_assoc, BitVec.xor_self, BitVec.zero_xor] at h2
    exact h2
  have ht := bv_toNat hy
  rw [this] at ht
  exact h0 ht.symm
theorem pure_FrameSpoilt (f : Fra) (a y : Int) (h : okFr f) (w1 : (Lit.int .i64 a).wf = true) (w2 : (Lit.int .u8 y).wf = true) : f_law04_FrameSpoilt f a y = some true := by
  have hb := okB_8 h.2.1.1
  have hm := h.2.1.2
  have hml := reach_le
  have hy : isB y := by
    simp [Lit.wf, IntKind.min, IntKind.max, IntKind.signed, IntKind.bits] at w2
    exact ⟨by omega, by omega⟩
  unfold f_law04_FrameSpoilt
  obtain ⟨x, h1, h2⟩ := light4 [f] (fun g hg => by simp at hg; subst hg; omega)
  cases x
  · refine (bindF (y := true) ((bindF h1).trans rfl)).trans ?_
    exact (if_pos rfl).trans ((bindF works04).trans rfl)
  by_cases hy0 : y = 0
  · refine (bindF (y := true) ((bindF h1).trans ?_)).trans ?_
    · rw [decide_eq_true hy0]; rfl
    · exact (if_pos rfl).trans ((bindF works04).trans rfl)
  refine (bindF (y := false) ((bindF h1).trans ?_)).trans ?_
  · rw [decide_eq_false hy0]; rfl
  refine (if_neg (by decide)).trans ?_
  have hl := (h2 rfl).2 f (by simp)
  by_cases g : 0 ≤ f.Kind ∧ f.Kind ≤ 63
  · have hg : goodF f := ⟨g, hl, hb⟩
    have hpl := putB_le hg
    have hpo := putB_ok hg
    have hp1 := putB_len f.Kind f.Body
    refine (bindF (put_ok g (by omega) hb)).trans ?_
    refine (if_neg Bool.false_ne_true).trans ?_
    generalize hP : putB f.Kind f.Body = P at hpl hpo hp1
    refine (if_neg (fun z => by have : (P.length : Int) = 0 := of_decide_eq_true z; omega)).trans ?_
    have el : IntKind.u64.wrap (P.length : Int) = (P.length : Int) := w_u64 (by omega) (by omega)
    have hu : 0 ≤ IntKind.u64.wrap a := by
      unfold IntKind.wrap
      simp [IntKind.signed, IntKind.bits]
      exact Int.emod_nonneg _ (by decide)
    show grd (IntKind.u64.wrap (P.length : Int) ≠ 0) _ = _
    rw [el]
    generalize IntKind.u64.wrap a = u at hu
    have hk : u.tmod (P.length : Int) = ((u.toNat % P.length : Nat) : Int) := by
      rw [Int.tmod_eq_emod_of_nonneg hu, Int.natCast_emod, Int.toNat_of_nonneg hu]
    have hlt : u.toNat % P.length < P.length := Nat.mod_lt _ (by omega)
    rw [hk, w_i64 (by omega) (by omega)]
    generalize u.toNat % P.length = k at hlt
    refine (grd_t (by omega)).trans ?_
    refine (grd_t (by omega)).trans ?_
    refine (grd_t (by omega)).trans ?_
    rw [Int.toNat_natCast]
    have hv : isB (rd P (k : Int)) := hpo.at hlt
    have hx := (xor8 hv hy).1
    have hne := xor_ne hv hy hy0
    have hq : okB (P.set k (xorI .u8 (rd P (k : Int)) y)) := by
      intro z hz
      rcases List.mem_or_eq_of_mem_set hz with hz | rfl
      · exact hpo z hz
      · exact hx
    have hql : (P.set k (xorI .u8 (rd P (k : Int)) y)).length = P.length := List.length_set ..
    have hqne : P.set k (xorI .u8 (rd P (k : Int)) y) ≠ P := by
      intro e
      have : rd (P.set k (xorI .u8 (rd P (k : Int)) y)) (k : Int) = rd P (k : Int) := by rw [e]
      rw [rdn (show k < (P.set k (xorI .u8 (rd P (k : Int)) y)).length by omega), List.getElem_set_self] at this
      exact hne this
    generalize P.set k (xorI .u8 (rd P (k : Int)) y) = q at hq hql hqne
    refine (bindF (pnext4 hq (by omega))).trans ?_
    refine (bindF (y := true) ?_).trans rfl
    cases e : nextV q with
    | more => exact (if_pos rfl).trans ((bindF works04).trans rfl)
    | bad c o w => exact (if_pos rfl).trans ((bindF works04).trans rfl)
    | frame k' d n =>
      have hf := nextV_frame hq e
      have ho := nextV_once hq e
      refine (if_neg (fun z => by have : (n : Int) = 0 := of_decide_eq_true z; omega)).trans ?_
      by_cases g1 : n < q.length
      · refine (if_pos (decide_eq_true (by show (n : Int) < _; omega))).trans ?_
        exact (bindF works04).trans rfl
      refine (if_neg (fun z => by have : (n : Int) < (q.length : Int) := of_decide_eq_true z; omega)).trans ?_
      by_cases g2 : k' ≠ f.Kind
      · refine (if_pos (decide_eq_true g2)).trans ?_
        exact (bindF works04).trans rfl
      refine (if_neg (fun z => g2 (of_decide_eq_true z))).trans ?_
      refine (bindF (rsameE _ _ (by show d.length ≤ _; omega))).trans ?_
      by_cases g3 : d = f.Body
      · exfalso
        have g2 : k' = f.Kind := Classical.byContradiction g2
        rw [List.take_of_length_le (by omega), g2, g3, hP] at ho
        exact hqne ho
      · show (if (!decide (d = f.Body)) = true then _ else _) = _
        rw [decide_eq_false g3]
        exact (if_pos rfl).trans ((bindF works04).trans rfl)
  · refine (bindF (put_kind (by omega))).trans ?_
    refine (if_pos rfl).trans ?_
    exact (bindF works04).trans rfl
theorem sub_uptoF {α : Type} (l : List α) (n : Nat) : sub l 0 (n : Int) = l.take n := by
  unfold sub
  rw [Int.toNat_natCast]
  simp
theorem pure_FrameBack (l : List Fra) (cut : Int) (h : (∀ f ∈ l, okFr f) ∧ l.length ≤ reachBytes) (w : (Lit.int .u16 cut).wf = true) : f_law04_FrameBack l cut = some true := by
  have hml := reach_le
  have hw : 0 ≤ cut ∧ cut ≤ 65535 := by
    simp [Lit.wf, IntKind.min, IntKind.max, IntKind.signed, IntKind.bits] at w
    omega
  unfold f_law04_FrameBack
  obtain ⟨x, h1, h2⟩ := light4 l (fun g hg => by have := (h.1 g hg).2.1.2; omega)
  refine (bindF h1).trans ?_
  cases x
  · exact (if_pos rfl).trans ((bindF works04).trans rfl)
  refine (if_neg (by decide)).trans ?_
  obtain ⟨hl, hbd⟩ := h2 rfl
  rcases all4 l (by omega) (fun f hf => ⟨okB_8 (h.1 f hf).2.1.1, hbd f hf⟩) with ⟨hg, e2⟩ | ⟨e, he, _, e2⟩
  · have hok := bytesF_ok l hg
    have hlen := bytesF_len l hg
    refine (bindF e2).trans ?_
    refine (if_neg Bool.false_ne_true).trans ?_
    obtain ⟨fr, buf, gone, er, q1, s1⟩ := feed_stream stream0 (p := bytesF l) (by rw [List.nil_append]; exact hok) (by rw [List.nil_append]; omega)
    rw [List.nil_append, List.nil_append] at s1
    obtain ⟨L, m, r, k1, a1, g1, c1⟩ := s1
    obtain ⟨p1, p2, p3⟩ := scan_parts hg k1
    subst p1 p2 p3
    rw [map_toF] at a1
    subst a1
    rcases c1 with ⟨_, rfl, rfl⟩ | ⟨c, o, w, z, _, _⟩
    rotate_left
    · cases z
    have hself := same4_self fr (by omega) (fun f hf => by have := hbd f hf; omega)
    refine (bindF q1).trans ?_
    refine (bindF (y := false) ?_).trans ?_
    · refine (bindF hself).trans ?_
      refine (if_neg (by decide)).trans ?_
      refine (bindF (y := GErr.nil) rfl).trans ?_
      refine (if_neg (by decide)).trans ?_
      refine (bindF (y := (((bytesF fr).drop (bytesF fr).length).length : Int)) rfl).trans ?_
      rw [List.drop_length]
      rfl
    refine (if_neg (by decide)).trans ?_
    have ew : IntKind.i64.wrap (((bytesF fr).length : Int) + 1) = (((bytesF fr).length + 1 : Nat) : Int) := by rw [w_i64 (by omega) (by omega)]; rfl
    have ec : IntKind.i64.wrap cut = cut := w_i64 (by omega) (by omega)
    have hk : cut.tmod (((bytesF fr).length + 1 : Nat) : Int) = ((cut.toNat % ((bytesF fr).length + 1) : Nat) : Int) := by
      rw [Int.tmod_eq_emod_of_nonneg hw.1, Int.natCast_emod, Int.toNat_of_nonneg hw.1]
    have hlt : cut.toNat % ((bytesF fr).length + 1) < (bytesF fr).length + 1 := Nat.mod_lt _ (by omega)
    show grd (IntKind.i64.wrap (((bytesF fr).length : Int) + 1) ≠ 0) _ = _
    rw [ew, ec, hk]
    generalize cut.toNat % ((bytesF fr).length + 1) = k at hlt
    refine (grd_t (by omega)).trans ?_
    refine (grd_t (by omega)).trans ?_
    rw [sub_upto]
    obtain ⟨fn, buf2, gone2, er2, q2, s2⟩ := feed_stream stream0 (p := (bytesF fr).take k) (by rw [List.nil_append]; exact hok.take k) (by rw [List.nil_append, List.length_take]; omega)
    rw [List.nil_append, List.nil_append] at s2
    obtain ⟨L2, m2, r2, k2, a2, g2, c2⟩ := s2
    obtain ⟨p3, l2, p4⟩ := scan_front hok (scan_bytes fr hg) k2
    subst p3
    rcases c2 with ⟨_, rfl, rfl⟩ | ⟨c, o, w, z, _, _⟩
    rotate_left
    · cases z
    have hfn : fn = fr.take fn.length := by
      have := congrArg (List.map toF) p4
      rw [map_toF, List.map_append, ← a2] at this
      rw [this, List.take_left' rfl]
    have hfl : fn.length ≤ fr.length := by
      have := congrArg List.length hfn
      rw [List.length_take] at this
      omega
    have hms := scan_size k2 (hok.take k)
    rw [← a2] at hms
    refine (bindF q2).trans ?_
    refine (bindF (y := true) ?_).trans rfl
    refine (bindF (y := GErr.nil) rfl).trans ?_
    refine (if_pos rfl).trans ?_
    refine (if_pos (decide_eq_true (by omega))).trans ?_
    refine (grd_t (by omega)).trans ?_
    rw [sub_uptoF, ← hfn]
    refine (bindF (same4_self fn (by omega) (fun f hf => by rw [hfn] at hf; have := hbd f (List.mem_of_mem_take hf); omega))).trans ?_
    refine (if_pos rfl).trans ?_
    by_cases c1 : fn.length = fr.length
    · refine (if_pos (decide_eq_true (by omega))).trans ?_
      exact (bindF works04).trans rfl
    refine (if_neg (fun z => by have := of_decide_eq_true z; omega)).trans ?_
    refine (bindF (y := ((((bytesF fr).take k).drop m2).length : Int)) rfl).trans ?_
    by_cases c2 : (0 : Int) < ((((bytesF fr).take k).drop m2).length : Int)
    · refine (if_pos (decide_eq_true c2)).trans ?_
      exact (bindF works04).trans rfl
    refine (if_neg (fun z => c2 (of_decide_eq_true z))).trans ?_
    by_cases c3 : (k : Int) = 0
    · refine (if_pos (decide_eq_true c3)).trans ?_
      exact (bindF works04).trans rfl
    refine (if_neg (fun z => c3 (of_decide_eq_true z))).trans ?_
    have c4 : (0 : Int) < (fn.length : Int) := by
      refine Classical.byContradiction fun z => ?_
      have hz : fn = [] := List.eq_nil_of_length_eq_zero (by omega)
      rw [hz] at hms
      have hm0 : m2 = 0 := hms
      rw [hm0, List.drop_zero, List.length_take] at c2
      omega
    refine (if_pos (decide_eq_true c4)).trans ?_
    exact (bindF works04).trans rfl
  · refine (bindF e2).trans ?_
    refine (if_pos (by rw [he]; rfl)).trans ?_
    refine (bindF (y := true) ?_).trans rfl
    refine (if_pos rfl).trans ?_
    exact (bindF works04).trans rfl
/-! ### however it is cut -/
theorem stream_le {b : List Int} {fr : List Fra} {buf : List Int} {gone : Int} {e : GErr} (h : streamAt b fr buf gone e) (hb : okB b) : fr.length ≤ b.length := by
  obtain ⟨l, m, r, hs, rfl, _, _⟩ := h
  have := scan_le hs hb
  rw [List.length_map]
  omega
theorem cuts_loop {b cuts : List Int} (hb : okB b) (hl : b.length ≤ 1200) (hc : cuts.length ≤ 60) (hcu : ∀ x ∈ cuts, 0 ≤ x ∧ x ≤ 65535) : ∀ (d i a : Nat) (fr : List Fra) (buf : List Int) (gone : Int) (e : GErr), i + d = cuts.length → a ≤ b.length → streamAt (b.take a) fr buf gone e →
    ∃ (fr' : List Fra) (a' : Nat) (buf' : List Int) (gone' : Int) (e' : GErr), iter (f_law04_FrameStreams_l0 b cuts) (fr, (a : Int), (i : Int), buf, gone, e) = some (fr', (a' : Int), buf', gone', e') ∧ a' ≤ b.length ∧ streamAt (b.take a') fr' buf' gone' e'
  | 0, i, a, fr, buf, gone, e, hi, ha, hs => by
    refine ⟨fr, a, buf, gone, e, iter_stop ?_, ha, hs⟩
    unfold f_law04_FrameStreams_l0
    simp only
    refine (bindF (y := false) (if_neg (fun z => absurd (of_decide_eq_true z) (by omega)))).trans ?_
    exact if_neg (by decide)
  | d + 1, i, a, fr, buf, gone, e, hi, ha, hs => by
    have hlt : i < cuts.length := by omega
    by_cases g : a < b.length
    · have er : rd cuts (i : Int) = cuts[i] := len_lt hlt
      have hx := hcu _ (List.getElem_mem hlt)
      have ec : IntKind.i64.wrap cuts[i] = cuts[i] := w_i64 (by omega) (by omega)
      have hn : ∃ n : Nat, (if (decide ((IntKind.i64.wrap ((b.length : Int) - (a : Int))) < ((IntKind.i64.wrap (rd cuts (i : Int))).tmod (97 : Int)))) = true then (some (IntKind.i64.wrap ((b.length : Int) - (a : Int)))) else (some ((IntKind.i64.wrap (rd cuts (i : Int))).tmod (97 : Int)))) = some (n : Int) ∧ a + n ≤ b.length := by
        rw [er, ec, w_i64 (by omega) (by omega), Int.tmod_eq_emod_of_nonneg hx.1]
        by_cases g2 : (b.length : Int) - (a : Int) < cuts[i] % 97
        · refine ⟨b.length - a, ?_, by omega⟩
          rw [if_pos (decide_eq_true g2)]
          congr 1; omega
        · refine ⟨(cuts[i] % 97).toNat, ?_, by omega⟩
          rw [if_neg (fun z => g2 (of_decide_eq_true z))]
          congr 1; omega
      obtain ⟨n, hn1, hn2⟩ := hn
      have ep : b.take a ++ (b.take (a + n)).drop a = b.take (a + n) := by
        have := List.take_append_drop a (b.take (a + n))
        rw [List.take_take, Nat.min_eq_left (by omega)] at this
        exact this
      obtain ⟨fr1, buf1, gone1, e1, q1, s1⟩ := feed_stream hs (p := (b.take (a + n)).drop a) (by rw [ep]; exact hb.take _) (by rw [ep, List.length_take]; omega)
      rw [ep] at s1
      have hfl := stream_le s1 (hb.take _)
      rw [List.length_take, List.length_append] at hfl
      obtain ⟨fr', a', buf', gone', e', k1, k2, k3⟩ := cuts_loop hb hl hc hcu d (i + 1) (a + n) (fr ++ fr1) buf1 gone1 e1 (by omega) hn2 s1
      refine ⟨fr', a', buf', gone', e', ?_, k2, k3⟩
      have hstep : f_law04_FrameStreams_l0 b cuts (fr, (a : Int), (i : Int), buf, gone, e) = some (.inl (fr ++ fr1, ((a + n : Nat) : Int), ((i + 1 : Nat) : Int), buf1, gone1, e1)) := by
        unfold f_law04_FrameStreams_l0
        simp only
        refine (bindF (y := true) ?_).trans ?_
        · refine (if_pos (decide_eq_true (by omega))).trans ?_
          rw [decide_eq_true (show (a : Int) < (b.length : Int) by omega)]
        refine (if_pos rfl).trans ?_
        refine (grd_t (by omega)).trans ?_
        refine (bindF hn1).trans ?_
        have ew : IntKind.i64.wrap ((a : Int) + (n : Int)) = ((a + n : Nat) : Int) := by rw [w_i64 (by omega) (by omega)]; rfl
        rw [ew]
        refine (grd_t (by omega)).trans ?_
        rw [sub_mid]
        refine (bindF q1).trans ?_
        refine (grd_t (by show fr.length + fr1.length ≤ _; omega)).trans ?_
        rw [w_i64 (by omega) (by omega)]
        rfl
      rw [iter_next hstep]
      exact k1
    · refine ⟨fr, a, buf, gone, e, iter_stop ?_, ha, hs⟩
      unfold f_law04_FrameStreams_l0
      simp only
      refine (bindF (y := false) ?_).trans ?_
      · refine (if_pos (decide_eq_true (by omega))).trans ?_
        rw [decide_eq_false (show ¬ (a : Int) < (b.length : Int) by omega)]
      exact if_neg (by decide)
theorem wrongS {c : Int} (o : ByteArray) (w m : Int) (hc : c ≠ 0) : f_law04_wrong (.fault frameOp m (errN c o w)) c o m = some true := by
  have hp := errN_path c o w
  unfold f_law04_wrong
  refine (if_neg Bool.false_ne_true).trans ?_
  refine (bindF (where_eq _)).trans ?_
  refine (bindF (y := true) ?_).trans rfl
  refine (bindF (of_eq _)).trans ?_
  have : OfE (.fault frameOp m (errN c o w)) = c := by
    unfold errN
    split <;> rfl
  rw [this]
  refine (if_pos (decide_eq_true rfl)).trans ?_
  refine (if_pos rfl).trans ?_
  refine (if_pos (decide_eq_true rfl)).trans ?_
  refine (bindF (under_eq _ _ (by show (frameOp :: PathE (errN c o w)).length ≤ _; rw [List.length_cons]; omega))).trans ?_
  have : o ∈ PathE (.fault frameOp m (errN c o w)) := List.mem_cons_of_mem _ hp.1
  simp [this]
theorem pure_FrameStreams (b cuts : List Int) (h0 : (∀ x ∈ b, (Lit.int .u8 x).wf = true) ∧ b.length ≤ reachBytes) (h1 : (∀ x ∈ cuts, (Lit.int .u16 x).wf = true) ∧ cuts.length ≤ reachBytes) : f_law04_FrameStreams b cuts = some true := by
  have hb := okB_8 h0.1
  have hcu : ∀ x ∈ cuts, 0 ≤ x ∧ x ≤ 65535 := by
    intro x hx
    have w := h1.1 x hx
    simp [Lit.wf, IntKind.min, IntKind.max, IntKind.signed, IntKind.bits] at w
    omega
  unfold f_law04_FrameStreams
  by_cases g1 : (1200 : Int) < (b.length : Int)
  · refine (bindF (y := true) (if_pos (decide_eq_true g1))).trans ?_
    exact (if_pos rfl).trans ((bindF works04).trans rfl)
  by_cases g2 : (60 : Int) < (cuts.length : Int)
  · refine (bindF (y := true) ((if_neg (fun z => g1 (of_decide_eq_true z))).trans (by rw [decide_eq_true g2]))).trans ?_
    exact (if_pos rfl).trans ((bindF works04).trans rfl)
  refine (bindF (y := false) ((if_neg (fun z => g1 (of_decide_eq_true z))).trans (by rw [decide_eq_false g2]))).trans ?_
  refine (if_neg (by decide)).trans ?_
  obtain ⟨fr, a, buf, gone, e, k1, k2, k3⟩ := cuts_loop hb (by omega) (by omega) hcu cuts.length 0 0 [] [] 0 .nil (by omega) (Nat.zero_le _) (by rw [List.take_zero]; exact stream0)
  refine (bindF (y := (fr, (a : Int), buf, gone, e)) ((bindF k1).trans rfl)).trans ?_
  refine (grd_t (by show 0 ≤ (a : Int) ∧ (a : Int) ≤ _ ∧ _; omega)).trans ?_
  show (f_frame_Stream_Feed ⟨buf, gone, e⟩ (sub b (a : Int) (b.length : Int))).bind _ = _
  rw [sub_from]
  have ep : b.take a ++ b.drop a = b := List.take_append_drop a b
  obtain ⟨fr2, buf2, gone2, e2, q2, s2⟩ := feed_stream k3 (p := b.drop a) (by rw [ep]; exact hb) (by rw [ep]; omega)
  rw [ep] at s2
  have hfl := stream_le s2 hb
  refine (bindF q2).trans ?_
  rw [List.length_append] at hfl
  refine (grd_t (by show fr.length + fr2.length ≤ _; omega)).trans ?_
  obtain ⟨L, m, r, hs, a2, g3, c2⟩ := s2
  have hle := scan_le hs hb
  refine (bindF (scan4 hb (by omega) hs)).trans ?_
  show (f_ref04_Same (fr ++ fr2) (L.map toF)).bind _ = _
  rw [a2]
  refine (bindF (same4_self _ (by rw [List.length_map]; omega) (fun f hf => by
    obtain ⟨p, hp, rfl⟩ := List.mem_map.1 hf
    have := (hle.2.2.1 p hp).2
    show p.2.length ≤ _
    omega))).trans ?_
  refine (if_neg (by decide)).trans ?_
  rcases c2 with ⟨rfl, rfl, rfl⟩ | ⟨c, o, w, rfl, rfl, rfl⟩
  · refine (if_pos rfl).trans ?_
    refine (bindF (y := true) ?_).trans rfl
    refine (bindF (y := GErr.nil) rfl).trans ?_
    refine (if_pos rfl).trans ?_
    refine (bindF (y := ((b.drop m).length : Int)) rfl).trans ?_
    refine (if_pos (decide_eq_true ?_)).trans ?_
    · show ((b.drop m).length : Int) = IntKind.i64.wrap ((b.length : Int) - (m : Int))
      rw [w_i64 (by omega) (by omega), List.length_drop]
      omega
    · exact (bindF works04).trans rfl
  · have hc := scan_code hs hb c o w rfl
    refine (if_neg (fun z => hc (of_decide_eq_true z))).trans ?_
    refine (bindF (y := true) ?_).trans rfl
    refine (bindF (y := GErr.fault frameOp (m : Int) (errN c o w)) rfl).trans ?_
    refine (bindF (wrongS o w (m : Int) hc)).trans ?_
    refine (if_pos rfl).trans ?_
    refine (bindF (y := GErr.fault frameOp (m : Int) (errN c o w)) rfl).trans ?_
    have hp := errN_path c o w
    refine (bindF (under_eq _ _ (by show (frameOp :: PathE (errN c o w)).length ≤ _; rw [List.length_cons]; omega))).trans ?_
    refine (if_pos (by have : frameOp ∈ PathE (.fault frameOp (m : Int) (errN c o w)) := List.mem_cons_self; simp [this])).trans ?_
    refine (bindF (y := (0 : Int)) rfl).trans ?_
    refine (if_pos rfl).trans ?_
    exact (bindF works04).trans rfl
end Go.Proofs.YtjiffdgidodebaaDoor.G
