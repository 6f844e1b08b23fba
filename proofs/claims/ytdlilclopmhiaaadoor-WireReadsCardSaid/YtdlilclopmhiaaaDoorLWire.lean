/- Numbers, flags, texts and rows as bytes (chapter 2): what the printed functions of wire and of its reference compute. No condition. -/
import Derived.Test.YtdlilclopmhiaaaDoorLErr
import Derived.KernelRfl
set_option linter.unusedSimpArgs false
set_option linter.unusedVariables false
namespace Go.Proofs.YtdlilclopmhiaaaDoor.G
open Go Go.KK

theorem rdn {α : Type} [Inhabited α] {xs : List α} {i : Nat} (h : i < xs.length) : rd xs (i : Int) = xs[i] := len_lt h
def okB (l : List Int) : Prop := ∀ x ∈ l, 0 ≤ x ∧ x ≤ 255
theorem okB.nil : okB [] := fun _ h => by cases h
theorem okB.append {a b : List Int} (h : okB a) (k : okB b) : okB (a ++ b) := fun x hx => (List.mem_append.1 hx).elim (h x) (k x)
theorem okB.left {a b : List Int} (h : okB (a ++ b)) : okB a := fun x hx => h x (List.mem_append.2 (.inl hx))
theorem okB.right {a b : List Int} (h : okB (a ++ b)) : okB b := fun x hx => h x (List.mem_append.2 (.inr hx))
theorem okB.at {l : List Int} (h : okB l) {i : Nat} (hi : i < l.length) : 0 ≤ rd l (i : Int) ∧ rd l (i : Int) ≤ 255 := by
  rw [rdn hi]; exact h _ (List.getElem_mem hi)
theorem okB.drop {l : List Int} (h : okB l) (n : Nat) : okB (l.drop n) := fun x hx => h x (List.mem_of_mem_drop hx)
theorem okB.take {l : List Int} (h : okB l) (n : Nat) : okB (l.take n) := fun x hx => h x (List.mem_of_mem_take hx)
theorem sub_end (b : List Int) (i : Nat) : sub b (i : Int) (b.length : Int) = b.drop i := by
  unfold sub
  rw [show ((i : Int)).toNat = i by omega, show ((b.length : Int)).toNat = b.length by omega]
  exact List.take_of_length_le (by simp)
theorem sub_nat {α : Type} (b : List α) (i j : Nat) : sub b (i : Int) (j : Int) = (b.drop i).take (j - i) := by
  unfold sub
  rw [show ((i : Int)).toNat = i by omega, show ((j : Int)).toNat = j by omega]
theorem rd_drop (b : List Int) (i j : Nat) : rd (b.drop i) (j : Int) = rd b ((i + j : Nat) : Int) := by
  unfold rd
  rw [show ((j : Int)).toNat = j by omega, show (((i + j : Nat) : Int)).toNat = i + j by omega]
  simp [List.getD_eq_getElem?_getD]

/-! ### operations on numbers -/
theorem fdiv_nn {a b : Int} (h : 0 < b) : a.fdiv b = a / b := Int.fdiv_eq_ediv_of_nonneg _ (Int.le_of_lt h)
theorem shr8 (n : Int) (k : Nat) (hk : k + 8 ≤ 64) : shrI .u64 n ((k + 8 : Nat) : Int) = shrI .u64 n (k : Int) / 256 := by
  unfold shrI
  rw [show min (((k + 8 : Nat) : Int)).toNat IntKind.u64.bits = k + 8 by show min _ 64 = _; omega, show min ((k : Int)).toNat IntKind.u64.bits = k by show min _ 64 = _; omega]
  rw [fdiv_nn (Int.pow_pos (by decide)), fdiv_nn (Int.pow_pos (by decide)), Int.pow_add]
  exact (Int.ediv_ediv_of_nonneg (Int.pow_nonneg (by decide))).symm
theorem shr0 (n : Int) : shrI .u64 n (0 : Int) = n := by
  unfold shrI
  show n.fdiv (2 ^ 0) = n
  rw [fdiv_nn (by decide)]
  omega
theorem s8 (n : Int) : shrI .u64 n 8 = n / 256 := by have := shr8 n 0 (by decide); rw [show ((0 : Nat) : Int) = 0 from rfl, shr0] at this; exact this
theorem s16 (n : Int) : shrI .u64 n 16 = n / 256 / 256 := by have := shr8 n 8 (by decide); rw [show ((8 : Nat) : Int) = 8 from rfl, s8] at this; exact this
theorem s24 (n : Int) : shrI .u64 n 24 = n / 256 / 256 / 256 := by have := shr8 n 16 (by decide); rw [show ((16 : Nat) : Int) = 16 from rfl, s16] at this; exact this
theorem s32 (n : Int) : shrI .u64 n 32 = n / 256 / 256 / 256 / 256 := by have := shr8 n 24 (by decide); rw [show ((24 : Nat) : Int) = 24 from rfl, s24] at this; exact this
theorem s40 (n : Int) : shrI .u64 n 40 = n / 256 / 256 / 256 / 256 / 256 := by have := shr8 n 32 (by decide); rw [show ((32 : Nat) : Int) = 32 from rfl, s32] at this; exact this
theorem s48 (n : Int) : shrI .u64 n 48 = n / 256 / 256 / 256 / 256 / 256 / 256 := by have := shr8 n 40 (by decide); rw [show ((40 : Nat) : Int) = 40 from rfl, s40] at this; exact this
theorem s56 (n : Int) : shrI .u64 n 56 = n / 256 / 256 / 256 / 256 / 256 / 256 / 256 := by have := shr8 n 48 (by decide); rw [show ((48 : Nat) : Int) = 48 from rfl, s48] at this; exact this
theorem or_tab : ∀ x : Fin 64, orI .u8 64 (x.val : Int) = 64 + x.val ∧ orI .u8 128 (x.val : Int) = 128 + x.val ∧ orI .u8 192 (x.val : Int) = 192 + x.val := by decide +kernel
theorem or64 {x : Int} (h0 : 0 ≤ x) (h1 : x < 64) : orI .u8 64 x = 64 + x ∧ orI .u8 128 x = 128 + x ∧ orI .u8 192 x = 192 + x := by
  have := or_tab ⟨x.toNat, by omega⟩
  simp only [show ((x.toNat : Nat) : Int) = x by omega] at this
  exact this
theorem head_tab : ∀ x : Fin 256, andI .u8 (x.val : Int) 63 = (x.val : Int) % 64 ∧ shrI .u8 (x.val : Int) 6 = (x.val : Int) / 64 := by decide +kernel
theorem head_eq {x : Int} (h0 : 0 ≤ x) (h1 : x ≤ 255) : andI .u8 x 63 = x % 64 ∧ shrI .u8 x 6 = x / 64 := by
  have := head_tab ⟨x.toNat, by omega⟩
  simp only [show ((x.toNat : Nat) : Int) = x by omega] at this
  exact this
theorem shl_tab : shlI .i64 1 0 = 1 ∧ shlI .i64 1 1 = 2 ∧ shlI .i64 1 2 = 4 ∧ shlI .i64 1 3 = 8 := by decide +kernel
/-- n<<8|b -/
theorem next8 {n b : Int} (h0 : 0 ≤ n) (h1 : n < 72057594037927936) (b0 : 0 ≤ b) (b1 : b ≤ 255) : orI .u64 (shlI .u64 n 8) (IntKind.u64.wrap b) = n * 256 + b := by
  rw [w_u64 b0 (by omega)]
  have e1 : shlI .u64 n 8 = n * 256 := by
    unfold shlI
    show IntKind.u64.wrap (n * 2 ^ 8) = _
    rw [w_u64 (by omega) (by omega)]; omega
  rw [e1]
  obtain ⟨N, rfl⟩ := Int.eq_ofNat_of_zero_le h0
  obtain ⟨B, rfl⟩ := Int.eq_ofNat_of_zero_le b0
  unfold orI
  show IntKind.u64.wrap (((BitVec.ofInt 64 ((N : Int) * 256)) ||| (BitVec.ofInt 64 (B : Int))).toNat : Int) = _
  have e2 : (BitVec.ofInt 64 ((N : Int) * 256)).toNat = N * 256 := by
    rw [show ((N : Int) * 256) = ((N * 256 : Nat) : Int) by omega, BitVec.ofInt_natCast, BitVec.toNat_ofNat]
    exact Nat.mod_eq_of_lt (by omega)
  have e3 : (BitVec.ofInt 64 (B : Int)).toNat = B := by
    rw [BitVec.ofInt_natCast, BitVec.toNat_ofNat]
    exact Nat.mod_eq_of_lt (by omega)
  rw [BitVec.toNat_or, e2, e3]
  have e4 : N * 256 ||| B = N * 256 + B := by
    have := Nat.shiftLeft_add_eq_or_of_lt (a := N) (b := B) (i := 8) (by omega)
    rw [Nat.shiftLeft_eq] at this
    exact this.symm
  rw [e4, w_u64 (by omega) (by omega)]
  omega

/-! ### a number as bytes -/
def top : Int := 4611686018427387903
def cap62 (n : Int) : Int := if top < n then top else n
/-- A number that is no greater than the greatest as bytes. -/
def numC (k : Int) : List Int :=
  if k < 64 then [k]
  else if k < 16384 then [64 + k / 256, k % 256]
  else if k < 1073741824 then [128 + k / 256 / 256 / 256, k / 256 / 256 % 256, k / 256 % 256, k % 256]
  else [192 + k / 256 / 256 / 256 / 256 / 256 / 256 / 256, k / 256 / 256 / 256 / 256 / 256 / 256 % 256, k / 256 / 256 / 256 / 256 / 256 % 256, k / 256 / 256 / 256 / 256 % 256, k / 256 / 256 / 256 % 256, k / 256 / 256 % 256, k / 256 % 256, k % 256]
def numB (n : Int) : List Int := numC (cap62 n)
theorem cap62_le {n : Int} (h : 0 ≤ n) : 0 ≤ cap62 n ∧ cap62 n ≤ top := by
  unfold cap62 top
  split <;> constructor <;> (try unfold top at *) <;> omega
theorem numC_len (k : Int) : (numC k).length ≤ 8 ∧ 1 ≤ (numC k).length := by
  unfold numC
  split
  · simp
  split
  · simp
  split <;> simp
theorem numB_len (n : Int) : (numB n).length ≤ 8 ∧ 1 ≤ (numB n).length := numC_len _
theorem numC_ok {k : Int} (h0 : 0 ≤ k) (h1 : k ≤ top) : okB (numC k) := by
  unfold top at h1
  unfold numC okB
  intro x hx
  split at hx
  · simp at hx; omega
  split at hx
  · simp at hx; omega
  split at hx
  · simp at hx; omega
  · simp at hx
    have q : 0 ≤ k / 256 / 256 / 256 / 256 / 256 / 256 / 256 ∧ k / 256 / 256 / 256 / 256 / 256 / 256 / 256 < 64 := by omega
    rcases hx with h | h | h | h | h | h | h | h
    · omega
    all_goals
      subst h
      omega
theorem numB_ok {n : Int} (h0 : 0 ≤ n) : okB (numB n) := numC_ok (cap62_le h0).1 (cap62_le h0).2
theorem wnum_eq (b : List Int) (n : Int) (h0 : 0 ≤ n) (hb : b.length ≤ 274877900000) : f_wire_Num b n = some (b ++ numB n) := by
  have hc := cap62_le h0
  unfold f_wire_Num numB
  rw [show (if (4611686018427387903 : Int) < n then (4611686018427387903 : Int) else n) = cap62 n from rfl]
  generalize cap62 n = k at hc
  unfold top at hc
  unfold numC
  by_cases h1 : k < 64
  · rw [if_pos (decide_eq_true h1), if_pos h1, grd_t (by simp; omega), w_u8 (by omega) (by omega)]
  rw [if_neg (fun q => h1 (of_decide_eq_true q)), if_neg h1]
  have m0 : IntKind.u8.wrap k = k % 256 := u8_mod k
  by_cases h2 : k < 16384
  · have e1 : IntKind.u8.wrap (shrI .u64 k 8) = k / 256 := by rw [s8, w_u8 (by omega) (by omega)]
    rw [if_pos (decide_eq_true h2), if_pos h2, grd_t (by simp; omega), e1, m0, (or64 (x := k / 256) (by omega) (by omega)).1]
  rw [if_neg (fun q => h2 (of_decide_eq_true q)), if_neg h2]
  by_cases h3 : k < 1073741824
  · have e1 : IntKind.u8.wrap (shrI .u64 k 24) = k / 256 / 256 / 256 := by rw [s24, w_u8 (by omega) (by omega)]
    rw [if_pos (decide_eq_true h3), if_pos h3, grd_t (by simp; omega), e1, m0, s16, s8, u8_mod, u8_mod, (or64 (x := k / 256 / 256 / 256) (by omega) (by omega)).2.1]
  · have e1 : IntKind.u8.wrap (shrI .u64 k 56) = k / 256 / 256 / 256 / 256 / 256 / 256 / 256 := by rw [s56, w_u8 (by omega) (by omega)]
    rw [if_neg (fun q => h3 (of_decide_eq_true q)), if_neg h3, grd_t (by simp; omega), e1, m0, s48, s40, s32, s24, s16, s8, u8_mod, u8_mod, u8_mod, u8_mod, u8_mod, u8_mod,
      (or64 (x := k / 256 / 256 / 256 / 256 / 256 / 256 / 256) (by omega) (by omega)).2.2]
def intB (n : Int) : List Int := numB (if n < 0 then 0 else n)
theorem intB_len (n : Int) : (intB n).length ≤ 8 ∧ 1 ≤ (intB n).length := numB_len _
theorem intB_ok (n : Int) : okB (intB n) := numB_ok (by split <;> omega)
theorem wint_eq (b : List Int) (n : Int) (hn : n ≤ 9223372036854775807) (hb : b.length ≤ 274877900000) : f_wire_Int b n = some (b ++ intB n) := by
  unfold f_wire_Int intB
  have h : 0 ≤ (if n < 0 then (0 : Int) else n) ∧ (if n < 0 then (0 : Int) else n) ≤ 9223372036854775807 := by split <;> omega
  rw [w_u64 h.1 (by omega), wnum_eq b _ h.1 hb]
  rfl
def flagB (is : Bool) : List Int := if is = true then [1] else [0]
theorem wflag_eq (b : List Int) (is : Bool) (hb : b.length ≤ 274877900000) : f_wire_Flag b is = some (b ++ flagB is) := by
  unfold f_wire_Flag flagB
  cases is
  · rw [if_neg (by decide), grd_t (by simp only [List.length_singleton]; omega)]; rfl
  · rw [if_pos rfl, grd_t (by simp only [List.length_singleton]; omega)]; rfl
def textB (s : List Int) : List Int := intB (s.length : Int) ++ s
theorem wtext_eq (b s : List Int) (hb : b.length + s.length ≤ 274877800000) : f_wire_Text b s = some (b ++ textB s) := by
  unfold f_wire_Text textB
  rw [wint_eq b _ (by omega) (by omega)]
  simp only [Option.bind_some]
  have := intB_len (s.length : Int)
  rw [grd_t (by simp; omega), List.append_assoc]
def intsB (l : List Int) : List Int := (l.map intB).flatten
theorem intsB_cons (x : Int) (l : List Int) : intsB (x :: l) = intB x ++ intsB l := rfl
def rowB (l : List Int) : List Int := intB (l.length : Int) ++ intsB l
theorem intsB_len : ∀ (l : List Int), (intsB l).length ≤ 8 * l.length
  | [] => by simp [intsB]
  | x :: l => by
    have h1 := intsB_len l
    have h2 := (intB_len x).1
    simp only [intsB, List.map_cons, List.flatten_cons, List.length_append, List.length_cons] at *
    omega
theorem wrow_loop (l : List Int) (hl : ∀ x ∈ l, x ≤ 9223372036854775807) (hn : l.length ≤ 1000000) : ∀ (d i : Nat) (b : List Int), i + d = l.length → b.length + 8 * d ≤ 274877900000 →
    iter (f_wire_Row_l0 l) (b, (i : Int)) = some (b ++ intsB (l.drop i))
  | 0, i, b, hi, hb => by
    rw [List.drop_of_length_le (by omega)]
    refine iter_stop ?_
    unfold f_wire_Row_l0
    simp only
    rw [if_neg (fun q => absurd (of_decide_eq_true q) (by omega))]
    simp [intsB]
  | d + 1, i, b, hi, hb => by
    have hlt : i < l.length := by omega
    have hstep : f_wire_Row_l0 l (b, (i : Int)) = some (.inl (b ++ intB l[i], ((i + 1 : Nat) : Int))) := by
      unfold f_wire_Row_l0
      simp only
      rw [if_pos (decide_eq_true (by omega)), grd_t ⟨by omega, by omega⟩, rdn hlt, wint_eq _ _ (hl _ (List.getElem_mem hlt)) (by omega), w_i64 (by omega) (by omega)]
      rfl
    rw [iter_next hstep, wrow_loop l hl hn d (i + 1) _ (by omega) (by have := (intB_len l[i]).1; simp; omega), List.drop_eq_getElem_cons hlt, intsB_cons, List.append_assoc]
theorem wrow_eq (b l : List Int) (hl : ∀ x ∈ l, x ≤ 9223372036854775807) (hn : l.length ≤ 1000000) (hb : b.length ≤ 274800000000) : f_wire_Row b l = some (b ++ rowB l) := by
  unfold f_wire_Row rowB
  rw [wint_eq b _ (by omega) (by omega)]
  simp only [Option.bind_some]
  have h := wrow_loop l hl hn l.length 0 (b ++ intB (l.length : Int)) (by omega) (by have := (intB_len (l.length : Int)).1; simp; omega)
  rw [show ((0 : Nat) : Int) = 0 from rfl] at h
  rw [h]
  simp
end Go.Proofs.YtdlilclopmhiaaaDoor.G
