/- Chapter 2, on: what the reader reads. No condition. -/
import Derived.Test.YtdlilclopmhiaaaDoorLWire2
set_option linter.unusedSimpArgs false
set_option linter.unusedVariables false
namespace Go.Proofs.YtdlilclopmhiaaaDoor.G
open Go Go.KK

abbrev RdT := T_wire_Reader
theorem fail_nil (b : List Int) (a : Int) (o : ByteArray) (at_ c : Int) : f_wire_Reader_fail ⟨b, a, .nil⟩ o at_ c = some (.fault o at_ (.code c)) := rfl
theorem fail_bad (b : List Int) (a : Int) (e : GErr) (h : e.isNil = false) (o : ByteArray) (at_ c : Int) : f_wire_Reader_fail ⟨b, a, e⟩ o at_ c = some e := by
  unfold f_wire_Reader_fail
  simp only [h]
  rfl
theorem next1 {b : List Int} (hb : okB b) {a i : Nat} (h : a + (i + 1) < b.length) (hi : i ≤ 6) (hl : b.length ≤ 1000000000000) : f_wire_Reader_Num_1 (accN b a i) (b.drop a) ((i + 1 : Nat) : Int) = some (accN b a (i + 1), ((i + 2 : Nat) : Int)) := by
  have hb1 := accN_bnd (a := a) hb i (by omega)
  have hb2 := capN_le6 ⟨i, by omega⟩
  have hb3 := hb.at (i := a + (i + 1)) h
  simp only at hb2
  unfold f_wire_Reader_Num_1
  rw [grd_t ⟨by omega, by simp; omega⟩, rd_drop, next8 (by omega) (by omega) hb3.1 hb3.2, w_i64 (by omega) (by omega)]
  rfl
theorem shl_head {h : Int} (h0 : 0 ≤ h) (h1 : h ≤ 255) : shlI .i64 1 (shrI .u8 h 6) = ((headK h : Nat) : Int) := by
  rw [(head_eq h0 h1).2]
  have hq : h / 64 = 0 ∨ h / 64 = 1 ∨ h / 64 = 2 ∨ h / 64 = 3 := by omega
  unfold headK
  rcases hq with q | q | q | q <;> rw [q]
  · exact shl_tab.1
  · exact shl_tab.2.1
  · exact shl_tab.2.2.1
  · exact shl_tab.2.2.2
theorem headK_cases (h : Int) : headK h = 1 ∨ headK h = 2 ∨ headK h = 4 ∨ headK h = 8 := by
  unfold headK
  split
  · simp
  split
  · simp
  split <;> simp
def leastK (k : Nat) : Int := if k = 8 then 1073741824 else if k = 4 then 16384 else if k = 2 then 64 else 0
/-- What a reader's number comes to: it, where the reader is then, what is wrong. -/
def numP (b : List Int) (a : Nat) (most : Int) : Int × Int × GErr :=
  match numR b a most with
  | .inl c => (0, (a : Int), .fault numOp (a : Int) (.code c))
  | .inr (n, a') => (n, (a' : Int), .nil)
theorem wnum_tail (b : List Int) (a k : Nat) (most n : Int) (hk : k = 1 ∨ k = 2 ∨ k = 4 ∨ k = 8) (hn : 0 ≤ n) (hc : n ≤ capN (k - 1)) (ha : a + k ≤ b.length) (hl : b.length ≤ 1000000000000) :
    (if (decide (n < leastK k)) = true then ((f_wire_Reader_fail ⟨b, (a : Int), .nil⟩ numOp (a : Int) 5).bind fun (r103 : GErr) => (some ((0 : Int), (a : Int), r103))) else (if (decide (most < n)) = true then ((f_wire_Reader_fail ⟨b, (a : Int), .nil⟩ numOp (a : Int) 6).bind fun (r108 : GErr) => (some ((0 : Int), (a : Int), r108))) else (some (n, IntKind.i64.wrap ((a : Int) + (k : Int)), GErr.nil)))) =
    some (match (if sizeK n ≠ k then Sum.inl 5 else if most < n then Sum.inl 6 else Sum.inr (n, a + k) : Int ⊕ (Int × Nat)) with
      | .inl c => (0, (a : Int), .fault numOp (a : Int) (.code c))
      | .inr (n, a') => (n, (a' : Int), .nil)) := by
  have hs : (n < leastK k) ↔ sizeK n ≠ k := by
    unfold leastK sizeK
    rcases hk with rfl | rfl | rfl | rfl
    · have : capN (1 - 1) = 63 := rfl
      simp; omega
    · have : capN (2 - 1) = 16383 := rfl
      simp
      constructor
      · intro h; rw [if_pos h]; decide
      · intro h
        by_cases g : n < 64
        · exact g
        · rw [if_neg g, if_pos (by omega)] at h; exact absurd rfl h
    · have : capN (4 - 1) = 1073741823 := rfl
      simp
      constructor
      · intro h
        by_cases g : n < 64
        · rw [if_pos g]; decide
        · rw [if_neg g, if_pos h]; decide
      · intro h
        by_cases g : n < 16384
        · exact g
        · rw [if_neg (by omega), if_neg g, if_pos (by omega)] at h; exact absurd rfl h
    · simp
      constructor
      · intro h
        by_cases g : n < 64
        · rw [if_pos g]; decide
        · rw [if_neg g]
          by_cases g2 : n < 16384
          · rw [if_pos g2]; decide
          · rw [if_neg g2, if_pos h]; decide
      · intro h
        by_cases g : n < 1073741824
        · exact g
        · rw [if_neg (by omega), if_neg (by omega), if_neg g] at h; exact absurd rfl h
  have hk8 : k ≤ 8 := by omega
  by_cases g3 : sizeK n ≠ k
  · rw [if_pos (decide_eq_true (hs.2 g3)), if_pos g3]; rfl
  · rw [if_neg (fun q => g3 (hs.1 (of_decide_eq_true q))), if_neg g3]
    by_cases g4 : most < n
    · rw [if_pos (decide_eq_true g4), if_pos g4]; rfl
    · rw [if_neg (fun q => g4 (of_decide_eq_true q)), if_neg g4, w_i64 (by omega) (by omega)]; rfl
theorem wnum_read {b : List Int} (hb : okB b) (hl : b.length ≤ 1000000000000) {a : Nat} (ha : a ≤ b.length) (most : Int) : f_wire_Reader_Num ⟨b, (a : Int), .nil⟩ most = some (numP b a most) := by
  unfold f_wire_Reader_Num numP numR
  simp only [sub_end]
  rw [if_neg (show ¬ ((!GErr.isNil GErr.nil) = true) from by decide), grd_t ⟨by omega, by omega, by omega⟩]
  by_cases g1 : b.length ≤ a
  · rw [if_pos (decide_eq_true (by simp; omega)), if_pos g1]; rfl
  have hB := hb.at (i := a) (by omega)
  have e0 : rd (b.drop a) 0 = rd b (a : Int) := rd_drop b a 0
  have hK := headK_cases (rd b (a : Int))
  have eN : IntKind.u64.wrap (andI .u8 (rd b (a : Int)) 63) = accN b a 0 := by
    rw [(head_eq hB.1 hB.2).1, w_u64 (by omega) (by omega)]; rfl
  have hsh : 0 ≤ shrI .u8 (rd b (a : Int)) 6 := by rw [(head_eq hB.1 hB.2).2]; omega
  rw [if_neg (fun q => absurd (of_decide_eq_true q) (by simp; omega)), if_neg g1, grd_t ⟨by omega, by simp; omega⟩]
  simp only [e0, shl_head hB.1 hB.2, eN]
  rw [grd_t hsh]
  generalize hkk : headK (rd b (a : Int)) = k at hK
  by_cases g2 : b.length < a + k
  · rw [if_pos (decide_eq_true (by simp; omega)), if_pos g2]; rfl
  rw [if_neg (fun q => absurd (of_decide_eq_true q) (by simp; omega)), if_neg g2, grd_t ⟨by omega, by simp; omega⟩]
  have hbn : 0 ≤ accN b a (k - 1) ∧ accN b a (k - 1) ≤ capN (k - 1) := accN_bnd hb (k - 1) (by omega)
  have tail := wnum_tail b a k most (accN b a (k - 1)) hK hbn.1 hbn.2 (by omega) hl
  rcases hK with rfl | rfl | rfl | rfl
  · rw [if_neg (by decide), if_neg (by decide), if_neg (by decide)]
    exact tail
  · have n1 : f_wire_Reader_Num_1 (accN b a 0) (b.drop a) 1 = some (accN b a 1, 2) := next1 hb (i := 0) (by omega) (by decide) hl
    rw [if_neg (by decide), if_neg (by decide), if_pos (by decide)]
    simp only [Option.bind_some, Sum.elim_inl, Sum.elim_inr, n1]
    exact tail
  · have n1 : f_wire_Reader_Num_1 (accN b a 0) (b.drop a) 1 = some (accN b a 1, 2) := next1 hb (i := 0) (by omega) (by decide) hl
    have n2 : f_wire_Reader_Num_1 (accN b a 1) (b.drop a) 2 = some (accN b a 2, 3) := next1 hb (i := 1) (by omega) (by decide) hl
    have n3 : f_wire_Reader_Num_1 (accN b a 2) (b.drop a) 3 = some (accN b a 3, 4) := next1 hb (i := 2) (by omega) (by decide) hl
    rw [if_neg (by decide), if_pos (by decide)]
    simp only [Option.bind_some, Sum.elim_inl, Sum.elim_inr, n1, n2, n3]
    exact tail
  · have n1 : f_wire_Reader_Num_1 (accN b a 0) (b.drop a) 1 = some (accN b a 1, 2) := next1 hb (i := 0) (by omega) (by decide) hl
    have n2 : f_wire_Reader_Num_1 (accN b a 1) (b.drop a) 2 = some (accN b a 2, 3) := next1 hb (i := 1) (by omega) (by decide) hl
    have n3 : f_wire_Reader_Num_1 (accN b a 2) (b.drop a) 3 = some (accN b a 3, 4) := next1 hb (i := 2) (by omega) (by decide) hl
    have n4 : f_wire_Reader_Num_1 (accN b a 3) (b.drop a) 4 = some (accN b a 4, 5) := next1 hb (i := 3) (by omega) (by decide) hl
    have n5 : f_wire_Reader_Num_1 (accN b a 4) (b.drop a) 5 = some (accN b a 5, 6) := next1 hb (i := 4) (by omega) (by decide) hl
    have n6 : f_wire_Reader_Num_1 (accN b a 5) (b.drop a) 6 = some (accN b a 6, 7) := next1 hb (i := 5) (by omega) (by decide) hl
    have n7 : f_wire_Reader_Num_1 (accN b a 6) (b.drop a) 7 = some (accN b a 7, 8) := next1 hb (i := 6) (by omega) (by decide) hl
    rw [if_pos (by decide)]
    simp only [Option.bind_some, Sum.elim_inl, Sum.elim_inr, n1, n2, n3, n4, n5, n6, n7]
    exact tail
theorem wnum_bad {b : List Int} {a : Int} {e : GErr} (h : e.isNil = false) (most : Int) : f_wire_Reader_Num ⟨b, a, e⟩ most = some (0, a, e) := by
  unfold f_wire_Reader_Num
  rw [if_pos (by simp [h])]
theorem numR_ok {b : List Int} (hb : okB b) {a : Nat} {most n : Int} {a' : Nat} (h : numR b a most = .inr (n, a')) : 0 ≤ n ∧ n ≤ top ∧ n ≤ most ∧ a < a' ∧ a' ≤ b.length ∧ a' ≤ a + 8 := by
  unfold numR at h
  have hk := headK_le (rd b (a : Int))
  split at h
  · cases h
  split at h
  · cases h
  split at h
  · cases h
  split at h
  · cases h
  · cases h
    have h1 := accN_bnd (a := a) hb (headK (rd b (a : Int)) - 1) (by omega)
    have h2 := capN_le ⟨headK (rd b (a : Int)) - 1, by omega⟩
    simp only at h2
    exact ⟨h1.1, by omega, by omega, by omega, by omega, by omega⟩
theorem numR_code {b : List Int} {a : Nat} {most c : Int} (h : numR b a most = .inl c) : c = 3 ∨ c = 5 ∨ c = 6 := by
  unfold numR at h
  split at h
  · cases h; simp
  split at h
  · cases h; simp
  split at h
  · cases h; simp
  split at h
  · cases h; simp
  · cases h
def pos0 (n : Int) : Int := if n < 0 then 0 else n
theorem wint_read {b : List Int} (hb : okB b) (hl : b.length ≤ 1000000000000) {a : Nat} (ha : a ≤ b.length) {most : Int} (hm : most ≤ 9223372036854775807) : f_wire_Reader_Int ⟨b, (a : Int), .nil⟩ most = some (numP b a (pos0 most)) := by
  unfold f_wire_Reader_Int
  have hp : 0 ≤ pos0 most ∧ pos0 most ≤ 9223372036854775807 := by unfold pos0; split <;> omega
  rw [show (if most < (0 : Int) then (0 : Int) else most) = pos0 most from rfl, w_u64 hp.1 (by omega), wnum_read hb hl ha]
  simp only [Option.bind_some]
  unfold numP
  cases h : numR b a (pos0 most) with
  | inl c => rfl
  | inr x =>
    obtain ⟨n, a'⟩ := x
    have := numR_ok hb h
    unfold top at this
    simp only
    rw [w_i64 (by omega) (by omega)]
theorem wint_bad {b : List Int} {a : Int} {e : GErr} (h : e.isNil = false) (most : Int) : f_wire_Reader_Int ⟨b, a, e⟩ most = some (0, a, e) := by
  unfold f_wire_Reader_Int
  rw [wnum_bad h]; rfl
end Go.Proofs.YtdlilclopmhiaaaDoor.G
