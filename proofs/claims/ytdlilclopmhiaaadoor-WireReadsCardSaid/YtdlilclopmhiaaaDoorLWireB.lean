/- Chapter 2: what is written is read as what it was; a number that is read was written in just that way. No condition. -/
import Derived.Test.YtdlilclopmhiaaaDoorLWire4
set_option linter.unusedSimpArgs false
set_option linter.unusedVariables false
namespace Go.Proofs.YtdlilclopmhiaaaDoor.G
open Go Go.KK

/-! ### what is read was written just so -/
theorem take_rd (b : List Int) (a : Nat) : ∀ k, a + k ≤ b.length → (b.drop a).take k = (List.range k).map fun (i : Nat) => rd b ((a + i : Nat) : Int)
  | 0, _ => by simp
  | k + 1, h => by
    have hlt : k < (b.drop a).length := by simp; omega
    rw [List.take_succ_eq_append_getElem hlt, take_rd b a k (by omega), List.range_succ, List.map_append]
    congr 1
    simp only [List.map_cons, List.map_nil]
    rw [rdn (show a + k < b.length by omega)]
    simp
theorem acc_div {b : List Int} (hb : okB b) {a i : Nat} (h : a + (i + 1) < b.length) : accN b a (i + 1) / 256 = accN b a i ∧ accN b a (i + 1) % 256 = rd b ((a + (i + 1) : Nat) : Int) := by
  have h2 := hb.at (i := a + (i + 1)) h
  simp only [accN]
  constructor <;> omega
theorem num_once {b : List Int} (hb : okB b) {a : Nat} {most n : Int} {a' : Nat} (h : numR b a most = .inr (n, a')) : numB n = (b.drop a).take (a' - a) ∧ a' = a + (numB n).length := by
  have hn := numR_ok hb h
  have hcap : cap62 n = n := by unfold cap62; rw [if_neg (by omega)]
  unfold numB
  rw [hcap]
  unfold numR at h
  split at h
  · cases h
  rename_i g1
  split at h
  · cases h
  rename_i g2
  split at h
  · cases h
  rename_i g3
  split at h
  · cases h
  rename_i g4
  have hh := hb.at (i := a) (by omega)
  have hq : rd b (a : Int) / 64 = 0 ∨ rd b (a : Int) / 64 = 1 ∨ rd b (a : Int) / 64 = 2 ∨ rd b (a : Int) / 64 = 3 := by omega
  have hd0 : accN b a 0 = rd b (a : Int) % 64 := rfl
  have g3 : sizeK (accN b a (headK (rd b (a : Int)) - 1)) = headK (rd b (a : Int)) := Classical.byContradiction g3
  have key : ∀ k, headK (rd b (a : Int)) = k → a + k ≤ b.length ∧ n = accN b a (k - 1) ∧ a' = a + k ∧ sizeK (accN b a (k - 1)) = k := by
    intro k hk
    rw [hk] at g2 g3 h
    cases h
    exact ⟨by omega, rfl, rfl, g3⟩
  rcases hq with q | q | q | q
  · obtain ⟨k1, rfl, rfl, k4⟩ := key 1 (by unfold headK; rw [if_pos q])
    have e : numC (accN b a 0) = [rd b (a : Int)] := by
      unfold numC
      rw [if_pos (by omega), hd0]
      congr 1
      omega
    show numC (accN b a 0) = _ ∧ _
    rw [e, show a + 1 - a = 1 by omega, take_rd b a 1 k1]
    exact ⟨rfl, rfl⟩
  · obtain ⟨k1, rfl, rfl, k4⟩ := key 2 (by unfold headK; rw [if_neg (by omega), if_pos q])
    have d1 := acc_div hb (a := a) (i := 0) (by omega)
    have e : numC (accN b a 1) = [rd b (a : Int), rd b ((a + 1 : Nat) : Int)] := by
      have k4' : sizeK (accN b a 1) = 2 := k4
      unfold sizeK at k4'
      unfold numC
      by_cases c1 : accN b a 1 < 64
      · rw [if_pos c1] at k4'; cases k4'
      rw [if_neg c1] at k4' ⊢
      by_cases c2 : accN b a 1 < 16384
      · rw [if_pos c2, d1.1, d1.2, hd0]
        congr 1
        omega
      · rw [if_neg c2] at k4'; split at k4' <;> cases k4'
    show numC (accN b a 1) = _ ∧ _
    rw [e, show a + 2 - a = 2 by omega, take_rd b a 2 k1]
    exact ⟨rfl, rfl⟩
  · obtain ⟨k1, rfl, rfl, k4⟩ := key 4 (by unfold headK; rw [if_neg (by omega), if_neg (by omega), if_pos q])
    have d1 := acc_div hb (a := a) (i := 0) (by omega)
    have d2 := acc_div hb (a := a) (i := 1) (by omega)
    have d3 := acc_div hb (a := a) (i := 2) (by omega)
    have e : numC (accN b a 3) = [rd b (a : Int), rd b ((a + 1 : Nat) : Int), rd b ((a + 2 : Nat) : Int), rd b ((a + 3 : Nat) : Int)] := by
      have k4' : sizeK (accN b a 3) = 4 := k4
      unfold sizeK at k4'
      unfold numC
      by_cases c1 : accN b a 3 < 64
      · rw [if_pos c1] at k4'; cases k4'
      rw [if_neg c1] at k4' ⊢
      by_cases c2 : accN b a 3 < 16384
      · rw [if_pos c2] at k4'; cases k4'
      rw [if_neg c2] at k4' ⊢
      by_cases c3 : accN b a 3 < 1073741824
      · rw [if_pos c3, d3.1, d3.2, d2.1, d2.2, d1.1, d1.2, hd0]
        congr 1
        omega
      · rw [if_neg c3] at k4'; cases k4'
    show numC (accN b a 3) = _ ∧ _
    rw [e, show a + 4 - a = 4 by omega, take_rd b a 4 k1]
    exact ⟨rfl, rfl⟩
  · obtain ⟨k1, rfl, rfl, k4⟩ := key 8 (by unfold headK; rw [if_neg (by omega), if_neg (by omega), if_neg (by omega)])
    have d1 := acc_div hb (a := a) (i := 0) (by omega)
    have d2 := acc_div hb (a := a) (i := 1) (by omega)
    have d3 := acc_div hb (a := a) (i := 2) (by omega)
    have d4 := acc_div hb (a := a) (i := 3) (by omega)
    have d5 := acc_div hb (a := a) (i := 4) (by omega)
    have d6 := acc_div hb (a := a) (i := 5) (by omega)
    have d7 := acc_div hb (a := a) (i := 6) (by omega)
    have e : numC (accN b a 7) = [rd b (a : Int), rd b ((a + 1 : Nat) : Int), rd b ((a + 2 : Nat) : Int), rd b ((a + 3 : Nat) : Int), rd b ((a + 4 : Nat) : Int), rd b ((a + 5 : Nat) : Int), rd b ((a + 6 : Nat) : Int), rd b ((a + 7 : Nat) : Int)] := by
      have k4' : sizeK (accN b a 7) = 8 := k4
      unfold sizeK at k4'
      unfold numC
      by_cases c1 : accN b a 7 < 64
      · rw [if_pos c1] at k4'; cases k4'
      rw [if_neg c1] at k4' ⊢
      by_cases c2 : accN b a 7 < 16384
      · rw [if_pos c2] at k4'; cases k4'
      rw [if_neg c2] at k4' ⊢
      by_cases c3 : accN b a 7 < 1073741824
      · rw [if_pos c3] at k4'; cases k4'
      rw [if_neg c3, d7.1, d7.2, d6.1, d6.2, d5.1, d5.2, d4.1, d4.2, d3.1, d3.2, d2.1, d2.2, d1.1, d1.2, hd0]
      congr 1
      omega
    show numC (accN b a 7) = _ ∧ _
    rw [e, show a + 8 - a = 8 by omega, take_rd b a 8 k1]
    exact ⟨rfl, rfl⟩

/-! ### what is written is read -/
theorem rd_mid (pre x post : List Int) {i : Nat} (hi : i < x.length) : rd (pre ++ (x ++ post)) ((pre.length + i : Nat) : Int) = rd x (i : Int) := by
  rw [rdn (show pre.length + i < (pre ++ (x ++ post)).length by simp; omega), rdn hi]
  rw [List.getElem_append_right (by omega)]
  simp only [Nat.add_sub_cancel_left]
  rw [List.getElem_append_left hi]
theorem rd_mid0 (pre x post : List Int) (hi : 0 < x.length) : rd (pre ++ (x ++ post)) (pre.length : Int) = rd x 0 := rd_mid pre x post hi
theorem num_back (pre post : List Int) {n most : Int} (h0 : 0 ≤ n) (h1 : n ≤ top) (hm : n ≤ most) : numR (pre ++ (numB n ++ post)) pre.length most = .inr (n, pre.length + (numB n).length) := by
  have hcap : cap62 n = n := by unfold cap62; rw [if_neg (by omega)]
  have e : numB n = numC n := by unfold numB; rw [hcap]
  rw [e]
  have ht := h1
  unfold top at ht
  have key : ∀ k, (numC n).length = k → headK (rd (numC n) 0) = k → sizeK n = k → 1 ≤ k → accN (pre ++ (numC n ++ post)) pre.length (k - 1) = n → numR (pre ++ (numC n ++ post)) pre.length most = .inr (n, pre.length + (numC n).length) := by
    intro k hk hh hs hk1 ha
    unfold numR
    rw [rd_mid0 pre (numC n) post (by omega), hh, ha, hs, hk, if_neg (by simp; omega), if_neg (by simp; omega), if_neg (by simp), if_neg (by omega)]
  by_cases c1 : n < 64
  · have ec : numC n = [n] := by unfold numC; rw [if_pos c1]
    refine key 1 (by rw [ec]; rfl) ?_ (by unfold sizeK; rw [if_pos c1]) (by decide) ?_
    · rw [ec]; show headK n = 1; unfold headK; rw [if_pos (by omega)]
    · show rd _ (pre.length : Int) % 64 = n
      rw [rd_mid0 pre (numC n) post (by rw [ec]; simp), ec]
      show n % 64 = n
      omega
  by_cases c2 : n < 16384
  · have ec : numC n = [64 + n / 256, n % 256] := by unfold numC; rw [if_neg c1, if_pos c2]
    refine key 2 (by rw [ec]; rfl) ?_ (by unfold sizeK; rw [if_neg c1, if_pos c2]) (by decide) ?_
    · rw [ec]; show headK (64 + n / 256) = 2; unfold headK; rw [if_neg (by omega), if_pos (by omega)]
    · show rd _ (pre.length : Int) % 64 * 256 + rd _ ((pre.length + 1 : Nat) : Int) = n
      rw [rd_mid0 pre (numC n) post (by rw [ec]; simp), rd_mid pre (numC n) post (i := 1) (by rw [ec]; simp), ec]
      show (64 + n / 256) % 64 * 256 + n % 256 = n
      omega
  by_cases c3 : n < 1073741824
  · have ec : numC n = [128 + n / 256 / 256 / 256, n / 256 / 256 % 256, n / 256 % 256, n % 256] := by unfold numC; rw [if_neg c1, if_neg c2, if_pos c3]
    refine key 4 (by rw [ec]; rfl) ?_ (by unfold sizeK; rw [if_neg c1, if_neg c2, if_pos c3]) (by decide) ?_
    · rw [ec]; show headK (128 + n / 256 / 256 / 256) = 4; unfold headK; rw [if_neg (by omega), if_neg (by omega), if_pos (by omega)]
    · show ((rd _ (pre.length : Int) % 64 * 256 + rd _ ((pre.length + 1 : Nat) : Int)) * 256 + rd _ ((pre.length + 2 : Nat) : Int)) * 256 + rd _ ((pre.length + 3 : Nat) : Int) = n
      rw [rd_mid0 pre (numC n) post (by rw [ec]; simp), rd_mid pre (numC n) post (i := 1) (by rw [ec]; simp), rd_mid pre (numC n) post (i := 2) (by rw [ec]; simp), rd_mid pre (numC n) post (i := 3) (by rw [ec]; simp), ec]
      show (((128 + n / 256 / 256 / 256) % 64 * 256 + n / 256 / 256 % 256) * 256 + n / 256 % 256) * 256 + n % 256 = n
      rw [show (128 + n / 256 / 256 / 256) % 64 = n / 256 / 256 / 256 by omega, show n / 256 / 256 / 256 * 256 + n / 256 / 256 % 256 = n / 256 / 256 by omega, show n / 256 / 256 * 256 + n / 256 % 256 = n / 256 by omega]
      omega
  · have ec : numC n = [192 + n / 256 / 256 / 256 / 256 / 256 / 256 / 256, n / 256 / 256 / 256 / 256 / 256 / 256 % 256, n / 256 / 256 / 256 / 256 / 256 % 256, n / 256 / 256 / 256 / 256 % 256, n / 256 / 256 / 256 % 256, n / 256 / 256 % 256, n / 256 % 256, n % 256] := by unfold numC; rw [if_neg c1, if_neg c2, if_neg c3]
    have hx : 0 ≤ n / 256 / 256 / 256 / 256 / 256 / 256 / 256 ∧ n / 256 / 256 / 256 / 256 / 256 / 256 / 256 < 64 := by omega
    refine key 8 (by rw [ec]; rfl) ?_ (by unfold sizeK; rw [if_neg c1, if_neg c2, if_neg c3]) (by decide) ?_
    · rw [ec]; show headK (192 + n / 256 / 256 / 256 / 256 / 256 / 256 / 256) = 8; unfold headK
      generalize n / 256 / 256 / 256 / 256 / 256 / 256 / 256 = x at hx
      rw [if_neg (by omega), if_neg (by omega), if_neg (by omega)]
    · show ((((((rd _ (pre.length : Int) % 64 * 256 + rd _ ((pre.length + 1 : Nat) : Int)) * 256 + rd _ ((pre.length + 2 : Nat) : Int)) * 256 + rd _ ((pre.length + 3 : Nat) : Int)) * 256 + rd _ ((pre.length + 4 : Nat) : Int)) * 256 + rd _ ((pre.length + 5 : Nat) : Int)) * 256 + rd _ ((pre.length + 6 : Nat) : Int)) * 256 + rd _ ((pre.length + 7 : Nat) : Int) = n
      rw [rd_mid0 pre (numC n) post (by rw [ec]; simp), rd_mid pre (numC n) post (i := 1) (by rw [ec]; simp), rd_mid pre (numC n) post (i := 2) (by rw [ec]; simp), rd_mid pre (numC n) post (i := 3) (by rw [ec]; simp), rd_mid pre (numC n) post (i := 4) (by rw [ec]; simp), rd_mid pre (numC n) post (i := 5) (by rw [ec]; simp), rd_mid pre (numC n) post (i := 6) (by rw [ec]; simp), rd_mid pre (numC n) post (i := 7) (by rw [ec]; simp), ec]
      show (((((((192 + n / 256 / 256 / 256 / 256 / 256 / 256 / 256) % 64 * 256 + n / 256 / 256 / 256 / 256 / 256 / 256 % 256) * 256 + n / 256 / 256 / 256 / 256 / 256 % 256) * 256 + n / 256 / 256 / 256 / 256 % 256) * 256 + n / 256 / 256 / 256 % 256) * 256 + n / 256 / 256 % 256) * 256 + n / 256 % 256) * 256 + n % 256 = n
      have dm : ∀ x : Int, x / 256 * 256 + x % 256 = x := fun x => by omega
      have h64 : (192 + n / 256 / 256 / 256 / 256 / 256 / 256 / 256) % 64 = n / 256 / 256 / 256 / 256 / 256 / 256 / 256 := by
        generalize n / 256 / 256 / 256 / 256 / 256 / 256 / 256 = x at hx
        omega
      rw [h64, dm, dm, dm, dm, dm, dm, dm]
theorem int_back (pre post : List Int) {n most : Int} (h0 : 0 ≤ n) (h1 : n ≤ top) (hm : n ≤ most) : numR (pre ++ (intB n ++ post)) pre.length most = .inr (n, pre.length + (intB n).length) := by
  unfold intB
  rw [if_neg (by omega)]
  exact num_back pre post h0 h1 hm
theorem flag_back (pre post : List Int) (is : Bool) : flagR (pre ++ (flagB is ++ post)) pre.length = .inr (is, pre.length + (flagB is).length) := by
  unfold flagR
  have hl : (flagB is).length = 1 := by cases is <;> rfl
  rw [rd_mid0 pre (flagB is) post (by omega), if_neg (by simp; omega)]
  cases is <;> rfl
theorem text_back (pre post s : List Int) {most : Int} (hm : (s.length : Int) ≤ most) (hs : s.length ≤ 1000000000) : textR (pre ++ (textB s ++ post)) pre.length most = .inr (s, pre.length + (textB s).length) := by
  unfold textR textB
  have hp : pos0 most = most := by unfold pos0; rw [if_neg (by omega)]
  have e : pre ++ (intB (s.length : Int) ++ s ++ post) = pre ++ (intB (s.length : Int) ++ (s ++ post)) := by simp
  rw [e, hp, int_back pre (s ++ post) (by omega) (by unfold top; omega) hm]
  simp only
  rw [if_neg (by simp; omega)]
  congr 2
  · rw [show ((s.length : Int)).toNat = s.length by omega, ← List.append_assoc, show pre.length + (intB (s.length : Int)).length = (pre ++ intB (s.length : Int)).length by simp, List.drop_left, List.take_left]
  · simp; omega
theorem ints_back {each : Int} (he : each ≤ top) : ∀ (l pre post acc : List Int), (∀ x ∈ l, 0 ≤ x ∧ x ≤ each) → rowG (pre ++ (intsB l ++ post)) each l.length pre.length acc = .inr (acc ++ l, pre.length + (intsB l).length)
  | [], pre, post, acc, _ => by simp [rowG, intsB]
  | x :: l, pre, post, acc, h => by
    have hx := h x (by simp)
    have hp : pos0 each = each := by unfold pos0; rw [if_neg (by omega)]
    have e : pre ++ (intsB (x :: l) ++ post) = pre ++ (intB x ++ (intsB l ++ post)) := by rw [intsB_cons]; simp
    rw [e, List.length_cons]
    unfold rowG
    rw [hp, int_back pre (intsB l ++ post) hx.1 (by omega) hx.2]
    simp only
    have ih := ints_back he l (pre ++ intB x) post (acc ++ [x]) (fun y hy => h y (by simp [hy]))
    rw [show pre ++ (intB x ++ (intsB l ++ post)) = (pre ++ intB x) ++ (intsB l ++ post) by simp, show pre.length + (intB x).length = (pre ++ intB x).length by simp, ih, intsB_cons]
    simp
    omega
theorem row_back (pre post l : List Int) {many each : Int} (hm : (l.length : Int) ≤ many) (hl : l.length ≤ 1000000000) (he : each ≤ top) (h : ∀ x ∈ l, 0 ≤ x ∧ x ≤ each) : rowR (pre ++ (rowB l ++ post)) pre.length many each = .inr (l, pre.length + (rowB l).length) := by
  unfold rowR rowB
  have hp : pos0 many = many := by unfold pos0; rw [if_neg (by omega)]
  have e : pre ++ (intB (l.length : Int) ++ intsB l ++ post) = pre ++ (intB (l.length : Int) ++ (intsB l ++ post)) := by simp
  rw [e, hp, int_back pre (intsB l ++ post) (by omega) (by unfold top; omega) hm]
  simp only
  have := ints_back he l (pre ++ intB (l.length : Int)) post [] h
  rw [show ((l.length : Int)).toNat = l.length by omega, show pre ++ (intB (l.length : Int) ++ (intsB l ++ post)) = (pre ++ intB (l.length : Int)) ++ (intsB l ++ post) by simp, show pre.length + (intB (l.length : Int)).length = (pre ++ intB (l.length : Int)).length by simp, this]
  simp
  omega
end Go.Proofs.YtdlilclopmhiaaaDoor.G
