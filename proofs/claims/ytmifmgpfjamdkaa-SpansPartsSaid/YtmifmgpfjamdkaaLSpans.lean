/- The spans of chapter 13: what the printed functions compute, and the law SpansAsks on them. No condition. -/
import Derived.Test.YtmifmgpfjamdkaaS5
import Derived.Test.YtmifmgpfjamdkaaKArith
import Derived.KernelRfl
import Derived.OpenShut
set_option linter.unusedSimpArgs false
set_option linter.unusedVariables false
namespace Go.Proofs.Ytmifmgpfjamdkaa.G
open Go Go.KK

abbrev Span := T_api_Span
theorem rdn {α : Type} [Inhabited α] {xs : List α} {i : Nat} (h : i < xs.length) : rd xs (i : Int) = xs[i] := len_lt h
/-- k: how many are no greater than t. -/
structure isK (l : List Span) (t : Int) (k : Nat) : Prop where
  le : k ≤ l.length
  low : ∀ i (h : i < l.length), i < k → l[i].Term ≤ t
  high : ∀ i (h : i < l.length), k ≤ i → t < l[i].Term
def endAt (l : List Span) (k : Nat) (e : Int) : Int × Int × Bool :=
  if k = 0 then (0, 0, false) else if k = l.length then ((rd l ((k - 1 : Nat) : Int)).Term, e, true) else ((rd l ((k - 1 : Nat) : Int)).Term, (rd l (k : Int)).Start, true)
theorem mid_eq {i j : Nat} (h : i + j < 4611686018427387904) : IntKind.i64.wrap (shrI .u64 (IntKind.u64.wrap (IntKind.i64.wrap ((i : Int) + (j : Int)))) 1) = (((i + j) / 2 : Nat) : Int) := by
  rw [w_i64 (n := (i : Int) + j) (by omega) (by omega), w_u64 (by omega) (by omega)]
  have e : shrI .u64 ((i : Int) + j) 1 = (((i + j) / 2 : Nat) : Int) := by
    unfold shrI
    show ((i : Int) + j).fdiv (2 ^ (min (1 : Int).toNat 64)) = _
    rw [show min (1 : Int).toNat 64 = 1 from rfl, Int.fdiv_eq_ediv_of_nonneg _ (by decide)]
    omega
  rw [e, w_i64 (by omega) (by omega)]
theorem search_loop (l : List Span) (t : Int) (k : Nat) (hk : isK l t k) (hl : l.length ≤ 1000000000000000000) : ∀ (m i j : Nat), j - i ≤ m → i ≤ k → k ≤ j → j ≤ l.length →
    iter (f_slices_BinarySearchFunc_api_Span_api_Span_int_36_l0 l t) ((i : Int), (j : Int)) = some (k : Int)
  | m, i, j, hm, hik, hkj, hj => by
    by_cases hij : i < j
    · have hmid : (i + j) / 2 < l.length := by omega
      have hstep : f_slices_BinarySearchFunc_api_Span_api_Span_int_36_l0 l t ((i : Int), (j : Int)) = if (i + j) / 2 < k then some (.inl ((((i + j) / 2 + 1 : Nat) : Int), (j : Int))) else some (.inl ((i : Int), (((i + j) / 2 : Nat) : Int))) := by
        unfold f_slices_BinarySearchFunc_api_Span_api_Span_int_36_l0
        simp only
        rw [if_pos (by simp; omega), mid_eq (by omega), grd_t ⟨by omega, by omega⟩, rdn hmid, w_i64 (n := (((i + j) / 2 : Nat) : Int) + 1) (by omega) (by omega)]
        unfold f_spans_EndOf_1
        by_cases hlt : (i + j) / 2 < k
        · rw [if_pos (by simpa using hk.low _ hmid hlt), if_pos hlt]
          rfl
        · have := hk.high _ hmid (by omega)
          rw [if_neg (by simp; omega), if_neg hlt]
          rfl
      cases m with
      | zero => omega
      | succ m =>
        by_cases hlt : (i + j) / 2 < k
        · rw [if_pos hlt] at hstep
          rw [iter_next hstep]
          exact search_loop l t k hk hl m _ _ (by omega) (by omega) hkj hj
        · rw [if_neg hlt] at hstep
          rw [iter_next hstep]
          exact search_loop l t k hk hl m _ _ (by omega) hik (by omega) (by omega)
    · refine iter_stop ?_
      unfold f_slices_BinarySearchFunc_api_Span_api_Span_int_36_l0
      simp only
      rw [if_neg (by simp; omega), show i = k by omega]
theorem search_eq (l : List Span) (t : Int) (k : Nat) (hk : isK l t k) (hl : l.length ≤ 1000000000000000000) : ∃ b, f_slices_BinarySearchFunc_api_Span_api_Span_int_36 l t = some ((k : Int), b) := by
  unfold f_slices_BinarySearchFunc_api_Span_api_Span_int_36
  have h := search_loop l t k hk hl l.length 0 l.length (by omega) (by omega) hk.le (by omega)
  rw [show ((0 : Nat) : Int) = 0 from rfl] at h
  rw [h]
  simp only [Option.bind_some]
  by_cases hn : k < l.length
  · have hh := hk.high k hn (by omega)
    rw [if_pos (by simp; omega), grd_t ⟨by omega, by omega⟩, rdn hn]
    unfold f_spans_EndOf_1
    rw [if_neg (by simp; omega)]
    exact ⟨_, rfl⟩
  · rw [if_neg (by simp; omega)]
    exact ⟨_, rfl⟩
theorem endOf_eq (l : List Span) (t e : Int) (k : Nat) (hk : isK l t k) (hl : l.length ≤ 1000000000000000000) : f_spans_EndOf l t e = some (endAt l k e) := by
  obtain ⟨b, hb⟩ := search_eq l t k hk hl
  have hle := hk.le
  unfold f_spans_EndOf endAt
  rw [hb]
  simp only [Option.bind_some]
  by_cases h0 : k = 0
  · subst h0
    rw [if_pos (by simp), if_pos rfl]
  · have e1 : IntKind.i64.wrap ((k : Int) - 1) = ((k - 1 : Nat) : Int) := by rw [w_i64 (by omega) (by omega)]; omega
    rw [if_neg (by simp; omega), if_neg h0, e1]
    by_cases hn : k = l.length
    · rw [if_pos (by simp; omega), if_pos hn, grd_t ⟨by omega, by omega⟩]
    · rw [if_neg (by simp; omega), if_neg hn, grd_t ⟨by omega, by omega⟩, grd_t ⟨by omega, by omega⟩]
theorem refEnd_loop (l : List Span) (t e : Int) (k : Nat) (hk : isK l t k) (hl : l.length ≤ 1000000000000000000) : ∀ (m : Nat), k ≤ m → m ≤ l.length →
    iter (f_ref13_EndOf_l0 l t e) ((m : Int) - 1) = some (if k = 0 then Sum.inl () else Sum.inr ((endAt l k e).1, (endAt l k e).2.1))
  | 0, hm, hml => by
    refine iter_stop ?_
    have : k = 0 := by omega
    unfold f_ref13_EndOf_l0
    simp only
    rw [if_neg (by simp), if_pos this]
  | m + 1, hm, hml => by
    have hlt : m < l.length := by omega
    have e0 : ((m + 1 : Nat) : Int) - 1 = (m : Int) := by omega
    rw [e0]
    by_cases hkm : k ≤ m
    · have hh := hk.high m hlt hkm
      have hstep : f_ref13_EndOf_l0 l t e (m : Int) = some (.inl ((m : Int) - 1)) := by
        unfold f_ref13_EndOf_l0
        simp only
        rw [if_pos (by simp), grd_t ⟨by omega, by omega⟩, rdn hlt, if_pos (by simpa using hh), w_i64 (by omega) (by omega)]
      rw [iter_next hstep, refEnd_loop l t e k hk hl m hkm (by omega)]
    · have hkk : k = m + 1 := by omega
      have hh := hk.low m hlt (by omega)
      refine iter_stop ?_
      unfold f_ref13_EndOf_l0
      simp only
      rw [if_pos (by simp), grd_t ⟨by omega, by omega⟩, rdn hlt, if_neg (by simp; omega), w_i64 (n := (l.length : Int) - 1) (by omega) (by omega), if_neg (show ¬ k = 0 by omega)]
      unfold endAt
      rw [if_neg (show ¬ k = 0 by omega)]
      by_cases hn : m + 1 = l.length
      · rw [if_pos (decide_eq_true (by omega)), grd_t ⟨by omega, by omega⟩, if_pos (show k = l.length by omega), show k - 1 = m by omega, rdn hlt]
      · rw [if_neg (fun q => absurd (of_decide_eq_true q) (by omega)), grd_t ⟨by omega, by omega⟩, w_i64 (n := (m : Int) + 1) (by omega) (by omega), grd_t ⟨by omega, by omega⟩, if_neg (show ¬ k = l.length by omega), show k - 1 = m by omega, rdn hlt, hkk]
        rfl
theorem refEnd_eq (l : List Span) (t e : Int) (k : Nat) (hk : isK l t k) (hl : l.length ≤ 1000000000000000000) : f_ref13_EndOf l t e = some (endAt l k e) := by
  unfold f_ref13_EndOf
  rw [w_i64 (by omega) (by omega), refEnd_loop l t e k hk hl l.length hk.le (Nat.le_refl _)]
  by_cases h0 : k = 0
  · rw [if_pos h0]
    unfold endAt
    rw [if_pos h0]; rfl
  · rw [if_neg h0]
    have : (endAt l k e).2.2 = true := by
      unfold endAt
      rw [if_neg h0]; split <;> rfl
    simp only [Option.bind_some, Sum.elim_inr, ← this]
def firstOf (l : List Span) : Int := if l.length = 0 then 0 else (rd l 0).Start
theorem l0_eq (l : List Span) : f_spans_l0 l = some (0, firstOf l, true) := by
  unfold f_spans_l0 firstOf
  by_cases h : l.length = 0
  · rw [if_pos (decide_eq_true (by omega)), if_pos h]
  · rw [if_neg (fun q => absurd (of_decide_eq_true q) (by omega)), if_neg h, grd_t ⟨by omega, by omega⟩]
theorem first_eq (l : List Span) : f_ref13_first l = some (firstOf l) := by
  unfold f_ref13_first firstOf
  by_cases h : l.length = 0
  · rw [if_pos (decide_eq_true (by omega)), if_pos h]
  · rw [if_neg (fun q => absurd (of_decide_eq_true q) (by omega)), if_neg h, grd_t ⟨by omega, by omega⟩]
def parted (l : List Span) (k : Nat) (e last at_ : Int) : Int × Int × Bool :=
  if (endAt l k e).2.2 = false then (0, firstOf l, true) else if (endAt l k e).1 = last ∧ at_ ≤ (endAt l k e).2.1 then (0, 0, false) else ((endAt l k e).1, (endAt l k e).2.1, true)
theorem parted_eq (l : List Span) (t e a : Int) (k : Nat) (hk : isK l t k) (hl : l.length ≤ 1000000000000000000) : f_spans_Parted l e t a = some (parted l k e t a) ∧ f_ref13_Parted l e t a = some (parted l k e t a) := by
  unfold f_spans_Parted f_ref13_Parted parted
  rw [endOf_eq l t e k hk hl, refEnd_eq l t e k hk hl, l0_eq, first_eq]
  obtain ⟨x, y, z⟩ := endAt l k e
  simp only [Option.bind_some]
  cases z with
  | false => simp
  | true =>
    simp only [Bool.not_true, Bool.false_eq_true, if_false]
    by_cases h1 : x = t
    · by_cases h2 : a ≤ y
      · have h3 : ¬ y < a := by omega
        simp [h1, h2, h3]
      · have h3 : y < a := by omega
        simp [h1, h2, h3]
    · simp [h1]
def kept (l : List Span) (k : Nat) (e term upto : Int) : Int :=
  if (endAt l k e).2.2 = false then firstOf l else if (endAt l k e).1 = term ∧ upto < (endAt l k e).2.1 then upto else (endAt l k e).2.1
theorem keep_eq (l : List Span) (t e a : Int) (k : Nat) (hk : isK l t k) (hl : l.length ≤ 1000000000000000000) : f_spans_Keep l e t a = some (kept l k e t a) ∧ f_ref13_Keep l e t a = some (kept l k e t a) := by
  unfold f_spans_Keep f_ref13_Keep kept
  rw [endOf_eq l t e k hk hl, refEnd_eq l t e k hk hl, l0_eq, first_eq]
  obtain ⟨x, y, z⟩ := endAt l k e
  simp only [Option.bind_some]
  cases z with
  | false => simp
  | true =>
    simp only [Bool.not_true, Bool.false_eq_true, if_false]
    by_cases h1 : x = t
    · by_cases h2 : a < y
      · simp [h1, h2]
      · simp [h1, h2]
    · simp [h1]

/-! ### rising spans -/
def rises (l : List Span) (n : Nat) : Prop := ∀ i (h : i + 1 < l.length), i + 1 < n → l[i].Term < l[i + 1].Term
theorem rises_all {l : List Span} (h : rises l l.length) : ∀ (d i : Nat) (hj : i + d + 1 < l.length), l[i].Term < l[i + d + 1].Term
  | 0, i, hj => h i hj hj
  | d + 1, i, hj => by
    have h1 := rises_all h d i (by omega)
    have h2 := h (i + d + 1) (by omega) (by omega)
    have e : i + (d + 1) + 1 = i + d + 1 + 1 := by omega
    simp only [e]
    omega
theorem isK_exists {l : List Span} (h : rises l l.length) (t : Int) : ∃ k, isK l t k := by
  have key : ∀ m, m ≤ l.length → ∃ k, k ≤ m ∧ (∀ i (h : i < l.length), i < k → l[i].Term ≤ t) ∧ ∀ i (h : i < l.length), k ≤ i → i < m → t < l[i].Term := by
    intro m
    induction m with
    | zero => intro _; exact ⟨0, Nat.le_refl _, fun i _ hi => absurd hi (Nat.not_lt_zero _), fun i _ _ hi => absurd hi (Nat.not_lt_zero _)⟩
    | succ m ih =>
      intro hm
      obtain ⟨k, h1, h2, h3⟩ := ih (by omega)
      have hml : m < l.length := by omega
      by_cases ht : l[m].Term ≤ t
      · refine ⟨m + 1, Nat.le_refl _, fun i hi him => ?_, fun i hi h4 h5 => by omega⟩
        by_cases e : i = m
        · subst e; exact ht
        · have hr := rises_all h (m - i - 1) i (by omega)
          have e2 : i + (m - i - 1) + 1 = m := by omega
          simp only [e2] at hr
          omega
      · refine ⟨k, by omega, h2, fun i hi h4 h5 => ?_⟩
        by_cases e : i = m
        · subst e; omega
        · exact h3 i hi h4 (by omega)
  obtain ⟨k, h1, h2, h3⟩ := key l.length (Nat.le_refl _)
  exact ⟨k, h1, h2, fun i hi hk => h3 i hi hk hi⟩
theorem check_step (l : List Span) (hl : l.length ≤ 9223372036854775807) (i : Nat) (hlt : i < l.length) : f_ref13_Check_l0 l (i : Int) =
    if l[i].Term < 0 ∨ 1073741824 < l[i].Term ∨ l[i].Start < 0 ∨ 1073741824 < l[i].Start then some (.inr (.inr (2, (i : Int))))
    else if 0 < i ∧ (l[i].Term ≤ (rd l ((i - 1 : Nat) : Int)).Term ∨ l[i].Start ≤ (rd l ((i - 1 : Nat) : Int)).Start) then some (.inr (.inr (10, (i : Int)))) else some (.inl ((i + 1 : Nat) : Int)) := by
  have hG : (0 : Int) ≤ (i : Int) ∧ (i : Int) < (l.length : Int) := ⟨by omega, by omega⟩
  unfold f_ref13_Check_l0
  simp only
  rw [if_pos (decide_eq_true hG.2), w_i64 (n := (i : Int) + 1) (by omega) (by omega)]
  simp only [grd_t hG, rdn hlt]
  have e0 : ((i : Int) + 1) = ((i + 1 : Nat) : Int) := by omega
  rw [e0]
  by_cases b : l[i].Term < 0 ∨ 1073741824 < l[i].Term ∨ l[i].Start < 0 ∨ 1073741824 < l[i].Start
  · rw [if_pos b]
    by_cases b1 : l[i].Term < 0
    · simp [b1]
    by_cases b2 : 1073741824 < l[i].Term
    · simp [b1, b2]
    by_cases b3 : l[i].Start < 0
    · simp [b1, b2, b3]
    have b4 : 1073741824 < l[i].Start := by omega
    simp [b1, b2, b3, b4]
  · rw [if_neg b]
    have b1 : ¬ l[i].Term < 0 := by omega
    have b2 : ¬ 1073741824 < l[i].Term := by omega
    have b3 : ¬ l[i].Start < 0 := by omega
    have b4 : ¬ 1073741824 < l[i].Start := by omega
    simp only [decide_eq_false b1, decide_eq_false b2, decide_eq_false b3, decide_eq_false b4, Bool.false_eq_true, if_false, Option.bind_some]
    by_cases h0 : i = 0
    · subst h0
      simp
    · have e1 : IntKind.i64.wrap ((i : Int) - 1) = ((i - 1 : Nat) : Int) := by rw [w_i64 (by omega) (by omega)]; omega
      rw [if_pos (decide_eq_true (by omega)), e1, grd_t ⟨by omega, by omega⟩, grd_t ⟨by omega, by omega⟩]
      by_cases c1 : l[i].Term ≤ (rd l ((i - 1 : Nat) : Int)).Term
      · rw [if_pos (show 0 < i ∧ _ from ⟨by omega, .inl c1⟩)]
        simp [c1]
      · by_cases c2 : l[i].Start ≤ (rd l ((i - 1 : Nat) : Int)).Start
        · rw [if_pos (show 0 < i ∧ _ from ⟨by omega, .inr c2⟩)]
          simp [c1, c2]
        · rw [if_neg (show ¬ (0 < i ∧ _) from fun q => q.2.elim c1 c2)]
          simp [c1, c2]
theorem check_loop (l : List Span) (hl : l.length ≤ 9223372036854775807) : ∀ (m i : Nat), i + m = l.length → rises l i → ∃ r, iter (f_ref13_Check_l0 l) (i : Int) = some r ∧ ((∃ c a, r = .inr (c, a) ∧ c ≠ 0) ∨ (r = .inl () ∧ rises l l.length))
  | 0, i, hi, hr => by
    have e : i = l.length := by omega
    refine ⟨.inl (), iter_stop ?_, .inr ⟨rfl, by rw [← e]; exact hr⟩⟩
    unfold f_ref13_Check_l0
    simp only
    rw [if_neg (fun q => absurd (of_decide_eq_true q) (by omega))]
  | m + 1, i, hi, hr => by
    have hlt : i < l.length := by omega
    have hs := check_step l hl i hlt
    split at hs
    · exact ⟨_, iter_stop hs, .inl ⟨2, (i : Int), rfl, by decide⟩⟩
    · split at hs
      · exact ⟨_, iter_stop hs, .inl ⟨10, (i : Int), rfl, by decide⟩⟩
      · rename_i hno
        rw [iter_next hs]
        refine check_loop l hl m (i + 1) (by omega) fun j hj hj1 => ?_
        by_cases e : j + 1 = i
        · have e2 : j = i - 1 := by omega
          subst e2
          have e3 : i - 1 + 1 = i := by omega
          rw [rdn (show i - 1 < l.length by omega)] at hno
          simp only [e3]
          omega
        · exact hr j hj (by omega)
theorem may_eq (l : List Span) (hl : l.length ≤ 9223372036854775807) : ∃ b, f_law13_may l = some b ∧ (b = true → l.length ≤ 200 ∧ rises l l.length) := by
  obtain ⟨r, h1, h2⟩ := check_loop l hl l.length 0 (by omega) (fun i h h' => by omega)
  rw [show ((0 : Nat) : Int) = 0 from rfl] at h1
  unfold f_law13_may f_ref13_Check
  rw [h1]
  rcases h2 with ⟨c, a, rfl, hc⟩ | ⟨rfl, hr⟩
  · simp only [Option.bind_some, Sum.elim_inr]
    split
    · exact ⟨_, rfl, fun h => absurd (by simpa using h) hc⟩
    · exact ⟨_, rfl, fun h => by cases h⟩
  · simp only [Option.bind_some, Sum.elim_inl]
    by_cases h2 : l.length ≤ 200
    · exact ⟨true, by rw [if_pos (decide_eq_true (by omega))]; rfl, fun _ => ⟨h2, hr⟩⟩
    · exact ⟨false, by rw [if_neg (fun q => absurd (of_decide_eq_true q) (by omega))]; rfl, fun h => by cases h⟩

/-! ### it works -/
def three : List Span := [⟨0, 0⟩, ⟨1, 3⟩, ⟨4, 7⟩]
theorem k3 (t : Int) (k : Nat) (hk : k ≤ 3) (h0 : 0 < k ↔ 0 ≤ t) (h1 : 1 < k ↔ 1 ≤ t) (h2 : 2 < k ↔ 4 ≤ t) : isK three t k := by
  refine ⟨hk, fun i h hik => ?_, fun i h hik => ?_⟩
  all_goals
    have hi : i = 0 ∨ i = 1 ∨ i = 2 := by have : three.length = 3 := rfl; omega
    rcases hi with rfl | rfl | rfl
    · show _; simp [three]; omega
    · show _; simp [three]; omega
    · show _; simp [three]; omega
theorem works13 : f_law13_works = some true := by
  have a1 := endOf_eq three 3 9 2 (k3 3 2 (by decide) (by decide) (by decide) (by decide)) (by decide)
  have a2 := (parted_eq three 3 9 6 2 (k3 3 2 (by decide) (by decide) (by decide) (by decide)) (by decide)).1
  have a3 := (parted_eq three 4 9 9 3 (k3 4 3 (by decide) (by decide) (by decide) (by decide)) (by decide)).1
  have a4 := endOf_eq [] 3 9 0 ⟨by decide, fun i h => by simp at h, fun i h => by simp at h⟩ (by decide)
  have a5 := (keep_eq three 1 9 5 2 (k3 1 2 (by decide) (by decide) (by decide) (by decide)) (by decide)).1
  have a6 := (keep_eq three 2 9 5 2 (k3 2 2 (by decide) (by decide) (by decide) (by decide)) (by decide)).1
  have b1 : f_spans_Add three 5 9 = some (three ++ [⟨5, 9⟩]) := by
    unfold f_spans_Add f_slices_Clone_api_Span_api_Span
    rw [grd_t (by decide)]
    simp only [Option.bind_some]
    rw [iter_stop (show f_spans_Add_l0 9 ([] ++ three) = some (.inr three) from rfl)]
    rfl
  have b2 : f_spans_Add three 4 9 = some three := by
    unfold f_spans_Add f_slices_Clone_api_Span_api_Span
    rw [grd_t (by decide)]
    simp only [Option.bind_some]
    rw [iter_stop (show f_spans_Add_l0 9 ([] ++ three) = some (.inr three) from rfl)]
    rfl
  have c1 : f_spans_Check three = some GErr.nil := by
    unfold f_spans_Check
    rw [iter_next (show f_spans_Check_l0 three 0 = some (.inl 1) from rfl), iter_next (show f_spans_Check_l0 three 1 = some (.inl 2) from rfl), iter_next (show f_spans_Check_l0 three 2 = some (.inl 3) from rfl), iter_stop (show f_spans_Check_l0 three 3 = some (.inr (.inl ())) from rfl)]
    rfl
  unfold f_law13_works
  rw [show ([(⟨(0 : Int), (0 : Int)⟩ : T_api_Span), (⟨(1 : Int), (3 : Int)⟩ : T_api_Span), (⟨(4 : Int), (7 : Int)⟩ : T_api_Span)] : List Span) = three from rfl, a1, a2, a3, a4, a5, a6, b1, b2, c1]
  rfl
theorem pure_SpansAsks (l : List Span) (e t a : Int) (h : (∀ x ∈ l, (Lit.int .i64 x.Term).wf = true ∧ (Lit.int .i64 x.Start).wf = true ∧ True) ∧ l.length ≤ maxLen) (h1 : (Lit.int .i64 e).wf = true) (h2 : (Lit.int .i64 t).wf = true) (h3 : (Lit.int .i64 a).wf = true) : f_law13_SpansAsks l e t a = some true := by
  obtain ⟨b, hb, hr⟩ := may_eq l (Nat.le_trans h.2 (by decide))
  unfold f_law13_SpansAsks
  rw [hb, works13]
  simp only [Option.bind_some]
  cases b with
  | false => rfl
  | true =>
    have hl : l.length ≤ 1000000000000000000 := Nat.le_trans (hr rfl).1 (by decide)
    obtain ⟨k, hk⟩ := isK_exists (hr rfl).2 t
    rw [endOf_eq l t e k hk hl, refEnd_eq l t e k hk hl, (parted_eq l t e a k hk hl).1, (parted_eq l t e a k hk hl).2, (keep_eq l t e a k hk hl).1, (keep_eq l t e a k hk hl).2]
    simp
end Go.Proofs.Ytmifmgpfjamdkaa.G
