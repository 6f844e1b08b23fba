/- The law SpansKeeps of chapter 13 on what the printed functions compute. No condition. -/
import Derived.Test.YtmifmgpfjamdkaaDoorLErr
import Derived.KernelRfl
import Derived.OpenShut
set_option linter.unusedSimpArgs false
set_option linter.unusedVariables false
namespace Go.Proofs.YtmifmgpfjamdkaaDoor.G
open Go Go.KK

abbrev Span := T_api_Span
theorem rdn {α : Type} [Inhabited α] {xs : List α} {i : Nat} (h : i < xs.length) : rd xs (i : Int) = xs[i] := len_lt h
theorem check_step (l : List Span) (hl : l.length ≤ 9223372036854775807) (i : Nat) (hlt : i < l.length) : f_ref13_Check_l0 l (i : Int) =
    if l[i].Term < 0 ∨ 1073741824 < l[i].Term ∨ l[i].Start < 0 ∨ 1073741824 < l[i].Start then some (.inr (.inr (2, (i : Int))))
    else if 0 < i ∧ (l[i].Term ≤ (rd l ((i - 1 : Nat) : Int)).Term ∨ l[i].Start ≤ (rd l ((i - 1 : Nat) : Int)).Start) then some (.inr (.inr (10, (i : Int)))) else some (.inl ((i + 1 : Nat) : Int)) := by
  have hG : (0 : Int) ≤ (i : Int) ∧ (i : Int) < (l.length : Int) := ⟨by omega, by omega⟩
  unfold f_ref13_Check_l0
  simp only
  rw [if_pos (decide_eq_true hG.2), w_i64 (n := (i : Int) + 1) (by omega) (by omega)]
  simp only [grd_t hG, rdn hlt]
  have e0 : ((i : Int) + 1) = ((i + 1 : Nat) : Int) := by omega
  rw [e0]
  by_cases b : l[i].Term < 0 ∨ 1073741824 < l[i].Term ∨ l[i].Start < 0 ∨ 1073741824 < l[i].Start
  · rw [if_pos b]
    by_cases b1 : l[i].Term < 0
    · simp [b1]
    by_cases b2 : 1073741824 < l[i].Term
    · simp [b1, b2]
    by_cases b3 : l[i].Start < 0
    · simp [b1, b2, b3]
    have b4 : 1073741824 < l[i].Start := by omega
    simp [b1, b2, b3, b4]
  · rw [if_neg b]
    have b1 : ¬ l[i].Term < 0 := by omega
    have b2 : ¬ 1073741824 < l[i].Term := by omega
    have b3 : ¬ l[i].Start < 0 := by omega
    have b4 : ¬ 1073741824 < l[i].Start := by omega
    simp only [decide_eq_false b1, decide_eq_false b2, decide_eq_false b3, decide_eq_false b4, Bool.false_eq_true, if_false, Option.bind_some]
    by_cases h0 : i = 0
    · subst h0
      simp
    · have e1 : IntKind.i64.wrap ((i : Int) - 1) = ((i - 1 : Nat) : Int) := by rw [w_i64 (by omega) (by omega)]; omega
      rw [if_pos (decide_eq_true (by omega)), e1, grd_t ⟨by omega, by omega⟩, grd_t ⟨by omega, by omega⟩]
      by_cases c1 : l[i].Term ≤ (rd l ((i - 1 : Nat) : Int)).Term
      · rw [if_pos (show 0 < i ∧ _ from ⟨by omega, .inl c1⟩)]
        simp [c1]
      · by_cases c2 : l[i].Start ≤ (rd l ((i - 1 : Nat) : Int)).Start
        · rw [if_pos (show 0 < i ∧ _ from ⟨by omega, .inr c2⟩)]
          simp [c1, c2]
        · rw [if_neg (show ¬ (0 < i ∧ _) from fun q => q.2.elim c1 c2)]
          simp [c1, c2]

/-- What is wrong with spans first: a code, and where; 0: nothing. -/
theorem prog_step (l : List Span) (hl : l.length ≤ 9223372036854775807) (i : Nat) (hlt : i < l.length) : f_spans_Check_l0 l (i : Int) =
    if l[i].Term < 0 ∨ 1073741824 < l[i].Term ∨ l[i].Start < 0 ∨ 1073741824 < l[i].Start then some (.inr (.inr (.fault ⟨#[115, 112, 97, 110]⟩ (i : Int) (.code 2))))
    else if 0 < i ∧ (l[i].Term ≤ (rd l ((i - 1 : Nat) : Int)).Term ∨ l[i].Start ≤ (rd l ((i - 1 : Nat) : Int)).Start) then some (.inr (.inr (.fault ⟨#[115, 112, 97, 110]⟩ (i : Int) (.code 10)))) else some (.inl ((i + 1 : Nat) : Int)) := by
  have hG : (0 : Int) ≤ (i : Int) ∧ (i : Int) < (l.length : Int) := ⟨by omega, by omega⟩
  unfold f_spans_Check_l0
  simp only
  rw [if_pos (decide_eq_true hG.2), w_i64 (n := (i : Int) + 1) (by omega) (by omega)]
  simp only [grd_t hG, rdn hlt, new_eq]
  have e0 : ((i : Int) + 1) = ((i + 1 : Nat) : Int) := by omega
  rw [e0]
  by_cases b : l[i].Term < 0 ∨ 1073741824 < l[i].Term ∨ l[i].Start < 0 ∨ 1073741824 < l[i].Start
  · rw [if_pos b]
    by_cases b1 : l[i].Term < 0
    · simp [b1]
    by_cases b2 : 1073741824 < l[i].Term
    · simp [b1, b2]
    by_cases b3 : l[i].Start < 0
    · simp [b1, b2, b3]
    have b4 : 1073741824 < l[i].Start := by omega
    simp [b1, b2, b3, b4]
  · rw [if_neg b]
    have b1 : ¬ l[i].Term < 0 := by omega
    have b2 : ¬ 1073741824 < l[i].Term := by omega
    have b3 : ¬ l[i].Start < 0 := by omega
    have b4 : ¬ 1073741824 < l[i].Start := by omega
    simp only [decide_eq_false b1, decide_eq_false b2, decide_eq_false b3, decide_eq_false b4, Bool.false_eq_true, if_false, Option.bind_some]
    by_cases h0 : i = 0
    · subst h0
      simp
    · have e1 : IntKind.i64.wrap ((i : Int) - 1) = ((i - 1 : Nat) : Int) := by rw [w_i64 (by omega) (by omega)]; omega
      rw [if_pos (decide_eq_true (by omega)), e1, grd_t ⟨by omega, by omega⟩]
      by_cases c1 : l[i].Term ≤ (rd l ((i - 1 : Nat) : Int)).Term
      · rw [if_pos (show 0 < i ∧ _ from ⟨by omega, .inl c1⟩)]
        simp [c1]
      · rw [if_neg (fun q => c1 (of_decide_eq_true q)), grd_t ⟨by omega, by omega⟩]
        by_cases c2 : l[i].Start ≤ (rd l ((i - 1 : Nat) : Int)).Start
        · rw [if_pos (show 0 < i ∧ _ from ⟨by omega, .inr c2⟩)]
          simp [c1, c2]
        · rw [if_neg (show ¬ (0 < i ∧ _) from fun q => q.2.elim c1 c2)]
          simp [c1, c2]
/-- The starts rise up to n. -/
def risesS (l : List Span) (n : Nat) : Prop := ∀ i (h : i + 1 < l.length), i + 1 < n → l[i].Start < l[i + 1].Start
theorem check_loop (l : List Span) (hl : l.length ≤ 9223372036854775807) : ∀ (m i : Nat), i + m = l.length → risesS l i →
    (∃ c a, c ≠ 0 ∧ iter (f_ref13_Check_l0 l) (i : Int) = some (.inr (c, a)) ∧ iter (f_spans_Check_l0 l) (i : Int) = some (.inr (.fault ⟨#[115, 112, 97, 110]⟩ a (.code c)))) ∨
    (iter (f_ref13_Check_l0 l) (i : Int) = some (.inl ()) ∧ iter (f_spans_Check_l0 l) (i : Int) = some (.inl ()) ∧ risesS l l.length)
  | 0, i, hi, hr => by
    have e : i = l.length := by omega
    refine .inr ⟨iter_stop ?_, iter_stop ?_, by rw [← e]; exact hr⟩
    · unfold f_ref13_Check_l0
      simp only
      rw [if_neg (fun q => absurd (of_decide_eq_true q) (by omega))]
    · unfold f_spans_Check_l0
      simp only
      rw [if_neg (fun q => absurd (of_decide_eq_true q) (by omega))]
  | m + 1, i, hi, hr => by
    have hlt : i < l.length := by omega
    have hs := check_step l hl i hlt
    have hp := prog_step l hl i hlt
    split at hs
    · rename_i hb
      rw [if_pos hb] at hp
      exact .inl ⟨2, (i : Int), by decide, iter_stop hs, iter_stop hp⟩
    · rename_i hb
      rw [if_neg hb] at hp
      split at hs
      · rename_i hno
        rw [if_pos hno] at hp
        exact .inl ⟨10, (i : Int), by decide, iter_stop hs, iter_stop hp⟩
      · rename_i hno
        rw [if_neg hno] at hp
        rw [iter_next hs, iter_next hp]
        refine check_loop l hl m (i + 1) (by omega) fun j hj hj1 => ?_
        by_cases e : j + 1 = i
        · have e2 : j = i - 1 := by omega
          subst e2
          have e3 : i - 1 + 1 = i := by omega
          rw [rdn (show i - 1 < l.length by omega)] at hno
          simp only [e3]
          omega
        · exact hr j hj (by omega)
theorem check_eq (l : List Span) (hl : l.length ≤ 9223372036854775807) :
    (∃ c a, c ≠ 0 ∧ f_ref13_Check l = some (c, a) ∧ f_spans_Check l = some (.fault ⟨#[115, 112, 97, 110]⟩ a (.code c))) ∨ (f_ref13_Check l = some (0, 0) ∧ f_spans_Check l = some .nil ∧ risesS l l.length) := by
  unfold f_ref13_Check f_spans_Check
  rcases check_loop l hl l.length 0 (by omega) (fun i h h' => by omega) with ⟨c, a, hc, h1, h2⟩ | ⟨h1, h2, h3⟩
  · rw [show ((0 : Nat) : Int) = 0 from rfl] at h1 h2
    exact .inl ⟨c, a, hc, by rw [h1]; rfl, by rw [h2]; rfl⟩
  · rw [show ((0 : Nat) : Int) = 0 from rfl] at h1 h2
    exact .inr ⟨by rw [h1]; rfl, by rw [h2]; rfl, h3⟩

/-! ### one more -/
/-- k: how many begin ahead of s. -/
structure isA (l : List Span) (s : Int) (k : Nat) : Prop where
  le : k ≤ l.length
  low : ∀ i (h : i < l.length), i < k → l[i].Start < s
  high : ∀ i (h : i < l.length), k ≤ i → s ≤ l[i].Start
theorem risesS_all {l : List Span} (h : risesS l l.length) : ∀ (d i : Nat) (hj : i + d + 1 < l.length), l[i].Start < l[i + d + 1].Start
  | 0, i, hj => h i hj hj
  | d + 1, i, hj => by
    have h1 := risesS_all h d i (by omega)
    have h2 := h (i + d + 1) (by omega) (by omega)
    have e : i + (d + 1) + 1 = i + d + 1 + 1 := by omega
    simp only [e]
    omega
theorem isA_exists {l : List Span} (h : risesS l l.length) (t : Int) : ∃ k, isA l t k := by
  have key : ∀ m, m ≤ l.length → ∃ k, k ≤ m ∧ (∀ i (h : i < l.length), i < k → l[i].Start < t) ∧ ∀ i (h : i < l.length), k ≤ i → i < m → t ≤ l[i].Start := by
    intro m
    induction m with
    | zero => intro _; exact ⟨0, Nat.le_refl _, fun i _ hi => absurd hi (Nat.not_lt_zero _), fun i _ _ hi => absurd hi (Nat.not_lt_zero _)⟩
    | succ m ih =>
      intro hm
      obtain ⟨k, h1, h2, h3⟩ := ih (by omega)
      have hml : m < l.length := by omega
      by_cases ht : l[m].Start < t
      · refine ⟨m + 1, Nat.le_refl _, fun i hi him => ?_, fun i hi h4 h5 => by omega⟩
        by_cases e : i = m
        · subst e; exact ht
        · have hr := risesS_all h (m - i - 1) i (by omega)
          have e2 : i + (m - i - 1) + 1 = m := by omega
          simp only [e2] at hr
          omega
      · refine ⟨k, by omega, h2, fun i hi h4 h5 => ?_⟩
        by_cases e : i = m
        · subst e; omega
        · exact h3 i hi h4 (by omega)
  obtain ⟨k, h1, h2, h3⟩ := key l.length (Nat.le_refl _)
  exact ⟨k, h1, h2, fun i hi hk => h3 i hi hk hi⟩
def addS (p : List Span) (t s : Int) : List Span := if p.length = 0 then p ++ [⟨t, s⟩] else if (rd p ((p.length - 1 : Nat) : Int)).Term < t then p ++ [⟨t, s⟩] else p
theorem prog_add_loop (l : List Span) (s : Int) (k : Nat) (hk : isA l s k) (hl : l.length ≤ 1000000) : ∀ (m : Nat), k ≤ m → m ≤ l.length → iter (f_spans_Add_l0 s) (l.take m) = some (l.take k)
  | 0, h1, h2 => by
    have : k = 0 := by omega
    subst this
    refine iter_stop ?_
    unfold f_spans_Add_l0
    rfl
  | m + 1, h1, h2 => by
    have hml : m < l.length := by omega
    have e1 : (l.take (m + 1)).length = m + 1 := by simp; omega
    have e2 : IntKind.i64.wrap (((m + 1 : Nat) : Int) - 1) = (m : Int) := by rw [w_i64 (by omega) (by omega)]; omega
    have e3 : rd (l.take (m + 1)) (m : Int) = l[m] := by rw [rdn (by omega)]; simp
    have hstep : f_spans_Add_l0 s (l.take (m + 1)) = if s ≤ l[m].Start then some (.inl (l.take m)) else some (.inr (l.take (m + 1))) := by
      unfold f_spans_Add_l0
      simp only [e1, e2]
      rw [if_pos (decide_eq_true (by omega)), grd_t ⟨by omega, by omega⟩, e3]
      simp only [Option.bind_some]
      by_cases h : s ≤ l[m].Start
      · rw [if_pos (decide_eq_true h), if_pos h, grd_t ⟨by omega, by omega, by omega⟩]
        have : sub (l.take (m + 1)) 0 (m : Int) = l.take m := by
          unfold sub
          rw [show (0 : Int).toNat = 0 from rfl, show ((m : Int)).toNat = m by omega, Nat.sub_zero, List.drop_zero, List.take_take, Nat.min_eq_left (by omega)]
        rw [this]
      · rw [if_neg (fun q => h (of_decide_eq_true q)), if_neg h]
    by_cases e : k = m + 1
    · subst e
      have := hk.low m hml (by omega)
      rw [if_neg (by omega)] at hstep
      exact iter_stop hstep
    · have := hk.high m hml (by omega)
      rw [if_pos this] at hstep
      rw [iter_next hstep]
      exact prog_add_loop l s k hk hl m (by omega) (by omega)
theorem prog_add (l : List Span) (t s : Int) (k : Nat) (hk : isA l s k) (hl : l.length ≤ 1000000) : f_spans_Add l t s = some (addS (l.take k) t s) := by
  unfold f_spans_Add f_slices_Clone_api_Span_api_Span
  rw [grd_t (by simp; omega)]
  simp only [Option.bind_some, List.nil_append]
  have h := prog_add_loop l s k hk hl l.length hk.le (Nat.le_refl _)
  rw [List.take_length] at h
  rw [h]
  simp only [Option.bind_some]
  have e1 : (l.take k).length = k := by simp; have := hk.le; omega
  unfold addS
  rw [e1]
  have hle := hk.le
  by_cases h0 : k = 0
  · rw [if_pos h0, if_neg (fun q => absurd (of_decide_eq_true q) (by omega))]
    simp only [Option.bind_some]
    rw [if_neg (by decide), grd_t (by simp; omega)]
  · rw [if_neg h0, if_pos (decide_eq_true (by omega))]
    have e2 : IntKind.i64.wrap ((k : Int) - 1) = ((k - 1 : Nat) : Int) := by rw [w_i64 (by omega) (by omega)]; omega
    rw [e2, grd_t ⟨by omega, by omega⟩]
    simp only [Option.bind_some]
    by_cases h : t ≤ (rd (l.take k) ((k - 1 : Nat) : Int)).Term
    · rw [if_pos (decide_eq_true h), if_neg (by omega)]
    · rw [if_neg (fun q => h (of_decide_eq_true q)), if_pos (by omega), grd_t (by simp; omega)]
theorem ref_add_loop (l : List Span) (s : Int) (k : Nat) (hk : isA l s k) (hl : l.length ≤ 1000000) : ∀ (d m : Nat), m + d = k → iter (f_ref13_Add_l0 l s) (l.take m, (m : Int)) = some (l.take k)
  | 0, m, hm => by
    have e : m = k := by omega
    subst e
    refine iter_stop ?_
    unfold f_ref13_Add_l0
    simp only
    have hle := hk.le
    by_cases h : m = l.length
    · rw [if_neg (fun q => absurd (of_decide_eq_true q) (by omega))]
      rfl
    · have hh := hk.high m (by omega) (Nat.le_refl _)
      rw [if_pos (decide_eq_true (by omega)), grd_t ⟨by omega, by omega⟩, rdn (by omega)]
      simp only [Option.bind_some]
      rw [if_neg (fun q => absurd (of_decide_eq_true q) (by omega))]
  | d + 1, m, hm => by
    have hle := hk.le
    have hml : m < l.length := by omega
    have hh := hk.low m hml (by omega)
    have hstep : f_ref13_Add_l0 l s (l.take m, (m : Int)) = some (.inl (l.take (m + 1), ((m + 1 : Nat) : Int))) := by
      unfold f_ref13_Add_l0
      simp only
      rw [if_pos (decide_eq_true (by omega)), grd_t ⟨by omega, by omega⟩, rdn hml]
      simp only [Option.bind_some]
      rw [if_pos (decide_eq_true hh), grd_t ⟨by omega, by omega⟩, grd_t (by simp; omega), w_i64 (by omega) (by omega)]
      rw [List.take_succ_eq_append_getElem hml]
      rfl
    rw [iter_next hstep]
    exact ref_add_loop l s k hk hl d (m + 1) (by omega)
theorem ref_add (l : List Span) (t s : Int) (k : Nat) (hk : isA l s k) (hl : l.length ≤ 1000000) : f_ref13_Add l t s = some (addS (l.take k) t s) := by
  unfold f_ref13_Add
  have h := ref_add_loop l s k hk hl k 0 (by omega)
  rw [show ((0 : Nat) : Int) = 0 from rfl, List.take_zero] at h
  rw [h]
  simp only [Option.bind_some]
  have e1 : (l.take k).length = k := by simp; have := hk.le; omega
  have hle := hk.le
  unfold addS
  rw [e1]
  by_cases h0 : k = 0
  · rw [if_pos h0, if_pos (decide_eq_true (by omega))]
    simp only [Option.bind_some, if_true]
    rw [grd_t (by simp; omega)]
    rfl
  · rw [if_neg h0, if_neg (fun q => absurd (of_decide_eq_true q) (by omega))]
    have e2 : IntKind.i64.wrap ((k : Int) - 1) = ((k - 1 : Nat) : Int) := by rw [w_i64 (by omega) (by omega)]; omega
    rw [e2, grd_t ⟨by omega, by omega⟩]
    simp only [Option.bind_some]
    by_cases h : (rd (l.take k) ((k - 1 : Nat) : Int)).Term < t
    · rw [if_pos (decide_eq_true h), if_pos h, grd_t (by simp; omega)]
      rfl
    · rw [if_neg (fun q => h (of_decide_eq_true q)), if_neg h]
      rfl
theorem same_loop (l : List Span) (hl : l.length ≤ 1000000) : ∀ (d m : Nat), m + d = l.length → iter (f_ref13_Same_l0 l l) (m : Int) = some (.inl ())
  | 0, m, hm => by
    refine iter_stop ?_
    unfold f_ref13_Same_l0
    simp only
    rw [if_neg (fun q => absurd (of_decide_eq_true q) (by omega))]
  | d + 1, m, hm => by
    have hstep : f_ref13_Same_l0 l l (m : Int) = some (.inl ((m + 1 : Nat) : Int)) := by
      unfold f_ref13_Same_l0
      simp only
      rw [if_pos (decide_eq_true (by omega)), grd_t ⟨by omega, by omega⟩, grd_t ⟨by omega, by omega⟩, w_i64 (by omega) (by omega)]
      simp [andL]
    rw [iter_next hstep]
    exact same_loop l hl d (m + 1) (by omega)
theorem same_eq (l : List Span) (hl : l.length ≤ 1000000) : f_ref13_Same l l = some true := by
  unfold f_ref13_Same
  have h := same_loop l hl l.length 0 (by omega)
  rw [show ((0 : Nat) : Int) = 0 from rfl] at h
  rw [h, if_neg (by simp)]
  rfl

/-! ### of batches -/
theorem terms_loop (b : List Int) (hb : b.length ≤ 1000000) : ∀ (d m : Nat) (out : List T_api_Batch), m + d = b.length → out.length = m → (∀ i (h : i < out.length), 0 ≤ i) → ∃ r, iter (f_law13_terms_l0 b) (out, (m : Int)) = some r ∧ r.length = b.length
  | 0, m, out, hm, ho, _ => by
    refine ⟨out, iter_stop ?_, by omega⟩
    unfold f_law13_terms_l0
    simp only
    rw [if_neg (fun q => absurd (of_decide_eq_true q) (by omega))]
  | d + 1, m, out, hm, ho, _ => by
    have hstep : f_law13_terms_l0 b (out, (m : Int)) = some (.inl (out ++ [⟨IntKind.i64.wrap (rd b m), 0, []⟩], ((m + 1 : Nat) : Int))) := by
      unfold f_law13_terms_l0
      simp only
      rw [if_pos (decide_eq_true (by omega)), grd_t ⟨by omega, by omega⟩, grd_t (by simp; omega), w_i64 (n := (m : Int) + 1) (by omega) (by omega)]
      rfl
    rw [iter_next hstep]
    exact terms_loop b hb d (m + 1) _ (by omega) (by simp; omega) (fun _ _ => Nat.zero_le _)
theorem terms_eq (b : List Int) (hb : b.length ≤ 1000000) : ∃ r, f_law13_terms b = some r ∧ r.length = b.length := by
  obtain ⟨r, h, hr⟩ := terms_loop b hb b.length 0 [] (by omega) rfl (fun _ _ => Nat.zero_le _)
  rw [show ((0 : Nat) : Int) = 0 from rfl] at h
  refine ⟨r, ?_, hr⟩
  unfold f_law13_terms
  rw [h]
  rfl
/-- Spans whose starts rise, all of them below s, and no more than n. -/
structure Good (l : List Span) (s : Int) (n : Nat) : Prop where
  rises : risesS l l.length
  below : ∀ i (h : i < l.length), l[i].Start < s
  len : l.length ≤ n
theorem good_add {l : List Span} {s : Int} {n : Nat} (h : Good l s n) (t : Int) : Good (addS l t s) (s + 1) (n + 1) := by
  have key : Good (l ++ [⟨t, s⟩]) (s + 1) (n + 1) := by
    refine ⟨fun i hi _ => ?_, fun i hi => ?_, by have := h.len; simp; exact this⟩
    · simp only [List.length_append, List.length_singleton] at hi
      rw [List.getElem_append_left (by omega)]
      by_cases e : i + 1 = l.length
      · rw [List.getElem_append_right (by omega)]
        simp
        exact h.below i (by omega)
      · rw [List.getElem_append_left (by omega)]
        exact h.rises i (by omega) (by omega)
    · simp only [List.length_append, List.length_singleton] at hi
      by_cases e : i < l.length
      · rw [List.getElem_append_left e]
        have := h.below i e
        omega
      · rw [List.getElem_append_right (by omega)]
        simp
        omega
  unfold addS
  split
  · exact key
  · split
    · exact key
    · exact ⟨h.rises, fun i hi => by have := h.below i hi; omega, by have := h.len; omega⟩
theorem good_isA {l : List Span} {s : Int} {n : Nat} (h : Good l s n) : isA l s l.length := ⟨Nat.le_refl _, fun i hi _ => h.below i hi, fun i hi hk => by omega⟩
theorem of_loop (base : Int) (bs : List T_api_Batch) (h0 : 0 ≤ base) (h1 : base ≤ 65535) (hb : bs.length ≤ 200) : ∀ (d m : Nat) (out : List Span), m + d = bs.length → Good out (base + m) (m + 1) →
    ∃ r, iter (f_spans_Of_l0 base bs) (out, (m : Int)) = some r ∧ iter (f_ref13_Of_l0 base bs) (out, (m : Int)) = some r ∧ r.length ≤ 1000
  | 0, m, out, hm, hg => by
    have := hg.len
    refine ⟨out, iter_stop ?_, iter_stop ?_, by omega⟩
    · unfold f_spans_Of_l0
      simp only
      rw [if_neg (fun q => absurd (of_decide_eq_true q) (by omega))]
    · unfold f_ref13_Of_l0
      simp only
      rw [if_neg (fun q => absurd (of_decide_eq_true q) (by omega))]
  | d + 1, m, out, hm, hg => by
    have hlen := hg.len
    have e0 : IntKind.i64.wrap (base + (m : Int)) = base + m := w_i64 (by omega) (by omega)
    have hp : f_spans_Of_l0 base bs (out, (m : Int)) = some (.inl (addS out (rd bs (m : Int)).Term (base + m), ((m + 1 : Nat) : Int))) := by
      unfold f_spans_Of_l0
      simp only
      rw [if_pos (decide_eq_true (by omega)), grd_t ⟨by omega, by omega⟩, e0, prog_add _ _ _ _ (good_isA hg) (by omega), List.take_length, w_i64 (n := (m : Int) + 1) (by omega) (by omega)]
      rfl
    have hr : f_ref13_Of_l0 base bs (out, (m : Int)) = some (.inl (addS out (rd bs (m : Int)).Term (base + m), ((m + 1 : Nat) : Int))) := by
      unfold f_ref13_Of_l0
      simp only
      rw [if_pos (decide_eq_true (by omega)), grd_t ⟨by omega, by omega⟩, e0, ref_add _ _ _ _ (good_isA hg) (by omega), List.take_length, w_i64 (n := (m : Int) + 1) (by omega) (by omega)]
      rfl
    rw [iter_next hp, iter_next hr]
    refine of_loop base bs h0 h1 hb d (m + 1) _ (by omega) ?_
    have := good_add hg (rd bs (m : Int)).Term
    rw [show base + ((m + 1 : Nat) : Int) = base + (m : Int) + 1 by omega]
    exact this
theorem of_eq13 (base term : Int) (bs : List T_api_Batch) (h0 : 0 ≤ base) (h1 : base ≤ 65535) (hb : bs.length ≤ 200) : ∃ r, f_spans_Of base term bs = some r ∧ f_ref13_Of base term bs = some r ∧ r.length ≤ 1000 := by
  unfold f_spans_Of f_ref13_Of
  by_cases h : 0 < base
  · have hg : Good [⟨term, base - 1⟩] (base + ((0 : Nat) : Int)) (0 + 1) := ⟨fun i hi _ => by simp at hi, fun i hi => by
      simp at hi; subst hi; simp; omega, by simp⟩
    obtain ⟨r, r1, r2, r3⟩ := of_loop base bs h0 h1 hb bs.length 0 _ (by omega) hg
    refine ⟨r, ?_, ?_, r3⟩
    · rw [if_pos (decide_eq_true h), grd_t (by simp), w_i64 (by omega) (by omega)]
      simp only [Option.bind_some, List.nil_append]
      rw [show ((0 : Nat) : Int) = 0 from rfl] at r1
      rw [r1]
      rfl
    · rw [if_pos (decide_eq_true h), grd_t (by simp), w_i64 (by omega) (by omega)]
      simp only [Option.bind_some, List.nil_append]
      rw [show ((0 : Nat) : Int) = 0 from rfl] at r2
      rw [r2]
      rfl
  · have hg : Good [] (base + ((0 : Nat) : Int)) (0 + 1) := ⟨fun i hi _ => by simp at hi, fun i hi => by simp at hi, by simp⟩
    obtain ⟨r, r1, r2, r3⟩ := of_loop base bs h0 h1 hb bs.length 0 _ (by omega) hg
    refine ⟨r, ?_, ?_, r3⟩
    · rw [if_neg (fun q => h (of_decide_eq_true q))]
      simp only [Option.bind_some]
      rw [show ((0 : Nat) : Int) = 0 from rfl] at r1
      rw [r1]
      rfl
    · rw [if_neg (fun q => h (of_decide_eq_true q))]
      simp only [Option.bind_some]
      rw [show ((0 : Nat) : Int) = 0 from rfl] at r2
      rw [r2]
      rfl

/-! ### it works -/
def three : List Span := [⟨0, 0⟩, ⟨1, 3⟩, ⟨4, 7⟩]
theorem works13 : f_law13_works = some true := by
  have a1 : f_spans_EndOf three 3 9 = some (1, 7, true) := by unfold f_spans_EndOf f_slices_BinarySearchFunc_api_Span_api_Span_int_47; rw [iter_run (e := 2) 10 rfl]; rfl
  have a2 : f_spans_Parted three 9 3 6 = some (1, 7, true) := by unfold f_spans_Parted; rw [a1]; rfl
  have a3' : f_spans_EndOf three 4 9 = some (4, 9, true) := by unfold f_spans_EndOf f_slices_BinarySearchFunc_api_Span_api_Span_int_47; rw [iter_run (e := 3) 10 rfl]; rfl
  have a3 : f_spans_Parted three 9 4 9 = some (0, 0, false) := by unfold f_spans_Parted; rw [a3']; rfl
  have a4 : f_spans_EndOf [] 3 9 = some (0, 0, false) := by
    unfold f_spans_EndOf f_slices_BinarySearchFunc_api_Span_api_Span_int_47
    rw [iter_run (e := 0) 2 rfl]
    rfl
  have a5' : f_spans_EndOf three 1 9 = some (1, 7, true) := by unfold f_spans_EndOf f_slices_BinarySearchFunc_api_Span_api_Span_int_47; rw [iter_run (e := 2) 10 rfl]; rfl
  have a5 : f_spans_Keep three 9 1 5 = some 5 := by unfold f_spans_Keep; rw [a5']; rfl
  have a6' : f_spans_EndOf three 2 9 = some (1, 7, true) := by unfold f_spans_EndOf f_slices_BinarySearchFunc_api_Span_api_Span_int_47; rw [iter_run (e := 2) 10 rfl]; rfl
  have a6 : f_spans_Keep three 9 2 5 = some 7 := by unfold f_spans_Keep; rw [a6']; rfl
  have g3 : isA three 9 3 := ⟨by decide, fun i h hk => by
      have hi : i = 0 ∨ i = 1 ∨ i = 2 := by omega
      rcases hi with rfl | rfl | rfl <;> simp [three], fun i h hk => absurd h (by show ¬ i < 3; omega)⟩
  have b1 : f_spans_Add three 5 9 = some (three ++ [⟨5, 9⟩]) := (prog_add three 5 9 3 g3 (by decide)).trans rfl
  have b2 : f_spans_Add three 4 9 = some three := (prog_add three 4 9 3 g3 (by decide)).trans rfl
  have c1 : f_spans_Check three = some GErr.nil := by
    unfold f_spans_Check
    rw [iter_run (e := .inl ()) 5 rfl]
    rfl
  unfold f_law13_works
  rw [show ([(⟨(0 : Int), (0 : Int)⟩ : T_api_Span), (⟨(1 : Int), (3 : Int)⟩ : T_api_Span), (⟨(4 : Int), (7 : Int)⟩ : T_api_Span)] : List Span) = three from rfl, a1, a2, a3, a4]
  simp only [Option.bind_some]
  rw [a5, a6, b1, b2, c1]
  rfl
theorem pure_SpansKeeps (l : List Span) (t s : Int) (base : Int) (b : List Int) (h : (∀ x ∈ l, (Lit.int .i64 x.Term).wf = true ∧ (Lit.int .i64 x.Start).wf = true ∧ True) ∧ l.length ≤ maxLen) (h1 : (Lit.int .i64 t).wf = true) (h2 : (Lit.int .i64 s).wf = true) (h3 : (Lit.int .u16 base).wf = true) (h4 : (∀ x ∈ b, (Lit.int .u8 x).wf = true) ∧ b.length ≤ maxLen) : f_law13_SpansKeeps l t s base b = some true := by
  have hml : maxLen ≤ 9223372036854775807 := by decide
  unfold f_law13_SpansKeeps
  rw [works13]
  by_cases g1 : 200 < l.length
  · rw [if_pos (decide_eq_true (by omega))]
    rfl
  rw [if_neg (fun q => absurd (of_decide_eq_true q) (by omega))]
  simp only [Option.bind_some]
  by_cases g2 : 200 < b.length
  · rw [if_pos (decide_eq_true (by omega))]
  rw [if_neg (fun q => absurd (of_decide_eq_true q) (by omega))]
  have hb : 0 ≤ base ∧ base ≤ 65535 := by
    have := bounds_u16 h3
    omega
  have hl : l.length ≤ 9223372036854775807 := by omega
  unfold f_law13_may
  rcases check_eq l hl with ⟨c, a, hc, e1, e2⟩ | ⟨e1, e2, e3⟩
  · rw [e1, e2]
    simp only [Option.bind_some, where_eq, of_eq, WhereE, OfE_fault]
    simp [hc]
  · rw [e1, e2]
    obtain ⟨k, hk⟩ := isA_exists e3 s
    obtain ⟨bt, hbt, hbl⟩ := terms_eq b (by omega)
    obtain ⟨r, r1, r2, r3⟩ := of_eq13 base t bt hb.1 hb.2 (by omega)
    have ew : IntKind.i64.wrap base = base := w_i64 (by omega) (by omega)
    have hlen : (addS (l.take k) t s).length ≤ 1000000 := by
      have : (l.take k).length ≤ l.length := by simp; omega
      unfold addS
      split
      · simp; omega
      · split
        · simp; omega
        · omega
    simp only [Option.bind_some, where_eq, of_eq, WhereE, OfE_nil, prog_add l t s k hk (by omega), ref_add l t s k hk (by omega), same_eq _ hlen, hbt, ew, r1, r2, same_eq r (by omega)]
    have g1' : (l.length : Int) ≤ 200 := by omega
    simp [g1']
end Go.Proofs.YtmifmgpfjamdkaaDoor.G
