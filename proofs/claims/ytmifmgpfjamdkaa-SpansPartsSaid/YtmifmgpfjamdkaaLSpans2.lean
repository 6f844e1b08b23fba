/- The spans of rising batches: the law SpansTells of what the printed functions compute. No condition. -/
import Derived.Test.YtmifmgpfjamdkaaLSpans
set_option linter.unusedSimpArgs false
set_option linter.unusedVariables false
namespace Go.Proofs.Ytmifmgpfjamdkaa.G
open Go Go.KK

/-- One more span, if the term is another one. -/
def addS (out : List Span) (t st : Int) : List Span :=
  match out.getLast? with
  | some p => if t ≤ p.Term then out else out ++ [⟨t, st⟩]
  | none => [⟨t, st⟩]
theorem addS_snoc (out : List Span) (p : Span) (t st : Int) : addS (out ++ [p]) t st = if t ≤ p.Term then out ++ [p] else out ++ [p] ++ [⟨t, st⟩] := by
  unfold addS
  rw [List.getLast?_concat]
theorem snoc_cases {α : Type} (l : List α) : l = [] ∨ ∃ i p, l = i ++ [p] := by
  rcases List.eq_nil_or_concat l with h | ⟨i, p, h⟩
  · exact .inl h
  · exact .inr ⟨i, p, by simpa using h⟩
theorem add_eq (l : List Span) (t st : Int) (hl : l.length ≤ 1000000) (hs : ∀ p ∈ l, p.Start < st) : f_spans_Add l t st = some (addS l t st) := by
  unfold f_spans_Add f_slices_Clone_api_Span_api_Span
  rw [grd_t (by simp; omega)]
  simp only [Option.bind_some, List.nil_append]
  rcases snoc_cases l with rfl | ⟨i, p, rfl⟩
  · rw [iter_stop (show f_spans_Add_l0 st [] = some (.inr []) from rfl)]
    rfl
  · have hlen : (i ++ [p]).length = i.length + 1 := by simp
    have hlast : rd (i ++ [p]) ((i.length : Nat) : Int) = p := by rw [rdn (by simp)]; simp
    have e1 : IntKind.i64.wrap (((i ++ [p]).length : Int) - 1) = ((i.length : Nat) : Int) := by rw [w_i64 (by omega) (by omega)]; omega
    have hst := hs p (by simp)
    have hstop : f_spans_Add_l0 st (i ++ [p]) = some (.inr (i ++ [p])) := by
      unfold f_spans_Add_l0
      simp only
      rw [e1, if_pos (decide_eq_true (by omega)), grd_t ⟨by omega, by omega⟩, hlast, decide_eq_false (by omega)]
      rfl
    rw [iter_stop hstop]
    simp only [Option.bind_some]
    rw [e1, if_pos (decide_eq_true (by omega)), grd_t ⟨by omega, by omega⟩, hlast, addS_snoc]
    by_cases h : t ≤ p.Term
    · rw [decide_eq_true h, if_pos h]; rfl
    · rw [decide_eq_false h, if_neg h]
      simp only [Option.bind_some, Bool.false_eq_true, if_false]
      rw [grd_t (by simp; omega)]
def ofS (base : Int) (out : List Span) : Int → List Int → List Span
  | _, [] => out
  | i, t :: r => ofS base (addS out t (base + i)) (i + 1) r
theorem addS_mem {out : List Span} {t st : Int} {q : Span} (h : q ∈ addS out t st) : q ∈ out ∨ q = ⟨t, st⟩ := by
  rcases snoc_cases out with rfl | ⟨i, p, rfl⟩
  · right; simpa [addS] using h
  · rw [addS_snoc] at h
    split at h
    · exact .inl h
    · rcases List.mem_append.1 h with h | h
      · exact .inl h
      · right; simpa using h
theorem addS_len (out : List Span) (t st : Int) : (addS out t st).length ≤ out.length + 1 := by
  rcases snoc_cases out with rfl | ⟨i, p, rfl⟩
  · simp [addS]
  · rw [addS_snoc]; split <;> simp
theorem of_loop (base : Int) (b : List T_api_Batch) (hb0 : 0 ≤ base) (hb1 : base ≤ 1000000) (hl : b.length ≤ 10000) : ∀ (m i : Nat) (out : List Span), i + m = b.length → out.length ≤ i + 1 → (∀ p ∈ out, p.Start < base + (i : Int)) →
    iter (f_spans_Of_l0 base b) (out, (i : Int)) = some (ofS base out (i : Int) ((b.map (·.Term)).drop i))
  | 0, i, out, hi, ho, hs => by
    refine iter_stop ?_
    unfold f_spans_Of_l0
    simp only
    rw [if_neg (fun q => absurd (of_decide_eq_true q) (by omega)), List.drop_eq_nil_of_le (by simp; omega)]
    rfl
  | m + 1, i, out, hi, ho, hs => by
    have hlt : i < b.length := by omega
    have hstep : f_spans_Of_l0 base b (out, (i : Int)) = some (.inl (addS out b[i].Term (base + (i : Int)), ((i + 1 : Nat) : Int))) := by
      unfold f_spans_Of_l0
      simp only
      rw [if_pos (decide_eq_true (by omega)), grd_t ⟨by omega, by omega⟩, rdn hlt, w_i64 (n := base + (i : Int)) (by omega) (by omega), add_eq out _ _ (by omega) hs]
      simp only [Option.bind_some]
      rw [w_i64 (by omega) (by omega)]
      rfl
    have e0 : ((i : Int) + 1) = ((i + 1 : Nat) : Int) := by omega
    rw [iter_next hstep, of_loop base b hb0 hb1 hl m (i + 1) _ (by omega) (by have := addS_len out b[i].Term (base + (i : Int)); omega) (fun p hp => by
      rcases addS_mem hp with h | rfl
      · have := hs p h; omega
      · show base + (i : Int) < _; omega)]
    have hd : (b.map (·.Term)).drop i = b[i].Term :: (b.map (·.Term)).drop (i + 1) := by
      rw [List.drop_eq_getElem_cons (by simpa using hlt)]; simp
    rw [hd]
    show _ = some (ofS base (addS out _ _) ((i : Int) + 1) _)
    rw [e0]
theorem of_eq (base t : Int) (b : List T_api_Batch) (hb0 : 0 ≤ base) (hb1 : base ≤ 1000000) (hl : b.length ≤ 10000) : f_spans_Of base t b = some (ofS base (if 0 < base then [⟨t, base - 1⟩] else []) 0 (b.map (·.Term))) := by
  unfold f_spans_Of
  by_cases h : 0 < base
  · rw [if_pos (decide_eq_true h), grd_t (by simp), if_pos h]
    simp only [Option.bind_some, List.nil_append]
    have := of_loop base b hb0 hb1 hl b.length 0 [⟨t, IntKind.i64.wrap (base - 1)⟩] (by omega) (by simp) (fun p hp => by
      simp at hp; subst hp
      show IntKind.i64.wrap (base - 1) < _
      rw [w_i64 (by omega) (by omega)]; omega)
    rw [show ((0 : Nat) : Int) = 0 from rfl] at this
    rw [this, w_i64 (by omega) (by omega)]
    rfl
  · rw [if_neg (fun q => absurd (of_decide_eq_true q) h), if_neg h]
    simp only [Option.bind_some]
    have := of_loop base b hb0 hb1 hl b.length 0 [] (by omega) (by simp) (fun p hp => by cases hp)
    rw [show ((0 : Nat) : Int) = 0 from rfl] at this
    rw [this]
    rfl

/-! ### rising terms -/
def ups : Int → List Int → List Int
  | _, [] => []
  | t, x :: r => (t + x % 3) :: ups (t + x % 3) r
def asB (t : Int) : T_api_Batch := ⟨t, 0, []⟩
theorem ups_len : ∀ (t : Int) (l : List Int), (ups t l).length = l.length
  | _, [] => rfl
  | t, x :: r => by rw [ups, List.length_cons, List.length_cons, ups_len]
theorem ups_bound : ∀ (t : Int) (l : List Int), ∀ x ∈ ups t l, t ≤ x ∧ x ≤ t + 2 * l.length
  | _, [], x, h => by cases h
  | t, y :: r, x, h => by
    rw [ups] at h
    rw [List.length_cons]
    rcases List.mem_cons.1 h with rfl | h
    · omega
    · have := ups_bound (t + y % 3) r x h; omega
theorem rising_loop (l : List Int) (hb : ∀ x ∈ l, 0 ≤ x ∧ x ≤ 255) (hl : l.length ≤ 100000) : ∀ (m i : Nat) (out : List T_api_Batch) (t : Int), i + m = l.length → out.length = i → 0 ≤ t → t ≤ 1 + 2 * i →
    iter (f_law13_rising_l0 l) (out, t, (i : Int)) = some (out ++ (ups t (l.drop i)).map asB)
  | 0, i, out, t, hi, ho, h0, h1 => by
    refine iter_stop ?_
    unfold f_law13_rising_l0
    simp only
    rw [if_neg (fun q => absurd (of_decide_eq_true q) (by omega)), List.drop_eq_nil_of_le (by omega)]
    simp [ups]
  | m + 1, i, out, t, hi, ho, h0, h1 => by
    have hlt : i < l.length := by omega
    have hx := hb _ (List.getElem_mem hlt)
    have hstep : f_law13_rising_l0 l (out, t, (i : Int)) = some (.inl (out ++ [asB (t + l[i] % 3)], t + l[i] % 3, ((i + 1 : Nat) : Int))) := by
      unfold f_law13_rising_l0
      simp only
      rw [if_pos (decide_eq_true (by omega)), grd_t ⟨by omega, by omega⟩, grd_t (by simp; omega), rdn hlt, w_i64 (n := l[i]) (by omega) (by omega), Int.tmod_eq_emod_of_nonneg hx.1, w_i64 (n := t + l[i] % 3) (by omega) (by omega), w_i64 (n := (i : Int) + 1) (by omega) (by omega)]
      rfl
    rw [iter_next hstep, rising_loop l hb hl m (i + 1) _ _ (by omega) (by simp [ho]) (by omega) (by omega), List.drop_eq_getElem_cons (i := i) hlt]
    simp [ups]
theorem rising_eq (l : List Int) (hb : ∀ x ∈ l, 0 ≤ x ∧ x ≤ 255) (hl : l.length ≤ 100000) : f_law13_rising l = some ((ups 1 l).map asB) := by
  unfold f_law13_rising
  have := rising_loop l hb hl l.length 0 [] 1 (by omega) rfl (by decide) (by decide)
  rw [show ((0 : Nat) : Int) = 0 from rfl] at this
  rw [this]
  simp

/-! ### what spans tell -/
def look (s : List Span) (x : Int) : Int := s.foldl (fun acc p => if p.Start ≤ x then p.Term else acc) 0
theorem look_snoc (s : List Span) (p : Span) (x : Int) : look (s ++ [p]) x = if p.Start ≤ x then p.Term else look s x := by
  unfold look
  rw [List.foldl_append]; rfl
/-- How spans stand behind some batches: last: the last one's term. -/
structure Good (s : List Span) (last fin : Int) : Prop where
  rise : ∀ i (h : i + 1 < s.length), s[i].Term < s[i + 1].Term ∧ s[i].Start < s[i + 1].Start
  low : ∀ p ∈ s, 0 ≤ p.Term ∧ 0 ≤ p.Start ∧ p.Start < fin ∧ p.Term ≤ last
  last : ∀ p, s.getLast? = some p → p.Term = last
theorem Good.add {s : List Span} {last fin t st : Int} (g : Good s last fin) (h0 : 0 ≤ t) (h1 : last ≤ t) (h2 : fin ≤ st) (h3 : 0 ≤ st) : Good (addS s t st) t (st + 1) ∧ look (addS s t st) st = t ∧ ∀ x, x < st → look (addS s t st) x = look s x := by
  rcases snoc_cases s with rfl | ⟨i, p, rfl⟩
  · refine ⟨⟨fun i h => by simp [addS] at h, fun p hp => ?_, fun p hp => ?_⟩, ?_, fun x hx => ?_⟩
    · simp [addS] at hp; subst hp; exact ⟨h0, h3, by show st < st + 1; omega, Int.le_refl _⟩
    · simp [addS] at hp; subst hp; rfl
    · simp [addS, look]
    · simp only [addS, look, List.getLast?_nil, List.foldl_cons, List.foldl_nil]
      rw [if_neg (by omega)]
  · have hp := g.low p (by simp)
    have hl := g.last p (by simp)
    rw [addS_snoc]
    by_cases h : t ≤ p.Term
    · have e : t = last := by omega
      rw [if_pos h]
      refine ⟨⟨g.rise, fun q hq => ?_, fun q hq => ?_⟩, ?_, fun x hx => rfl⟩
      · have := g.low q hq
        exact ⟨this.1, this.2.1, by omega, by omega⟩
      · rw [g.last q hq, e]
      · rw [look_snoc, if_pos (by omega)]; omega
    · rw [if_neg h]
      refine ⟨⟨fun j hj => ?_, fun q hq => ?_, fun q hq => ?_⟩, ?_, fun x hx => ?_⟩
      · by_cases e : j + 1 < (i ++ [p]).length
        · have k1 : (i ++ [p] ++ [(⟨t, st⟩ : Span)])[j] = (i ++ [p])[j] := List.getElem_append_left (by omega)
          have k2 : (i ++ [p] ++ [(⟨t, st⟩ : Span)])[j + 1] = (i ++ [p])[j + 1] := List.getElem_append_left e
          rw [k1, k2]
          exact g.rise j e
        · have hlen : (i ++ [p] ++ [(⟨t, st⟩ : Span)]).length = i.length + 2 := by simp
          have hlen2 : (i ++ [p]).length = i.length + 1 := by simp
          have e2 : j = i.length := by omega
          subst e2
          have k1 : (i ++ [p] ++ [(⟨t, st⟩ : Span)])[i.length] = p := by simp
          have k2 : (i ++ [p] ++ [(⟨t, st⟩ : Span)])[i.length + 1] = ⟨t, st⟩ := by simp
          rw [k1, k2]
          show p.Term < t ∧ p.Start < st
          omega
      · rcases List.mem_append.1 hq with hq | hq
        · have := g.low q hq
          exact ⟨this.1, this.2.1, by omega, by omega⟩
        · simp at hq; subst hq
          exact ⟨h0, h3, by show st < st + 1; omega, Int.le_refl _⟩
      · rw [List.getLast?_concat] at hq
        cases hq; rfl
      · rw [look_snoc, if_pos (Int.le_refl _)]
      · rw [look_snoc, if_neg (by show ¬ st ≤ x; omega)]
theorem ofS_good (base : Int) (hb : 0 ≤ base) : ∀ (l : List Int) (t last : Int) (out : List Span) (i : Nat), Good out last (base + i) → 0 ≤ t → last ≤ t → ∃ last', Good (ofS base out i (ups t l)) last' (base + i + l.length) ∧ last' ≤ max last (t + 2 * l.length) ∧
    (∀ x, x < base + i → look (ofS base out i (ups t l)) x = look out x) ∧ ∀ j (h : j < l.length), look (ofS base out i (ups t l)) (base + i + j) = (ups t l)[j]'(by rw [ups_len]; exact h)
  | [], t, last, out, i, g, h0, h1 => ⟨last, by simpa [ups, ofS] using g, Int.le_max_left _ _, fun _ _ => rfl, fun j h => by simp at h⟩
  | y :: r, t, last, out, i, g, h0, h1 => by
    have hm : 0 ≤ y % 3 ∧ y % 3 ≤ 2 := by omega
    obtain ⟨g2, k1, k2⟩ := g.add (t := t + y % 3) (st := base + i) (by omega) (by omega) (Int.le_refl _) (by omega)
    have e0 : base + (i : Int) + 1 = base + ((i + 1 : Nat) : Int) := by omega
    rw [e0] at g2
    obtain ⟨last', g3, hl, k3, k4⟩ := ofS_good base hb r (t + y % 3) (t + y % 3) _ (i + 1) g2 (by omega) (Int.le_refl _)
    have e : ofS base out i (ups t (y :: r)) = ofS base (addS out (t + y % 3) (base + i)) ((i + 1 : Nat) : Int) (ups (t + y % 3) r) := by
      rw [ups, ofS]; rfl
    rw [e]
    refine ⟨last', ?_, ?_, fun x hx => ?_, fun j h => ?_⟩
    · rw [List.length_cons]
      have : base + ((i + 1 : Nat) : Int) + (r.length : Int) = base + (i : Int) + ((r.length + 1 : Nat) : Int) := by omega
      rw [← this]; exact g3
    · rw [List.length_cons]; omega
    · rw [k3 x (by omega), k2 x hx]
    · cases j with
      | zero =>
        rw [k3 _ (by omega), show base + (i : Int) + ((0 : Nat) : Int) = base + i by omega, k1]
        simp [ups]
      | succ j =>
        have := k4 j (by simp at h; omega)
        rw [show base + (i : Int) + ((j + 1 : Nat) : Int) = base + ((i + 1 : Nat) : Int) + (j : Int) by omega, this]
        simp [ups]
theorem schk_step (l : List Span) (hl : l.length ≤ 1000000) (i : Nat) (hlt : i < l.length) (h1 : 0 ≤ l[i].Term ∧ l[i].Term ≤ 1073741824 ∧ 0 ≤ l[i].Start ∧ l[i].Start ≤ 1073741824) (h2 : ∀ (h : 0 < i), l[i - 1].Term < l[i].Term ∧ l[i - 1].Start < l[i].Start) : f_spans_Check_l0 l (i : Int) = some (.inl ((i + 1 : Nat) : Int)) := by
  have hG : (0 : Int) ≤ (i : Int) ∧ (i : Int) < (l.length : Int) := ⟨by omega, by omega⟩
  unfold f_spans_Check_l0
  simp only
  rw [if_pos (decide_eq_true hG.2), w_i64 (n := (i : Int) + 1) (by omega) (by omega)]
  simp only [grd_t hG, rdn hlt]
  have b1 : ¬ l[i].Term < 0 := by omega
  have b2 : ¬ 1073741824 < l[i].Term := by omega
  have b3 : ¬ l[i].Start < 0 := by omega
  have b4 : ¬ 1073741824 < l[i].Start := by omega
  simp only [decide_eq_false b1, decide_eq_false b2, decide_eq_false b3, decide_eq_false b4, Bool.false_eq_true, if_false, Option.bind_some]
  by_cases h0 : i = 0
  · subst h0
    simp
  · have e1 : IntKind.i64.wrap ((i : Int) - 1) = ((i - 1 : Nat) : Int) := by rw [w_i64 (by omega) (by omega)]; omega
    obtain ⟨q1, q2⟩ := h2 (by omega)
    have c1 : ¬ l[i].Term ≤ l[i - 1].Term := by omega
    have c2 : ¬ l[i].Start ≤ l[i - 1].Start := by omega
    rw [if_pos (decide_eq_true (by omega)), e1, grd_t ⟨by omega, by omega⟩, grd_t ⟨by omega, by omega⟩, rdn (show i - 1 < l.length by omega)]
    simp only [decide_eq_false c1, decide_eq_false c2, Bool.false_eq_true, if_false, Option.bind_some]
    have e0 : ((i : Int) + 1) = ((i + 1 : Nat) : Int) := by omega
    rw [e0]
theorem schk_eq (l : List Span) (hl : l.length ≤ 1000000) {last fin : Int} (g : Good l last fin) (h1 : last ≤ 1073741824) (h2 : fin ≤ 1073741824) : f_spans_Check l = some GErr.nil := by
  have key : ∀ (m i : Nat), i + m = l.length → iter (f_spans_Check_l0 l) (i : Int) = some (.inl ()) := by
    intro m
    induction m with
    | zero =>
      intro i hi
      refine iter_stop ?_
      unfold f_spans_Check_l0
      simp only
      rw [if_neg (fun q => absurd (of_decide_eq_true q) (by omega))]
    | succ m ih =>
      intro i hi
      have hlt : i < l.length := by omega
      have hlow := g.low _ (List.getElem_mem hlt)
      rw [iter_next (schk_step l hl i hlt ⟨by omega, by omega, by omega, by omega⟩ (fun h => by
        have := g.rise (i - 1) (by omega)
        have e : i - 1 + 1 = i := by omega
        simp only [e] at this
        exact this))]
      exact ih (i + 1) (by omega)
  have := key l.length 0 (by omega)
  rw [show ((0 : Nat) : Int) = 0 from rfl] at this
  unfold f_spans_Check
  rw [this]
  rfl
theorem look_loop (base x31 : Int) (s : List Span) (hl : s.length ≤ 1000000) (x : Int) (hx : IntKind.i64.wrap ((IntKind.i64.wrap base) + x31) = x) : ∀ (m i : Nat) (acc : Int), i + m = s.length → iter (f_law13_SpansTells_l1 base s x31) (acc, (i : Int)) = some ((s.drop i).foldl (fun acc p => if p.Start ≤ x then p.Term else acc) acc)
  | 0, i, acc, hi => by
    refine iter_stop ?_
    unfold f_law13_SpansTells_l1
    simp only
    rw [if_neg (fun q => absurd (of_decide_eq_true q) (by omega)), List.drop_eq_nil_of_le (by omega)]
    rfl
  | m + 1, i, acc, hi => by
    have hlt : i < s.length := by omega
    have hstep : f_law13_SpansTells_l1 base s x31 (acc, (i : Int)) = some (.inl (if s[i].Start ≤ x then s[i].Term else acc, ((i + 1 : Nat) : Int))) := by
      unfold f_law13_SpansTells_l1
      simp only
      rw [if_pos (decide_eq_true (by omega)), grd_t ⟨by omega, by omega⟩, grd_t ⟨by omega, by omega⟩, rdn hlt, hx, w_i64 (by omega) (by omega)]
      by_cases h : s[i].Start ≤ x
      · simp [h]
      · simp [h]
    rw [iter_next hstep, look_loop base x31 s hl x hx m (i + 1) _ (by omega), List.drop_eq_getElem_cons (i := i) hlt]
    rfl
theorem tells13_loop (base : Int) (hb : 0 ≤ base ∧ base ≤ 65535) (b : List T_api_Batch) (s : List Span) (hl : s.length ≤ 1000000) (hbl : b.length ≤ 1000) (h : ∀ j (hj : j < b.length), look s (base + j) = b[j].Term) : ∀ (m i : Nat), i + m = b.length → iter (f_law13_SpansTells_l0 base b s) (i : Int) = some (.inl ())
  | 0, i, hi => by
    refine iter_stop ?_
    unfold f_law13_SpansTells_l0
    simp only
    rw [if_neg (fun q => absurd (of_decide_eq_true q) (by omega))]
  | m + 1, i, hi => by
    have hlt : i < b.length := by omega
    have hll := look_loop base (i : Int) s hl (base + i) (by rw [w_i64 (n := base) (by omega) (by omega), w_i64 (by omega) (by omega)]) s.length 0 0 (by omega)
    have hstep : f_law13_SpansTells_l0 base b s (i : Int) = some (.inl ((i + 1 : Nat) : Int)) := by
      unfold f_law13_SpansTells_l0
      simp only
      rw [show ((0 : Nat) : Int) = 0 from rfl, List.drop_zero] at hll
      rw [if_pos (decide_eq_true (by omega)), hll]
      simp only [Option.bind_some]
      rw [show List.foldl (fun acc p => if p.Start ≤ base + (i : Int) then p.Term else acc) 0 s = look s (base + i) from rfl, h i hlt, grd_t ⟨by omega, by omega⟩, rdn hlt, w_i64 (by omega) (by omega)]
      simp
    rw [iter_next hstep]
    exact tells13_loop base hb b s hl hbl h m (i + 1) (by omega)
theorem ofS_len (base : Int) : ∀ (l : List Int) (out : List Span) (i : Int), (ofS base out i l).length ≤ out.length + l.length
  | [], out, i => by simp [ofS]
  | t :: r, out, i => by
    rw [ofS, List.length_cons]
    have h1 := ofS_len base r (addS out t (base + i)) (i + 1)
    have h2 := addS_len out t (base + i)
    omega
theorem pure_SpansTells (base : Int) (l : List Int) (h1 : (Lit.int .u16 base).wf = true) (h : (∀ x ∈ l, (Lit.int .u8 x).wf = true) ∧ l.length ≤ maxLen) : f_law13_SpansTells base l = some true := by
  obtain ⟨b0, b1⟩ := bounds_u16 h1
  have hb : ∀ x ∈ l, 0 ≤ x ∧ x ≤ 255 := fun x hx => bounds_u8 (h.1 x hx)
  unfold f_law13_SpansTells
  rw [works13]
  by_cases h2 : 200 < l.length
  · rw [if_pos (decide_eq_true (by omega))]; rfl
  rw [if_neg (fun q => absurd (of_decide_eq_true q) (by omega)), rising_eq l hb (by omega), w_i64 (n := base) (by omega) (by omega)]
  simp only [Option.bind_some]
  rw [of_eq base 0 _ b0 (by omega) (by rw [List.length_map, ups_len]; omega)]
  simp only [Option.bind_some]
  have em : ((ups 1 l).map asB).map (·.Term) = ups 1 l := by simp [List.map_map, Function.comp_def, asB]
  rw [em]
  obtain ⟨last, g, hlast, _, hlook⟩ : ∃ last', Good (ofS base (if 0 < base then [⟨0, base - 1⟩] else []) 0 (ups 1 l)) last' (base + l.length) ∧ last' ≤ 1000 ∧ True ∧ ∀ j (h : j < l.length), look (ofS base (if 0 < base then [⟨0, base - 1⟩] else []) 0 (ups 1 l)) (base + j) = (ups 1 l)[j]'(by rw [ups_len]; exact h) := by
    have g0 : Good (if 0 < base then [⟨0, base - 1⟩] else []) 0 (base + ((0 : Nat) : Int)) := by
      split
      · refine ⟨fun i h => by simp at h, fun p hp => ?_, fun p hp => ?_⟩
        · simp at hp; subst hp; exact ⟨Int.le_refl _, by show 0 ≤ base - 1; omega, by show base - 1 < _; omega, Int.le_refl _⟩
        · simp at hp; subst hp; rfl
      · exact ⟨fun i h => by simp at h, fun p hp => by simp at hp, fun p hp => by simp at hp⟩
    obtain ⟨last', g1, g2, g3, g4⟩ := ofS_good base b0 l 1 0 _ 0 g0 (by decide) (by decide)
    rw [show ((0 : Nat) : Int) = 0 from rfl, Int.add_zero] at g1 g4
    exact ⟨last', g1, by omega, trivial, g4⟩
  have hlen := ofS_len base (ups 1 l) (if 0 < base then [⟨0, base - 1⟩] else []) 0
  have hlen0 : (if 0 < base then [(⟨0, base - 1⟩ : Span)] else []).length ≤ 1 := by split <;> simp
  rw [ups_len] at hlen
  rw [schk_eq _ (by omega) g (by omega) (by omega)]
  simp only [Option.bind_some]
  rw [if_neg (by decide)]
  have ht := tells13_loop base ⟨b0, b1⟩ ((ups 1 l).map asB) (ofS base (if 0 < base then [⟨0, base - 1⟩] else []) 0 (ups 1 l)) (by omega) (by rw [List.length_map, ups_len]; omega) (fun j hj => by
    rw [hlook j (by rw [List.length_map, ups_len] at hj; exact hj)]
    simp [asB]) ((ups 1 l).map asB).length 0 (by omega)
  rw [show ((0 : Nat) : Int) = 0 from rfl] at ht
  rw [ht]
  rfl
end Go.Proofs.Ytmifmgpfjamdkaa.G
