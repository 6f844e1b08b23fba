/- Where two logs part: the law SpansParts of what the printed functions compute. No condition. -/
import Derived.Test.YtmifmgpfjamdkaaLSpans2
set_option linter.unusedSimpArgs false
set_option linter.unusedVariables false
namespace Go.Proofs.Ytmifmgpfjamdkaa.G
open Go Go.KK

/-- How many terms are no greater than t, where they do not fall. -/
structure isM (ts : List Int) (t : Int) (m : Nat) : Prop where
  le : m ≤ ts.length
  low : ∀ i (h : i < ts.length), i < m → ts[i] ≤ t
  high : ∀ i (h : i < ts.length), m ≤ i → t < ts[i]
/-- The spans of terms from 0 on. -/
structure Spans (ts : List Int) (s : List Span) : Prop where
  starts : ∀ p ∈ s, p.Start < ts.length
  empty : s = [] ↔ ts = []
  last : ∀ p, s.getLast? = some p → ts.getLast? = some p.Term
  first : firstOf s = 0
  tells : ∀ t m, isM ts t m → ∃ k, isK s t k ∧ (m = 0 → k = 0) ∧ (0 < m → 0 < k ∧ ∀ (h1 : k - 1 < s.length) (h2 : m - 1 < ts.length), s[k - 1].Term = ts[m - 1]) ∧ (∀ (h : k < s.length), s[k].Start = m) ∧ (k = s.length → m = ts.length)
theorem Spans.nil : Spans [] [] where
  starts := fun p h => by cases h
  empty := by simp
  last := fun p h => by cases h
  first := rfl
  tells := fun t m hm => by
    have hle := hm.le
    simp at hle
    subst hle
    exact ⟨0, ⟨Nat.le_refl _, fun i h => by simp at h, fun i h => by simp at h⟩, fun _ => rfl, fun h => by omega, fun h => by simp at h, fun _ => rfl⟩
theorem getLast_get {α : Type} {l : List α} {x : α} (h : l.getLast? = some x) : ∃ i, l = i ++ [x] := by
  rcases snoc_cases l with rfl | ⟨i, p, rfl⟩
  · cases h
  · rw [List.getLast?_concat] at h; cases h; exact ⟨i, rfl⟩
theorem Spans.add {ts : List Int} {s : List Span} (g : Spans ts s) (T : Int) (hT : ∀ x ∈ ts, x ≤ T) : Spans (ts ++ [T]) (addS s T ts.length) := by
  have hn : (ts ++ [T]).length = ts.length + 1 := by simp
  rcases snoc_cases s with rfl | ⟨i, p, rfl⟩
  · have ht : ts = [] := g.empty.1 rfl
    subst ht
    have e : addS [] T ((([] : List Int).length : Nat) : Int) = [⟨T, 0⟩] := rfl
    rw [e]
    refine ⟨fun q hq => ?_, by simp, fun q hq => ?_, rfl, fun t m hm => ?_⟩
    · simp at hq; subst hq; show (0 : Int) < _; simp
    · simp at hq; subst hq; rfl
    · have hle := hm.le
      simp at hle
      by_cases c : T ≤ t
      · have m1 : m = 1 := by
          rcases Nat.eq_zero_or_pos m with h0 | h0
          · have := hm.high 0 (by simp) (by omega); simp at this; omega
          · omega
        subst m1
        exact ⟨1, ⟨by simp, fun j h hj => by simp at h; subst h; simpa using c, fun j h hj => by simp at h; omega⟩, fun h => by omega, fun _ => ⟨by omega, fun h1 h2 => rfl⟩, fun h => by simp at h, fun _ => rfl⟩
      · have m0 : m = 0 := by
          rcases Nat.eq_zero_or_pos m with h0 | h0
          · exact h0
          · have := hm.low 0 (by simp) h0; simp at this; omega
        subst m0
        exact ⟨0, ⟨by simp, fun j h hj => by omega, fun j h hj => by simp at h; subst h; simp; omega⟩, fun _ => rfl, fun h => by omega, fun h => rfl, fun h => by simp at h⟩
  · -- something stands there
    have hl := g.last p (List.getLast?_concat ..)
    obtain ⟨u, hu⟩ := getLast_get hl
    have hpos : 0 < ts.length := by rw [hu]; simp
    have hlastget : ∀ (h : ts.length - 1 < ts.length), ts[ts.length - 1] = p.Term := by
      intro h
      simp only [hu]
      simp
    have hpT : p.Term ≤ T := hT _ (by rw [hu]; simp)
    rw [addS_snoc]
    -- the cut of the shorter row
    have cutlow : ∀ t m, isM (ts ++ [T]) t m → T ≤ t → m = ts.length + 1 ∧ isM ts t ts.length := by
      intro t m hm hc
      have hall : ∀ x ∈ ts, x ≤ t := fun x hx => Int.le_trans (hT x hx) hc
      refine ⟨?_, Nat.le_refl _, fun j h _ => hall _ (List.getElem_mem h), fun j h h2 => by omega⟩
      have hle := hm.le
      by_cases e : m = ts.length + 1
      · exact e
      · have := hm.high ts.length (by simp) (by omega)
        simp at this; omega
    have cuthigh : ∀ t m, isM (ts ++ [T]) t m → t < T → isM ts t m := by
      intro t m hm hc
      have hle := hm.le
      have hml : m ≤ ts.length := by
        by_cases e : m ≤ ts.length
        · exact e
        · have := hm.low ts.length (by simp) (by omega)
          simp at this; omega
      refine ⟨hml, fun j h h2 => ?_, fun j h h2 => ?_⟩
      · have := hm.low j (by omega) h2
        rwa [List.getElem_append_left h] at this
      · have := hm.high j (by omega) h2
        rwa [List.getElem_append_left h] at this
    have fullk : ∀ t k, isK (i ++ [p]) t k → (∀ (h : k < (i ++ [p]).length), (i ++ [p])[k].Start = ((ts.length : Nat) : Int)) → k = (i ++ [p]).length := by
      intro t k hk h4
      have := hk.le
      by_cases e : k = (i ++ [p]).length
      · exact e
      · have h5 : k < (i ++ [p]).length := by omega
        have := h4 h5
        have := g.starts _ (List.getElem_mem h5)
        omega
    by_cases h : T ≤ p.Term
    · have eT : T = p.Term := by omega
      rw [if_pos h]
      refine ⟨fun q hq => by have := g.starts q hq; omega, by simp, fun q hq => ?_, g.first, fun t m hm => ?_⟩
      · rw [List.getLast?_concat] at hq ⊢; cases hq; rw [eT]
      · by_cases c : T ≤ t
        · obtain ⟨m1, hm2⟩ := cutlow t m hm c
          obtain ⟨k, k1, k2, k3, k4, k5⟩ := g.tells t _ hm2
          have kf := fullk t k k1 k4
          refine ⟨k, k1, fun e => by omega, fun _ => ⟨by rw [kf]; simp, fun h1 h2 => ?_⟩, fun h1 => by omega, fun _ => by rw [hn]; exact m1⟩
          have e1 : k - 1 = i.length := by rw [kf]; simp
          have e2 : m - 1 = ts.length := by omega
          simp only [e1, e2]
          simp [eT]
        · have hm2 := cuthigh t m hm (by omega)
          obtain ⟨k, k1, k2, k3, k4, k5⟩ := g.tells t m hm2
          refine ⟨k, k1, k2, fun h0 => ⟨(k3 h0).1, fun h1 h2 => ?_⟩, k4, fun e => ?_⟩
          · have hml := hm2.le
            rw [List.getElem_append_left (show m - 1 < ts.length by omega)]
            exact (k3 h0).2 h1 (by omega)
          · have := k5 e
            have := hm2.low (ts.length - 1) (by omega) (by omega)
            rw [hlastget (by omega)] at this
            omega
    · rw [if_neg h]
      have sl : (i ++ [p] ++ [(⟨T, ((ts.length : Nat) : Int)⟩ : Span)]).length = (i ++ [p]).length + 1 := by simp
      have sget : ∀ j (hj : j < (i ++ [p]).length), (i ++ [p] ++ [(⟨T, ((ts.length : Nat) : Int)⟩ : Span)])[j]'(by omega) = (i ++ [p])[j] := fun j hj => List.getElem_append_left hj
      have slast : (i ++ [p] ++ [(⟨T, ((ts.length : Nat) : Int)⟩ : Span)])[(i ++ [p]).length]'(by omega) = ⟨T, ((ts.length : Nat) : Int)⟩ := by
        rw [List.getElem_append_right (Nat.le_refl _)]; simp
      refine ⟨fun q hq => ?_, by simp, fun q hq => ?_, ?_, fun t m hm => ?_⟩
      · rcases List.mem_append.1 hq with hq | hq
        · have := g.starts q hq; omega
        · simp at hq; subst hq; show ((ts.length : Nat) : Int) < _; omega
      · rw [List.getLast?_concat] at hq ⊢; cases hq; rfl
      · have := g.first
        unfold firstOf at this ⊢
        rw [if_neg (by simp)] at this
        rw [if_neg (by simp)]
        have r1 : rd (i ++ [p]) 0 = (i ++ [p])[0]'(by simp) := rdn (i := 0) (by simp)
        have r2 : rd (i ++ [p] ++ [(⟨T, ((ts.length : Nat) : Int)⟩ : Span)]) 0 = (i ++ [p] ++ [(⟨T, ((ts.length : Nat) : Int)⟩ : Span)])[0]'(by simp) := rdn (i := 0) (by simp)
        rw [r1] at this
        rw [r2, sget 0 (by simp)]
        exact this
      · by_cases c : T ≤ t
        · obtain ⟨m1, hm2⟩ := cutlow t m hm c
          obtain ⟨k, k1, k2, k3, k4, k5⟩ := g.tells t _ hm2
          have kf := fullk t k k1 k4
          refine ⟨(i ++ [p]).length + 1, ⟨by omega, fun j hj h2 => ?_, fun j hj h2 => by omega⟩, fun e => by omega, fun _ => ⟨by omega, fun h1 h2 => ?_⟩, fun h1 => by omega, fun _ => by rw [hn]; exact m1⟩
          · by_cases e : j < (i ++ [p]).length
            · rw [sget j e]; exact k1.low j e (by omega)
            · have e2 : j = (i ++ [p]).length := by omega
              subst e2
              rw [slast]; exact c
          · have e2 : m - 1 = ts.length := by omega
            simp only [e2, Nat.add_sub_cancel]
            rw [slast]; simp
        · have hm2 := cuthigh t m hm (by omega)
          obtain ⟨k, k1, k2, k3, k4, k5⟩ := g.tells t m hm2
          have hkl := k1.le
          have hml := hm2.le
          refine ⟨k, ⟨by omega, fun j hj h2 => ?_, fun j hj h2 => ?_⟩, k2, fun h0 => ⟨(k3 h0).1, fun h1 h2 => ?_⟩, fun h1 => ?_, fun e => by omega⟩
          · rw [sget j (by omega)]; exact k1.low j (by omega) h2
          · by_cases e : j < (i ++ [p]).length
            · rw [sget j e]; exact k1.high j e h2
            · have e2 : j = (i ++ [p]).length := by omega
              subst e2
              rw [slast]; show t < T; omega
          · have := (k3 h0).1
            rw [sget (k - 1) (by omega), List.getElem_append_left (show m - 1 < ts.length by omega)]
            exact (k3 h0).2 (by omega) (by omega)
          · by_cases e : k < (i ++ [p]).length
            · rw [sget k e]; exact k4 e
            · have e2 : k = (i ++ [p]).length := by omega
              subst e2
              rw [slast]
              have := k5 rfl
              show ((ts.length : Nat) : Int) = m
              omega
/-- Terms that do not fall. -/
def noFall (ts : List Int) : Prop := ∀ i j (h : j < ts.length) (hij : i ≤ j), ts[i]'(by omega) ≤ ts[j]
theorem ofS_snoc (base : Int) : ∀ (l : List Int) (out : List Span) (i : Int) (t : Int), ofS base out i (l ++ [t]) = addS (ofS base out i l) t (base + (i + l.length))
  | [], out, i, t => by simp [ofS]
  | x :: r, out, i, t => by
    simp only [List.cons_append, ofS, List.length_cons]
    rw [ofS_snoc base r]
    congr 1
    omega
theorem spans_of : ∀ (n : Nat) (ts : List Int), ts.length = n → noFall ts → Spans ts (ofS 0 [] 0 ts)
  | 0, ts, hn, h => by
    have : ts = [] := List.eq_nil_of_length_eq_zero hn
    subst this
    exact Spans.nil
  | n + 1, ts, hn, h => by
    rcases snoc_cases ts with rfl | ⟨u, T, rfl⟩
    · simp at hn
    · have hu : u.length = n := by simp at hn; exact hn
      have ih := spans_of n u hu (fun i j hj hij => by
        have := h i j (by simp; omega) hij
        rwa [List.getElem_append_left (by omega), List.getElem_append_left hj] at this)
      rw [ofS_snoc, show (0 : Int) + (0 + (u.length : Int)) = (u.length : Int) by omega]
      refine ih.add T fun x hx => ?_
      obtain ⟨i, hi, rfl⟩ := List.getElem_of_mem hx
      have := h i u.length (by simp) (by omega)
      rw [List.getElem_append_left hi, List.getElem_append_right (Nat.le_refl _)] at this
      simpa using this
theorem isM_exists {ts : List Int} (h : noFall ts) (t : Int) : ∃ m, isM ts t m := by
  have key : ∀ n, n ≤ ts.length → ∃ m, m ≤ n ∧ (∀ i (h : i < ts.length), i < m → ts[i] ≤ t) ∧ ∀ i (h : i < ts.length), m ≤ i → i < n → t < ts[i] := by
    intro n
    induction n with
    | zero => intro _; exact ⟨0, Nat.le_refl _, fun i _ hi => absurd hi (Nat.not_lt_zero _), fun i _ _ hi => absurd hi (Nat.not_lt_zero _)⟩
    | succ n ih =>
      intro hn
      obtain ⟨m, h1, h2, h3⟩ := ih (by omega)
      have hnl : n < ts.length := by omega
      by_cases ht : ts[n] ≤ t
      · exact ⟨n + 1, Nat.le_refl _, fun i hi him => Int.le_trans (h i n hnl (by omega)) ht, fun i hi h4 h5 => by omega⟩
      · refine ⟨m, by omega, h2, fun i hi h4 h5 => ?_⟩
        by_cases e : i = n
        · subst e; omega
        · exact h3 i hi h4 (by omega)
  obtain ⟨m, h1, h2, h3⟩ := key ts.length (Nat.le_refl _)
  exact ⟨m, h1, h2, fun i hi hk => h3 i hi hk hi⟩
/-- Where a term ends, told of the terms. -/
theorem end_of {ts : List Int} {s : List Span} (g : Spans ts s) {t : Int} {m : Nat} (hm : isM ts t m) : ∃ k, isK s t k ∧ endAt s k ts.length = if m = 0 then (0, 0, false) else (rd ts ((m - 1 : Nat) : Int), (m : Int), true) := by
  obtain ⟨k, k1, k2, k3, k4, k5⟩ := g.tells t m hm
  have hkl := k1.le
  have hml := hm.le
  refine ⟨k, k1, ?_⟩
  unfold endAt
  by_cases h0 : m = 0
  · rw [if_pos (k2 h0), if_pos h0]
  · obtain ⟨p1, p2⟩ := k3 (by omega)
    rw [if_neg (by omega), if_neg h0]
    have e1 : rd s ((k - 1 : Nat) : Int) = s[k - 1] := rdn (by omega)
    have e2 : rd ts ((m - 1 : Nat) : Int) = ts[m - 1] := rdn (by omega)
    rw [e1, e2, p2 (by omega) (by omega)]
    by_cases e : k = s.length
    · have q : ((ts.length : Nat) : Int) = (m : Int) := by rw [k5 e]
      rw [if_pos e, q]
    · rw [if_neg e]
      have e3 : rd s (k : Int) = s[k] := rdn (by omega)
      rw [e3, k4 (by omega)]

/-! ### the two logs -/
theorem ups_append : ∀ (t : Int) (x y : List Int), ∃ e, ups t (x ++ y) = ups t x ++ ups e y ∧ t ≤ e ∧ e ≤ t + 2 * x.length ∧ ∀ q ∈ ups t x, q ≤ e
  | t, [], y => ⟨t, rfl, Int.le_refl _, by simp, fun q h => by cases h⟩
  | t, a :: x, y => by
    obtain ⟨e, h1, h2, h3, h4⟩ := ups_append (t + a % 3) x y
    refine ⟨e, by simp only [List.cons_append, ups, h1], by omega, by rw [List.length_cons]; omega, fun q hq => ?_⟩
    rw [ups] at hq
    rcases List.mem_cons.1 hq with rfl | hq
    · exact h2
    · exact h4 q hq
theorem ups_noFall : ∀ (t : Int) (l : List Int), noFall (ups t l)
  | _, [], i, j, h, _ => by simp [ups] at h
  | t, a :: r, i, j, h, hij => by
    cases j with
    | zero => have : i = 0 := by omega
              subst this; exact Int.le_refl _
    | succ j =>
      cases i with
      | zero =>
        have hj : j < (ups (t + a % 3) r).length := by simp [ups] at h; exact h
        have := (ups_bound (t + a % 3) r _ (List.getElem_mem hj)).1
        simp only [ups, List.getElem_cons_zero, List.getElem_cons_succ]
        exact this
      | succ i =>
        have hj : j < (ups (t + a % 3) r).length := by simp [ups] at h; exact h
        simp only [ups, List.getElem_cons_succ]
        exact ups_noFall (t + a % 3) r i j hj (by omega)
theorem noFall_map {ts : List Int} (h : noFall ts) (d : Int) : noFall (ts.map (· + d)) := fun i j hj hij => by
  have := h i j (by simpa using hj) hij
  simp only [List.getElem_map]; omega
theorem noFall_append {x y : List Int} (hx : noFall x) (hy : noFall y) (h : ∀ p ∈ x, ∀ q ∈ y, p ≤ q) : noFall (x ++ y) := fun i j hj hij => by
  by_cases c : j < x.length
  · rw [List.getElem_append_left (by omega), List.getElem_append_left c]; exact hx i j c hij
  · rw [List.getElem_append_right (show x.length ≤ j by omega)]
    by_cases c2 : i < x.length
    · rw [List.getElem_append_left c2]; exact h _ (List.getElem_mem _) _ (List.getElem_mem _)
    · rw [List.getElem_append_right (show x.length ≤ i by omega)]
      exact hy _ _ (by simp at hj; omega) (by omega)
theorem shift0_loop : ∀ (m i : Nat) (xs : List T_api_Batch), i + m = xs.length → xs.length ≤ 1000 → (∀ b ∈ xs.drop i, 0 ≤ b.Term ∧ b.Term ≤ 100000) → iter f_law13_SpansParts_l0 (xs, (i : Int)) = some (xs.take i ++ (xs.drop i).map fun b => ⟨b.Term + 1000, b.Base, b.Records⟩)
  | 0, i, xs, hi, hl, hb => by
    refine iter_stop ?_
    unfold f_law13_SpansParts_l0
    simp only
    rw [if_neg (fun q => absurd (of_decide_eq_true q) (by omega)), List.drop_eq_nil_of_le (by omega), List.take_of_length_le (by omega)]
    simp
  | m + 1, i, xs, hi, hl, hb => by
    have hlt : i < xs.length := by omega
    have hd : xs.drop i = xs[i] :: xs.drop (i + 1) := List.drop_eq_getElem_cons hlt
    have hx := hb xs[i] (by rw [hd]; exact List.mem_cons_self)
    have hstep : f_law13_SpansParts_l0 (xs, (i : Int)) = some (.inl (xs.set i ⟨xs[i].Term + 1000, xs[i].Base, xs[i].Records⟩, ((i + 1 : Nat) : Int))) := by
      unfold f_law13_SpansParts_l0
      simp only
      rw [if_pos (decide_eq_true (by omega)), grd_t ⟨by omega, by omega⟩, grd_t ⟨by omega, by omega⟩, rdn hlt, w_i64 (n := xs[i].Term + 1000) (by omega) (by omega), w_i64 (n := (i : Int) + 1) (by omega) (by omega), Int.toNat_natCast]
      rfl
    have hds : (xs.set i ⟨xs[i].Term + 1000, xs[i].Base, xs[i].Records⟩).drop (i + 1) = xs.drop (i + 1) := by rw [List.drop_set_of_lt (by omega)]
    rw [iter_next hstep, shift0_loop m (i + 1) _ (by simp; omega) (by simpa using hl) (by rw [hds]; exact fun b hb2 => hb b (by rw [hd]; exact List.mem_cons_of_mem _ hb2)), hds, hd]
    rw [List.take_succ_eq_append_getElem (by simpa using hlt), List.take_set_of_le (by omega), List.getElem_set_self, List.map_cons, List.append_assoc]
    rfl
theorem shift1_loop : ∀ (m i : Nat) (xs : List T_api_Batch), i + m = xs.length → xs.length ≤ 1000 → (∀ b ∈ xs.drop i, 0 ≤ b.Term ∧ b.Term ≤ 100000) → iter f_law13_SpansParts_l1 (xs, (i : Int)) = some (xs.take i ++ (xs.drop i).map fun b => ⟨b.Term + 500, b.Base, b.Records⟩)
  | 0, i, xs, hi, hl, hb => by
    refine iter_stop ?_
    unfold f_law13_SpansParts_l1
    simp only
    rw [if_neg (fun q => absurd (of_decide_eq_true q) (by omega)), List.drop_eq_nil_of_le (by omega), List.take_of_length_le (by omega)]
    simp
  | m + 1, i, xs, hi, hl, hb => by
    have hlt : i < xs.length := by omega
    have hd : xs.drop i = xs[i] :: xs.drop (i + 1) := List.drop_eq_getElem_cons hlt
    have hx := hb xs[i] (by rw [hd]; exact List.mem_cons_self)
    have hstep : f_law13_SpansParts_l1 (xs, (i : Int)) = some (.inl (xs.set i ⟨xs[i].Term + 500, xs[i].Base, xs[i].Records⟩, ((i + 1 : Nat) : Int))) := by
      unfold f_law13_SpansParts_l1
      simp only
      rw [if_pos (decide_eq_true (by omega)), grd_t ⟨by omega, by omega⟩, grd_t ⟨by omega, by omega⟩, rdn hlt, w_i64 (n := xs[i].Term + 500) (by omega) (by omega), w_i64 (n := (i : Int) + 1) (by omega) (by omega), Int.toNat_natCast]
      rfl
    have hds : (xs.set i ⟨xs[i].Term + 500, xs[i].Base, xs[i].Records⟩).drop (i + 1) = xs.drop (i + 1) := by rw [List.drop_set_of_lt (by omega)]
    rw [iter_next hstep, shift1_loop m (i + 1) _ (by simp; omega) (by simpa using hl) (by rw [hds]; exact fun b hb2 => hb b (by rw [hd]; exact List.mem_cons_of_mem _ hb2)), hds, hd]
    rw [List.take_succ_eq_append_getElem (by simpa using hlt), List.take_set_of_le (by omega), List.getElem_set_self, List.map_cons, List.append_assoc]
    rfl
/-- The logs: the same up to some place; from there on the one's terms are greater than all of the other's. -/
structure Logs (tb A C : List Int) : Prop where
  nb : noFall tb
  nA : noFall A
  nC : noFall C
  bb : ∀ x ∈ tb, 1 ≤ x ∧ x ≤ 400
  bA : ∀ x ∈ A, 401 ≤ x ∧ x ≤ 900
  bC : ∀ x ∈ C, 1001 ≤ x ∧ x ≤ 2000
  lb : tb.length ≤ 60
  lA : A.length ≤ 60
  lC : C.length ≤ 60
section
variable {tb A C : List Int} (g : Logs tb A C)
include g
theorem Logs.na : noFall (tb ++ A) := noFall_append g.nb g.nA fun p hp q hq => by have := g.bb p hp; have := g.bA q hq; omega
theorem Logs.nc : noFall (tb ++ C) := noFall_append g.nb g.nC fun p hp q hq => by have := g.bb p hp; have := g.bC q hq; omega
theorem Logs.ofa : f_spans_Of 0 0 ((tb ++ A).map asB) = some (ofS 0 [] 0 (tb ++ A)) := by
  have h1 := g.lb; have h2 := g.lA
  rw [of_eq 0 0 _ (by decide) (by decide) (by simp; omega)]
  congr 2
  simp [List.map_map, Function.comp_def, asB]
theorem Logs.ofc : f_spans_Of 0 0 ((tb ++ C).map asB) = some (ofS 0 [] 0 (tb ++ C)) := by
  have h1 := g.lb; have h2 := g.lC
  rw [of_eq 0 0 _ (by decide) (by decide) (by simp; omega)]
  congr 2
  simp [List.map_map, Function.comp_def, asB]
theorem Logs.ofb : f_spans_Of 0 0 (tb.map asB) = some (ofS 0 [] 0 tb) := by
  have h1 := g.lb
  rw [of_eq 0 0 _ (by decide) (by decide) (by simp; omega)]
  congr 2
  simp [List.map_map, Function.comp_def, asB]
theorem Logs.sx : (ofS 0 [] 0 (tb ++ A)).length ≤ 1000000 := by
  have h1 := ofS_len 0 (tb ++ A) [] 0; have h2 := g.lb; have h3 := g.lA
  simp only [List.length_append, List.length_nil] at h1; omega
theorem Logs.sy : (ofS 0 [] 0 (tb ++ C)).length ≤ 1000000 := by
  have h1 := ofS_len 0 (tb ++ C) [] 0; have h2 := g.lb; have h3 := g.lC
  simp only [List.length_append, List.length_nil] at h1; omega
/-- At the place where they part it ends. -/
theorem Logs.stop (y : List Span) (n : Int) (hn : n < 200) : f_law13_SpansParts_l2 ((tb ++ C).map asB) ((tb ++ A).map asB) (ofS 0 [] 0 (tb ++ A)) (y, ((tb.length : Nat) : Int), n) = some (.inr (.inl ((tb.length : Nat) : Int))) := by
  have sp := spans_of _ _ rfl g.na
  have hsx := g.sx
  have h1 := g.lb; have h2 := g.lA
  unfold f_law13_SpansParts_l2
  simp only
  rw [if_pos (decide_eq_true hn)]
  by_cases h0 : tb.length = 0
  · rw [if_neg (fun q => absurd (of_decide_eq_true q) (by omega))]
    simp only [Option.bind_some]
    obtain ⟨m, hm⟩ := isM_exists g.na 0
    obtain ⟨k, hk, _⟩ := end_of sp hm
    rw [(parted_eq _ 0 _ _ k hk (by omega)).1]
    simp only [Option.bind_some]
    obtain ⟨p1, p2, p3⟩ := parted (ofS 0 [] 0 (tb ++ A)) k (((tb ++ A).map asB).length : Int) 0 ((tb.length : Nat) : Int)
    cases p3 with
    | false => rfl
    | true => simp [h0]
  · have hlast : tb.length - 1 < tb.length := by omega
    have hm : isM (tb ++ A) tb[tb.length - 1] tb.length := by
      refine ⟨by simp, fun i hi hit => ?_, fun i hi hit => ?_⟩
      · rw [List.getElem_append_left hit]; exact g.nb i _ hlast (by omega)
      · rw [List.getElem_append_right hit]
        have := g.bA _ (List.getElem_mem (show i - tb.length < A.length by simp at hi; omega))
        have := g.bb _ (List.getElem_mem hlast)
        omega
    obtain ⟨k, hk, he⟩ := end_of sp hm
    have e1 : IntKind.i64.wrap (((tb.length : Nat) : Int) - 1) = ((tb.length - 1 : Nat) : Int) := by rw [w_i64 (by omega) (by omega)]; omega
    have e2 : (rd ((tb ++ C).map asB) ((tb.length - 1 : Nat) : Int)).Term = tb[tb.length - 1] := by
      rw [rdn (by simp; omega)]
      simp only [List.getElem_map, asB]
      rw [List.getElem_append_left hlast]
    rw [if_pos (decide_eq_true (by omega)), e1, grd_t ⟨by omega, by simp; omega⟩, e2]
    simp only [Option.bind_some]
    rw [(parted_eq _ _ _ _ k hk (by omega)).1]
    simp only [Option.bind_some]
    have e3 : (((tb ++ A).map asB).length : Int) = ((tb ++ A).length : Int) := by simp
    have e4 : rd (tb ++ A) ((tb.length - 1 : Nat) : Int) = tb[tb.length - 1] := by
      rw [rdn (by simp; omega), List.getElem_append_left hlast]
    have e5 : parted (ofS 0 [] 0 (tb ++ A)) k (((tb ++ A).map asB).length : Int) tb[tb.length - 1] ((tb.length : Nat) : Int) = (0, 0, false) := by
      unfold parted
      rw [e3, he, if_neg h0, e4]
      simp
    rw [e5]
    rfl
/-- From the end it goes there at once. -/
theorem Logs.step (hC : C ≠ []) : f_law13_SpansParts_l2 ((tb ++ C).map asB) ((tb ++ A).map asB) (ofS 0 [] 0 (tb ++ A)) (ofS 0 [] 0 (tb ++ C), (((tb ++ C).map asB).length : Int), 0) = some (.inl (ofS 0 [] 0 tb, ((tb.length : Nat) : Int), 1)) := by
  have sx := spans_of _ _ rfl g.na
  have sy := spans_of _ _ rfl g.nc
  have hsx := g.sx; have hsy := g.sy
  have h1 := g.lb; have h2 := g.lA; have h3 := g.lC
  have hCl : 0 < C.length := (by cases C with | nil => exact absurd rfl hC | cons a r => simp)
  have hl : ((tb ++ C).map asB).length = tb.length + C.length := by simp
  have hla : ((tb ++ A).map asB).length = tb.length + A.length := by simp
  obtain ⟨L, hL⟩ : ∃ L, L = (rd ((tb ++ C).map asB) ((tb.length + C.length - 1 : Nat) : Int)).Term := ⟨_, rfl⟩
  have hLC : 1001 ≤ L := by
    rw [hL, rdn (by rw [hl]; omega)]
    simp only [List.getElem_map, asB]
    rw [List.getElem_append_right (by omega)]
    exact (g.bC _ (List.getElem_mem _)).1
  have e1 : IntKind.i64.wrap ((((tb ++ C).map asB).length : Int) - 1) = ((tb.length + C.length - 1 : Nat) : Int) := by rw [hl, w_i64 (by omega) (by omega)]; omega
  have hmx : isM (tb ++ A) L (tb ++ A).length := ⟨Nat.le_refl _, fun i hi _ => by
    rcases List.mem_append.1 (List.getElem_mem hi) with q | q
    · have := g.bb _ q; omega
    · have := g.bA _ q; omega, fun i hi h => by omega⟩
  obtain ⟨k, hk, he⟩ := end_of sx hmx
  have e3 : (((tb ++ A).map asB).length : Int) = ((tb ++ A).length : Int) := by simp
  have e4 : (((tb ++ C).map asB).length : Int) = ((tb ++ C).length : Int) := by simp
  have hsub : sub ((tb ++ C).map asB) 0 ((tb.length : Nat) : Int) = tb.map asB := by
    simp [sub, List.map_append]
  have fin (term upto : Int) (hp : parted (ofS 0 [] 0 (tb ++ A)) k (((tb ++ A).map asB).length : Int) L (((tb ++ C).map asB).length : Int) = (term, upto, true)) (hm : isM (tb ++ C) term tb.length) (hup : ((tb.length : Nat) : Int) ≤ upto) : f_law13_SpansParts_l2 ((tb ++ C).map asB) ((tb ++ A).map asB) (ofS 0 [] 0 (tb ++ A)) (ofS 0 [] 0 (tb ++ C), (((tb ++ C).map asB).length : Int), 0) = some (.inl (ofS 0 [] 0 tb, ((tb.length : Nat) : Int), 1)) := by
    unfold f_law13_SpansParts_l2
    simp only
    rw [if_pos (by decide), if_pos (decide_eq_true (by omega)), e1, grd_t ⟨by omega, by omega⟩, ← hL]
    simp only [Option.bind_some]
    rw [(parted_eq _ _ _ _ k hk (by omega)).1, hp]
    simp only [Option.bind_some]
    rw [if_neg (by decide)]
    simp only [Option.bind_some]
    rw [if_neg (fun q => absurd (of_decide_eq_true q) (by omega))]
    obtain ⟨k2, hk2, he2⟩ := end_of sy hm
    have hkept : kept (ofS 0 [] 0 (tb ++ C)) k2 (((tb ++ C).map asB).length : Int) term upto = ((tb.length : Nat) : Int) := by
      unfold kept
      rw [e4, he2]
      by_cases h0 : tb.length = 0
      · rw [if_pos h0, if_pos rfl, sy.first, h0]; rfl
      · rw [if_neg h0, if_neg (by simp), if_neg (by intro q; have := q.2; simp at this; omega)]
    rw [(keep_eq _ _ _ _ k2 hk2 (by omega)).1, hkept]
    simp only [Option.bind_some]
    rw [if_neg (fun q => absurd (of_decide_eq_true q) (by omega)), grd_t ⟨by omega, by omega, by omega⟩, hsub, g.ofb]
    rfl
  by_cases hta : (tb ++ A).length = 0
  · have htb : tb.length = 0 := by simp at hta; simp [hta.1]
    refine fin 0 0 ?_ ⟨by simp, fun i hi h => by omega, fun i hi h => ?_⟩ (by omega)
    · unfold parted
      rw [e3, he, if_pos hta, if_pos rfl, sx.first]
    · rw [List.getElem_append_right (by omega)]
      have := g.bC _ (List.getElem_mem (show i - tb.length < C.length by simp at hi; omega))
      omega
  · have hlt : (tb ++ A).length - 1 < (tb ++ A).length := by omega
    have eT : rd (tb ++ A) (((tb ++ A).length - 1 : Nat) : Int) = (tb ++ A)[(tb ++ A).length - 1] := rdn hlt
    have hTb : (tb ++ A)[(tb ++ A).length - 1] ≤ 900 := by
      rcases List.mem_append.1 (List.getElem_mem hlt) with q | q
      · have := g.bb _ q; omega
      · have := g.bA _ q; omega
    refine fin (tb ++ A)[(tb ++ A).length - 1] ((tb ++ A).length : Int) ?_ ⟨by simp, fun i hi h => ?_, fun i hi h => ?_⟩ (by simp; omega)
    · unfold parted
      rw [e3, he, if_neg hta, eT, if_neg (by simp), if_neg (by intro q; have := q.1; simp only at this; omega)]
    · have := g.na i _ hlt (by simp; omega)
      rw [List.getElem_append_left h] at this ⊢
      exact this
    · rw [List.getElem_append_right h]
      have := g.bC _ (List.getElem_mem (show i - tb.length < C.length by simp at hi; omega))
      omega
theorem Logs.loop : iter (f_law13_SpansParts_l2 ((tb ++ C).map asB) ((tb ++ A).map asB) (ofS 0 [] 0 (tb ++ A))) (ofS 0 [] 0 (tb ++ C), (((tb ++ C).map asB).length : Int), 0) = some (.inl ((tb.length : Nat) : Int)) := by
  by_cases hC : C = []
  · have e : (((tb ++ C).map asB).length : Int) = ((tb.length : Nat) : Int) := by simp [hC]
    rw [e]
    exact iter_stop (g.stop _ 0 (by decide))
  · rw [iter_next (g.step hC)]
    exact iter_stop (g.stop _ 1 (by decide))
theorem Logs.same : ∀ (m i : Nat), i + m = tb.length → iter (f_law13_SpansParts_l3 ((tb ++ C).map asB) ((tb ++ A).map asB) ((tb.length : Nat) : Int)) (i : Int) = some (.inl ())
  | 0, i, hi => by
    refine iter_stop ?_
    unfold f_law13_SpansParts_l3
    simp only
    rw [if_neg (fun q => absurd (of_decide_eq_true q) (by omega))]
  | m + 1, i, hi => by
    have h1 := g.lb
    have hlt : i < tb.length := by omega
    have ea : (rd ((tb ++ A).map asB) (i : Int)).Term = tb[i] := by
      rw [rdn (by simp; omega)]; simp only [List.getElem_map, asB]; rw [List.getElem_append_left hlt]
    have ec : (rd ((tb ++ C).map asB) (i : Int)).Term = tb[i] := by
      rw [rdn (by simp; omega)]; simp only [List.getElem_map, asB]; rw [List.getElem_append_left hlt]
    have hstep : f_law13_SpansParts_l3 ((tb ++ C).map asB) ((tb ++ A).map asB) ((tb.length : Nat) : Int) (i : Int) = some (.inl ((i + 1 : Nat) : Int)) := by
      unfold f_law13_SpansParts_l3
      simp only
      rw [if_pos (decide_eq_true (by omega)), grd_t ⟨by omega, by simp; omega⟩, grd_t ⟨by omega, by simp; omega⟩, ea, ec, if_neg (by simp), w_i64 (by omega) (by omega)]
      rfl
    rw [iter_next hstep]
    exact Logs.same m (i + 1) (by omega)
end
theorem pure_SpansParts (b a c : List Int) (hb : (∀ x ∈ b, (Lit.int .u8 x).wf = true) ∧ b.length ≤ maxLen) (ha : (∀ x ∈ a, (Lit.int .u8 x).wf = true) ∧ a.length ≤ maxLen) (hc : (∀ x ∈ c, (Lit.int .u8 x).wf = true) ∧ c.length ≤ maxLen) : f_law13_SpansParts b a c = some true := by
  have ib : ∀ x ∈ b, 0 ≤ x ∧ x ≤ 255 := fun x hx => bounds_u8 (hb.1 x hx)
  have ia : ∀ x ∈ a, 0 ≤ x ∧ x ≤ 255 := fun x hx => bounds_u8 (ha.1 x hx)
  have ic : ∀ x ∈ c, 0 ≤ x ∧ x ≤ 255 := fun x hx => bounds_u8 (hc.1 x hx)
  unfold f_law13_SpansParts
  rw [works13]
  by_cases h1 : 60 < b.length
  · rw [if_pos (decide_eq_true (by omega))]; rfl
  by_cases h2 : 60 < a.length
  · rw [if_neg (fun q => absurd (of_decide_eq_true q) (by omega)), if_pos (decide_eq_true (by omega))]; rfl
  by_cases h3 : 60 < c.length
  · rw [if_neg (fun q => absurd (of_decide_eq_true q) (by omega)), if_neg (fun q => absurd (of_decide_eq_true q) (by omega)), decide_eq_true (show (60 : Int) < (c.length : Int) by omega)]; rfl
  rw [if_neg (fun q => absurd (of_decide_eq_true q) (by omega)), if_neg (fun q => absurd (of_decide_eq_true q) (by omega)), decide_eq_false (show ¬ (60 : Int) < (c.length : Int) by omega)]
  simp only [Option.bind_some, Bool.false_eq_true, if_false, List.nil_append, List.length_nil]
  rw [rising_eq b ib (by omega)]
  simp only [Option.bind_some]
  rw [grd_t (by omega), grd_t (by omega), rising_eq (b ++ a) (fun x hx => (List.mem_append.1 hx).elim (ib x) (ia x)) (by simp; omega)]
  simp only [Option.bind_some]
  rw [grd_t (by omega), grd_t (by omega), rising_eq (b ++ c) (fun x hx => (List.mem_append.1 hx).elim (ib x) (ic x)) (by simp; omega)]
  simp only [Option.bind_some]
  obtain ⟨e, ea, ea1, ea2, ea3⟩ := ups_append 1 b a
  obtain ⟨f, ec, ec1, ec2, ec3⟩ := ups_append 1 b c
  have lb := ups_len 1 b
  have la := ups_len e a
  have lc := ups_len f c
  have bb := ups_bound 1 b
  have ba := ups_bound e a
  have bc := ups_bound f c
  rw [ea, ec]
  have g : Logs (ups 1 b) ((ups e a).map (· + 500)) ((ups f c).map (· + 1000)) := by
    refine ⟨ups_noFall _ _, noFall_map (ups_noFall _ _) _, noFall_map (ups_noFall _ _) _, fun x hx => ?_, fun x hx => ?_, fun x hx => ?_, by omega, by simp; omega, by simp; omega⟩
    · have := bb x hx; omega
    · obtain ⟨q, hq, rfl⟩ := List.mem_map.1 hx
      have := ba q hq; omega
    · obtain ⟨q, hq, rfl⟩ := List.mem_map.1 hx
      have := bc q hq; omega
  have hlen : (((ups 1 b).map asB).length : Int) = (((ups 1 b).length : Nat) : Int) := by simp
  rw [hlen]
  have s0 := shift0_loop (ups f c).length (ups 1 b).length ((ups 1 b ++ ups f c).map asB) (by simp) (by simp; omega) (fun q hq => by
    rw [List.map_append, List.drop_left' (by simp)] at hq
    obtain ⟨r, hr, rfl⟩ := List.mem_map.1 hq
    have := bc r hr
    simp only [asB]; omega)
  have s1 := shift1_loop (ups e a).length (ups 1 b).length ((ups 1 b ++ ups e a).map asB) (by simp) (by simp; omega) (fun q hq => by
    rw [List.map_append, List.drop_left' (by simp)] at hq
    obtain ⟨r, hr, rfl⟩ := List.mem_map.1 hq
    have := ba r hr
    simp only [asB]; omega)
  have t0 : ((ups 1 b ++ ups f c).map asB).take (ups 1 b).length ++ (((ups 1 b ++ ups f c).map asB).drop (ups 1 b).length).map (fun b => (⟨b.Term + 1000, b.Base, b.Records⟩ : T_api_Batch)) = (ups 1 b ++ (ups f c).map (· + 1000)).map asB := by
    rw [List.map_append, List.take_left' (by simp), List.drop_left' (by simp), List.map_append, List.map_map, List.map_map]
    rfl
  have t1 : ((ups 1 b ++ ups e a).map asB).take (ups 1 b).length ++ (((ups 1 b ++ ups e a).map asB).drop (ups 1 b).length).map (fun b => (⟨b.Term + 500, b.Base, b.Records⟩ : T_api_Batch)) = (ups 1 b ++ (ups e a).map (· + 500)).map asB := by
    rw [List.map_append, List.take_left' (by simp), List.drop_left' (by simp), List.map_append, List.map_map, List.map_map]
    rfl
  rw [t0] at s0
  rw [t1] at s1
  rw [s0]
  simp only [Option.bind_some]
  rw [s1]
  simp only [Option.bind_some]
  rw [g.ofa]
  simp only [Option.bind_some]
  rw [g.ofc]
  simp only [Option.bind_some]
  rw [g.loop]
  simp only [Option.bind_some, Sum.elim_inl]
  rw [if_neg (fun q => absurd (of_decide_eq_true q) (by simp; omega))]
  have hs := g.same (ups 1 b).length 0 (by omega)
  rw [show ((0 : Nat) : Int) = 0 from rfl] at hs
  rw [hs]
  simp only [Option.bind_some, Sum.elim_inl]
  rw [if_pos (decide_eq_true (by omega))]
  rfl
end Go.Proofs.Ytmifmgpfjamdkaa.G
