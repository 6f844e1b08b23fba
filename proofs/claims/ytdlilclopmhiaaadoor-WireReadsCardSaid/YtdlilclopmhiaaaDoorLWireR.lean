/- Chapter 2: the laws WireStays, WireReads on what the printed functions compute. No condition. -/
import Derived.Test.YtdlilclopmhiaaaDoorLWireL
import Derived.Test.YtdlilclopmhiaaaDoorLErr3
set_option linter.unusedSimpArgs false
set_option linter.unusedVariables false
namespace Go.Proofs.YtdlilclopmhiaaaDoor.G
open Go Go.KK

abbrev Ask := T_ref02_Ask
abbrev Got := T_ref02_Got
def got0 : Got := ⟨0, false, [], []⟩
def mapR {α β : Type} (f : α → β) : RdR α → RdR β
  | .inl x => .inl x
  | .inr (x, a) => .inr (f x, a)
def readR (b : List Int) (a : Nat) (q : Ask) : RdR Got :=
  if q.Kind = 0 ∨ q.Kind = 1 then mapR (fun n => ⟨n, false, [], []⟩) (numRR b a (pos0 q.Most))
  else if q.Kind = 2 then mapR (fun x => ⟨0, x, [], []⟩) (flagR b a)
  else if q.Kind = 3 then mapR (fun x => ⟨0, false, x, []⟩) (textR b a q.Most)
  else mapR (fun x => ⟨0, false, [], x⟩) (rowR b a q.Most q.Each)
def okAsk (q : Ask) : Prop := q.Most ≤ 9223372036854775807 ∧ q.Each ≤ 9223372036854775807
/-- Where a thing read leaves the reader; P: what is told of it. -/
def leR {α : Type} (N : Nat) (P : α → Prop) : RdR α → Prop
  | .inl (c, _, _, a) => a ≤ N ∧ c ≠ 0
  | .inr (x, a) => a ≤ N ∧ P x
theorem leR.map {α β : Type} {N : Nat} {P : α → Prop} {Q : β → Prop} {f : α → β} {R : RdR α} (h : leR N P R) (k : ∀ x, P x → Q (f x)) : leR N Q (mapR f R) := by
  cases R with
  | inl x => exact h
  | inr x => exact ⟨h.1, k _ h.2⟩
theorem num_le {b : List Int} (hb : okB b) {a : Nat} (ha : a ≤ b.length) (most : Int) : leR b.length (fun n => 0 ≤ n ∧ n ≤ top) (numRR b a most) := by
  unfold numRR
  cases h : numR b a most with
  | inl c => have := numR_code h; exact ⟨ha, by omega⟩
  | inr x => have := numR_ok hb h; exact ⟨by omega, this.1, this.2.1⟩
theorem flag_le {b : List Int} {a : Nat} (ha : a ≤ b.length) : leR b.length (fun _ => True) (flagR b a) := by
  unfold flagR
  split
  · exact ⟨ha, by decide⟩
  split
  · exact ⟨ha, by decide⟩
  · exact ⟨by omega, trivial⟩
theorem text_le {b : List Int} (hb : okB b) {a : Nat} (ha : a ≤ b.length) (most : Int) : leR b.length (fun (l : List Int) => l.length ≤ b.length) (textR b a most) := by
  unfold textR
  cases h : numR b a (pos0 most) with
  | inl c => have := numR_code h; exact ⟨ha, by omega⟩
  | inr x =>
    have := numR_ok hb h
    simp only
    split
    · exact ⟨ha, by decide⟩
    · exact ⟨by omega, by simp; omega⟩
theorem rowG_le {b : List Int} (hb : okB b) (each : Int) : ∀ (k a : Nat) (l : List Int), a ≤ b.length → l.length ≤ a → leR b.length (fun (l : List Int) => l.length ≤ b.length) (rowG b each k a l)
  | 0, a, l, ha, hl => ⟨ha, by omega⟩
  | k + 1, a, l, ha, hl => by
    unfold rowG
    cases h : numR b a (pos0 each) with
    | inl c => have := numR_code h; exact ⟨ha, by omega⟩
    | inr x =>
      have := numR_ok hb h
      exact rowG_le hb each k x.2 (l ++ [x.1]) (by omega) (by simp; omega)
theorem row_le {b : List Int} (hb : okB b) {a : Nat} (ha : a ≤ b.length) (many each : Int) : leR b.length (fun (l : List Int) => l.length ≤ b.length) (rowR b a many each) := by
  unfold rowR
  cases h : numR b a (pos0 many) with
  | inl c => have := numR_code h; exact ⟨ha, by omega⟩
  | inr x =>
    have := numR_ok hb h
    exact rowG_le hb each x.1.toNat x.2 [] (by omega) (by simp)
theorem read_le {b : List Int} (hb : okB b) {a : Nat} (ha : a ≤ b.length) (q : Ask) : leR b.length (fun (g : Got) => g.Text.length ≤ b.length ∧ g.Row.length ≤ b.length) (readR b a q) := by
  unfold readR
  split
  · exact (num_le hb ha _).map fun _ _ => ⟨Nat.zero_le _, Nat.zero_le _⟩
  split
  · exact (flag_le ha).map fun _ _ => ⟨Nat.zero_le _, Nat.zero_le _⟩
  split
  · exact (text_le hb ha _).map fun _ h => ⟨h, Nat.zero_le _⟩
  · exact (row_le hb ha _ _).map fun _ h => ⟨Nat.zero_le _, h⟩
theorem got_eq {b : List Int} (hb : okB b) (hl : b.length ≤ 1000000) {a : Nat} (ha : a ≤ b.length) {q : Ask} (hq : okAsk q) : f_law02_got ⟨b, (a : Int), .nil⟩ q = some (asP got0 (readR b a q)) := by
  unfold f_law02_got readR
  have hp : 0 ≤ pos0 q.Most ∧ pos0 q.Most ≤ 9223372036854775807 := by have := hq.1; unfold pos0; split <;> omega
  by_cases c0 : q.Kind = 0
  · rw [if_pos (decide_eq_true c0), if_pos (show q.Kind = 0 ∨ q.Kind = 1 from .inl c0)]
    have e : (if (decide (q.Most < (0 : Int))) = true then (some (0 : Int)) else (some q.Most)) = some (pos0 q.Most) := by
      unfold pos0
      by_cases g : q.Most < 0
      · rw [if_pos (decide_eq_true g), if_pos g]
      · rw [if_neg (fun q => g (of_decide_eq_true q)), if_neg g]
    rw [e]
    simp only [Option.bind_some]
    rw [w_u64 hp.1 (by omega), wnum_read hb (by omega) ha, numP_as]
    cases numRR b a (pos0 q.Most) <;> rfl
  rw [if_neg (fun q => c0 (of_decide_eq_true q))]
  by_cases c1 : q.Kind = 1
  · rw [if_pos (decide_eq_true c1), if_pos (show q.Kind = 0 ∨ q.Kind = 1 from .inr c1), wint_read hb (by omega) ha hq.1, numP_as]
    have h := num_le hb ha (pos0 q.Most)
    cases e : numRR b a (pos0 q.Most) with
    | inl x => rfl
    | inr x =>
      rw [e] at h
      have ht := h.2.2
      unfold top at ht
      simp only [asP, Option.bind_some, mapR]
      rw [w_u64 h.2.1 (by omega)]
  rw [if_neg (fun q => c1 (of_decide_eq_true q)), if_neg (show ¬ (q.Kind = 0 ∨ q.Kind = 1) from fun q => q.elim c0 c1)]
  by_cases c2 : q.Kind = 2
  · rw [if_pos (decide_eq_true c2), if_pos c2, wflag_read hb (by omega)]
    cases flagR b a <;> rfl
  rw [if_neg (fun q => c2 (of_decide_eq_true q)), if_neg c2]
  by_cases c3 : q.Kind = 3
  · rw [if_pos (decide_eq_true c3), if_pos c3, wtext_read hb (by omega) ha hq.1]
    cases textR b a q.Most <;> rfl
  rw [if_neg (fun q => c3 (of_decide_eq_true q)), if_neg c3, wrow_read hb (by omega) ha hq.1 hq.2]
  cases rowR b a q.Most q.Each <;> rfl
theorem got_bad {b : List Int} {a : Int} {e : GErr} (h : e.isNil = false) (q : Ask) : f_law02_got ⟨b, a, e⟩ q = some (got0, a, e) := by
  unfold f_law02_got
  by_cases c0 : q.Kind = 0
  · rw [if_pos (decide_eq_true c0)]
    by_cases g : q.Most < 0
    · rw [if_pos (decide_eq_true g)]
      simp only [Option.bind_some, wnum_bad h]; rfl
    · rw [if_neg (fun q => g (of_decide_eq_true q))]
      simp only [Option.bind_some, wnum_bad h]; rfl
  rw [if_neg (fun q => c0 (of_decide_eq_true q))]
  by_cases c1 : q.Kind = 1
  · rw [if_pos (decide_eq_true c1), wint_bad h]; rfl
  rw [if_neg (fun q => c1 (of_decide_eq_true q))]
  by_cases c2 : q.Kind = 2
  · rw [if_pos (decide_eq_true c2), wflag_bad h]; rfl
  rw [if_neg (fun q => c2 (of_decide_eq_true q))]
  by_cases c3 : q.Kind = 3
  · rw [if_pos (decide_eq_true c3), wtext_bad h]; rfl
  rw [if_neg (fun q => c3 (of_decide_eq_true q)), wrow_bad h]; rfl
/-- A reader's state: nothing wrong yet, or just one thing. -/
def okSt (b : List Int) (a : Nat) (e : GErr) : Prop := a ≤ b.length ∧ (e = .nil ∨ ∃ o w c, e = .fault o w (.code c) ∧ c ≠ 0)
theorem got_st {b : List Int} (hb : okB b) (hl : b.length ≤ 1000000) {a : Nat} {e : GErr} (h : okSt b a e) {q : Ask} (hq : okAsk q) :
    ∃ (g : Got) (a' : Nat) (e' : GErr), f_law02_got ⟨b, (a : Int), e⟩ q = some (g, (a' : Int), e') ∧ okSt b a' e' := by
  obtain ⟨ha, rfl | ⟨o, w, c, rfl, hc⟩⟩ := h
  · rw [got_eq hb hl ha hq]
    have hr := read_le hb ha q
    cases e : readR b a q with
    | inl x => rw [e] at hr; exact ⟨_, x.2.2.2, _, rfl, hr.1, .inr ⟨_, _, _, rfl, hr.2⟩⟩
    | inr x => rw [e] at hr; exact ⟨_, x.2, _, rfl, hr.1, .inl rfl⟩
  · rw [got_bad rfl]
    exact ⟨_, a, _, rfl, ha, .inr ⟨_, _, _, rfl, hc⟩⟩
theorem stays_l0 {b : List Int} (hb : okB b) (hl : b.length ≤ 1000000) (qs : List Ask) (hq : ∀ q ∈ qs, okAsk q) (hn : qs.length ≤ 60) (r : T_wire_Reader) (hr : r.b = b) : ∀ (d i a : Nat) (e : GErr), i + d = qs.length → okSt b a e →
    ∃ (a' : Nat) (e' : GErr), iter (f_law02_WireStays_l0 qs r) ((i : Int), (a : Int), e) = some ((a' : Int), e') ∧ okSt b a' e'
  | 0, i, a, e, hi, hs => by
    refine ⟨a, e, iter_stop ?_, hs⟩
    unfold f_law02_WireStays_l0
    simp only
    rw [if_neg (fun q => absurd (of_decide_eq_true q) (by omega))]
  | d + 1, i, a, e, hi, hs => by
    have hlt : i < qs.length := by omega
    obtain ⟨g, a1, e1, h1, h2⟩ := got_st hb hl hs (hq qs[i] (List.getElem_mem hlt))
    have hstep : f_law02_WireStays_l0 qs r ((i : Int), (a : Int), e) = some (.inl (((i + 1 : Nat) : Int), (a1 : Int), e1)) := by
      unfold f_law02_WireStays_l0
      simp only
      rw [if_pos (decide_eq_true (by omega)), grd_t ⟨by omega, by omega⟩, hr, rdn hlt, h1, w_i64 (by omega) (by omega)]
      rfl
    rw [iter_next hstep]
    exact stays_l0 hb hl qs hq hn r hr d (i + 1) a1 e1 (by omega) h2
theorem stays_l1 {b : List Int} (qs : List Ask) (hn : qs.length ≤ 60) (r : T_wire_Reader) (a : Int) (e : GErr) (he : e.isNil = false) : ∀ (d i : Nat), i + d = qs.length →
    iter (f_law02_WireStays_l1 qs r) ((i : Int), a, e) = some (.inl (a, e))
  | 0, i, hi => by
    refine iter_stop ?_
    unfold f_law02_WireStays_l1
    simp only
    rw [if_neg (fun q => absurd (of_decide_eq_true q) (by omega))]
  | d + 1, i, hi => by
    have hlt : i < qs.length := by omega
    have hstep : f_law02_WireStays_l1 qs r ((i : Int), a, e) = some (.inl (((i + 1 : Nat) : Int), a, e)) := by
      unfold f_law02_WireStays_l1
      simp only
      rw [if_pos (decide_eq_true (by omega)), grd_t ⟨by omega, by omega⟩, rdn hlt, got_bad he, w_i64 (by omega) (by omega)]
      rfl
    rw [iter_next hstep]
    exact stays_l1 (b := b) qs hn r a e he d (i + 1) (by omega)
theorem okAsk_of {q : Ask} (h : (Lit.int .i64 q.Kind).wf = true ∧ (Lit.int .i64 q.Most).wf = true ∧ (Lit.int .i64 q.Each).wf = true ∧ True) : okAsk q := by
  have h1 := bounds_i64 h.2.1
  have h2 := bounds_i64 h.2.2.1
  exact ⟨by omega, by omega⟩
theorem pure_WireStays (b : List Int) (l m : List Ask) (h0 : (∀ x ∈ b, (Lit.int .u8 x).wf = true) ∧ b.length ≤ maxLen) (h1 : (∀ x ∈ l, (Lit.int .i64 x.Kind).wf = true ∧ (Lit.int .i64 x.Most).wf = true ∧ (Lit.int .i64 x.Each).wf = true ∧ True) ∧ l.length ≤ maxLen)
    (h2 : (∀ x ∈ m, (Lit.int .i64 x.Kind).wf = true ∧ (Lit.int .i64 x.Most).wf = true ∧ (Lit.int .i64 x.Each).wf = true ∧ True) ∧ m.length ≤ maxLen) : f_law02_WireStays b l m = some true := by
  unfold f_law02_WireStays
  rw [works02]
  by_cases g1 : 2000 < b.length
  · rw [if_pos (decide_eq_true (by omega))]; rfl
  rw [if_neg (fun q => absurd (of_decide_eq_true q) (by omega))]
  by_cases g2 : 60 < l.length
  · rw [if_pos (decide_eq_true (by omega))]; rfl
  rw [if_neg (fun q => absurd (of_decide_eq_true q) (by omega))]
  simp only [Option.bind_some]
  by_cases g3 : 60 < m.length
  · rw [if_pos (decide_eq_true (by omega))]
  rw [if_neg (fun q => absurd (of_decide_eq_true q) (by omega))]
  have hb : okB b := fun x hx => bounds_u8 (h0.1 x hx)
  unfold f_wire_Read f_wire_Reader_Err f_wire_Reader_At f_wire_Reader_Refuse
  simp only [Option.bind_some]
  obtain ⟨a, e, h3, ha, he⟩ := stays_l0 hb (by omega) l (fun q hq => okAsk_of (h1.1 q hq)) (by omega) ⟨b, 0, .nil⟩ rfl l.length 0 0 .nil (by omega) ⟨Nat.zero_le _, .inl rfl⟩
  rw [show ((0 : Nat) : Int) = 0 from rfl] at h3
  rw [h3]
  simp only [Option.bind_some]
  rcases he with rfl | ⟨o, w, c, rfl, hc⟩
  · rfl
  · have h4 := stays_l1 (b := b) m (by omega) ⟨b, 0, .nil⟩ (a : Int) (.fault o w (.code c)) rfl m.length 0 (by omega)
    rw [show ((0 : Nat) : Int) = 0 from rfl] at h4
    simp only [GErr.isNil, Bool.false_eq_true, if_false, of_eq, where_eq, Option.bind_some, h4, Sum.elim_inl]
    rw [fail_bad _ _ _ rfl]
    simp only [Option.bind_some]
    rw [wend_eq, if_neg (fun q => by cases q.2)]
    simp [of_eq, where_eq, WhereE]

/-! ### WireReads -/
theorem read_eq {b : List Int} (hb : okB b) (hl : b.length ≤ 1000000) {a : Nat} {s : T_ref02_State} (hs : s.At = (a : Int)) (hc : s.Code = 0) {q : Ask} (hq : okAsk q) :
    ∃ t, f_ref02_Read b s q = some (t, (asS got0 (readR b a q)).2) ∧ sameS t (asS got0 (readR b a q)).1 := by
  unfold f_ref02_Read readR
  rw [if_neg (fun q => absurd hc (of_decide_eq_true q))]
  have ek : ∀ {c : Prop} [Decidable c], (if (decide (q.Kind = (0 : Int))) = true then (some (decide (q.Kind = (0 : Int)))) else (some (decide (q.Kind = (1 : Int))))) = some (decide (q.Kind = 0 ∨ q.Kind = 1)) := by
    intro _ _
    by_cases c0 : q.Kind = 0
    · rw [if_pos (decide_eq_true c0)]; simp [c0]
    · rw [if_neg (fun q => c0 (of_decide_eq_true q))]; simp [c0]
  rw [ek (c := True)]
  simp only [Option.bind_some]
  by_cases c01 : q.Kind = 0 ∨ q.Kind = 1
  · rw [if_pos (decide_eq_true c01), if_pos c01, above_eq hq.1]
    simp only [Option.bind_some]
    rw [rnum_read hb (by omega) hs hc, numS_as]
    cases numRR b a (pos0 q.Most) with
    | inl x => exact ⟨_, rfl, .refl _⟩
    | inr x => exact ⟨_, rfl, .refl _⟩
  rw [if_neg (fun q => c01 (of_decide_eq_true q)), if_neg c01]
  by_cases c2 : q.Kind = 2
  · rw [if_pos (decide_eq_true c2), if_pos c2]
    unfold flagR
    rw [hs]
    by_cases g1 : b.length ≤ a
    · rw [if_pos (decide_eq_true (by omega)), if_pos g1, rbad_eq s hc, hs]
      exact ⟨_, rfl, .refl _⟩
    rw [if_neg (fun q => absurd (of_decide_eq_true q) (by omega)), if_neg g1, grd_t ⟨by omega, by omega⟩]
    by_cases g2 : 1 < rd b (a : Int)
    · rw [if_pos (decide_eq_true g2), if_pos g2, rbad_eq s hc, hs]
      exact ⟨_, rfl, .refl _⟩
    rw [if_neg (fun q => g2 (of_decide_eq_true q)), if_neg g2, grd_t ⟨by omega, by omega⟩, w_i64 (by omega) (by omega)]
    exact ⟨_, rfl, by refine ⟨?_, rfl, fun q => absurd rfl q⟩; simp [asS, mapR]⟩
  rw [if_neg (fun q => c2 (of_decide_eq_true q)), if_neg c2]
  by_cases c3 : q.Kind = 3
  · rw [if_pos (decide_eq_true c3), if_pos c3, rtext_read hb (by omega) hs hc hq.1]
    cases textR b a q.Most with
    | inl x => exact ⟨_, rfl, .refl _⟩
    | inr x => exact ⟨_, rfl, .refl _⟩
  rw [if_neg (fun q => c3 (of_decide_eq_true q)), if_neg c3]
  obtain ⟨t, h1, h2⟩ := rrow_read hb (by omega) hs hc hq.1 hq.2 (many := q.Most) (each := q.Each)
  rw [h1]
  cases e : rowR b a q.Most q.Each with
  | inl x => rw [e] at h2; exact ⟨t, rfl, h2⟩
  | inr x => rw [e] at h2; exact ⟨t, rfl, h2⟩
theorem read_bad {b : List Int} {s : T_ref02_State} (hc : s.Code ≠ 0) (q : Ask) : f_ref02_Read b s q = some (s, got0) := by
  unfold f_ref02_Read
  rw [if_pos (decide_eq_true hc)]; rfl
/-- Reader and state say the same. -/
def cor (b : List Int) (a : Nat) (e : GErr) (s : T_ref02_State) : Prop := a ≤ b.length ∧ s.At = (a : Int) ∧ ((e = .nil ∧ s.Code = 0) ∨ (s.Code ≠ 0 ∧ e = .fault s.Op s.Where (.code s.Code)))
theorem wrong_eq {e : GErr} {s : T_ref02_State} (h : (e = .nil ∧ s.Code = 0) ∨ (s.Code ≠ 0 ∧ e = .fault s.Op s.Where (.code s.Code))) : f_law02_wrong e s = some true := by
  unfold f_law02_wrong
  rcases h with ⟨rfl, hc⟩ | ⟨hc, rfl⟩
  · rw [if_pos (show GErr.nil.isNil = true from rfl), decide_eq_true hc]
  · rw [if_neg (by simp [GErr.isNil]), where_eq, of_eq]
    simp only [Option.bind_some, WhereE, OfE_fault, decide_true, if_true]
    rw [under_eq _ _ (by simp [PathE])]
    simp [PathE]
theorem asS_row {α : Type} (z : α) (R : RdR α) : (asS z R).2 = (asP z R).1 := by cases R <;> rfl
theorem reads_loop {b : List Int} (hb : okB b) (hl : b.length ≤ 2000) (qs : List Ask) (hq : ∀ q ∈ qs, okAsk q) (hn : qs.length ≤ 60) (r : T_wire_Reader) (hr : r.b = b) : ∀ (d i a : Nat) (e : GErr) (s : T_ref02_State), i + d = qs.length → cor b a e s →
    ∃ (a' : Nat) (e' : GErr) (t : T_ref02_State), iter (f_law02_WireReads_l0 b qs r) ((i : Int), (a : Int), e, s.At, s.Code, s.Op, s.Where) = some (.inl (t.At, t.Code, t.Op, t.Where, (a' : Int), e')) ∧ cor b a' e' t
  | 0, i, a, e, s, hi, hs => by
    refine ⟨a, e, s, iter_stop ?_, hs⟩
    unfold f_law02_WireReads_l0
    simp only
    rw [if_neg (fun q => absurd (of_decide_eq_true q) (by omega))]
  | d + 1, i, a, e, s, hi, hs => by
    have hlt : i < qs.length := by omega
    have hqi := hq qs[i] (List.getElem_mem hlt)
    have key : ∃ (g : Got) (a1 : Nat) (e1 : GErr) (t : T_ref02_State), f_law02_got ⟨b, (a : Int), e⟩ qs[i] = some (g, (a1 : Int), e1) ∧ f_ref02_Read b s qs[i] = some (t, g) ∧ cor b a1 e1 t ∧ g.Text.length ≤ b.length ∧ g.Row.length ≤ b.length := by
      obtain ⟨ha, hsa, ⟨rfl, hc⟩ | ⟨hc, he⟩⟩ := hs
      · obtain ⟨t, h1, h2⟩ := read_eq hb (by omega) hsa hc hqi
        have hle := read_le hb ha qs[i]
        rw [got_eq hb (by omega) ha hqi, h1]
        cases e : readR b a qs[i] with
        | inl x =>
          rw [e] at hle h2
          obtain ⟨c, o, w, a1⟩ := x
          obtain ⟨k1, k2, k3⟩ := h2
          have k2' : t.Code = c := k2
          have hc' : c ≠ 0 := hle.2
          have k4 := k3 (by rw [k2']; exact hc')
          refine ⟨_, a1, _, t, rfl, rfl, ⟨hle.1, k1, .inr ⟨by rw [k2']; exact hc', ?_⟩⟩, Nat.zero_le _, Nat.zero_le _⟩
          show GErr.fault o w (.code c) = _
          rw [k2', k4.1, k4.2]; rfl
        | inr x =>
          rw [e] at hle h2
          exact ⟨_, x.2, _, t, rfl, rfl, ⟨hle.1, h2.1, .inl ⟨rfl, h2.2.1⟩⟩, hle.2.1, hle.2.2⟩
      · have hn : e.isNil = false := by rw [he]; rfl
        rw [got_bad hn, read_bad hc]
        exact ⟨_, a, e, s, rfl, rfl, ⟨ha, hsa, .inr ⟨hc, he⟩⟩, Nat.zero_le _, Nat.zero_le _⟩
    obtain ⟨g, a1, e1, t, h1, h2, h3, h4, h5⟩ := key
    have hstep : f_law02_WireReads_l0 b qs r ((i : Int), (a : Int), e, s.At, s.Code, s.Op, s.Where) = some (.inl (((i + 1 : Nat) : Int), (a1 : Int), e1, t.At, t.Code, t.Op, t.Where)) := by
      unfold f_law02_WireReads_l0 f_wire_Reader_At f_wire_Reader_Err
      simp only
      rw [if_pos (decide_eq_true (by omega)), grd_t ⟨by omega, by omega⟩, hr, rdn hlt, h1]
      simp only [Option.bind_some]
      rw [grd_t ⟨by omega, by omega⟩, show (⟨s.At, s.Code, s.Op, s.Where⟩ : T_ref02_State) = s from rfl, h2]
      simp only [Option.bind_some]
      rw [rsame_eq _ (by omega), rints_eq _ (by omega), wrong_eq h3.2.2, w_i64 (n := (i : Int) + 1) (by omega) (by omega)]
      simp [h3.2.1]
    rw [iter_next hstep]
    exact reads_loop hb hl qs hq hn r hr d (i + 1) a1 e1 t (by omega) h3
theorem pure_WireReads (b : List Int) (l : List Ask) (h0 : (∀ x ∈ b, (Lit.int .u8 x).wf = true) ∧ b.length ≤ maxLen) (h1 : (∀ x ∈ l, (Lit.int .i64 x.Kind).wf = true ∧ (Lit.int .i64 x.Most).wf = true ∧ (Lit.int .i64 x.Each).wf = true ∧ True) ∧ l.length ≤ maxLen) : f_law02_WireReads b l = some true := by
  unfold f_law02_WireReads
  rw [works02]
  by_cases g1 : 2000 < b.length
  · rw [if_pos (decide_eq_true (by omega))]; rfl
  rw [if_neg (fun q => absurd (of_decide_eq_true q) (by omega))]
  simp only [Option.bind_some]
  by_cases g2 : 60 < l.length
  · rw [if_pos (decide_eq_true (by omega))]
  rw [if_neg (fun q => absurd (of_decide_eq_true q) (by omega))]
  have hb : okB b := fun x hx => bounds_u8 (h0.1 x hx)
  unfold f_wire_Read
  simp only [Option.bind_some]
  obtain ⟨a, e, t, h3, h4⟩ := reads_loop hb (by omega) l (fun q hq => okAsk_of (h1.1 q hq)) (by omega) ⟨b, 0, .nil⟩ rfl l.length 0 0 .nil ⟨0, 0, ⟨#[]⟩, 0⟩ (by omega) ⟨Nat.zero_le _, rfl, .inl ⟨rfl, rfl⟩⟩
  rw [show ((0 : Nat) : Int) = 0 from rfl] at h3
  simp only at h3
  rw [h3]
  simp only [Option.bind_some, Sum.elim_inl]
  rw [wend_eq]
  simp only [Option.bind_some]
  rw [show (⟨t.At, t.Code, t.Op, t.Where⟩ : T_ref02_State) = t from rfl, rend_eq]
  simp only [Option.bind_some]
  obtain ⟨ha, hsa, hh⟩ := h4
  have key : f_law02_wrong (if (a : Int) < (b.length : Int) ∧ e.isNil = true then (GErr.fault endOp (a : Int) (.code 5), GErr.fault endOp (a : Int) (.code 5)) else (e, e)).1 (if t.At < (b.length : Int) ∧ t.Code = 0 then ⟨t.At, 5, endOp, t.At⟩ else t) = some true := by
    rcases hh with ⟨rfl, hc⟩ | ⟨hc, he⟩
    · by_cases g : (a : Int) < (b.length : Int)
      · rw [if_pos ⟨g, rfl⟩, if_pos ⟨by omega, hc⟩]
        exact wrong_eq (.inr ⟨show (5 : Int) ≠ 0 by decide, by rw [hsa]⟩)
      · rw [if_neg (fun q => g q.1), if_neg (fun q => absurd q.1 (by omega))]
        exact wrong_eq (.inl ⟨rfl, hc⟩)
    · rw [if_neg (fun q => by rw [he] at q; cases q.2), if_neg (fun q => hc q.2)]
      exact wrong_eq (.inr ⟨hc, he⟩)
  rw [key]
  rfl
end Go.Proofs.YtdlilclopmhiaaaDoor.G
