/- Clients (chapter 28): the laws ClientStays, ClientEnds, ClientFinds on what the printed functions compute. No condition. -/
import Derived.Test.YtdlilclopmhiaaaLAsk
import Derived.Test.YtdlilclopmhiaaaLErr2
set_option linter.unusedSimpArgs false
set_option linter.unusedVariables false
namespace Go.Proofs.Ytdlilclopmhiaaa.G
open Go Go.KK

abbrev Cli := T_api_Client
theorem reqEta (q : Req) : (⟨q.Client, q.Serial, q.Kind, q.Name, q.Key, q.Value, q.Flag, q.Parts, q.Replicas, q.Part, q.Ids, q.Broker, q.Epoch, q.Rack, q.Word⟩ : Req) = q := rfl
/-- A request that may be sent. -/
def reqOk (q : Req) : Prop := f_ask_Check q = some .nil
theorem reqOk_of {q : Req} {w : T_ref22_Wrong} (h : f_ref22_Check q = some w) (hc : w.Code = 0) : reqOk q := by
  obtain ⟨w', h1, h2⟩ := check_eq22 q
  rw [h] at h1
  cases h1
  unfold reqOk
  rw [h2]
  unfold toE
  rw [if_pos hc]
structure okC (c : Cli) : Prop where
  id : 1 ≤ c.Id ∧ c.Id ≤ 1073741824
  voters : 1 ≤ c.Voters ∧ c.Voters ≤ 7
  serial : 0 ≤ c.Serial ∧ c.Serial ≤ 1073741824
  node : 1 ≤ c.Node ∧ c.Node ≤ c.Voters
  tries : 0 ≤ c.Tries ∧ c.Tries ≤ 50
  opens : (c.Open = [] ∧ c.Tries = 0) ∨ ∃ q, c.Open = [q] ∧ reqOk q ∧ q.Client = c.Id ∧ q.Serial = c.Serial
theorem bnd4 {p1 p2 p3 p4 : Prop} [Decidable p1] [Decidable p2] [Decidable p3] [Decidable p4] : (if decide p1 = true then some true else if decide p2 = true then some true else if decide p3 = true then some true else some (decide p4)) = some (decide (p1 ∨ p2 ∨ p3 ∨ p4)) := by
  by_cases h1 : p1
  · simp [h1]
  by_cases h2 : p2
  · simp [h1, h2]
  by_cases h3 : p3
  · simp [h1, h2, h3]
  simp [h1, h2, h3]
theorem bnd2 {p1 p2 : Prop} [Decidable p1] [Decidable p2] : (if decide p1 = true then some true else some (decide p2)) = some (decide (p1 ∨ p2)) := by
  by_cases h1 : p1
  · simp [h1]
  · simp [h1]
theorem bnd2' {p1 p2 : Prop} [Decidable p1] [Decidable p2] : (if p1 then some true else some (decide p2)) = some (decide (p1 ∨ p2)) := by
  by_cases h1 : p1
  · simp [h1]
  · simp [h1]
theorem rcheck_ok (c : Cli) (hl : c.Open.length ≤ 1000000) : ∃ r, f_ref28_Check c = some r ∧ (r = 0 → okC c) := by
  unfold f_ref28_Check f_ref28_New
  simp only [bnd4]
  simp only [Option.bind_some, decide_eq_true_eq]
  by_cases g1 : c.Id < 1 ∨ 1073741824 < c.Id ∨ c.Voters < 1 ∨ 7 < c.Voters
  · rw [if_pos g1]
    exact ⟨2, rfl, fun h => (by cases h)⟩
  rw [if_neg g1]
  simp only [Option.bind_some]
  rw [if_neg (by simp)]
  by_cases g2 : c.Serial < 0 ∨ 1073741824 < c.Serial ∨ c.Node < 1 ∨ c.Voters < c.Node
  · rw [if_pos g2]
    exact ⟨2, rfl, fun h => (by cases h)⟩
  rw [if_neg g2]
  by_cases g3 : 1 < c.Open.length
  · rw [if_pos (show (1 : Int) < (c.Open.length : Int) by omega)]
    exact ⟨10, rfl, fun h => (by cases h)⟩
  rw [if_neg (show ¬ (1 : Int) < (c.Open.length : Int) by omega)]
  by_cases g4 : c.Tries < 0
  · rw [if_pos g4]
    exact ⟨10, rfl, fun h => (by cases h)⟩
  rw [if_neg g4]
  by_cases g5 : 50 < c.Tries
  · rw [if_pos g5]
    exact ⟨10, rfl, fun h => (by cases h)⟩
  rw [if_neg g5]
  by_cases g6 : c.Open = []
  · have e : (c.Open.length : Int) = 0 := by rw [g6]; rfl
    simp only [e, if_true, Option.bind_some, decide_eq_true_eq]
    by_cases g7 : c.Tries = 0
    · rw [if_neg (by simpa using g7)]
      exact ⟨0, rfl, fun _ => ⟨by omega, by omega, by omega, by omega, by omega, .inl ⟨g6, g7⟩⟩⟩
    · rw [if_pos (by simpa using g7)]
      exact ⟨10, rfl, fun h => (by cases h)⟩
  · obtain ⟨q, hq⟩ : ∃ q, c.Open = [q] := by
      cases h : c.Open with
      | nil => exact absurd h g6
      | cons q r =>
        rw [h] at g3
        simp at g3
        exact ⟨q, by rw [g3]⟩
    have e : ¬ (c.Open.length : Int) = 0 := by rw [hq]; simp
    simp only [e, if_false, Option.bind_some, Bool.false_eq_true]
    have e2 : rd c.Open 0 = q := by rw [hq]; rfl
    rw [grd_t ⟨by omega, by rw [hq]; simp⟩]
    simp only [e2, reqEta]
    obtain ⟨w, h1, h2⟩ := check_eq22 q
    rw [h1]
    simp only [Option.bind_some]
    by_cases g7 : w.Code = 0
    · rw [if_neg (by simpa using g7)]
      simp only [bnd2', Option.bind_some, decide_eq_true_eq]
      by_cases g8 : q.Client ≠ c.Id ∨ q.Serial ≠ c.Serial
      · rw [if_pos g8]
        exact ⟨10, rfl, fun h => (by cases h)⟩
      · rw [if_neg g8]
        refine ⟨0, rfl, fun _ => ⟨by omega, by omega, by omega, by omega, by omega, .inr ⟨q, hq, reqOk_of h1 g7, ?_, ?_⟩⟩⟩
        · exact Classical.byContradiction fun h => g8 (.inl h)
        · exact Classical.byContradiction fun h => g8 (.inr h)
    · rw [if_pos (by simpa using g7)]
      exact ⟨w.Code, rfl, fun h => absurd h g7⟩
theorem pcheck_ok {c : Cli} (h : okC c) : f_client_Check c = some .nil := by
  obtain ⟨h1, h2, h3, h4, h5, h6⟩ := h
  unfold f_client_Check f_client_New
  simp only [bnd4, bnd2]
  simp only [Option.bind_some, decide_eq_true_eq]
  rw [if_neg (by omega)]
  simp only [Option.bind_some]
  rw [if_neg (by simp [GErr.isNil]), if_neg (by omega), if_neg (by omega)]
  rcases h6 with ⟨ho, ht⟩ | ⟨q, ho, hq, hi, hs⟩
  · have e : (c.Open.length : Int) = 0 := by rw [ho]; rfl
    simp only [e, ht]
    rw [if_neg (by decide), if_neg (by decide), if_neg (by decide)]
    simp only [if_true, Option.bind_some]
    rw [if_neg (by decide)]
    rw [iter_stop (e := .inl ()) (by
      unfold f_client_Check_l0
      simp only [e]
      rfl)]
    rfl
  · have e : (c.Open.length : Int) = 1 := by rw [ho]; rfl
    have e2 : rd c.Open 0 = q := by rw [ho]; rfl
    simp only [e]
    rw [if_neg (by decide), if_neg (by omega), if_neg (by omega), if_neg (by decide)]
    simp only [Option.bind_some]
    rw [if_neg (by decide)]
    have hstep : f_client_Check_l0 c 0 = some (.inl 1) := by
      unfold f_client_Check_l0
      simp only [e]
      rw [if_pos (by decide), grd_t ⟨by omega, by omega⟩]
      simp only [e2, reqEta]
      unfold reqOk at hq
      rw [hq]
      simp only [Option.bind_some, GErr.isNil, Bool.not_true, Bool.false_eq_true, if_false, bnd2]
      rw [if_neg (by simp [hi, hs])]
      rfl
    rw [iter_next hstep, iter_stop (e := .inl ()) (by
      unfold f_client_Check_l0
      simp only [e]
      rfl)]
    rfl
theorem alone_eq (q : Req) (h : q.Ids.length ≤ 1000000) : f_client_Alone q = some q := by
  unfold f_client_Alone
  rw [grd_t ⟨by omega, by omega⟩]
  have e : ((q.Ids.length : Int)).toNat = q.Ids.length := by omega
  rw [e]
  simp
theorem begin_eq (c : Cli) (q : Req) (hq : q.Ids.length ≤ 1000000) (hs : 0 ≤ c.Serial ∧ c.Serial ≤ 1073741824) : ∃ e, f_client_Begin c q = some (c, e) ∧ e.isNil = false ∨
    (c.Open = [] ∧ c.Serial < 1073741824 ∧ reqOk { q with Client := c.Id, Serial := c.Serial + 1 } ∧ f_client_Begin c q = some ({ c with Serial := c.Serial + 1, Open := [{ q with Client := c.Id, Serial := c.Serial + 1 }], Tries := 0 }, .nil)) := by
  unfold f_client_Begin
  by_cases g1 : c.Open = []
  · have e : (c.Open.length : Int) = 0 := by rw [g1]; rfl
    rw [if_neg (by rw [e]; decide)]
    by_cases g2 : c.Serial = 1073741824
    · rw [if_pos (decide_eq_true g2)]
      exact ⟨_, .inl ⟨rfl, rfl⟩⟩
    rw [if_neg (fun q => g2 (of_decide_eq_true q)), alone_eq q hq]
    simp only [Option.bind_some]
    rw [w_i64 (by omega) (by omega)]
    obtain ⟨w, h1, h2⟩ := check_eq22 { q with Client := c.Id, Serial := c.Serial + 1 }
    rw [h2]
    simp only [Option.bind_some]
    unfold toE at h2 ⊢
    by_cases g3 : w.Code = 0
    · rw [if_pos g3] at h2 ⊢
      exact ⟨.nil, .inr ⟨g1, by omega, h2, rfl⟩⟩
    · rw [if_neg g3]
      exact ⟨_, .inl ⟨rfl, rfl⟩⟩
  · have e : (0 : Int) < (c.Open.length : Int) := by
      cases h : c.Open with
      | nil => exact absurd h g1
      | cons a b => simp
    rw [if_pos (decide_eq_true e)]
    exact ⟨_, .inl ⟨rfl, rfl⟩⟩
theorem next_eq {c : Cli} (h : 1 ≤ c.Voters ∧ c.Voters ≤ 7) (hn : 1 ≤ c.Node ∧ c.Node ≤ c.Voters) : f_client_next c = some { c with Node := c.Node % c.Voters + 1 } := by
  unfold f_client_next
  have : c.Node % c.Voters < c.Voters := Int.emod_lt_of_pos _ (by omega)
  have h0 : 0 ≤ c.Node % c.Voters := Int.emod_nonneg _ (by omega)
  rw [grd_t (by omega), Int.tmod_eq_emod_of_nonneg (by omega), w_i64 (by omega) (by omega)]
theorem next_ok {c : Cli} (h : okC c) : okC { c with Node := c.Node % c.Voters + 1 } := by
  have : c.Node % c.Voters < c.Voters := Int.emod_lt_of_pos _ (by have := h.voters; omega)
  have h0 : 0 ≤ c.Node % c.Voters := Int.emod_nonneg _ (by have := h.voters; omega)
  exact ⟨h.id, h.voters, h.serial, ⟨by show 1 ≤ c.Node % c.Voters + 1; omega, by show c.Node % c.Voters + 1 ≤ c.Voters; omega⟩, h.tries, h.opens⟩
theorem lost_eq {c : Cli} (h : 1 ≤ c.Voters ∧ c.Voters ≤ 7) (hn : 1 ≤ c.Node ∧ c.Node ≤ c.Voters) : f_client_Lost c = some { c with Node := c.Node % c.Voters + 1 } := by
  unfold f_client_Lost
  rw [next_eq h hn]; rfl
theorem ask_nil (c : Cli) (h : c.Open = []) : ∃ q, f_client_Ask c = some (c, 0, q, false) := by
  unfold f_client_Ask
  rw [if_pos (by rw [h]; rfl)]
  exact ⟨_, rfl⟩
theorem ask_end (c : Cli) (q0 : Req) (h : c.Open = [q0]) (ht : c.Tries = 50) : ∃ q, f_client_Ask c = some ({ c with Open := [], Tries := 0 }, 0, q, false) := by
  unfold f_client_Ask
  rw [if_neg (by rw [h]; simp), if_pos (decide_eq_true ht)]
  exact ⟨_, rfl⟩
theorem ask_one (c : Cli) (q : Req) (h : c.Open = [q]) (hi : q.Ids.length ≤ 1000000) (ht : 0 ≤ c.Tries ∧ c.Tries < 50) : f_client_Ask c = some ({ c with Tries := c.Tries + 1 }, c.Node, q, true) := by
  unfold f_client_Ask
  have e2 : rd c.Open 0 = q := by rw [h]; rfl
  rw [if_neg (by rw [h]; simp), if_neg (fun z => absurd (of_decide_eq_true z) (by omega)), grd_t ⟨by omega, by rw [h]; simp⟩]
  simp only [e2, reqEta]
  rw [alone_eq q hi, w_i64 (by omega) (by omega)]
  rfl
theorem ask_ok {c : Cli} (h : okC c) (hi : ∀ q ∈ c.Open, q.Ids.length ≤ 1000000) : ∃ d n q b, f_client_Ask c = some (d, n, q, b) ∧ okC d := by
  rcases h.opens with ⟨ho, ht⟩ | ⟨q, ho, hq, hqi, hqs⟩
  · obtain ⟨q, e⟩ := ask_nil c ho
    exact ⟨_, _, _, _, e, h⟩
  · by_cases g : c.Tries = 50
    · obtain ⟨q', e⟩ := ask_end c q ho g
      exact ⟨_, _, _, _, e, ⟨h.id, h.voters, h.serial, h.node, ⟨Int.le_refl 0, show (0 : Int) ≤ 50 by decide⟩, .inl ⟨rfl, rfl⟩⟩⟩
    · have := h.tries
      have e := ask_one c q ho (hi q (by rw [ho]; simp)) (by omega)
      exact ⟨_, _, _, _, e, ⟨h.id, h.voters, h.serial, h.node, ⟨by show 0 ≤ c.Tries + 1; omega, by show c.Tries + 1 ≤ 50; omega⟩, .inr ⟨q, ho, hq, hqi, hqs⟩⟩⟩
theorem heard_eq (c : Cli) (a : T_api_Reply) (hv : 1 ≤ c.Voters ∧ c.Voters ≤ 7) (hn : 1 ≤ c.Node ∧ c.Node ≤ c.Voters) : f_client_Heard c a =
    some (if (c.Open = [] ∨ a.Client ≠ c.Id ∨ a.Serial ≠ c.Serial) then (c, false)
      else if a.Code = 12 then (if 1 ≤ a.Leader ∧ a.Leader ≤ c.Voters ∧ a.Leader ≠ c.Node then ({ c with Node := a.Leader }, false) else ({ c with Node := c.Node % c.Voters + 1 }, false))
      else if a.Code = 13 ∨ a.Code = 14 then (c, false) else ({ c with Open := [], Tries := 0 }, true)) := by
  unfold f_client_Heard
  have e0 : ((c.Open.length : Int) = 0) ↔ c.Open = [] := by
    cases c.Open with
    | nil => simp
    | cons a b => simp; omega
  by_cases g1 : c.Open = []
  · rw [if_pos (decide_eq_true (e0.2 g1)), if_pos (show c.Open = [] ∨ a.Client ≠ c.Id ∨ a.Serial ≠ c.Serial from .inl g1)]; rfl
  rw [if_neg (fun z => g1 (e0.1 (of_decide_eq_true z)))]
  by_cases g2 : a.Client ≠ c.Id ∨ a.Serial ≠ c.Serial
  · simp only [bnd2, Option.bind_some]
    rw [if_pos (decide_eq_true g2), if_pos (show c.Open = [] ∨ a.Client ≠ c.Id ∨ a.Serial ≠ c.Serial from .inr g2)]
  simp only [bnd2, Option.bind_some]
  rw [if_neg (fun z => g2 (of_decide_eq_true z)), if_neg (show ¬ (c.Open = [] ∨ a.Client ≠ c.Id ∨ a.Serial ≠ c.Serial) from fun z => z.elim g1 g2)]
  by_cases g3 : a.Code = 12
  · rw [if_pos (decide_eq_true g3), if_pos g3, next_eq hv hn]
    by_cases k1 : 1 ≤ a.Leader
    · by_cases k2 : a.Leader ≤ c.Voters
      · by_cases k3 : a.Leader ≠ c.Node
        · simp [k1, k2, k3]
        · simp [k1, k2, k3]
      · simp [k1, k2]
    · simp [k1]
  · rw [if_neg (fun z => g3 (of_decide_eq_true z)), if_neg g3]
    by_cases k1 : a.Code = 13
    · simp [k1]
    · by_cases k2 : a.Code = 14
      · simp [k2]
      · simp [k1, k2]
theorem heard_ok {c : Cli} (h : okC c) (a : T_api_Reply) : ∃ d b, f_client_Heard c a = some (d, b) ∧ okC d := by
  rw [heard_eq c a h.voters h.node]
  split
  · exact ⟨_, _, rfl, h⟩
  split
  · split
    · rename_i k
      exact ⟨_, _, rfl, ⟨h.id, h.voters, h.serial, ⟨k.1, k.2.1⟩, h.tries, h.opens⟩⟩
    · exact ⟨_, _, rfl, next_ok h⟩
  split
  · exact ⟨_, _, rfl, h⟩
  · exact ⟨_, _, rfl, ⟨h.id, h.voters, h.serial, h.node, ⟨Int.le_refl 0, show (0 : Int) ≤ 50 by decide⟩, .inl ⟨rfl, rfl⟩⟩⟩
theorem short_eq (q : Req) : ∃ b, f_ref20_Short q = some b ∧ (b = true → q.Ids.length ≤ 60) := by
  unfold f_ref20_Short
  by_cases g1 : (q.Name.size : Int) ≤ 300
  · by_cases g2 : (q.Key.size : Int) ≤ 300
    · by_cases g3 : (q.Value.size : Int) ≤ 400
      · by_cases g4 : (q.Rack.size : Int) ≤ 300
        · by_cases g5 : (q.Ids.length : Int) ≤ 60
          · exact ⟨true, by simp [g1, g2, g3, g4, g5], fun _ => by omega⟩
          · exact ⟨false, by simp [g1, g2, g3, g4, g5], fun z => by cases z⟩
        · exact ⟨false, by simp [g1, g2, g3, g4], fun z => by cases z⟩
      · exact ⟨false, by simp [g1, g2, g3], fun z => by cases z⟩
    · exact ⟨false, by simp [g1, g2], fun z => by cases z⟩
  · exact ⟨false, by simp [g1], fun z => by cases z⟩
theorem light_loop (c : Cli) (hl : c.Open.length ≤ 3) : ∀ (d i : Nat), i + d = c.Open.length → (∀ j (h : j < c.Open.length), j < i → c.Open[j].Ids.length ≤ 60) →
    iter (f_law28_light_l0 c) (i : Int) = some (.inr ()) ∨ (iter (f_law28_light_l0 c) (i : Int) = some (.inl ()) ∧ ∀ q ∈ c.Open, q.Ids.length ≤ 60)
  | 0, i, hi, hp => by
    refine .inr ⟨iter_stop ?_, fun q hq => ?_⟩
    · unfold f_law28_light_l0
      simp only
      rw [if_neg (fun z => absurd (of_decide_eq_true z) (by omega))]
    · obtain ⟨j, hj, rfl⟩ := List.getElem_of_mem hq
      exact hp j hj (by omega)
  | d + 1, i, hi, hp => by
    have hlt : i < c.Open.length := by omega
    obtain ⟨b, hb, hs⟩ := short_eq c.Open[i]
    have e : f_law28_light_l0 c (i : Int) = if b = true then some (.inl ((i + 1 : Nat) : Int)) else some (.inr (.inr ())) := by
      unfold f_law28_light_l0
      simp only
      rw [if_pos (decide_eq_true (by omega)), grd_t ⟨by omega, by omega⟩, rdnA hlt]
      simp only [reqEta]
      rw [hb, w_i64 (by omega) (by omega)]
      cases b <;> rfl
    cases b with
    | true =>
      rw [if_pos rfl] at e
      rw [iter_next e]
      refine light_loop c hl d (i + 1) (by omega) fun j hj hji => ?_
      by_cases ej : j = i
      · subst ej; exact hs rfl
      · exact hp j hj (by omega)
    | false => exact .inl (iter_stop e)
theorem light_eq (c : Cli) : ∃ b, f_law28_light c = some b ∧ (b = true → c.Open.length ≤ 3 ∧ ∀ q ∈ c.Open, q.Ids.length ≤ 60) := by
  unfold f_law28_light
  by_cases h : 3 < c.Open.length
  · rw [if_pos (decide_eq_true (by omega))]
    exact ⟨false, rfl, fun z => by cases z⟩
  · rw [if_neg (fun z => absurd (of_decide_eq_true z) (by omega))]
    have h1 := light_loop c (by omega) c.Open.length 0 (by omega) (fun j hj hji => by omega)
    rw [show ((0 : Nat) : Int) = 0 from rfl] at h1
    rcases h1 with h1 | ⟨h1, h2⟩
    · rw [h1]; exact ⟨false, rfl, fun z => by cases z⟩
    · rw [h1]; exact ⟨true, rfl, fun _ => ⟨by omega, h2⟩⟩
end Go.Proofs.Ytdlilclopmhiaaa.G
