/- Clients (chapter 28): the laws. No condition. -/
import Derived.Test.YtdlilclopmhiaaaLClient
set_option linter.unusedSimpArgs false
set_option linter.unusedVariables false
namespace Go.Proofs.Ytdlilclopmhiaaa.G
open Go Go.KK

theorem bindC {α β : Type} {x : Option α} {y : α} {f : α → Option β} (h : x = some y) : x.bind f = f y := by rw [h]; rfl
theorem nilNil : GErr.nil.isNil = true := rfl
theorem brok_nil : f_record_Brokers [] = some true := by
  obtain ⟨b, h1, _, h3⟩ := brokers_eq []
  rw [h1, h3.2 ⟨by decide, fun i h => absurd h (by simp)⟩]
def adrop (c s : Int) : Req := ⟨c, s, 2, ⟨#[116]⟩, ⟨#[]⟩, ⟨#[]⟩, false, 0, 0, 0, [], 0, 0, ⟨#[]⟩, ⟨0, 0, 0, false, false⟩⟩
theorem adrop_ok {c : Int} (hc : 1 ≤ c ∧ c ≤ 1073741824) : f_ask_Check (adrop c 1) = some .nil := by
  unfold f_ask_Check adrop
  simp only [about_eq, (text_eq _ _ _).1, (num_eq _ _ _).1, (said_eq _ _).1, f_ask_Check_1, Option.bind_some, brok_nil]
  rw [if_neg (by decide)]
  rw [if_neg (fun z => absurd (of_decide_eq_true z) (by omega)), if_neg (fun z => absurd (of_decide_eq_true z) (by omega)), if_neg (fun z => absurd (of_decide_eq_true z) (by omega))]
  rfl
theorem slices_nil : f_slices_Equal_int_int [] [] = some true := by
  unfold f_slices_Equal_int_int
  rw [iter_stop (e := .inl ()) rfl]
  rfl
theorem same_drop (c s : Int) : f_ask_Same (adrop c s) (adrop c s) = some true := by
  unfold f_ask_Same f_ask_Same_1 f_ask_Same_2 adrop
  simp only [Option.bind_some, slices_nil]
  rw [if_pos (by simp [andL])]
  rw [if_pos (by simp [andL]; exact ⟨rfl, rfl, rfl, rfl⟩)]
  rfl
def c1 : Cli := ⟨9, 1, 3, 1, [adrop 9 1], 0⟩
def c2 : Cli := ⟨9, 1, 3, 3, [adrop 9 1], 1⟩
theorem works28 : f_law28_works = some true := by
  have e1 : f_client_New 9 3 = some (⟨9, 0, 3, 1, [], 0⟩, .nil) := rfl
  have e2 : f_client_New 9 8 = some (⟨0, 0, 0, 0, [], 0⟩, .fault ⟨#[99, 108, 105, 101, 110, 116]⟩ 9 (.code 2)) := rfl
  have e3 : f_client_Begin ⟨9, 0, 3, 1, [], 0⟩ (adrop 0 0) = some (c1, .nil) := by
    unfold f_client_Begin
    rw [if_neg (by decide), if_neg (by decide), alone_eq _ (by decide)]
    simp only [Option.bind_some]
    refine (bindC (adrop_ok (c := 9) (by decide))).trans ?_
    rfl
  have e4 : f_client_Begin c1 (adrop 0 0) = some (c1, .fault ⟨#[111, 112, 101, 110]⟩ 1 (.code 10)) := rfl
  have e5 : f_client_Ask c1 = some (⟨9, 1, 3, 1, [adrop 9 1], 1⟩, 1, adrop 9 1, true) := ask_one c1 (adrop 9 1) rfl (by decide) (by decide)
  have e6 : f_client_Heard ⟨9, 1, 3, 1, [adrop 9 1], 1⟩ ⟨9, 1, 12, 3, ⟨false, false, false⟩⟩ = some (c2, false) := rfl
  have e7 : f_client_Heard c2 ⟨9, 1, 8, 0, ⟨false, false, false⟩⟩ = some (⟨9, 1, 3, 3, [], 0⟩, true) := rfl
  obtain ⟨q, e8⟩ := ask_nil ⟨9, 1, 3, 3, [], 0⟩ rfl
  have e9 : f_client_Lost c2 = some ⟨9, 1, 3, 1, [adrop 9 1], 1⟩ := rfl
  have e10 : f_client_Check ⟨9, 1, 3, 3, [], 0⟩ = some .nil := pcheck_ok ⟨by decide, by decide, by decide, by decide, by decide, .inl ⟨rfl, rfl⟩⟩
  have e11 : f_client_Same c2 c2 = some true := by
    unfold f_client_Same
    have hs : f_client_Same_l0 c2 c2 0 = some (.inl 1) := by
      unfold f_client_Same_l0
      simp only
      rw [if_pos (by decide), grd_t (by decide), grd_t (by decide)]
      refine (bindC (same_drop 9 1)).trans ?_
      rfl
    rw [iter_next hs, iter_stop (e := .inl ()) rfl]
    rfl
  have e12 : f_client_Same c2 ⟨9, 1, 3, 3, [], 0⟩ = some false := rfl
  unfold f_law28_works
  refine (bindC e1).trans ?_
  refine (bindC e2).trans ?_
  refine (bindC e3).trans ?_
  refine (bindC e4).trans ?_
  refine (bindC e5).trans ?_
  refine (bindC e6).trans ?_
  refine (bindC e7).trans ?_
  refine (bindC e8).trans ?_
  simp only [Option.bind_some, e9, e10, e11, e12, is_eq]
  rfl
theorem pure_ClientStays (c : Cli) (q : Req) (a : T_api_Reply) {p0 p1 p2 : Prop} (_ : p0) (_ : p1) (_ : p2) : f_law28_ClientStays c q a = some true := by
  unfold f_law28_ClientStays
  obtain ⟨b1, h1, g1⟩ := light_eq c
  rw [h1]
  cases b1 with
  | false => simp only [Option.bind_some, Bool.not_false, if_true, works28]
  | true =>
    obtain ⟨b2, h2, g2⟩ := short_eq q
    simp only [Option.bind_some, Bool.not_true, Bool.false_eq_true, if_false, h2]
    cases b2 with
    | false => simp only [Option.bind_some, Bool.not_false, if_true, works28]
    | true =>
      have ⟨hl, hi⟩ := g1 rfl
      obtain ⟨r, h3, g3⟩ := rcheck_ok c (by omega)
      simp only [Option.bind_some, Bool.not_true, Bool.false_eq_true, if_false, h3, decide_eq_true_eq]
      by_cases h4 : r = 0
      · have ok := g3 h4
        rw [if_neg (by simpa using h4)]
        have hb : ∃ x e, f_client_Begin c q = some (x, e) ∧ okC x := by
          obtain ⟨e, h⟩ := begin_eq c q (by have := g2 rfl; omega) ok.serial
          rcases h with ⟨h, _⟩ | ⟨ho, hs, hr, h⟩
          · exact ⟨_, _, h, ok⟩
          · exact ⟨_, _, h, ⟨ok.id, ok.voters, ⟨by have := ok.serial; show 0 ≤ c.Serial + 1; omega, by show c.Serial + 1 ≤ 1073741824; omega⟩, ok.node, ⟨Int.le_refl 0, show (0 : Int) ≤ 50 by decide⟩, .inr ⟨_, rfl, hr, rfl, rfl⟩⟩⟩
        obtain ⟨x, e, hx, ox⟩ := hb
        obtain ⟨y, n, q', b, hy, oy⟩ := ask_ok ok (fun q hq => by have := hi q hq; omega)
        obtain ⟨z, b', hz, oz⟩ := heard_ok ok a
        rw [hx]
        simp only [Option.bind_some]
        rw [hy]
        simp only [Option.bind_some]
        rw [hz]
        simp only [Option.bind_some]
        rw [pcheck_ok ox, pcheck_ok oy, pcheck_ok oz, lost_eq ok.voters ok.node]
        simp only [Option.bind_some]
        rw [pcheck_ok (next_ok ok), works28]
        rfl
      · rw [if_pos (by simpa using h4), works28]
        rfl
/- ClientEnds. -/
def cnt (n : Nat) : Nat → Nat → Nat
  | 0, _ => 0
  | i + 1, k => cnt n i k + if i % n + 1 = k then 1 else 0
theorem cnt_le (n i k : Nat) : cnt n i k ≤ i := by
  induction i with
  | zero => exact Nat.le_refl 0
  | succ i ih =>
    unfold cnt
    split <;> omega
theorem set_rd (m : Nat → Int) (t : Nat) (ht : t < 8) (v : Int) : ∀ k : Nat, k < 8 → rd ([m 0, m 1, m 2, m 3, m 4, m 5, m 6, m 7].set ((t : Int)).toNat v) (k : Int) = if t = k then v else m k := by
  intro k hk
  have ht8 : t = 0 ∨ t = 1 ∨ t = 2 ∨ t = 3 ∨ t = 4 ∨ t = 5 ∨ t = 6 ∨ t = 7 := by omega
  have hk8 : k = 0 ∨ k = 1 ∨ k = 2 ∨ k = 3 ∨ k = 4 ∨ k = 5 ∨ k = 6 ∨ k = 7 := by omega
  rcases ht8 with rfl | rfl | rfl | rfl | rfl | rfl | rfl | rfl <;> rcases hk8 with rfl | rfl | rfl | rfl | rfl | rfl | rfl | rfl <;> rfl
theorem get_rd (m : Nat → Int) (t : Nat) (ht : t < 8) : rd [m 0, m 1, m 2, m 3, m 4, m 5, m 6, m 7] (t : Int) = m t := by
  have : t = 0 ∨ t = 1 ∨ t = 2 ∨ t = 3 ∨ t = 4 ∨ t = 5 ∨ t = 6 ∨ t = 7 := by omega
  rcases this with rfl | rfl | rfl | rfl | rfl | rfl | rfl | rfl <;> rfl
theorem nwrap {a : Int} (h : 0 ≤ a ∧ a ≤ 255) : ∃ n : Nat, 1 ≤ n ∧ n ≤ 7 ∧ IntKind.i64.wrap (1 + (IntKind.i64.wrap a).tmod 7) = (n : Int) := by
  have h0 : 0 ≤ a % 7 := Int.emod_nonneg _ (by decide)
  have h1 : a % 7 < 7 := Int.emod_lt_of_pos _ (by decide)
  refine ⟨1 + (a % 7).toNat, by omega, by omega, ?_⟩
  rw [w_i64 (n := a) (by omega) (by omega), Int.tmod_eq_emod_of_nonneg (by omega), w_i64 (by omega) (by omega)]
  omega
section Ends
variable (a1 : Int) (q q' : Req) (id : Int) (n : Nat)
def EndsS (i : Nat) : Int × Int × Int × Int × Int × Int × (List T_api_Request) × Int × Int × Int × Int × Int × Int × Int × Int × Int :=
  ((i : Int), (i : Int), id, 1, (n : Int), ((i % n + 1 : Nat) : Int), [q'], (i : Int), (cnt n i 0 : Int), (cnt n i 1 : Int), (cnt n i 2 : Int), (cnt n i 3 : Int), (cnt n i 4 : Int), (cnt n i 5 : Int), (cnt n i 6 : Int), (cnt n i 7 : Int))
theorem ends_step (hn : 1 ≤ n ∧ n ≤ 7) (hw : IntKind.i64.wrap (1 + (IntKind.i64.wrap a1).tmod 7) = (n : Int)) (hk : q'.Kind = q.Kind) (hs : q'.Serial = 1) (hi : q'.Ids.length ≤ 1000000) (i : Nat) (h : i < 50) :
    f_law28_ClientEnds_l0 a1 q (EndsS q' id n i) = some (.inl (EndsS q' id n (i + 1))) := by
  have hm : i % n < n := Nat.mod_lt _ (by omega)
  have hm2 : (i % n + 1) % n = (i + 1) % n := by rw [Nat.add_mod i 1 n, Nat.add_mod (i % n) 1 n, Nat.mod_mod]
  unfold EndsS f_law28_ClientEnds_l0
  simp only
  rw [if_pos (decide_eq_true (by omega)), ask_one _ q' rfl hi (by show 0 ≤ (i : Int) ∧ (i : Int) < 50; omega)]
  simp only [Option.bind_some, hw, Bool.not_true, Bool.false_eq_true, if_false]
  rw [if_neg (fun z => absurd (of_decide_eq_true z) (by omega)), if_neg (fun z => absurd (of_decide_eq_true z) (by omega)), if_neg (fun z => absurd (of_decide_eq_true z) (by simp [hs]))]
  simp only [Option.bind_some, hk]
  rw [if_neg (by simp), grd_t (by omega), grd_t (by omega), lost_eq (by show 1 ≤ (n : Int) ∧ (n : Int) ≤ 7; omega) (by show 1 ≤ ((i % n + 1 : Nat) : Int) ∧ ((i % n + 1 : Nat) : Int) ≤ (n : Int); omega)]
  have hr := get_rd (fun k => (cnt n i k : Int)) (i % n + 1) (by omega)
  have hc := cnt_le n i (i % n + 1)
  have hst := set_rd (fun k => (cnt n i k : Int)) (i % n + 1) (by omega) (IntKind.i64.wrap ((cnt n i (i % n + 1) : Int) + 1))
  have e0 : rd _ (0 : Int) = _ := hst 0 (by decide)
  have e1 : rd _ (1 : Int) = _ := hst 1 (by decide)
  have e2 : rd _ (2 : Int) = _ := hst 2 (by decide)
  have e3 : rd _ (3 : Int) = _ := hst 3 (by decide)
  have e4 : rd _ (4 : Int) = _ := hst 4 (by decide)
  have e5 : rd _ (5 : Int) = _ := hst 5 (by decide)
  have e6 : rd _ (6 : Int) = _ := hst 6 (by decide)
  have e7 : rd _ (7 : Int) = _ := hst 7 (by decide)
  simp only [Option.bind_some, hr, e0, e1, e2, e3, e4, e5, e6, e7]
  have fin : ∀ k, (if i % n + 1 = k then IntKind.i64.wrap ((cnt n i (i % n + 1) : Int) + 1) else (cnt n i k : Int)) = (cnt n (i + 1) k : Int) := by
    intro k
    show _ = ((cnt n i k + if i % n + 1 = k then 1 else 0 : Nat) : Int)
    by_cases g : i % n + 1 = k
    · rw [if_pos g, if_pos g, w_i64 (by omega) (by omega), g]; omega
    · rw [if_neg g, if_neg g]; rfl
  simp only [fin]
  rw [w_i64 (n := (i : Int) + 1) (by omega) (by omega)]
  have en : ((i % n + 1 : Nat) : Int) % (n : Int) + 1 = (((i + 1) % n + 1 : Nat) : Int) := by
    rw [← hm2]; omega
  rw [en]
  rfl
theorem ends_last (i : Nat) (h : i = 50) : f_law28_ClientEnds_l0 a1 q (EndsS q' id n i) = some (.inr (.inl (50, (cnt n 50 0 : Int), (cnt n 50 1 : Int), (cnt n 50 2 : Int), (cnt n 50 3 : Int), (cnt n 50 4 : Int), (cnt n 50 5 : Int), (cnt n 50 6 : Int), (cnt n 50 7 : Int), id, 1, (n : Int), ((50 % n + 1 : Nat) : Int), [], 0))) := by
  subst h
  unfold EndsS f_law28_ClientEnds_l0
  simp only
  rw [if_pos (by decide)]
  obtain ⟨z, e⟩ := ask_end ⟨id, 1, (n : Int), ((50 % n + 1 : Nat) : Int), [q'], ((50 : Nat) : Int)⟩ q' rfl rfl
  rw [e]
  rfl
theorem ends_iter (hn : 1 ≤ n ∧ n ≤ 7) (hw : IntKind.i64.wrap (1 + (IntKind.i64.wrap a1).tmod 7) = (n : Int)) (hk : q'.Kind = q.Kind) (hs : q'.Serial = 1) (hi : q'.Ids.length ≤ 1000000) : ∀ (d i : Nat), i + d = 50 →
    iter (f_law28_ClientEnds_l0 a1 q) (EndsS q' id n i) = some (.inl (50, (cnt n 50 0 : Int), (cnt n 50 1 : Int), (cnt n 50 2 : Int), (cnt n 50 3 : Int), (cnt n 50 4 : Int), (cnt n 50 5 : Int), (cnt n 50 6 : Int), (cnt n 50 7 : Int), id, 1, (n : Int), ((50 % n + 1 : Nat) : Int), [], 0))
  | 0, i, h => iter_stop (ends_last a1 q q' id n i (by omega))
  | d + 1, i, h => by
    rw [iter_next (ends_step a1 q q' id n hn hw hk hs hi i (by omega))]
    exact ends_iter hn hw hk hs hi d (i + 1) (by omega)
end Ends
theorem ends_l1 (a1 : Int) (n : Nat) (hn : 1 ≤ n ∧ n ≤ 7) (hw : IntKind.i64.wrap (1 + (IntKind.i64.wrap a1).tmod 7) = (n : Int)) :
    iter (f_law28_ClientEnds_l1 a1 (cnt n 50 0 : Int) (cnt n 50 1 : Int) (cnt n 50 2 : Int) (cnt n 50 3 : Int) (cnt n 50 4 : Int) (cnt n 50 5 : Int) (cnt n 50 6 : Int) (cnt n 50 7 : Int)) 1 = some (.inl ()) := by
  have hc : ∀ k : Nat, 1 ≤ k → k ≤ n → 50 / n ≤ cnt n 50 k := by
    have hn7 : n = 1 ∨ n = 2 ∨ n = 3 ∨ n = 4 ∨ n = 5 ∨ n = 6 ∨ n = 7 := by omega
    intro k h1 h2
    have hk7 : k = 1 ∨ k = 2 ∨ k = 3 ∨ k = 4 ∨ k = 5 ∨ k = 6 ∨ k = 7 := by omega
    rcases hn7 with rfl | rfl | rfl | rfl | rfl | rfl | rfl <;> rcases hk7 with rfl | rfl | rfl | rfl | rfl | rfl | rfl <;> first | (exfalso; omega) | decide +kernel
  have hq : IntKind.i64.wrap ((50 : Int).tdiv (n : Int)) = ((50 / n : Nat) : Int) := by
    have : n = 1 ∨ n = 2 ∨ n = 3 ∨ n = 4 ∨ n = 5 ∨ n = 6 ∨ n = 7 := by omega
    rcases this with rfl | rfl | rfl | rfl | rfl | rfl | rfl <;> rfl
  have go : ∀ (d k : Nat), 1 ≤ k → k + d = n + 1 → iter (f_law28_ClientEnds_l1 a1 (cnt n 50 0 : Int) (cnt n 50 1 : Int) (cnt n 50 2 : Int) (cnt n 50 3 : Int) (cnt n 50 4 : Int) (cnt n 50 5 : Int) (cnt n 50 6 : Int) (cnt n 50 7 : Int)) (k : Int) = some (.inl ()) := by
    intro d
    induction d with
    | zero =>
      intro k h1 h2
      refine iter_stop ?_
      unfold f_law28_ClientEnds_l1
      simp only [hw]
      rw [if_neg (fun z => absurd (of_decide_eq_true z) (by omega))]
    | succ d ih =>
      intro k h1 h2
      have e : f_law28_ClientEnds_l1 a1 (cnt n 50 0 : Int) (cnt n 50 1 : Int) (cnt n 50 2 : Int) (cnt n 50 3 : Int) (cnt n 50 4 : Int) (cnt n 50 5 : Int) (cnt n 50 6 : Int) (cnt n 50 7 : Int) (k : Int) = some (.inl ((k + 1 : Nat) : Int)) := by
        unfold f_law28_ClientEnds_l1
        simp only [hw]
        have hr := get_rd (fun k => (cnt n 50 k : Int)) k (by omega)
        have := hc k h1 (by omega)
        rw [if_pos (decide_eq_true (by omega)), grd_t (by omega), grd_t (by omega), hr, hq, if_neg (fun z => absurd (of_decide_eq_true z) (by omega)), w_i64 (by omega) (by omega)]
        rfl
      rw [iter_next e]
      exact ih (k + 1) (by omega) (by omega)
  exact go n 1 (by omega) (by omega)
theorem new_ok {a b : Int} (ha : 1 ≤ a ∧ a ≤ 1073741824) (hb : 1 ≤ b ∧ b ≤ 7) : f_client_New a b = some (⟨a, 0, b, 1, [], 0⟩, .nil) := by
  unfold f_client_New
  simp only [bnd4]
  simp only [Option.bind_some, decide_eq_true_eq]
  rw [if_neg (by omega)]
theorem pure_ClientEnds (a0 a1 : Int) (q r : Req) (w0 : (Lit.int .u16 a0).wf = true) (w1 : (Lit.int .u8 a1).wf = true) {p2 p3 : Prop} (_ : p2) (_ : p3) : f_law28_ClientEnds a0 a1 q r = some true := by
  have h0 : 0 ≤ a0 ∧ a0 ≤ 65535 := by have := w0; simp [Lit.wf, IntKind.min, IntKind.max, IntKind.signed, IntKind.bits] at this; omega
  have h1 : 0 ≤ a1 ∧ a1 ≤ 255 := by have := w1; simp [Lit.wf, IntKind.min, IntKind.max, IntKind.signed, IntKind.bits] at this; omega
  obtain ⟨n, hn1, hn7, hw⟩ := nwrap h1
  unfold f_law28_ClientEnds
  obtain ⟨b2, h2, g2⟩ := short_eq q
  rw [h2]
  cases b2 with
  | false => simp only [Option.bind_some, Bool.not_false, if_true, works28]
  | true =>
    obtain ⟨b3, h3, g3⟩ := short_eq r
    simp only [Option.bind_some, Bool.not_true, Bool.false_eq_true, if_false, h3]
    cases b3 with
    | false => simp only [Option.bind_some, Bool.not_false, if_true, works28]
    | true =>
      simp only [Option.bind_some, Bool.not_true, Bool.false_eq_true, if_false]
      rw [w_i64 (n := a0) (by omega) (by omega), w_i64 (n := 1 + a0) (by omega) (by omega), hw, new_ok (by omega) (by omega)]
      simp only [Option.bind_some, nilNil, Bool.not_true, Bool.false_eq_true, if_false]
      obtain ⟨e, h⟩ := begin_eq ⟨1 + a0, 0, (n : Int), 1, [], 0⟩ q (by have := g2 rfl; omega) ⟨Int.le_refl 0, show (0 : Int) ≤ 1073741824 by decide⟩
      rcases h with ⟨h, hnil⟩ | ⟨ho, hs, hr, h⟩
      · rw [h]
        simp only [Option.bind_some, hnil, Bool.not_false, if_true, works28]
      · rw [h]
        simp only [Option.bind_some, nilNil, Bool.not_true, Bool.false_eq_true, if_false]
        have hit := ends_iter a1 q { q with Client := 1 + a0, Serial := 0 + 1 } (1 + a0) n ⟨hn1, hn7⟩ hw rfl rfl (by have := g2 rfl; show q.Ids.length ≤ _; omega) 50 0 rfl
        have es : EndsS { q with Client := 1 + a0, Serial := 0 + 1 } (1 + a0) n 0 = (0, 0, 1 + a0, 0 + 1, (n : Int), 1, [{ q with Client := 1 + a0, Serial := 0 + 1 }], 0, 0, 0, 0, 0, 0, 0, 0, 0) := by
          unfold EndsS
          rw [Nat.zero_mod]
          rfl
        rw [es] at hit
        rw [hit]
        simp only [Option.bind_some, Sum.elim_inl]
        rw [ends_l1 a1 n ⟨hn1, hn7⟩ hw]
        simp only [Option.bind_some, Sum.elim_inl]
        rw [if_neg (by simp)]
        simp only [Option.bind_some]
        rw [if_neg (by simp)]
        obtain ⟨e', h'⟩ := begin_eq ⟨1 + a0, 1, (n : Int), ((50 % n + 1 : Nat) : Int), [], 0⟩ r (by have := g3 rfl; omega) ⟨show (0 : Int) ≤ 1 by decide, show (1 : Int) ≤ 1073741824 by decide⟩
        rcases h' with ⟨h', hnil'⟩ | ⟨ho', hs', hr', h'⟩
        · rw [h']
          simp only [Option.bind_some, hnil', Bool.not_false, if_true, works28]
        · rw [h']
          simp only [Option.bind_some, nilNil, Bool.not_true, Bool.false_eq_true, if_false]
          rw [if_pos (by simp), works28]
          rfl
/- ClientFinds. -/
theorem finds_iter (a0 a1 : Int) (l : List Bool) (n t : Nat) (hn : 1 ≤ n ∧ n ≤ 7) (ht : 1 ≤ t ∧ t ≤ n) (hw : IntKind.i64.wrap (1 + (IntKind.i64.wrap a0).tmod 7) = (n : Int))
    (hv : IntKind.i64.wrap (1 + (IntKind.i64.wrap a1).tmod (n : Int)) = (t : Int)) : ∀ (d i m : Nat), i + d = n → (m = t ∨ (m = i + 1 ∧ m ≤ t)) →
    ∃ x, iter (f_law28_ClientFinds_l0 a0 a1 l) ((i : Int), 1, 1, (n : Int), (m : Int), [adrop 1 1], (i : Int)) = some (.inr (true, x)) := by
  have hlt : ∀ (i m : Nat), i ≤ n → (m = t ∨ (m = i + 1 ∧ m ≤ t)) → m = t → ∃ x, iter (f_law28_ClientFinds_l0 a0 a1 l) ((i : Int), 1, 1, (n : Int), (m : Int), [adrop 1 1], (i : Int)) = some (.inr (true, x)) := by
    intro i m hi hm e
    refine ⟨(1, 1, (n : Int), (m : Int), [adrop 1 1], (i : Int)), iter_stop ?_⟩
    · unfold f_law28_ClientFinds_l0
      simp only [hw, hv]
      rw [if_pos (decide_eq_true (by omega)), ask_one _ (adrop 1 1) rfl (by decide) (by show 0 ≤ (i : Int) ∧ (i : Int) < 50; omega)]
      simp only [Option.bind_some, Bool.not_true, Bool.false_eq_true, if_false]
      rw [if_pos (decide_eq_true (by omega)), heard_eq _ _ (by show 1 ≤ (n : Int) ∧ (n : Int) ≤ 7; omega) (by show 1 ≤ (m : Int) ∧ (m : Int) ≤ n; omega)]
      rw [if_neg (by simp [adrop]), if_neg (by decide), if_neg (by decide)]
      simp only [Option.bind_some, if_true, works28]
  intro d
  induction d with
  | zero =>
    intro i m hi hm
    exact hlt i m (by omega) hm (by omega)
  | succ d ih =>
    intro i m hi hm
    by_cases e : m = t
    · exact hlt i m (by omega) hm e
    · obtain ⟨b, hb⟩ : ∃ b : Bool, (if (decide ((i : Int) < (l.length : Int))) = true then (grd (0 ≤ (i : Int) ∧ (i : Int) < l.length) (some (rd l (i : Int)))) else (some false)) = some b := by
        by_cases g : i < l.length
        · rw [if_pos (decide_eq_true (by omega)), grd_t (by omega)]; exact ⟨_, rfl⟩
        · rw [if_neg (fun z => absurd (of_decide_eq_true z) (by omega))]; exact ⟨_, rfl⟩
      have hx : ∃ m' : Nat, (m' = t ∨ (m' = i + 1 + 1 ∧ m' ≤ t)) ∧ f_law28_ClientFinds_l0 a0 a1 l ((i : Int), 1, 1, (n : Int), (m : Int), [adrop 1 1], (i : Int)) = some (.inl (((i + 1 : Nat) : Int), 1, 1, (n : Int), (m' : Int), [adrop 1 1], ((i + 1 : Nat) : Int))) := by
        unfold f_law28_ClientFinds_l0
        simp only [hw, hv]
        rw [if_pos (decide_eq_true (by omega)), ask_one _ (adrop 1 1) rfl (by decide) (by show 0 ≤ (i : Int) ∧ (i : Int) < 50; omega)]
        simp only [Option.bind_some, Bool.not_true, Bool.false_eq_true, if_false]
        rw [if_neg (fun z => absurd (of_decide_eq_true z) (by omega)), hb]
        simp only [Option.bind_some]
        cases b with
        | true =>
          refine ⟨t, .inl rfl, ?_⟩
          simp only [if_true, Option.bind_some]
          rw [heard_eq _ _ (by show 1 ≤ (n : Int) ∧ (n : Int) ≤ 7; omega) (by show 1 ≤ (m : Int) ∧ (m : Int) ≤ n; omega)]
          rw [if_neg (by simp [adrop]), if_pos rfl, if_pos (show 1 ≤ (t : Int) ∧ (t : Int) ≤ (n : Int) ∧ (t : Int) ≠ (m : Int) by omega)]
          simp only [Option.bind_some, Bool.false_eq_true, if_false]
          rw [w_i64 (by omega) (by omega)]
          rfl
        | false =>
          refine ⟨m + 1, .inr ⟨by omega, by omega⟩, ?_⟩
          simp only [Bool.false_eq_true, if_false, Option.bind_some]
          rw [heard_eq _ _ (by show 1 ≤ (n : Int) ∧ (n : Int) ≤ 7; omega) (by show 1 ≤ (m : Int) ∧ (m : Int) ≤ n; omega)]
          rw [if_neg (by simp [adrop]), if_pos rfl, if_neg (show ¬ (1 ≤ (0 : Int) ∧ (0 : Int) ≤ (n : Int) ∧ (0 : Int) ≠ (m : Int)) by omega)]
          simp only [Option.bind_some, Bool.false_eq_true, if_false]
          rw [w_i64 (by omega) (by omega), Int.emod_eq_of_lt (by omega) (show (m : Int) < (n : Int) by omega)]
          rfl
      obtain ⟨m', hm', hstep⟩ := hx
      obtain ⟨x, hr⟩ := ih (i + 1) m' (by omega) hm'
      exact ⟨x, by rw [iter_next hstep]; exact hr⟩
theorem pure_ClientFinds (a0 a1 : Int) (l : List Bool) (w0 : (Lit.int .u8 a0).wf = true) (w1 : (Lit.int .u8 a1).wf = true) {p2 : Prop} (_ : p2) : f_law28_ClientFinds a0 a1 l = some true := by
  have h0 : 0 ≤ a0 ∧ a0 ≤ 255 := by have := w0; simp [Lit.wf, IntKind.min, IntKind.max, IntKind.signed, IntKind.bits] at this; omega
  have h1 : 0 ≤ a1 ∧ a1 ≤ 255 := by have := w1; simp [Lit.wf, IntKind.min, IntKind.max, IntKind.signed, IntKind.bits] at this; omega
  obtain ⟨n, hn1, hn7, hw⟩ := nwrap h0
  obtain ⟨t, ht1, htn, hv⟩ : ∃ t : Nat, 1 ≤ t ∧ t ≤ n ∧ IntKind.i64.wrap (1 + (IntKind.i64.wrap a1).tmod (n : Int)) = (t : Int) := by
    have e0 : 0 ≤ a1 % (n : Int) := Int.emod_nonneg _ (by omega)
    have e1 : a1 % (n : Int) < n := Int.emod_lt_of_pos _ (by omega)
    refine ⟨1 + (a1 % (n : Int)).toNat, by omega, by omega, ?_⟩
    rw [w_i64 (n := a1) (by omega) (by omega), Int.tmod_eq_emod_of_nonneg (by omega), w_i64 (by omega) (by omega)]
    omega
  unfold f_law28_ClientFinds
  simp only [hw]
  rw [grd_t (by omega), new_ok (by decide) (by omega)]
  simp only [Option.bind_some, nilNil, Bool.not_true, Bool.false_eq_true, if_false]
  have e3 : f_client_Begin ⟨1, 0, (n : Int), 1, [], 0⟩ (adrop 0 0) = some (⟨1, 1, (n : Int), 1, [adrop 1 1], 0⟩, .nil) := by
    unfold f_client_Begin
    rw [if_neg (by simp), if_neg (by simp), alone_eq _ (by decide)]
    simp only [Option.bind_some]
    refine (bindC (adrop_ok (c := 1) (by decide))).trans ?_
    rfl
  refine (bindC e3).trans ?_
  simp only [Option.bind_some, Bool.not_true, Bool.false_eq_true, if_false]
  obtain ⟨x, hx⟩ := finds_iter a0 a1 l n t ⟨hn1, hn7⟩ ⟨ht1, htn⟩ hw hv n 0 1 (by omega) (by omega)
  rw [show iter (f_law28_ClientFinds_l0 a0 a1 l) (0, 1, 1, (n : Int), 1, [adrop 1 1], 0) = _ from hx]
  rfl
end Go.Proofs.Ytdlilclopmhiaaa.G
