/- Chapter 2: the laws WireOnce, WireBack on what the printed functions compute. No condition. -/
import Derived.Test.YtdlilclopmhiaaaDoorLWireB
import Derived.Test.YtdlilclopmhiaaaDoorLWirePuts
set_option linter.unusedSimpArgs false
set_option linter.unusedVariables false
namespace Go.Proofs.YtdlilclopmhiaaaDoor.G
open Go Go.KK

theorem pure_WireOnce (b : List Int) (h0 : (∀ x ∈ b, (Lit.int .u8 x).wf = true) ∧ b.length ≤ maxLen) : f_law02_WireOnce b = some true := by
  unfold f_law02_WireOnce
  rw [works02]
  by_cases g1 : 100 < b.length
  · rw [if_pos (decide_eq_true (by omega))]; rfl
  rw [if_neg (fun q => absurd (of_decide_eq_true q) (by omega))]
  have hb : okB b := fun x hx => bounds_u8 (h0.1 x hx)
  unfold f_wire_Read f_wire_Reader_Err f_wire_Reader_At
  simp only [Option.bind_some]
  have h := wnum_read hb (by omega) (a := 0) (by omega) 4611686018427387904
  rw [show ((0 : Nat) : Int) = 0 from rfl] at h
  rw [h]
  unfold numP
  cases hr : numR b 0 4611686018427387904 with
  | inl c => rfl
  | inr x =>
    obtain ⟨n, a'⟩ := x
    have hn := numR_ok hb hr
    have ho := (num_once hb hr).1
    simp only [Option.bind_some, GErr.isNil, Bool.not_true, Bool.false_eq_true, if_false]
    rw [wnum_eq [] n hn.1 (by simp)]
    simp only [Option.bind_some, List.nil_append]
    have es : sub b 0 (a' : Int) = numB n := by
      rw [ho]
      exact sub_nat b 0 a'
    have hl := numB_len n
    rw [grd_t ⟨by omega, by omega, by omega⟩, es, rsame_eq _ (by omega)]
    rfl
theorem back_loop (l : List Int) (hl : ∀ x ∈ l, -9223372036854775808 ≤ x ∧ x ≤ 9223372036854775807) (hn : l.length ≤ 1000000) : ∀ (d i : Nat), i + d = l.length → (∀ j (h : j < l.length), j < i → 0 ≤ l[j] ∧ l[j] ≤ 2305843009213693952) →
    iter (f_law02_WireBack_l0 l) (i : Int) = some (.inr true) ∨ (iter (f_law02_WireBack_l0 l) (i : Int) = some (.inl ()) ∧ ∀ x ∈ l, 0 ≤ x ∧ x ≤ 2305843009213693952)
  | 0, i, hi, hp => by
    refine .inr ⟨iter_stop ?_, fun x hx => ?_⟩
    · unfold f_law02_WireBack_l0
      simp only
      rw [if_neg (fun q => absurd (of_decide_eq_true q) (by omega))]
    · obtain ⟨j, hj, rfl⟩ := List.getElem_of_mem hx
      exact hp j hj (by omega)
  | d + 1, i, hi, hp => by
    have hlt : i < l.length := by omega
    by_cases g1 : l[i] < 0
    · refine .inl (iter_stop ?_)
      unfold f_law02_WireBack_l0
      simp only
      rw [if_pos (decide_eq_true (by omega)), grd_t ⟨by omega, by omega⟩, rdn hlt, if_pos (decide_eq_true g1), works02]
      rfl
    by_cases g2 : 2305843009213693952 < l[i]
    · refine .inl (iter_stop ?_)
      unfold f_law02_WireBack_l0
      simp only
      rw [if_pos (decide_eq_true (by omega)), grd_t ⟨by omega, by omega⟩, rdn hlt, if_neg (fun q => g1 (of_decide_eq_true q)), grd_t ⟨by omega, by omega⟩]
      simp only [decide_eq_true g2, Option.bind_some, if_true]
      rw [works02]
      rfl
    · have hstep : f_law02_WireBack_l0 l (i : Int) = some (.inl ((i + 1 : Nat) : Int)) := by
        unfold f_law02_WireBack_l0
        simp only
        rw [if_pos (decide_eq_true (by omega)), grd_t ⟨by omega, by omega⟩, rdn hlt, if_neg (fun q => g1 (of_decide_eq_true q)), grd_t ⟨by omega, by omega⟩]
        simp only [decide_eq_false g2, Option.bind_some, Bool.false_eq_true, if_false]
        rw [w_i64 (by omega) (by omega)]
        rfl
      rw [iter_next hstep]
      exact back_loop l hl hn d (i + 1) (by omega) fun j hj hji => by
        by_cases e : j = i
        · subst e; omega
        · exact hp j hj (by omega)
theorem rints_loop (l : List Int) (hl : l.length ≤ 274877906944) : ∀ (d m : Nat), m + d = l.length → iter (f_ref02_Ints_l0 l l) (m : Int) = some (.inl ())
  | 0, m, hm => by
    refine iter_stop ?_
    unfold f_ref02_Ints_l0
    simp only
    rw [if_neg (fun q => absurd (of_decide_eq_true q) (by omega))]
  | d + 1, m, hm => by
    have hstep : f_ref02_Ints_l0 l l (m : Int) = some (.inl ((m + 1 : Nat) : Int)) := by
      unfold f_ref02_Ints_l0
      simp only
      rw [if_pos (decide_eq_true (by omega)), grd_t ⟨by omega, by omega⟩, grd_t ⟨by omega, by omega⟩, w_i64 (by omega) (by omega)]
      simp
    rw [iter_next hstep]
    exact rints_loop l hl d (m + 1) (by omega)
theorem rints_eq (l : List Int) (hl : l.length ≤ 274877906944) : f_ref02_Ints l l = some true := by
  unfold f_ref02_Ints
  have h := rints_loop l hl l.length 0 (by omega)
  rw [show ((0 : Nat) : Int) = 0 from rfl] at h
  rw [h, if_neg (by simp)]
  rfl
theorem pure_WireBack (n k : Int) (is : Bool) (s l : List Int) (h1 : (Lit.int .u64 n).wf = true) (h2 : (Lit.int .i64 k).wf = true) (h4 : (∀ x ∈ s, (Lit.int .u8 x).wf = true) ∧ s.length ≤ maxLen)
    (h5 : (∀ x ∈ l, (Lit.int .i64 x).wf = true) ∧ l.length ≤ maxLen) : f_law02_WireBack n k is s l = some true := by
  unfold f_law02_WireBack
  rw [works02]
  by_cases g1 : 4611686018427387903 < n
  · rw [if_pos (decide_eq_true g1)]; rfl
  rw [if_neg (fun q => g1 (of_decide_eq_true q))]
  by_cases g2 : k < 0
  · rw [if_pos (decide_eq_true g2)]; rfl
  rw [if_neg (fun q => g2 (of_decide_eq_true q))]
  by_cases g3 : 2305843009213693952 < k
  · rw [if_pos (decide_eq_true g3)]; rfl
  rw [if_neg (fun q => g3 (of_decide_eq_true q))]
  by_cases g4 : 2000 < s.length
  · rw [if_pos (decide_eq_true (by omega))]; rfl
  rw [if_neg (fun q => absurd (of_decide_eq_true q) (by omega))]
  simp only [Option.bind_some]
  by_cases g5 : 500 < l.length
  · rw [if_pos (decide_eq_true (by omega))]
  rw [if_neg (fun q => absurd (of_decide_eq_true q) (by omega))]
  have hn := bounds_u64 h1
  have hb8 : okB s := fun x hx => bounds_u8 (h4.1 x hx)
  have hli : ∀ x ∈ l, -9223372036854775808 ≤ x ∧ x ≤ 9223372036854775807 := fun x hx => by have := bounds_i64 (h5.1 x hx); omega
  rcases back_loop l hli (by omega) l.length 0 (by omega) (fun j h h' => by omega) with h | ⟨h, hl⟩
  · rw [show ((0 : Nat) : Int) = 0 from rfl] at h
    rw [h]; rfl
  · rw [show ((0 : Nat) : Int) = 0 from rfl] at h
    rw [h]
    have l1 := numB_len n
    have l2 := intB_len k
    have l3 : (flagB is).length = 1 := by cases is <;> rfl
    have l4 : (textB s).length ≤ 2008 := by have := intB_len (s.length : Int); unfold textB; simp; omega
    have l5 : (rowB l).length ≤ 4008 := by have := intB_len (l.length : Int); have := intsB_len l; unfold rowB; simp; omega
    have hok : okB (numB n ++ intB k ++ flagB is ++ textB s ++ rowB l) := by
      have k3 : okB (flagB is) := by cases is <;> exact okB_of (by decide)
      have k5 : okB (intsB l) := by
        intro x hx
        obtain ⟨y, hy, hxy⟩ := List.mem_flatten.1 hx
        obtain ⟨z, hz, rfl⟩ := List.mem_map.1 hy
        exact intB_ok z x hxy
      exact ((((numB_ok hn.1).append (intB_ok k)).append k3).append ((intB_ok _).append hb8)).append ((intB_ok _).append k5)
    have hblen : (numB n ++ intB k ++ flagB is ++ textB s ++ rowB l).length ≤ 1000000 := by simp; omega
    simp only [Option.bind_some, Sum.elim_inl]
    rw [wnum_eq [] n hn.1 (by simp)]
    simp only [Option.bind_some, List.nil_append]
    rw [wint_eq _ k (by omega) (by omega)]
    simp only [Option.bind_some]
    rw [wflag_eq _ is (by simp; omega)]
    simp only [Option.bind_some]
    rw [wtext_eq _ s (by simp; omega)]
    simp only [Option.bind_some]
    rw [wrow_eq _ l (fun x hx => by have := hli x hx; omega) (by omega) (by simp; omega)]
    unfold f_wire_Read
    simp only [Option.bind_some]
    generalize hB : numB n ++ intB k ++ flagB is ++ textB s ++ rowB l = B at hok hblen
    have p1 : numR B 0 4611686018427387904 = .inr (n, (numB n).length) := by
      have := num_back [] (intB k ++ flagB is ++ textB s ++ rowB l) (n := n) (most := 4611686018427387904) hn.1 (by unfold top; omega) (by omega)
      rw [← hB]
      simpa [Nat.add_assoc] using this
    have p2 : numR B (numB n).length (pos0 2305843009213693952) = .inr (k, (numB n ++ intB k).length) := by
      have := int_back (numB n) (flagB is ++ textB s ++ rowB l) (n := k) (most := 2305843009213693952) (by omega) (by unfold top; omega) (by omega)
      rw [← hB, show pos0 2305843009213693952 = 2305843009213693952 from rfl]
      simpa [Nat.add_assoc] using this
    have p3 : flagR B (numB n ++ intB k).length = .inr (is, (numB n ++ intB k ++ flagB is).length) := by
      have := flag_back (numB n ++ intB k) (textB s ++ rowB l) is
      rw [← hB]
      simpa [Nat.add_assoc] using this
    have p4 : textR B (numB n ++ intB k ++ flagB is).length 2000 = .inr (s, (numB n ++ intB k ++ flagB is ++ textB s).length) := by
      have := text_back (numB n ++ intB k ++ flagB is) (rowB l) s (most := 2000) (by omega) (by omega)
      rw [← hB]
      simpa [Nat.add_assoc] using this
    have p5 : rowR B (numB n ++ intB k ++ flagB is ++ textB s).length 500 2305843009213693952 = .inr (l, B.length) := by
      have := row_back (numB n ++ intB k ++ flagB is ++ textB s) [] l (many := 500) (each := 2305843009213693952) (by omega) (by omega) (by unfold top; omega) hl
      rw [← hB]
      simpa [Nat.add_assoc] using this
    have lenB : B.length = (numB n ++ intB k ++ flagB is ++ textB s).length + (rowB l).length := by rw [← hB]; simp [Nat.add_assoc]
    have q0 : (numB n).length ≤ B.length := by rw [lenB]; simp; omega
    have q1 : (numB n ++ intB k).length ≤ B.length := by rw [lenB]; simp; omega
    have q2 : (numB n ++ intB k ++ flagB is).length ≤ B.length := by rw [lenB]; simp; omega
    have q3 : (numB n ++ intB k ++ flagB is ++ textB s).length ≤ B.length := by rw [lenB]; omega
    have r1 := wnum_read hok (by omega) (a := 0) (by omega) 4611686018427387904
    unfold numP at r1
    rw [p1, show ((0 : Nat) : Int) = 0 from rfl] at r1
    rw [r1]
    simp only [Option.bind_some, decide_true, if_true]
    have r2 := wint_read hok (by omega) q0 (most := 2305843009213693952) (by decide)
    unfold numP at r2
    rw [p2] at r2
    simp only at r2
    rw [r2]
    simp only [Option.bind_some, decide_true, if_true]
    have r3 := wflag_read hok (by omega) (numB n ++ intB k).length
    rw [p3] at r3
    rw [r3]
    unfold asP
    simp only [Option.bind_some, beq_self_eq_true, if_true]
    have r4 := wtext_read hok (by omega) q2 (most := 2000) (by decide)
    rw [p4] at r4
    rw [r4]
    unfold asP
    simp only [Option.bind_some]
    rw [rsame_eq s (by omega)]
    simp only [Option.bind_some, if_true]
    have r5 := wrow_read hok (by omega) q3 (many := 500) (each := 2305843009213693952) (by decide) (by decide)
    rw [p5] at r5
    rw [r5]
    unfold asP
    simp only [Option.bind_some]
    rw [rints_eq l (by omega)]
    simp only [Option.bind_some, if_true]
    rw [wend_eq, if_neg (fun q => absurd q.1 (by omega))]
    rfl
end Go.Proofs.YtdlilclopmhiaaaDoor.G
