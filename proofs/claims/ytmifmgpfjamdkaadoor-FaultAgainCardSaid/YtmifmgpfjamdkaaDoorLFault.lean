/- Errors that wrap others (chapter 1): the laws FaultWraps and FaultAgain on what the printed functions compute. No condition. -/
import Derived.Test.YtmifmgpfjamdkaaDoorLErr2
import Derived.Test.YtmifmgpfjamdkaaDoorLErr3
set_option linter.unusedSimpArgs false
set_option linter.unusedVariables false
namespace Go.Proofs.YtmifmgpfjamdkaaDoor.G
open Go Go.KK

abbrev Stp := T_ref01_Step
abbrev Chn := T_ref01_Chain
def mk (l : List Stp) (e : GErr) : GErr := l.foldr (fun s e => .fault s.Op s.At e) e
def bse (c : Int) (a : Addr) : GErr := if c < 0 then .other a else .code c
/-- The error that a chain is. -/
def chE (c : Chn) (a : Addr) : GErr := if c.Code = 0 then .nil else mk c.Steps (bse c.Code a)
def a0_ : Addr := ⟨0, 0, none⟩
theorem mk_nn (l : List Stp) {e : GErr} (h : e.isNil = false) : (mk l e).isNil = false := by
  cases l with
  | nil => exact h
  | cons s t => rfl
theorem bse_nn (c : Int) (a : Addr) : (bse c a).isNil = false := by unfold bse; split <;> rfl
theorem erase_mk (l : List Stp) (e : GErr) : (mk l e).erase = mk l e.erase := by
  induction l with
  | nil => rfl
  | cons s t ih => show GErr.fault s.Op s.At (mk t e).erase = _; rw [ih]; rfl
theorem erase_ch (c : Chn) (a : Addr) : (chE c a).erase = chE c a0_ := by
  unfold chE
  split
  · rfl
  · rw [erase_mk]
    congr 1
    unfold bse
    split <;> rfl
theorem erase_inv : ∀ (l : List Stp) (c : Int) (e : GErr), e.erase = mk l (bse c a0_) → ∃ a, e = mk l (bse c a)
  | [], c, e, h => by
    change e.erase = bse c a0_ at h
    unfold bse at h
    show ∃ a, e = bse c a
    unfold bse
    by_cases g : c < 0
    · rw [if_pos g] at h
      cases e with
      | other b => exact ⟨b, by rw [if_pos g]⟩
      | nil => cases h
      | code n => cases h
      | fault o a e => cases h
    · rw [if_neg g] at h
      cases e with
      | other b => cases h
      | nil => cases h
      | code n => cases h; exact ⟨a0_, by rw [if_neg g]⟩
      | fault o a e => cases h
  | s :: t, c, e, h => by
    change e.erase = GErr.fault s.Op s.At (mk t (bse c a0_)) at h
    cases e with
    | other b => cases h
    | nil => cases h
    | code n => cases h
    | fault o a e' =>
      change GErr.fault o a e'.erase = _ at h
      injection h with h1 h2 h3
      obtain ⟨b, hb⟩ := erase_inv t c e' h3
      exact ⟨b, by subst h1 h2 hb; rfl⟩
theorem erase_ch_inv {c : Chn} {e : GErr} (h : e.erase = chE c a0_) : ∃ a, e = chE c a := by
  unfold chE at h ⊢
  by_cases g : c.Code = 0
  · rw [if_pos g] at h
    cases e with
    | nil => exact ⟨a0_, by rw [if_pos g]⟩
    | other b => cases h
    | code n => cases h
    | fault o a e => cases h
  · rw [if_neg g] at h
    obtain ⟨a, ha⟩ := erase_inv _ _ _ h
    exact ⟨a, by rw [if_neg g]; exact ha⟩
theorem wrap_nn (o : ByteArray) (a : Int) {e : GErr} (h : e.isNil = false) : f_fault_Wrap o a e = some (.fault o a e) := by
  unfold f_fault_Wrap
  rw [h]
  rfl
theorem made_loop (c : Chn) : ∀ (i : Nat) (e : GErr), i ≤ c.Steps.length → c.Steps.length ≤ 1000000 → e.isNil = false → iter (f_law01_made_l0 c) (e, (i : Int) - 1) = some (mk (c.Steps.take i) e)
  | 0, e, h, hl, hn => iter_stop (by
      unfold f_law01_made_l0
      simp only
      rw [if_neg (fun z => absurd (of_decide_eq_true z) (by omega))]
      rfl)
  | i + 1, e, h, hl, hn => by
    have hi : i < c.Steps.length := by omega
    have hs : f_law01_made_l0 c (e, ((i + 1 : Nat) : Int) - 1) = some (.inl (.fault c.Steps[i].Op c.Steps[i].At e, (i : Int) - 1)) := by
      rw [show ((i + 1 : Nat) : Int) - 1 = (i : Int) by omega]
      unfold f_law01_made_l0
      simp only
      rw [if_pos (decide_eq_true (by omega)), grd_t (by omega), grd_t (by omega), len_lt hi, wrap_nn _ _ hn]
      simp only [Option.bind_some]
      rw [w_i64 (by omega) (by omega)]
    rw [iter_next hs, made_loop c i _ (by omega) hl rfl, List.take_succ_eq_append_getElem hi]
    unfold mk
    rw [List.foldr_append]
    rfl
theorem made_eq (c : Chn) (hl : c.Steps.length ≤ 1000000) : f_law01_made c = some (chE c a0_) := by
  unfold f_law01_made
  by_cases g1 : c.Code = 0
  · rw [if_pos (decide_eq_true g1)]
    unfold chE
    rw [if_pos g1]
    rfl
  rw [if_neg (fun z => g1 (of_decide_eq_true z))]
  by_cases g2 : c.Code < 0
  · rw [if_pos (decide_eq_true g2)]
    refine anyA_of (T := _) fun a => ?_
    rw [w_i64 (by omega) (by omega), made_loop c c.Steps.length _ (Nat.le_refl _) hl rfl]
    simp only [Option.bind_some]
    rw [erase_mk, List.take_length]
    unfold chE bse
    rw [if_neg g1, if_pos g2]
    rfl
  rw [if_neg (fun z => g2 (of_decide_eq_true z))]
  have hch : chE c a0_ = mk c.Steps (.code c.Code) := by
    unfold chE bse
    rw [if_neg g1, if_neg g2]
  by_cases g3 : c.Steps.length = 0
  · rw [if_neg (fun z => absurd (of_decide_eq_true z) (by omega)), hch, List.length_eq_zero_iff.1 g3]
    rfl
  · obtain ⟨n, hn⟩ : ∃ n, c.Steps.length = n + 1 := ⟨c.Steps.length - 1, by omega⟩
    rw [if_pos (decide_eq_true (by omega)), hn, w_i64 (by omega) (by omega), show ((n + 1 : Nat) : Int) - 1 = (n : Int) by omega, grd_t (by omega), grd_t (by omega), len_lt (show n < c.Steps.length by omega)]
    rw [w_i64 (by omega) (by omega)]
    simp only [f_fault_New, Option.bind_some]
    rw [show iter (f_law01_made_l1 c) _ = _ from made_loop c n (.fault c.Steps[n].Op c.Steps[n].At (.code c.Code)) (by omega) hl rfl]
    simp only [Option.bind_some]
    rw [erase_mk, hch]
    conv => rhs; rw [← List.take_length (l := c.Steps), hn, List.take_succ_eq_append_getElem (show n < c.Steps.length by omega)]
    unfold mk
    rw [List.foldr_append]
    rfl
theorem codeIn_mk (l : List Stp) (e : GErr) : codeIn (mk l e) = codeIn e := by
  induction l with
  | nil => rfl
  | cons s t ih => exact ih
theorem path_mk (l : List Stp) (e : GErr) : PathE (mk l e) = l.map (·.Op) ++ PathE e := by
  induction l with
  | nil => rfl
  | cons s t ih => show s.Op :: PathE (mk t e) = _; rw [ih]; rfl
theorem path_bse (c : Int) (a : Addr) : PathE (bse c a) = [] := by unfold bse; split <;> rfl
theorem OfE_nn {e : GErr} (h : e.isNil = false) : OfE e = (codeIn e).getD 21 := by cases e <;> first | rfl | cases h
theorem of_ch (c : Chn) (a : Addr) : OfE (chE c a) = if c.Code < 0 then 21 else c.Code := by
  unfold chE
  by_cases g1 : c.Code = 0
  · rw [if_pos g1, g1]; rfl
  · rw [if_neg g1, OfE_nn (mk_nn _ (bse_nn _ _)), codeIn_mk]
    unfold bse
    by_cases g2 : c.Code < 0
    · rw [if_pos g2, if_pos g2]; rfl
    · rw [if_neg g2, if_neg g2]; rfl
def pathC (c : Chn) : List ByteArray := if c.Code = 0 then [] else c.Steps.map (·.Op)
theorem path_ch (c : Chn) (a : Addr) : PathE (chE c a) = pathC c := by
  unfold chE pathC
  by_cases g1 : c.Code = 0
  · rw [if_pos g1, if_pos g1]; rfl
  · rw [if_neg g1, if_neg g1, path_mk, path_bse, List.append_nil]
theorem rof_eq (c : Chn) : f_ref01_Of c = some (if c.Code < 0 then 21 else c.Code) := by
  unfold f_ref01_Of
  by_cases g : c.Code < 0
  · rw [if_pos (decide_eq_true g), if_pos g]
  · rw [if_neg (fun z => g (of_decide_eq_true z)), if_neg g]
theorem rwhere_eq (c : Chn) (a : Addr) : f_ref01_Where c = some (WhereE (chE c a)) := by
  unfold f_ref01_Where chE
  cases hs : c.Steps with
  | nil =>
    rw [if_pos (by rfl)]
    simp only [Option.bind_some, if_true]
    by_cases g : c.Code = 0
    · rw [if_pos g]; rfl
    · rw [if_neg g]; show _ = some (WhereE (bse c.Code a)); unfold bse; split <;> rfl
  | cons s t =>
    rw [if_neg (fun z => absurd (of_decide_eq_true z) (by simp; omega))]
    simp only [Option.bind_some]
    by_cases g : c.Code = 0
    · rw [if_pos (decide_eq_true g), if_pos g]; rfl
    · rw [if_neg (fun z => g (of_decide_eq_true z)), if_neg g, grd_t (by first | (simp; done) | (simp; omega))]; rfl
theorem rpath_loop (c : Chn) (hl : c.Steps.length ≤ 1000000) (h0 : c.Code ≠ 0) : ∀ (d i : Nat) (l : List ByteArray), i + d = c.Steps.length → l.length = i → iter (f_ref01_Path_l0 c) (l, (i : Int)) = some (l ++ (c.Steps.drop i).map (·.Op))
  | 0, i, l, h, hi => by
    rw [List.drop_eq_nil_of_le (by omega)]
    refine (iter_stop (e := l) ?_).trans (by simp)
    unfold f_ref01_Path_l0
    simp only
    rw [if_neg (fun z => absurd (of_decide_eq_true z) (by omega))]
    try rfl
  | d + 1, i, l, h, hi => by
    have hlt : i < c.Steps.length := by omega
    have hs : f_ref01_Path_l0 c (l, (i : Int)) = some (.inl (l ++ [c.Steps[i].Op], ((i + 1 : Nat) : Int))) := by
      unfold f_ref01_Path_l0
      simp only
      rw [if_pos (decide_eq_true (by omega))]
      simp only [Option.bind_some]
      rw [if_pos (decide_eq_true h0), grd_t (by omega), len_lt hlt, grd_t (by simp; omega), w_i64 (by omega) (by omega)]
      rfl
    rw [iter_next hs, rpath_loop c hl h0 d (i + 1) _ (by omega) (by simp [hi]), List.drop_eq_getElem_cons hlt, List.map_cons, List.append_assoc]
    rfl
theorem rpath_eq (c : Chn) (hl : c.Steps.length ≤ 1000000) : f_ref01_Path c = some (pathC c) := by
  unfold f_ref01_Path pathC
  by_cases g : c.Code = 0
  · rw [iter_stop (e := []) (by
      unfold f_ref01_Path_l0
      simp only
      by_cases k : (0 : Int) < (c.Steps.length : Int)
      · rw [if_pos (decide_eq_true k)]
        simp only [Option.bind_some]
        rw [if_neg (fun z => absurd g (of_decide_eq_true z))]
      · rw [if_neg (fun z => k (of_decide_eq_true z))]; rfl), if_pos g]
    rfl
  · have := rpath_loop c hl g c.Steps.length 0 [] (by omega) rfl
    rw [show ((0 : Nat) : Int) = 0 from rfl] at this
    rw [this, if_neg g]
    simp
theorem texts_loop (l : List ByteArray) (hl : l.length ≤ 1000001) : ∀ (d i : Nat), i + d = l.length → iter (f_ref01_Texts_l0 l l) (i : Int) = some (.inl ())
  | 0, i, h => iter_stop (by
      unfold f_ref01_Texts_l0
      simp only
      rw [if_neg (fun z => absurd (of_decide_eq_true z) (by omega))])
  | d + 1, i, h => by
    have hs : f_ref01_Texts_l0 l l (i : Int) = some (.inl ((i + 1 : Nat) : Int)) := by
      unfold f_ref01_Texts_l0
      simp only
      rw [if_pos (decide_eq_true (by omega)), grd_t (by omega), grd_t (by omega), if_neg (by simp), w_i64 (by omega) (by omega)]
      rfl
    rw [iter_next hs, texts_loop l hl d (i + 1) (by omega)]
theorem texts_eq (l : List ByteArray) (hl : l.length ≤ 1000001) : f_ref01_Texts l l = some true := by
  unfold f_ref01_Texts
  rw [if_neg (by simp)]
  have := texts_loop l hl l.length 0 (by omega)
  rw [show ((0 : Nat) : Int) = 0 from rfl] at this
  rw [this]
  rfl
theorem isNil_ch (c : Chn) (a : Addr) : (chE c a).isNil = decide (c.Code = 0) := by
  unfold chE
  by_cases g : c.Code = 0
  · rw [if_pos g, decide_eq_true g]; rfl
  · rw [if_neg g, decide_eq_false g]; exact mk_nn _ (bse_nn _ _)
theorem pathC_len (c : Chn) : (pathC c).length ≤ c.Steps.length := by unfold pathC; split <;> simp
theorem same_eq (c : Chn) (a : Addr) (hl : c.Steps.length ≤ 1000000) : f_law01_same (chE c a) c = some true := by
  have hp := pathC_len c
  unfold f_law01_same
  rw [where_eq, rwhere_eq c a]
  simp only [Option.bind_some]
  rw [of_eq, rof_eq, of_ch]
  simp only [Option.bind_some]
  rw [if_pos (by simp), if_pos (by simp), if_pos (by simp), path_eq _ (by rw [path_ch]; omega), rpath_eq c hl, path_ch]
  simp only [Option.bind_some]
  rw [texts_eq _ (by omega), isNil_ch]
  simp
theorem again_eq (e : GErr) : f_fault_Again e = some (match e with | .fault _ _ e => e | e => e) := by
  unfold f_fault_Again
  rw [as_fault_eq]
  cases e <;> rfl
theorem works01 : f_law01_works = some true := by
  unfold f_law01_works
  simp only [f_fault_New, f_fault_Wrap, Option.bind_some, where_eq, of_eq, is_eq, again_eq, GErr.isNil, Bool.false_eq_true, if_false, if_true]
  rw [path_eq _ (by decide)]
  simp only [Option.bind_some]
  rw [under_eq _ _ (by decide), path_eq _ (by decide)]
  simp only [Option.bind_some, f_errors_New]
  have hA : ∀ (T : Addr → Option Bool), (∀ a, T a = some true) → anyA T = some true := fun T h => anyA_of h
  rw [hA]
  · simp [OfE, codeIn, IsE, WhereE, PathE]
  · intro a; rfl
theorem light_of (c : Chn) : f_law01_light c = some (decide ((c.Steps.length : Int) ≤ 60)) := rfl
theorem pure_FaultWraps (c : Chn) (op : ByteArray) (at_ : Int) {p0 p1 p2 : Prop} (_ : p0) (_ : p1) (_ : p2) : f_law01_FaultWraps c op at_ = some true := by
  unfold f_law01_FaultWraps
  rw [light_of, works01]
  simp only [Option.bind_some]
  by_cases g : (c.Steps.length : Int) ≤ 60
  · rw [if_neg (by simpa using g), made_eq c (by omega)]
    simp only [Option.bind_some]
    refine anyE_of (e0 := chE c a0_) (erase_ch c a0_) fun e he => ?_
    obtain ⟨a, rfl⟩ := erase_ch_inv he
    by_cases h : c.Code = 0
    · have : chE c a = .nil := by unfold chE; rw [if_pos h]
      rw [this]
      rfl
    · have hn : (chE c a).isNil = false := by rw [isNil_ch, decide_eq_false h]
      have hp := pathC_len c
      rw [wrap_nn _ _ hn]
      simp only [Option.bind_some, hn, Bool.false_eq_true, if_false]
      have hpw : PathE (.fault op at_ (chE c a)) = op :: pathC c := by show op :: PathE (chE c a) = _; rw [path_ch]
      rw [where_eq, path_eq _ (by rw [hpw]; simp; omega), path_eq _ (by rw [path_ch]; omega), of_eq, of_eq, hpw, path_ch]
      simp only [Option.bind_some, WhereE]
      have ho : OfE (.fault op at_ (chE c a)) = OfE (chE c a) := by rw [OfE_nn hn]; rfl
      rw [ho, if_pos (by simp), if_pos (by simp), if_pos trivial, if_pos (decide_eq_true (by rw [w_i64 (by omega) (by omega)]; simp)), grd_t (by first | (simp; done) | (simp; omega)), if_pos (by simp [rd]), grd_t (by first | (simp; done) | (simp; omega))]
      have hsub : sub (op :: pathC c) 1 ((op :: pathC c).length : Int) = pathC c := by
        unfold sub
        simp
      rw [hsub, texts_eq _ (by omega)]
      simp only [Option.bind_some, if_true]
      rw [again_eq]
      simp only [Option.bind_some]
      rw [same_eq c a (by omega)]
      rfl
  · rw [if_pos (by simpa using g)]
theorem ragain_eq (c : Chn) : ∃ d : Chn, f_ref01_Again c = some d ∧ d.Steps.length ≤ c.Steps.length ∧ ∀ a, f_fault_Again (chE c a) = some (chE d a) := by
  unfold f_ref01_Again
  cases hs : c.Steps with
  | nil =>
    refine ⟨c, by rw [if_pos (by rfl)]; rfl, by rw [hs]; exact Nat.le_refl _, fun a => ?_⟩
    rw [again_eq]
    unfold chE
    by_cases g : c.Code = 0
    · rw [if_pos g]
    · rw [if_neg g, hs]
      show some (match bse c.Code a with | .fault _ _ e => e | e => e) = some (bse c.Code a)
      unfold bse
      by_cases k : c.Code < 0
      · rw [if_pos k]
      · rw [if_neg k]
  | cons s t =>
    rw [if_neg (fun z => absurd (of_decide_eq_true z) (by simp; omega))]
    simp only [Option.bind_some]
    by_cases g : c.Code = 0
    · refine ⟨c, by rw [if_pos (decide_eq_true g)], by rw [hs]; exact Nat.le_refl _, fun a => ?_⟩
      rw [again_eq]
      unfold chE
      rw [if_pos g]
    · refine ⟨⟨t, c.Code⟩, ?_, by simp, fun a => ?_⟩
      · rw [if_neg (fun z => g (of_decide_eq_true z)), grd_t (by simp; omega)]
        unfold sub
        simp
      · rw [again_eq]
        unfold chE
        rw [if_neg g, if_neg (show ¬ (⟨t, c.Code⟩ : Chn).Code = 0 from g), hs]
        rfl
theorem both_eq (c d : Chn) (hc : c.Steps.length ≤ 60) (hd : d.Steps.length ≤ 60) : ∃ x : Chn, f_ref01_Both c d = some x ∧ x.Steps.length ≤ 1000 ∧ ∀ a b, ∃ e, f_fault_Both (chE c a) (chE d b) = some (chE x e) := by
  unfold f_ref01_Both
  by_cases g1 : c.Code = 0
  · refine ⟨d, by rw [if_pos (decide_eq_true g1)], by omega, fun a b => ⟨b, ?_⟩⟩
    unfold f_fault_Both
    rw [if_pos (by rw [isNil_ch, decide_eq_true g1])]
  rw [if_neg (fun z => g1 (of_decide_eq_true z))]
  by_cases g2 : d.Code = 0
  · refine ⟨c, by rw [if_pos (decide_eq_true g2)], by omega, fun a b => ⟨a, ?_⟩⟩
    unfold f_fault_Both
    rw [if_neg (by rw [isNil_ch, decide_eq_false g1]; simp), if_pos (by rw [isNil_ch, decide_eq_true g2])]
  · rw [if_neg (fun z => g2 (of_decide_eq_true z)), rof_eq]
    simp only [Option.bind_some]
    rw [grd_t (by simp; omega)]
    refine ⟨_, rfl, by simp; omega, fun a b => ⟨a, ?_⟩⟩
    unfold f_fault_Both
    rw [if_neg (by rw [isNil_ch, decide_eq_false g1]; simp), if_neg (by rw [isNil_ch, decide_eq_false g2]; simp), of_eq, of_ch]
    simp only [Option.bind_some]
    conv => rhs; unfold chE
    conv => lhs; unfold chE
    rw [if_neg g1, if_neg (show ¬ (T_ref01_Chain.Code ⟨_, c.Code⟩ : Int) = 0 from g1)]
    rfl
theorem pure_FaultAgain (c d : Chn) {p0 p1 : Prop} (_ : p0) (_ : p1) : f_law01_FaultAgain c d = some true := by
  unfold f_law01_FaultAgain
  rw [light_of, light_of, works01]
  simp only [Option.bind_some]
  by_cases g1 : (c.Steps.length : Int) ≤ 60
  · rw [if_neg (by simpa using g1)]
    by_cases g2 : (d.Steps.length : Int) ≤ 60
    · simp only [Option.bind_some]
      rw [if_neg (by simpa using g2), made_eq c (by omega), made_eq d (by omega)]
      simp only [Option.bind_some]
      obtain ⟨x, hx, hxl, hxa⟩ := ragain_eq c
      obtain ⟨y, hy, hyl, hya⟩ := both_eq c d (by omega) (by omega)
      rw [hx, hy]
      simp only [Option.bind_some]
      rw [anyE_of (x := true) (e0 := chE c a0_) (erase_ch c a0_) fun e he => ?_]
      · rfl
      · obtain ⟨a, rfl⟩ := erase_ch_inv he
        rw [hxa]
        simp only [Option.bind_some]
        rw [same_eq x a (by omega)]
        simp only [Option.bind_some, if_true]
        refine anyE_of (e0 := chE c a0_) (erase_ch c a0_) fun e he => ?_
        obtain ⟨a, rfl⟩ := erase_ch_inv he
        refine anyE_of (e0 := chE d a0_) (erase_ch d a0_) fun e he => ?_
        obtain ⟨b, rfl⟩ := erase_ch_inv he
        obtain ⟨z, hz⟩ := hya a b
        rw [hz]
        simp only [Option.bind_some]
        rw [same_eq y z (by omega)]
        rfl
    · simp only [Option.bind_some]
      rw [if_pos (by simpa using g2)]
  · rw [if_pos (by simpa using g1)]
    rfl
end Go.Proofs.YtmifmgpfjamdkaaDoor.G
