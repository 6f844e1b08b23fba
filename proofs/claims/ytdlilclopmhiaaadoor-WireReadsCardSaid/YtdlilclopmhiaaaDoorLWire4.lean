/- Chapter 2, on: flags, texts, rows read, by the reader and by the reference. No condition. -/
import Derived.Test.YtdlilclopmhiaaaDoorLWire3
set_option linter.unusedSimpArgs false
set_option linter.unusedVariables false
namespace Go.Proofs.YtdlilclopmhiaaaDoor.G
open Go Go.KK

abbrev flagOp : ByteArray := ⟨#[102, 108, 97, 103]⟩
abbrev textOp : ByteArray := ⟨#[116, 101, 120, 116]⟩
abbrev endOp : ByteArray := ⟨#[101, 110, 100]⟩
/-- What a thing read comes to: what is wrong (a code, what was being done, where; and where the reader is then), or it and where it ends. -/
abbrev RdR (α : Type) := (Int × ByteArray × Int × Nat) ⊕ (α × Nat)
def numRR (b : List Int) (a : Nat) (most : Int) : RdR Int := match numR b a most with
  | .inl c => .inl (c, numOp, (a : Int), a)
  | .inr x => .inr x
def flagR (b : List Int) (a : Nat) : RdR Bool :=
  if b.length ≤ a then .inl (3, flagOp, (a : Int), a) else if 1 < rd b (a : Int) then .inl (5, flagOp, (a : Int), a) else .inr (decide (rd b (a : Int) = 1), a + 1)
def textR (b : List Int) (a : Nat) (most : Int) : RdR (List Int) := match numR b a (pos0 most) with
  | .inl c => .inl (c, numOp, (a : Int), a)
  | .inr (n, a') => if ((b.length - a' : Nat) : Int) < n then .inl (3, textOp, (a : Int), a) else .inr ((b.drop a').take n.toNat, a' + n.toNat)
def rowG (b : List Int) (each : Int) : Nat → Nat → List Int → RdR (List Int)
  | 0, a, l => .inr (l, a)
  | k + 1, a, l => match numR b a (pos0 each) with
    | .inl c => .inl (c, numOp, (a : Int), a)
    | .inr (n, a') => rowG b each k a' (l ++ [n])
def rowR (b : List Int) (a : Nat) (many each : Int) : RdR (List Int) := match numR b a (pos0 many) with
  | .inl c => .inl (c, numOp, (a : Int), a)
  | .inr (n, a') => rowG b each n.toNat a' []
/-- As the reader tells it. -/
def asP {α : Type} (z : α) : RdR α → α × Int × GErr
  | .inl (c, o, w, a) => (z, (a : Int), .fault o w (.code c))
  | .inr (x, a) => (x, (a : Int), .nil)
/-- As the reference tells it. -/
def asS {α : Type} (z : α) : RdR α → T_ref02_State × α
  | .inl (c, o, w, a) => (⟨(a : Int), c, o, w⟩, z)
  | .inr (x, a) => (⟨(a : Int), 0, ⟨#[]⟩, 0⟩, x)
theorem numP_as (b : List Int) (a : Nat) (most : Int) : numP b a most = asP 0 (numRR b a most) := by
  unfold numP numRR
  cases numR b a most <;> rfl
theorem numS_as (b : List Int) (a : Nat) (most : Int) : numS b a most = asS 0 (numRR b a most) := by
  unfold numS numRR
  cases numR b a most <;> rfl
theorem wflag_read {b : List Int} (hb : okB b) (hl : b.length ≤ 1000000000000) (a : Nat) : f_wire_Reader_Flag ⟨b, (a : Int), .nil⟩ = some (asP false (flagR b a)) := by
  unfold f_wire_Reader_Flag flagR
  dsimp only
  rw [if_neg (show ¬ ((!GErr.isNil GErr.nil) = true) from by decide)]
  by_cases g1 : b.length ≤ a
  · rw [if_pos (decide_eq_true (by omega)), if_pos g1]; rfl
  rw [if_neg (fun q => absurd (of_decide_eq_true q) (by omega)), if_neg g1, grd_t ⟨by omega, by omega⟩]
  by_cases g2 : 1 < rd b (a : Int)
  · rw [if_pos (decide_eq_true g2), if_pos g2]; rfl
  have e1 : IntKind.i64.wrap ((a : Int) + 1) = ((a + 1 : Nat) : Int) := by rw [w_i64 (by omega) (by omega)]; omega
  have e2 : IntKind.i64.wrap (((a + 1 : Nat) : Int) - 1) = (a : Int) := by rw [w_i64 (by omega) (by omega)]; omega
  rw [if_neg (fun q => g2 (of_decide_eq_true q)), if_neg g2]
  simp only [e1, e2]
  rw [grd_t ⟨by omega, by omega⟩]; rfl
theorem wflag_bad {b : List Int} {a : Int} {e : GErr} (h : e.isNil = false) : f_wire_Reader_Flag ⟨b, a, e⟩ = some (false, a, e) := by
  unfold f_wire_Reader_Flag
  rw [if_pos (by simp [h])]; rfl
theorem clone_eq (l : List Int) (h : l.length ≤ 1000000000) : f_slices_Clone_byte_byte l = some l := by
  unfold f_slices_Clone_byte_byte
  rw [grd_t (by simp; omega)]; simp
theorem wtext_read {b : List Int} (hb : okB b) (hl : b.length ≤ 1000000000) {a : Nat} (ha : a ≤ b.length) {most : Int} (hm : most ≤ 9223372036854775807) : f_wire_Reader_Text ⟨b, (a : Int), .nil⟩ most = some (asP [] (textR b a most)) := by
  unfold f_wire_Reader_Text textR
  rw [wint_read hb (by omega) ha hm]
  unfold numP
  cases h : numR b a (pos0 most) with
  | inl c => rfl
  | inr x =>
    obtain ⟨n, a'⟩ := x
    have hn := numR_ok hb h
    unfold top at hn
    simp only [Option.bind_some]
    rw [if_neg (show ¬ ((!GErr.isNil GErr.nil) = true) from by decide), w_i64 (n := (b.length : Int) - (a' : Int)) (by omega) (by omega)]
    by_cases g : ((b.length - a' : Nat) : Int) < n
    · rw [if_pos (decide_eq_true (by omega)), if_pos g]; rfl
    · obtain ⟨N, rfl⟩ := Int.eq_ofNat_of_zero_le hn.1
      have e1 : IntKind.i64.wrap ((a' : Int) + (N : Int)) = ((a' + N : Nat) : Int) := by rw [w_i64 (by omega) (by omega)]; omega
      have e2 : IntKind.i64.wrap (((a' + N : Nat) : Int) - (N : Int)) = (a' : Int) := by rw [w_i64 (by omega) (by omega)]; omega
      rw [if_neg (fun q => absurd (of_decide_eq_true q) (by omega)), if_neg g]
      simp only [e1, e2]
      rw [grd_t ⟨by omega, by omega, by omega⟩, sub_nat, clone_eq _ (by simp; omega)]
      rw [show a' + N - a' = N by omega]; rfl
theorem wtext_bad {b : List Int} {a : Int} {e : GErr} (h : e.isNil = false) (most : Int) : f_wire_Reader_Text ⟨b, a, e⟩ most = some ([], a, e) := by
  unfold f_wire_Reader_Text
  rw [wint_bad h]
  simp only [Option.bind_some]
  rw [if_pos (by simp [h])]
theorem wrow_rloop {b : List Int} (hb : okB b) (hl : b.length ≤ 1000000000) (r : T_wire_Reader) (hr : r.b = b) {each : Int} (he : each ≤ 9223372036854775807) (N : Nat) (hN : N ≤ 4611686018427387903) : ∀ (k i a : Nat) (l : List Int), i + k = N → a ≤ b.length → l.length ≤ a →
    ∃ l', iter (f_wire_Reader_Row_l0 r each (N : Int)) (l, (i : Int), (a : Int), .nil) = some (l', (asP [] (rowG b each k a l)).2) ∧ ((asP [] (rowG b each k a l)).2.2.isNil = true → l' = (asP [] (rowG b each k a l)).1)
  | 0, i, a, l, hi, ha, hla => by
    refine ⟨l, iter_stop ?_, fun _ => rfl⟩
    unfold f_wire_Reader_Row_l0
    simp only
    rw [if_neg (fun q => absurd (of_decide_eq_true q) (by omega))]
    rfl
  | k + 1, i, a, l, hi, ha, hla => by
    have hstep : f_wire_Reader_Row_l0 r each (N : Int) (l, (i : Int), (a : Int), .nil) = some (.inl (l ++ [(numP b a (pos0 each)).1], ((i + 1 : Nat) : Int), (numP b a (pos0 each)).2.1, (numP b a (pos0 each)).2.2)) := by
      unfold f_wire_Reader_Row_l0
      simp only
      rw [if_pos (decide_eq_true (by omega)), hr, wint_read hb (by omega) ha he]
      simp only [Option.bind_some, GErr.isNil, if_true]
      rw [grd_t (by simp; omega), w_i64 (by omega) (by omega)]
      rfl
    rw [iter_next hstep]
    unfold numP rowG
    cases h : numR b a (pos0 each) with
    | inl c =>
      refine ⟨l ++ [0], iter_stop ?_, fun q => by cases q⟩
      unfold f_wire_Reader_Row_l0
      simp only
      by_cases g : ((i + 1 : Nat) : Int) < (N : Int)
      · rw [if_pos (decide_eq_true g)]; rfl
      · rw [if_neg (fun q => g (of_decide_eq_true q))]; rfl
    | inr x =>
      obtain ⟨n, a'⟩ := x
      have hn := numR_ok hb h
      exact wrow_rloop hb hl r hr he N hN k (i + 1) a' (l ++ [n]) (by omega) (by omega) (by simp; omega)
theorem wrow_read {b : List Int} (hb : okB b) (hl : b.length ≤ 1000000000) {a : Nat} (ha : a ≤ b.length) {many each : Int} (hm : many ≤ 9223372036854775807) (he : each ≤ 9223372036854775807) : f_wire_Reader_Row ⟨b, (a : Int), .nil⟩ many each = some (asP [] (rowR b a many each)) := by
  unfold f_wire_Reader_Row rowR
  rw [wint_read hb (by omega) ha hm]
  unfold numP
  cases h : numR b a (pos0 many) with
  | inl c =>
    simp only [Option.bind_some]
    rw [iter_stop (e := ([], (a : Int), .fault numOp (a : Int) (.code c))) rfl]
    rfl
  | inr x =>
    obtain ⟨n, a'⟩ := x
    have hn := numR_ok hb h
    unfold top at hn
    obtain ⟨N, rfl⟩ := Int.eq_ofNat_of_zero_le hn.1
    simp only [Option.bind_some]
    obtain ⟨l', h1, h2⟩ := wrow_rloop hb hl ⟨b, (a : Int), .nil⟩ rfl he N (by omega) N 0 a' [] (by omega) (by omega) (by simp)
    rw [show ((0 : Nat) : Int) = 0 from rfl] at h1
    rw [h1, show ((N : Int)).toNat = N by omega]
    simp only [Option.bind_some]
    cases hr : rowG b each N a' [] with
    | inl x => rfl
    | inr x =>
      rw [hr] at h2
      rw [h2 rfl]
      rfl
theorem wrow_bad {b : List Int} {a : Int} {e : GErr} (h : e.isNil = false) (many each : Int) : f_wire_Reader_Row ⟨b, a, e⟩ many each = some ([], a, e) := by
  unfold f_wire_Reader_Row
  rw [wint_bad h]
  simp only [Option.bind_some]
  rw [iter_stop (e := ([], a, e)) (by
    unfold f_wire_Reader_Row_l0
    rfl)]
  simp [h]
theorem wend_eq (b : List Int) (a : Int) (e : GErr) : f_wire_Reader_End ⟨b, a, e⟩ = some (if a < (b.length : Int) ∧ e.isNil = true then (.fault endOp a (.code 5), .fault endOp a (.code 5)) else (e, e)) := by
  unfold f_wire_Reader_End
  by_cases g : a < (b.length : Int)
  · rw [if_pos (decide_eq_true g)]
    cases h : e.isNil with
    | true =>
      rw [if_pos ⟨g, rfl⟩]
      obtain rfl : e = .nil := by cases e <;> first | rfl | cases h
      rfl
    | false => rw [fail_bad _ _ _ h, if_neg (by simp)]; rfl
  · rw [if_neg (fun q => g (of_decide_eq_true q)), if_neg (fun q => g q.1)]; rfl

/-! ### the reference reads -/
theorem above_eq {n : Int} (h : n ≤ 9223372036854775807) : f_ref02_above n = some (pos0 n) := by
  unfold f_ref02_above pos0
  by_cases g : n < 0
  · rw [if_pos (decide_eq_true g), if_pos g]
  · rw [if_neg (fun q => g (of_decide_eq_true q)), if_neg g, w_u64 (by omega) (by omega)]
theorem rtext_read {b : List Int} (hb : okB b) (hl : b.length ≤ 1000000000) {a : Nat} {s : T_ref02_State} (hs : s.At = (a : Int)) (hc : s.Code = 0) {most : Int} (hm : most ≤ 9223372036854775807) : f_ref02_text b s most = some (asS [] (textR b a most)) := by
  unfold f_ref02_text textR
  rw [above_eq hm]
  simp only [Option.bind_some]
  rw [rnum_read hb (by omega) hs hc]
  unfold numS
  cases h : numR b a (pos0 most) with
  | inl c =>
    have hc := numR_code h
    simp only [Option.bind_some]
    rw [if_pos (decide_eq_true (by omega))]; rfl
  | inr x =>
    obtain ⟨n, a'⟩ := x
    have hn := numR_ok hb h
    unfold top at hn
    obtain ⟨N, rfl⟩ := Int.eq_ofNat_of_zero_le hn.1
    simp only [Option.bind_some]
    rw [if_neg (by simp), w_i64 (n := (b.length : Int) - (a' : Int)) (by omega) (by omega), w_u64 (by omega) (by omega), w_i64 (n := (N : Int)) (by omega) (by omega)]
    by_cases g : ((b.length - a' : Nat) : Int) < (N : Int)
    · rw [if_pos (decide_eq_true (by omega)), if_pos g, hs]; rfl
    · have e1 : IntKind.i64.wrap ((a' : Int) + (N : Int)) = ((a' + N : Nat) : Int) := by rw [w_i64 (by omega) (by omega)]; omega
      rw [if_neg (fun q => absurd (of_decide_eq_true q) (by omega)), if_neg g]
      simp only [e1]
      rw [grd_t ⟨by omega, by omega, by omega⟩, sub_nat, show a' + N - a' = N by omega]; rfl
theorem rrow_rloop {b : List Int} (hb : okB b) (hl : b.length ≤ 1000000000) {each : Int} (he : each ≤ 9223372036854775807) (N : Nat) (hN : N ≤ 4611686018427387903) : ∀ (k i a : Nat) (o : ByteArray) (w : Int) (l : List Int), i + k = N → a ≤ b.length → l.length ≤ a →
    ∃ l' o' w', iter (f_ref02_row_l0 b each (N : Int)) (l, (i : Int), (a : Int), 0, o, w) = some (l', (asS [] (rowG b each k a l)).1.At, (asS [] (rowG b each k a l)).1.Code, o', w') ∧
      ((asS [] (rowG b each k a l)).1.Code = 0 → l' = (asS [] (rowG b each k a l)).2) ∧ ((asS [] (rowG b each k a l)).1.Code ≠ 0 → o' = (asS [] (rowG b each k a l)).1.Op ∧ w' = (asS [] (rowG b each k a l)).1.Where)
  | 0, i, a, o, w, l, hi, ha, hla => by
    refine ⟨l, o, w, iter_stop ?_, fun _ => rfl, fun q => absurd rfl q⟩
    unfold f_ref02_row_l0
    simp only
    rw [if_neg (fun q => absurd (of_decide_eq_true q) (by omega))]
    rfl
  | k + 1, i, a, o, w, l, hi, ha, hla => by
    have hv : ∀ n a', numR b a (pos0 each) = .inr (n, a') → IntKind.i64.wrap n = n := fun n a' h => by
      have hn := numR_ok hb h
      unfold top at hn
      exact w_i64 (by omega) (by omega)
    have hstep : f_ref02_row_l0 b each (N : Int) (l, (i : Int), (a : Int), 0, o, w) = some (.inl (l ++ [IntKind.i64.wrap (numS b a (pos0 each)).2], ((i + 1 : Nat) : Int), (numS b a (pos0 each)).1.At, (numS b a (pos0 each)).1.Code, (numS b a (pos0 each)).1.Op, (numS b a (pos0 each)).1.Where)) := by
      unfold f_ref02_row_l0
      simp only
      rw [if_pos (decide_eq_true (by omega)), above_eq he]
      simp only [Option.bind_some]
      rw [rnum_read hb (by omega) (a := a) rfl rfl]
      simp only [Option.bind_some, decide_true, if_true]
      rw [grd_t (by simp; omega), w_u64 (by omega) (by omega)]
      rfl
    rw [iter_next hstep]
    unfold numS rowG
    cases h : numR b a (pos0 each) with
    | inl c =>
      have hc := numR_code h
      have hc0 : c ≠ 0 := by omega
      refine ⟨l ++ [0], numOp, (a : Int), iter_stop ?_, fun q => absurd q hc0, fun _ => ⟨rfl, rfl⟩⟩
      unfold f_ref02_row_l0
      simp only
      have e : (decide (c = 0)) = false := decide_eq_false hc0
      by_cases g : ((i + 1 : Nat) : Int) < (N : Int)
      · rw [if_pos (decide_eq_true g), e]; rfl
      · rw [if_neg (fun q => g (of_decide_eq_true q))]; rfl
    | inr x =>
      obtain ⟨n, a'⟩ := x
      have hn := numR_ok hb h
      simp only
      rw [hv n a' h]
      exact rrow_rloop hb hl he N hN k (i + 1) a' _ _ (l ++ [n]) (by omega) (by omega) (by simp; omega)
/-- Two states that say the same: where, and, if something is wrong, what. -/
def sameS (s t : T_ref02_State) : Prop := s.At = t.At ∧ s.Code = t.Code ∧ (s.Code ≠ 0 → s.Op = t.Op ∧ s.Where = t.Where)
theorem sameS.refl (s : T_ref02_State) : sameS s s := ⟨rfl, rfl, fun _ => ⟨rfl, rfl⟩⟩
theorem rrow_read {b : List Int} (hb : okB b) (hl : b.length ≤ 1000000000) {a : Nat} {s : T_ref02_State} (hs : s.At = (a : Int)) (hc : s.Code = 0) {many each : Int} (hm : many ≤ 9223372036854775807) (he : each ≤ 9223372036854775807) :
    ∃ t, f_ref02_row b s many each = some (t, (asS [] (rowR b a many each)).2) ∧ sameS t (asS [] (rowR b a many each)).1 := by
  unfold f_ref02_row rowR
  rw [above_eq hm]
  simp only [Option.bind_some]
  rw [rnum_read hb (by omega) hs hc]
  unfold numS
  cases h : numR b a (pos0 many) with
  | inl c =>
    have hc := numR_code h
    have hc0 : c ≠ 0 := by omega
    simp only [Option.bind_some]
    rw [iter_stop (e := ([], (a : Int), c, numOp, (a : Int))) rfl]
    simp only [Option.bind_some]
    rw [if_pos (decide_eq_true hc0)]
    exact ⟨_, rfl, .refl _⟩
  | inr x =>
    obtain ⟨n, a'⟩ := x
    have hn := numR_ok hb h
    unfold top at hn
    obtain ⟨N, rfl⟩ := Int.eq_ofNat_of_zero_le hn.1
    simp only [Option.bind_some]
    obtain ⟨l', o', w', h1, h2, h3⟩ := rrow_rloop hb hl he N (by omega) N 0 a' ⟨#[]⟩ 0 [] (by omega) (by omega) (by simp)
    rw [show ((0 : Nat) : Int) = 0 from rfl] at h1
    rw [h1, show ((N : Int)).toNat = N by omega]
    simp only [Option.bind_some]
    generalize rowG b each N a' [] = R at h2 h3 ⊢
    by_cases g : (asS [] R).1.Code = 0
    · rw [if_neg (fun q => absurd g (of_decide_eq_true q)), h2 g]
      exact ⟨_, rfl, rfl, rfl, fun q => absurd g q⟩
    · rw [if_pos (decide_eq_true g)]
      cases R with
      | inl x => exact ⟨_, rfl, rfl, rfl, h3⟩
      | inr x => exact absurd rfl g
theorem rend_eq (b : List Int) (s : T_ref02_State) : f_ref02_End b s = some (if s.At < (b.length : Int) ∧ s.Code = 0 then ⟨s.At, 5, endOp, s.At⟩ else s) := by
  unfold f_ref02_End
  by_cases g : s.At < (b.length : Int)
  · rw [if_pos (decide_eq_true g)]
    by_cases h : s.Code = 0
    · rw [rbad_eq s h, if_pos ⟨g, h⟩]; rfl
    · rw [if_neg (fun q => h q.2)]
      unfold f_ref02_bad
      rw [if_pos (decide_eq_true h)]; rfl
  · rw [if_neg (fun q => g (of_decide_eq_true q)), if_neg (fun q => g q.1)]
end Go.Proofs.YtdlilclopmhiaaaDoor.G
