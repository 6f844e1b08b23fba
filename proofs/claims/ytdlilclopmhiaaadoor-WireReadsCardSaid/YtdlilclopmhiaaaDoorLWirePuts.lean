/- Chapter 2: it works; the law WirePuts on what the printed functions compute. No condition. -/
import Derived.Test.YtdlilclopmhiaaaDoorLWire4
import Derived.Test.YtdlilclopmhiaaaDoorLErr2
import Derived.OpenShut
set_option linter.unusedSimpArgs false
set_option linter.unusedVariables false
namespace Go.Proofs.YtdlilclopmhiaaaDoor.G
open Go Go.KK

theorem okB_of {l : List Int} (h : l.all (fun x => decide (0 ≤ x) && decide (x ≤ 255)) = true) : okB l := fun x hx => by
  have := List.all_eq_true.1 h x hx
  simpa using this
theorem works02 : f_law02_works = some true := by
  have hb : okB [64, 70, 1, 1, 9, 2, 1, 128, 0, 78, 32] := okB_of (by decide)
  unfold f_law02_works
  rw [wnum_eq [] 70 (by decide) (by decide)]
  simp only [Option.bind_some]
  rw [wflag_eq _ _ (by decide)]
  simp only [Option.bind_some]
  rw [wtext_eq _ _ (by decide)]
  simp only [Option.bind_some]
  rw [wrow_eq _ _ (by decide) (by decide) (by decide)]
  simp only [Option.bind_some]
  rw [show ((([] ++ numB 70) ++ flagB true) ++ textB [9]) ++ rowB [1, 20000] = [64, 70, 1, 1, 9, 2, 1, 128, 0, 78, 32] from by decide]
  unfold f_wire_Read
  simp only [Option.bind_some]
  have r1 : f_wire_Reader_Num ⟨[64, 70, 1, 1, 9, 2, 1, 128, 0, 78, 32], 0, .nil⟩ 100 = some (70, 2, .nil) := (wnum_read hb (by decide) (a := 0) (by decide) 100).trans rfl
  have r2 : f_wire_Reader_Flag ⟨[64, 70, 1, 1, 9, 2, 1, 128, 0, 78, 32], 2, .nil⟩ = some (true, 3, .nil) := (wflag_read hb (by decide) 2).trans rfl
  have r3 : f_wire_Reader_Text ⟨[64, 70, 1, 1, 9, 2, 1, 128, 0, 78, 32], 3, .nil⟩ 5 = some ([9], 5, .nil) := (wtext_read hb (by decide) (a := 3) (by decide) (by decide)).trans rfl
  have r4 : f_wire_Reader_Row ⟨[64, 70, 1, 1, 9, 2, 1, 128, 0, 78, 32], 5, .nil⟩ 3 20000 = some ([1, 20000], 11, .nil) := (wrow_read hb (by decide) (a := 5) (by decide) (by decide) (by decide)).trans rfl
  have r5 : f_wire_Reader_End ⟨[64, 70, 1, 1, 9, 2, 1, 128, 0, 78, 32], 11, .nil⟩ = some (.nil, .nil) := (wend_eq _ _ _).trans rfl
  have r6 : f_wire_Reader_Num ⟨[64, 70, 1, 1, 9, 2, 1, 128, 0, 78, 32], 0, .nil⟩ 69 = some (0, 0, .fault numOp 0 (.code 6)) := (wnum_read hb (by decide) (a := 0) (by decide) 69).trans rfl
  rw [r1]
  simp only [Option.bind_some]
  rw [r2]
  simp only [Option.bind_some]
  rw [r3]
  simp only [Option.bind_some]
  rw [r4]
  simp only [Option.bind_some]
  rw [r5, r6]
  unfold f_wire_Reader_Err f_wire_Reader_At
  simp only [Option.bind_some, where_eq, is_eq, WhereE, IsE, GErr.isNil]
  decide
theorem pure_WirePuts (b : List Int) (n k : Int) (is : Bool) (s l : List Int) (h0 : (∀ x ∈ b, (Lit.int .u8 x).wf = true) ∧ b.length ≤ maxLen) (h1 : (Lit.int .u64 n).wf = true) (h2 : (Lit.int .i64 k).wf = true) (h4 : (∀ x ∈ s, (Lit.int .u8 x).wf = true) ∧ s.length ≤ maxLen)
    (h5 : (∀ x ∈ l, (Lit.int .i64 x).wf = true) ∧ l.length ≤ maxLen) : f_law02_WirePuts b n k is s l = some true := by
  unfold f_law02_WirePuts
  rw [works02]
  by_cases g1 : 500 < b.length
  · rw [if_pos (decide_eq_true (by omega))]; rfl
  rw [if_neg (fun q => absurd (of_decide_eq_true q) (by omega))]
  by_cases g2 : 2000 < s.length
  · rw [if_pos (decide_eq_true (by omega))]; rfl
  rw [if_neg (fun q => absurd (of_decide_eq_true q) (by omega))]
  simp only [Option.bind_some]
  by_cases g3 : 500 < l.length
  · rw [if_pos (decide_eq_true (by omega))]
  rw [if_neg (fun q => absurd (of_decide_eq_true q) (by omega))]
  have hn := bounds_u64 h1
  have hk := bounds_i64 h2
  have hl : ∀ x ∈ l, x ≤ 9223372036854775807 := fun x hx => by have := bounds_i64 (h5.1 x hx); omega
  have l1 := numB_len n
  have l2 := intB_len k
  have l3 : (flagB is).length = 1 := by cases is <;> rfl
  have l4 : (textB s).length ≤ 2008 := by have := intB_len (s.length : Int); unfold textB; simp; omega
  have l5 : (rowB l).length ≤ 4008 := by have := intB_len (l.length : Int); have := intsB_len l; unfold rowB; simp; omega
  rw [grd_t (by simp; omega), List.nil_append, wnum_eq b n hn.1 (by omega)]
  simp only [Option.bind_some]
  rw [wint_eq _ k (by omega) (by simp; omega)]
  simp only [Option.bind_some]
  rw [wflag_eq _ is (by simp; omega)]
  simp only [Option.bind_some]
  rw [wtext_eq _ s (by simp; omega)]
  simp only [Option.bind_some]
  rw [wrow_eq _ l hl (by omega) (by simp; omega)]
  simp only [Option.bind_some]
  rw [grd_t (by simp; omega), rnum_eq n hn.1]
  simp only [Option.bind_some]
  rw [grd_t (by omega), rint_eq k (by omega)]
  simp only [Option.bind_some]
  rw [grd_t (by simp; omega), rflag_eq]
  simp only [Option.bind_some]
  rw [grd_t (by simp; omega), rtext_eq s (by omega)]
  simp only [Option.bind_some]
  rw [grd_t (by simp; omega), rrow_eq l hl (by omega)]
  simp only [Option.bind_some]
  rw [grd_t (by simp; omega), rsame_eq _ (by simp; omega)]
  rfl
end Go.Proofs.YtdlilclopmhiaaaDoor.G
