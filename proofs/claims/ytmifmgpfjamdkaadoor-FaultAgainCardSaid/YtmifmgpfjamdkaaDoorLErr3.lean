/- What is told of errors: the path, and what was being done. No condition. -/
import Derived.Test.YtmifmgpfjamdkaaDoorLErr
set_option linter.unusedSimpArgs false
set_option linter.unusedVariables false
namespace Go.Proofs.YtmifmgpfjamdkaaDoor.G
open Go Go.KK
def PathE : GErr → List ByteArray
  | .fault o _ e => o :: PathE e
  | _ => []
theorem path_loop : ∀ (e : GErr) (l : List ByteArray), l.length + (PathE e).length ≤ 274877906944 → iter f_fault_Path_l0 (e, l) = some (l ++ PathE e)
  | .nil, l, _ => (iter_stop (by unfold f_fault_Path_l0; rfl)).trans (by simp [PathE])
  | .code n, l, _ => (iter_stop (e := l) (by
      unfold f_fault_Path_l0
      simp only [GErr.isNil, Bool.not_false, if_true, as_fault_eq, Option.bind_some])).trans (by simp [PathE])
  | .other n, l, _ => (iter_stop (e := l) (by
      unfold f_fault_Path_l0
      simp only [GErr.isNil, Bool.not_false, if_true, as_fault_eq, Option.bind_some])).trans (by simp [PathE])
  | .fault o a e, l, h => by
    have hstep : f_fault_Path_l0 (.fault o a e, l) = some (.inl (e, l ++ [o])) := by
      unfold f_fault_Path_l0
      simp only [GErr.isNil, Bool.not_false, if_true, as_fault_eq, Option.bind_some, Bool.not_true, Bool.false_eq_true, if_false]
      rw [grd_t (by simp [PathE] at h ⊢; omega)]
    rw [iter_next hstep, path_loop e (l ++ [o]) (by simp [PathE] at h ⊢; omega)]
    simp [PathE]
theorem path_eq (e : GErr) (h : (PathE e).length ≤ 274877906944) : f_fault_Path e = some (PathE e) := by
  unfold f_fault_Path
  rw [path_loop e [] (by simpa using h)]
  simp
open Classical in
theorem under_loop (op : ByteArray) (l : List ByteArray) (hl : l.length ≤ 274877906944) : ∀ (d i : Nat), i + d = l.length → iter (f_fault_Under_l0 op l) (i : Int) = some (if op ∈ l.drop i then .inr () else .inl ())
  | 0, i, h => by
    refine iter_stop ?_
    unfold f_fault_Under_l0
    simp only
    rw [if_neg (fun q => absurd (of_decide_eq_true q) (by omega)), List.drop_of_length_le (by omega), if_neg (by simp)]
  | d + 1, i, h => by
    have hlt : i < l.length := by omega
    have e1 : rd l (i : Int) = l[i] := len_lt hlt
    by_cases g : l[i] = op
    · refine iter_stop ?_
      unfold f_fault_Under_l0
      simp only
      rw [if_pos (decide_eq_true (by omega)), grd_t ⟨by omega, by omega⟩, e1, if_pos (decide_eq_true g), List.drop_eq_getElem_cons hlt, if_pos (by simp [g])]
    · have hstep : f_fault_Under_l0 op l (i : Int) = some (.inl ((i + 1 : Nat) : Int)) := by
        unfold f_fault_Under_l0
        simp only
        rw [if_pos (decide_eq_true (by omega)), grd_t ⟨by omega, by omega⟩, e1, if_neg (fun q => g (of_decide_eq_true q)), w_i64 (by omega) (by omega)]
        rfl
      rw [iter_next hstep, under_loop op l hl d (i + 1) (by omega), List.drop_eq_getElem_cons hlt]
      have : (op ∈ l[i] :: l.drop (i + 1)) ↔ op ∈ l.drop (i + 1) := by
        simp only [List.mem_cons]
        exact ⟨fun q => q.elim (fun q => absurd q.symm g) id, .inr⟩
      simp only [this]
open Classical in
theorem under_eq (e : GErr) (op : ByteArray) (h : (PathE e).length ≤ 274877906944) : f_fault_Under e op = some (decide (op ∈ PathE e)) := by
  unfold f_fault_Under
  rw [path_eq e h]
  simp only [Option.bind_some]
  have := under_loop op (PathE e) h (PathE e).length 0 (by omega)
  rw [show ((0 : Nat) : Int) = 0 from rfl] at this
  rw [this, List.drop_zero]
  by_cases g : op ∈ PathE e
  · rw [if_pos g, decide_eq_true g]; rfl
  · rw [if_neg g, decide_eq_false g]; rfl
end Go.Proofs.YtmifmgpfjamdkaaDoor.G
