/- What is told of errors: Is. No condition. -/
import Derived.Test.YtmifmgpfjamdkaaDoorE4
import Derived.Test.YtmifmgpfjamdkaaDoorKArith
set_option linter.unusedSimpArgs false
set_option linter.unusedVariables false
namespace Go.Proofs.YtmifmgpfjamdkaaDoor.G
open Go Go.KK
def IsE : GErr → Int → Bool
  | .code n, c => decide (n = c)
  | .fault _ _ e, c => IsE e c
  | _, _ => false
theorem is_loop (c : Int) : ∀ (e : GErr), iter (f_errors_is_l0 c) e = some (IsE e c)
  | .nil => iter_stop rfl
  | .other _ => iter_stop rfl
  | .code n => by
    refine iter_stop ?_
    unfold f_errors_is_l0 IsE
    simp only
    by_cases h : n = c
    · rw [if_pos (decide_eq_true h), decide_eq_true h]
    · rw [if_neg (fun q => h (of_decide_eq_true q)), decide_eq_false h]
  | .fault o a e => by
    cases e with
    | nil => exact iter_stop rfl
    | other b => rw [iter_next (show f_errors_is_l0 c (.fault o a (.other b)) = some (.inl (.other b)) from rfl), is_loop c (.other b)]; rfl
    | code n => rw [iter_next (show f_errors_is_l0 c (.fault o a (.code n)) = some (.inl (.code n)) from rfl), is_loop c (.code n)]; rfl
    | fault p b e => rw [iter_next (show f_errors_is_l0 c (.fault o a (.fault p b e)) = some (.inl (.fault p b e)) from rfl), is_loop c (.fault p b e)]; rfl
theorem is_eq (e : GErr) (c : Int) : f_fault_Is e c = some (IsE e c) := by
  unfold f_fault_Is f_errors_Is f_errors_is
  rw [is_loop]
  cases e <;> rfl
end Go.Proofs.YtmifmgpfjamdkaaDoor.G
