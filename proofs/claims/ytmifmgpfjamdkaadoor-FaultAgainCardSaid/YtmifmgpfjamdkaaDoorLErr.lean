/- What is told of errors: Of, Where, New, as printed, in plain words. No condition. -/
import Derived.Test.YtmifmgpfjamdkaaDoorE4
import Derived.Test.YtmifmgpfjamdkaaDoorKArith
set_option linter.unusedSimpArgs false
set_option linter.unusedVariables false
namespace Go.Proofs.YtmifmgpfjamdkaaDoor.G
open Go Go.KK

/-- The code that an error's chain bears. -/
def codeIn : GErr → Option Int
  | .nil => none
  | .code n => some n
  | .fault _ _ e => codeIn e
  | .other _ => none
def OfE (e : GErr) : Int := match e with | .nil => 0 | e => (codeIn e).getD 21
def WhereE : GErr → Int × Bool
  | .fault _ a _ => (a, true)
  | _ => (0, false)
@[simp] theorem OfE_nil : OfE .nil = 0 := rfl
@[simp] theorem OfE_code (n : Int) : OfE (.code n) = n := rfl
@[simp] theorem OfE_fault (o : ByteArray) (a n : Int) : OfE (.fault o a (.code n)) = n := rfl
theorem as_code_loop (old : Int) : ∀ (e : GErr), e.isNil = false → iter (f_errors_as_code_l0 old) e = some (match codeIn e with | some n => (true, n) | none => (false, old))
  | .nil, h => by cases h
  | .code n, _ => iter_stop rfl
  | .other a, _ => iter_stop rfl
  | .fault o a e, _ => by
    cases e with
    | nil => exact iter_stop rfl
    | code n => rw [iter_next (show f_errors_as_code_l0 old (.fault o a (.code n)) = some (.inl (.code n)) from rfl)]; exact iter_stop rfl
    | other b => rw [iter_next (show f_errors_as_code_l0 old (.fault o a (.other b)) = some (.inl (.other b)) from rfl)]; exact iter_stop rfl
    | fault p b e => rw [iter_next (show f_errors_as_code_l0 old (.fault o a (.fault p b e)) = some (.inl (.fault p b e)) from rfl), as_code_loop old (.fault p b e) rfl]; rfl
theorem of_eq (e : GErr) : f_fault_Of e = some (OfE e) := by
  cases e with
  | nil => rfl
  | code n => unfold f_fault_Of f_errors_As_code f_errors_as_code; rw [as_code_loop _ _ rfl]; rfl
  | other a => unfold f_fault_Of f_errors_As_code f_errors_as_code; rw [as_code_loop _ _ rfl]; rfl
  | fault o a e =>
    unfold f_fault_Of f_errors_As_code f_errors_as_code
    rw [as_code_loop _ _ rfl]
    simp only [GErr.isNil, OfE]
    cases codeIn (.fault o a e) <;> rfl
theorem as_fault_eq (old : T_api_Fault) (e : GErr) : f_errors_As_fault e old = some (match e with | .fault o a e => (true, o, a, e) | _ => (false, old.Op, old.At, old.Err)) := by
  cases e with
  | nil => rfl
  | code n => unfold f_errors_As_fault f_errors_as_fault; rw [iter_stop (show f_errors_as_fault_l0 old (.code n) = some (.inr _) from rfl)]; rfl
  | other a => unfold f_errors_As_fault f_errors_as_fault; rw [iter_stop (show f_errors_as_fault_l0 old (.other a) = some (.inr _) from rfl)]; rfl
  | fault o a e => unfold f_errors_As_fault f_errors_as_fault; rw [iter_stop (show f_errors_as_fault_l0 old (.fault o a e) = some (.inr _) from rfl)]; rfl
theorem where_eq (e : GErr) : f_fault_Where e = some (WhereE e) := by
  unfold f_fault_Where
  rw [as_fault_eq]
  cases e <;> rfl
theorem new_eq (o : ByteArray) (a c : Int) : f_fault_New o a c = some (.fault o a (.code c)) := rfl
end Go.Proofs.YtmifmgpfjamdkaaDoor.G
