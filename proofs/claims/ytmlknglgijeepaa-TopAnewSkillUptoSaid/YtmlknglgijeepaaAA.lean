/- A1: Awake runs to true: the run is done by the kernel. -/
import Derived.Test.YtmlknglgijeepaaRA
import Derived.Test.YtmlknglgijeepaaGB
import Derived.Test.YtmlknglgijeepaaFA
set_option linter.all false
set_option linter.constructorNameAsVariable false
set_option linter.unusedSimpArgs false
set_option linter.unusedVariables false
set_option linter.unusedSectionVars false
set_option linter.unnecessarySimpa false
namespace Go.Proofs.Ytmlknglgijeepaa
open Go Go.E
set_option maxRecDepth 100000

theorem okf : okFns Try.prog (3, 101) = true := by kernel_rfl
def isT : Option Res → Bool
  | some (.out (.ret (.bool true)) _) => true
  | _ => false
theorem runs : isT (run Try.prog (3, 101) 100000 (.fn 34 #[] .nil)) = true := by kernel_rfl

theorem awake {h : EH} : Ct Try.prog 34 ⟨[]⟩ h [] (fun _ : Unit => .bool true) (fun _ => True) (fun _ => []) := by
  have e := runs
  generalize hq : run Try.prog (3, 101) 100000 (.fn 34 #[] .nil) = q at e
  unfold isT at e
  split at e
  · exact Ct.of_closed (h1 := _) (SndFn.of_run okf mx hq) rfl
  · cases e
end Go.Proofs.Ytmlknglgijeepaa
