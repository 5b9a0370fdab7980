/- A1: Awake runs to true: the run is done by the kernel. -/
import Derived.Test.YtkpbpfnmgnpfaaaGreatRA
import Derived.Test.YtkpbpfnmgnpfaaaGreatGB
import Derived.Test.YtkpbpfnmgnpfaaaGreatFA
set_option linter.all false
set_option linter.constructorNameAsVariable false
set_option linter.unusedSimpArgs false
set_option linter.unusedVariables false
set_option linter.unusedSectionVars false
set_option linter.unnecessarySimpa false
namespace Go.Proofs.YtkpbpfnmgnpfaaaGreat
open Go Go.E
set_option maxRecDepth 100000

theorem okf : okFns Tryz.prog (3, 120) = true := by kernel_rfl
def isT : Option Res → Bool
  | some (.out (.ret (.bool true)) _) => true
  | _ => false
theorem runs : isT (run Tryz.prog (3, 120) 100000 (.fn 28 #[] .nil)) = true := by kernel_rfl

theorem awake {h : EH} : Ct Tryz.prog 28 ⟨[]⟩ h [] (fun _ : Unit => .bool true) (fun _ => True) (fun _ => []) := by
  have e := runs
  generalize hq : run Tryz.prog (3, 120) 100000 (.fn 28 #[] .nil) = q at e
  unfold isT at e
  split at e
  · exact Ct.of_closed (h1 := _) (SndFn.of_run okf mx hq) rfl
  · cases e
end Go.Proofs.YtkpbpfnmgnpfaaaGreat
