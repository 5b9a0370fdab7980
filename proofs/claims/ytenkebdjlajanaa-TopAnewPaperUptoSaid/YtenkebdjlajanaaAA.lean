/- A0: Awake's calls: Awake runs to true: the calls that it makes are run by the kernel (printed by wip/tools/aw.py). -/
import Derived.Test.YtenkebdjlajanaaGC
import Derived.Test.YtenkebdjlajanaaGB
import Derived.Test.YtenkebdjlajanaaFA
set_option linter.all false
set_option linter.constructorNameAsVariable false
set_option linter.unusedSimpArgs false
set_option linter.unusedVariables false
set_option linter.unusedSectionVars false
set_option linter.unnecessarySimpa false
namespace Go.Proofs.Ytenkebdjlajanaa
open Go Go.E
set_option maxRecDepth 100000
set_option maxHeartbeats 4000000

theorem okf : okFns Try.prog (3, 88) = true := by kernel_rfl

theorem aw1 {h hh : EH} {hr : RO} {F : List Nat} (G : Hp hr hh F ([] : Ents) h) : Ct Try.prog 53 ⟨[]⟩ h [] (fun x : Nat => .agg ⟨[.slice (some ⟨(x + 1), 0, none⟩) 5 5, .slice (some ⟨(x + 2), 0, none⟩) 2 2, .int .i64 (1000), .int .i64 (1300)]⟩) (fun _ => True) (fun x => [((x + 1), .cells [.int .i64 (0), .int .i64 (10), .int .i64 (2), .int .i64 (0), .int .i64 (0), .int .i64 (0), .int .i64 (1), .int .i64 (10), .int .i64 (3), .int .i64 (1), .int .i64 (5), .int .i64 (3), .int .i64 (1), .int .i64 (5), .int .i64 (2)] none true), ((x + 2), .cells [.int .i64 (1), .int .i64 (2)] none true)]) :=
  Ct.of_run okf mx (n := 100000) (g := 53) (args := []) (h0 := []) (v := .agg ⟨[.slice (some ⟨1, 0, none⟩) 5 5, .slice (some ⟨2, 0, none⟩) 2 2, .int .i64 (1000), .int .i64 (1300)]⟩) (m := 3) (ks := [(1, .cells [.int .i64 (0), .int .i64 (10), .int .i64 (2), .int .i64 (0), .int .i64 (0), .int .i64 (0), .int .i64 (1), .int .i64 (10), .int .i64 (3), .int .i64 (1), .int .i64 (5), .int .i64 (3), .int .i64 (1), .int .i64 (5), .int .i64 (2)] none true), (2, .cells [.int .i64 (1), .int .i64 (2)] none true)]) (ps := []) (by kernel_rfl) G (fun _ => by kernel_rfl) (fun _ _ => by kernel_rfl) (by kernel_rfl) (fun _ => by kernel_rfl) (fun _ => by kernel_rfl) (by decide)

theorem aw2 {h hh : EH} {hr : RO} {F : List Nat} {b0 : Nat} {b1 : Nat} (G : Hp hr hh F ([(b0, .cells [.int .i64 (0), .int .i64 (10), .int .i64 (2), .int .i64 (0), .int .i64 (0), .int .i64 (0), .int .i64 (1), .int .i64 (10), .int .i64 (3), .int .i64 (1), .int .i64 (5), .int .i64 (3), .int .i64 (1), .int .i64 (5), .int .i64 (2)] none true), (b1, .cells [.int .i64 (1), .int .i64 (2)] none true)] : Ents) h) : Ct Try.prog 12 ⟨[.agg ⟨[.slice (some ⟨b0, 0, none⟩) 5 5, .slice (some ⟨b1, 0, none⟩) 2 2, .int .i64 (1000), .int .i64 (1300)]⟩]⟩ h [] (fun x : Nat => .tuple ⟨[.slice (some ⟨(x + 85), 0, none⟩) 5 5, .int .i64 (0)]⟩) (fun _ => True) (fun x => [((x + 85), .cells [.int .i64 (200), .int .i64 (500), .int .i64 (300), .int .i64 (600), .int .i64 (400)] (some 1) true)]) :=
  Ct.of_run okf mx (n := 100000) (g := 12) (args := [.agg ⟨[.slice (some ⟨0, 0, none⟩) 5 5, .slice (some ⟨1, 0, none⟩) 2 2, .int .i64 (1000), .int .i64 (1300)]⟩]) (h0 := [.cells [.int .i64 (0), .int .i64 (10), .int .i64 (2), .int .i64 (0), .int .i64 (0), .int .i64 (0), .int .i64 (1), .int .i64 (10), .int .i64 (3), .int .i64 (1), .int .i64 (5), .int .i64 (3), .int .i64 (1), .int .i64 (5), .int .i64 (2)] none true, .cells [.int .i64 (1), .int .i64 (2)] none true]) (v := .tuple ⟨[.slice (some ⟨87, 0, none⟩) 5 5, .int .i64 (0)]⟩) (m := 88) (ks := [(87, .cells [.int .i64 (200), .int .i64 (500), .int .i64 (300), .int .i64 (600), .int .i64 (400)] (some 1) true)]) (ps := [(b0, .cells [.int .i64 (0), .int .i64 (10), .int .i64 (2), .int .i64 (0), .int .i64 (0), .int .i64 (0), .int .i64 (1), .int .i64 (10), .int .i64 (3), .int .i64 (1), .int .i64 (5), .int .i64 (3), .int .i64 (1), .int .i64 (5), .int .i64 (2)] none true), (b1, .cells [.int .i64 (1), .int .i64 (2)] none true)]) (by kernel_rfl) G (fun _ => by kernel_rfl) (fun _ _ => by kernel_rfl) (by kernel_rfl) (fun _ => by kernel_rfl) (fun _ => by kernel_rfl) (by decide)

theorem aw3 {h hh : EH} {hr : RO} {F : List Nat} {b0 : Nat} {b1 : Nat} (G : Hp hr hh F ([(b0, .cells [.int .i64 (0), .int .i64 (10), .int .i64 (2), .int .i64 (0), .int .i64 (0), .int .i64 (0), .int .i64 (1), .int .i64 (10), .int .i64 (3), .int .i64 (1), .int .i64 (5), .int .i64 (3), .int .i64 (1), .int .i64 (5), .int .i64 (2)] none true), (b1, .cells [.int .i64 (1), .int .i64 (2)] none true)] : Ents) h) : Ct Try.prog 17 ⟨[.agg ⟨[.slice (some ⟨b0, 0, none⟩) 5 5, .slice (some ⟨b1, 0, none⟩) 2 2, .int .i64 (1000), .int .i64 (1300)]⟩]⟩ h [] (fun x : Nat => .tuple ⟨[.int .i64 (3), .int .i64 (0)]⟩) (fun _ => True) (fun x => []) :=
  Ct.of_run okf mx (n := 100000) (g := 17) (args := [.agg ⟨[.slice (some ⟨0, 0, none⟩) 5 5, .slice (some ⟨1, 0, none⟩) 2 2, .int .i64 (1000), .int .i64 (1300)]⟩]) (h0 := [.cells [.int .i64 (0), .int .i64 (10), .int .i64 (2), .int .i64 (0), .int .i64 (0), .int .i64 (0), .int .i64 (1), .int .i64 (10), .int .i64 (3), .int .i64 (1), .int .i64 (5), .int .i64 (3), .int .i64 (1), .int .i64 (5), .int .i64 (2)] none true, .cells [.int .i64 (1), .int .i64 (2)] none true]) (v := .tuple ⟨[.int .i64 (3), .int .i64 (0)]⟩) (m := 194) (ks := []) (ps := [(b0, .cells [.int .i64 (0), .int .i64 (10), .int .i64 (2), .int .i64 (0), .int .i64 (0), .int .i64 (0), .int .i64 (1), .int .i64 (10), .int .i64 (3), .int .i64 (1), .int .i64 (5), .int .i64 (3), .int .i64 (1), .int .i64 (5), .int .i64 (2)] none true), (b1, .cells [.int .i64 (1), .int .i64 (2)] none true)]) (by kernel_rfl) G (fun _ => by kernel_rfl) (fun _ _ => by kernel_rfl) (by kernel_rfl) (fun _ => by kernel_rfl) (fun _ => by kernel_rfl) (by decide)

theorem aw4 {h hh : EH} {hr : RO} {F : List Nat} {b0 : Nat} {b1 : Nat} (G : Hp hr hh F ([(b0, .cells [.int .i64 (0), .int .i64 (10), .int .i64 (2), .int .i64 (0), .int .i64 (0), .int .i64 (0), .int .i64 (1), .int .i64 (10), .int .i64 (3), .int .i64 (1), .int .i64 (5), .int .i64 (3), .int .i64 (1), .int .i64 (5), .int .i64 (2)] none true), (b1, .cells [.int .i64 (1), .int .i64 (2)] none true)] : Ents) h) : Ct Try.prog 19 ⟨[.agg ⟨[.slice (some ⟨b0, 0, none⟩) 5 5, .slice (some ⟨b1, 0, none⟩) 2 2, .int .i64 (1000), .int .i64 (1300)]⟩, .int .i64 (2)]⟩ h [] (fun x : Nat => .tuple ⟨[.slice (some ⟨(x + 230), 0, none⟩) 3 3, .int .i64 (0)]⟩) (fun _ => True) (fun x => [((x + 230), .cells [.int .i64 (1), .int .i64 (2), .int .i64 (4)] (some 1) true)]) :=
  Ct.of_run okf mx (n := 100000) (g := 19) (args := [.agg ⟨[.slice (some ⟨0, 0, none⟩) 5 5, .slice (some ⟨1, 0, none⟩) 2 2, .int .i64 (1000), .int .i64 (1300)]⟩, .int .i64 (2)]) (h0 := [.cells [.int .i64 (0), .int .i64 (10), .int .i64 (2), .int .i64 (0), .int .i64 (0), .int .i64 (0), .int .i64 (1), .int .i64 (10), .int .i64 (3), .int .i64 (1), .int .i64 (5), .int .i64 (3), .int .i64 (1), .int .i64 (5), .int .i64 (2)] none true, .cells [.int .i64 (1), .int .i64 (2)] none true]) (v := .tuple ⟨[.slice (some ⟨232, 0, none⟩) 3 3, .int .i64 (0)]⟩) (m := 234) (ks := [(232, .cells [.int .i64 (1), .int .i64 (2), .int .i64 (4)] (some 1) true)]) (ps := [(b0, .cells [.int .i64 (0), .int .i64 (10), .int .i64 (2), .int .i64 (0), .int .i64 (0), .int .i64 (0), .int .i64 (1), .int .i64 (10), .int .i64 (3), .int .i64 (1), .int .i64 (5), .int .i64 (3), .int .i64 (1), .int .i64 (5), .int .i64 (2)] none true), (b1, .cells [.int .i64 (1), .int .i64 (2)] none true)]) (by kernel_rfl) G (fun _ => by kernel_rfl) (fun _ _ => by kernel_rfl) (by kernel_rfl) (fun _ => by kernel_rfl) (fun _ => by kernel_rfl) (by decide)

theorem aw5 {h hh : EH} {hr : RO} {F : List Nat} {b0 : Nat} {b1 : Nat} {b2 : Nat} (G : Hp hr hh F ([(b0, .cells [.int .i64 (0), .int .i64 (10), .int .i64 (2), .int .i64 (0), .int .i64 (0), .int .i64 (0), .int .i64 (1), .int .i64 (10), .int .i64 (3), .int .i64 (1), .int .i64 (5), .int .i64 (3), .int .i64 (1), .int .i64 (5), .int .i64 (2)] none true), (b1, .cells [.int .i64 (1), .int .i64 (2)] none true), (b2, .cells [.int .i64 (0), .int .i64 (3), .int .i64 (4)] none true)] : Ents) h) : Ct Try.prog 22 ⟨[.agg ⟨[.slice (some ⟨b0, 0, none⟩) 5 5, .slice (some ⟨b1, 0, none⟩) 2 2, .int .i64 (1000), .int .i64 (1300)]⟩, .slice (some ⟨b2, 0, none⟩) 3 3]⟩ h [] (fun x : Nat => .tuple ⟨[.int .i64 (1), .int .i64 (0)]⟩) (fun _ => True) (fun x => []) :=
  Ct.of_run okf mx (n := 100000) (g := 22) (args := [.agg ⟨[.slice (some ⟨0, 0, none⟩) 5 5, .slice (some ⟨1, 0, none⟩) 2 2, .int .i64 (1000), .int .i64 (1300)]⟩, .slice (some ⟨2, 0, none⟩) 3 3]) (h0 := [.cells [.int .i64 (0), .int .i64 (10), .int .i64 (2), .int .i64 (0), .int .i64 (0), .int .i64 (0), .int .i64 (1), .int .i64 (10), .int .i64 (3), .int .i64 (1), .int .i64 (5), .int .i64 (3), .int .i64 (1), .int .i64 (5), .int .i64 (2)] none true, .cells [.int .i64 (1), .int .i64 (2)] none true, .cells [.int .i64 (0), .int .i64 (3), .int .i64 (4)] none true]) (v := .tuple ⟨[.int .i64 (1), .int .i64 (0)]⟩) (m := 134) (ks := []) (ps := [(b0, .cells [.int .i64 (0), .int .i64 (10), .int .i64 (2), .int .i64 (0), .int .i64 (0), .int .i64 (0), .int .i64 (1), .int .i64 (10), .int .i64 (3), .int .i64 (1), .int .i64 (5), .int .i64 (3), .int .i64 (1), .int .i64 (5), .int .i64 (2)] none true), (b1, .cells [.int .i64 (1), .int .i64 (2)] none true), (b2, .cells [.int .i64 (0), .int .i64 (3), .int .i64 (4)] none true)]) (by kernel_rfl) G (fun _ => by kernel_rfl) (fun _ _ => by kernel_rfl) (by kernel_rfl) (fun _ => by kernel_rfl) (fun _ => by kernel_rfl) (by decide)

theorem aw6 {h hh : EH} {hr : RO} {F : List Nat} (G : Hp hr hh F ([] : Ents) h) : Ct Try.prog 54 ⟨[.int .i64 (1)]⟩ h [] (fun x : Nat => .agg ⟨[.int .i64 (1), .int .i64 (3), .int .i64 (1)]⟩) (fun _ => True) (fun x => []) :=
  Ct.of_run okf mx (n := 100000) (g := 54) (args := [.int .i64 (1)]) (h0 := []) (v := .agg ⟨[.int .i64 (1), .int .i64 (3), .int .i64 (1)]⟩) (m := 1) (ks := []) (ps := []) (by kernel_rfl) G (fun _ => by kernel_rfl) (fun _ _ => by kernel_rfl) (by kernel_rfl) (fun _ => by kernel_rfl) (fun _ => by kernel_rfl) (by decide)

theorem aw7 {h hh : EH} {hr : RO} {F : List Nat} {b0 : Nat} {b1 : Nat} {b2 : Nat} (G : Hp hr hh F ([(b0, .cells [.int .i64 (0), .int .i64 (10), .int .i64 (2), .int .i64 (0), .int .i64 (0), .int .i64 (0), .int .i64 (1), .int .i64 (10), .int .i64 (3), .int .i64 (1), .int .i64 (5), .int .i64 (3), .int .i64 (1), .int .i64 (5), .int .i64 (2)] none true), (b1, .cells [.int .i64 (1), .int .i64 (2)] none true), (b2, .cells [.int .i64 (0), .int .i64 (0), .int .i64 (0)] none true)] : Ents) h) : Ct Try.prog 24 ⟨[.agg ⟨[.slice (some ⟨b0, 0, none⟩) 5 5, .slice (some ⟨b1, 0, none⟩) 2 2, .int .i64 (1000), .int .i64 (1300)]⟩, .agg ⟨[.int .i64 (1), .int .i64 (3), .int .i64 (1)]⟩, .slice (some ⟨b2, 0, none⟩) 3 3]⟩ h [] (fun x : Nat => .tuple ⟨[.slice (some ⟨(x + 408), 0, none⟩) 3 3, .int .i64 (0)]⟩) (fun _ => True) (fun x => [((x + 233), .cells [.int .i64 (0), .int .i64 (2), .int .i64 (3)] (some 1) true), ((x + 358), .cells [.int .i64 (1), .int .i64 (2), .int .i64 (4)] (some 1) true), ((x + 397), .cells [.int .i64 (0), .int .i64 (2), .int .i64 (3)] (some 1) true), ((x + 408), .cells [.slice (some ⟨(x + 233), 0, none⟩) 3 3, .slice (some ⟨(x + 358), 0, none⟩) 3 3, .slice (some ⟨(x + 397), 0, none⟩) 3 3] (some 1) true)]) :=
  Ct.of_run okf mx (n := 100000) (g := 24) (args := [.agg ⟨[.slice (some ⟨0, 0, none⟩) 5 5, .slice (some ⟨1, 0, none⟩) 2 2, .int .i64 (1000), .int .i64 (1300)]⟩, .agg ⟨[.int .i64 (1), .int .i64 (3), .int .i64 (1)]⟩, .slice (some ⟨2, 0, none⟩) 3 3]) (h0 := [.cells [.int .i64 (0), .int .i64 (10), .int .i64 (2), .int .i64 (0), .int .i64 (0), .int .i64 (0), .int .i64 (1), .int .i64 (10), .int .i64 (3), .int .i64 (1), .int .i64 (5), .int .i64 (3), .int .i64 (1), .int .i64 (5), .int .i64 (2)] none true, .cells [.int .i64 (1), .int .i64 (2)] none true, .cells [.int .i64 (0), .int .i64 (0), .int .i64 (0)] none true]) (v := .tuple ⟨[.slice (some ⟨411, 0, none⟩) 3 3, .int .i64 (0)]⟩) (m := 412) (ks := [(236, .cells [.int .i64 (0), .int .i64 (2), .int .i64 (3)] (some 1) true), (361, .cells [.int .i64 (1), .int .i64 (2), .int .i64 (4)] (some 1) true), (400, .cells [.int .i64 (0), .int .i64 (2), .int .i64 (3)] (some 1) true), (411, .cells [.slice (some ⟨236, 0, none⟩) 3 3, .slice (some ⟨361, 0, none⟩) 3 3, .slice (some ⟨400, 0, none⟩) 3 3] (some 1) true)]) (ps := [(b0, .cells [.int .i64 (0), .int .i64 (10), .int .i64 (2), .int .i64 (0), .int .i64 (0), .int .i64 (0), .int .i64 (1), .int .i64 (10), .int .i64 (3), .int .i64 (1), .int .i64 (5), .int .i64 (3), .int .i64 (1), .int .i64 (5), .int .i64 (2)] none true), (b1, .cells [.int .i64 (1), .int .i64 (2)] none true), (b2, .cells [.int .i64 (0), .int .i64 (0), .int .i64 (0)] none true)]) (by kernel_rfl) G (fun _ => by kernel_rfl) (fun _ _ => by kernel_rfl) (by kernel_rfl) (fun _ => by kernel_rfl) (fun _ => by kernel_rfl) (by decide)

theorem aw8 {h hh : EH} {hr : RO} {F : List Nat} (G : Hp hr hh F ([] : Ents) h) : Ct Try.prog 54 ⟨[.int .i64 (0)]⟩ h [] (fun x : Nat => .agg ⟨[.int .i64 (1), .int .i64 (3), .int .i64 (0)]⟩) (fun _ => True) (fun x => []) :=
  Ct.of_run okf mx (n := 100000) (g := 54) (args := [.int .i64 (0)]) (h0 := []) (v := .agg ⟨[.int .i64 (1), .int .i64 (3), .int .i64 (0)]⟩) (m := 1) (ks := []) (ps := []) (by kernel_rfl) G (fun _ => by kernel_rfl) (fun _ _ => by kernel_rfl) (by kernel_rfl) (fun _ => by kernel_rfl) (fun _ => by kernel_rfl) (by decide)

theorem aw9 {h hh : EH} {hr : RO} {F : List Nat} {b0 : Nat} {b1 : Nat} {b2 : Nat} {b3 : Nat} {b4 : Nat} {b5 : Nat} (G : Hp hr hh F ([(b0, .cells [.int .i64 (0), .int .i64 (10), .int .i64 (2), .int .i64 (0), .int .i64 (0), .int .i64 (0), .int .i64 (1), .int .i64 (10), .int .i64 (3), .int .i64 (1), .int .i64 (5), .int .i64 (3), .int .i64 (1), .int .i64 (5), .int .i64 (2)] none true), (b1, .cells [.int .i64 (1), .int .i64 (2)] none true), (b2, .cells [.slice (some ⟨b3, 0, none⟩) 3 3, .slice (some ⟨b4, 0, none⟩) 3 3, .slice (some ⟨b5, 0, none⟩) 3 3] (some 1) true), (b3, .cells [.int .i64 (0), .int .i64 (2), .int .i64 (3)] (some 1) true), (b4, .cells [.int .i64 (1), .int .i64 (2), .int .i64 (4)] (some 1) true), (b5, .cells [.int .i64 (0), .int .i64 (2), .int .i64 (3)] (some 1) true)] : Ents) h) : Ct Try.prog 29 ⟨[.agg ⟨[.slice (some ⟨b0, 0, none⟩) 5 5, .slice (some ⟨b1, 0, none⟩) 2 2, .int .i64 (1000), .int .i64 (1300)]⟩, .agg ⟨[.int .i64 (1), .int .i64 (3), .int .i64 (0)]⟩, .slice (some ⟨b2, 0, none⟩) 3 3]⟩ h [] (fun x : Nat => .tuple ⟨[.int .i64 (1), .int .i64 (5)]⟩) (fun _ => True) (fun x => []) :=
  Ct.of_run okf mx (n := 100000) (g := 29) (args := [.agg ⟨[.slice (some ⟨0, 0, none⟩) 5 5, .slice (some ⟨1, 0, none⟩) 2 2, .int .i64 (1000), .int .i64 (1300)]⟩, .agg ⟨[.int .i64 (1), .int .i64 (3), .int .i64 (0)]⟩, .slice (some ⟨2, 0, none⟩) 3 3]) (h0 := [.cells [.int .i64 (0), .int .i64 (10), .int .i64 (2), .int .i64 (0), .int .i64 (0), .int .i64 (0), .int .i64 (1), .int .i64 (10), .int .i64 (3), .int .i64 (1), .int .i64 (5), .int .i64 (3), .int .i64 (1), .int .i64 (5), .int .i64 (2)] none true, .cells [.int .i64 (1), .int .i64 (2)] none true, .cells [.slice (some ⟨3, 0, none⟩) 3 3, .slice (some ⟨4, 0, none⟩) 3 3, .slice (some ⟨5, 0, none⟩) 3 3] (some 1) true, .cells [.int .i64 (0), .int .i64 (2), .int .i64 (3)] (some 1) true, .cells [.int .i64 (1), .int .i64 (2), .int .i64 (4)] (some 1) true, .cells [.int .i64 (0), .int .i64 (2), .int .i64 (3)] (some 1) true]) (v := .tuple ⟨[.int .i64 (1), .int .i64 (5)]⟩) (m := 218) (ks := []) (ps := [(b0, .cells [.int .i64 (0), .int .i64 (10), .int .i64 (2), .int .i64 (0), .int .i64 (0), .int .i64 (0), .int .i64 (1), .int .i64 (10), .int .i64 (3), .int .i64 (1), .int .i64 (5), .int .i64 (3), .int .i64 (1), .int .i64 (5), .int .i64 (2)] none true), (b1, .cells [.int .i64 (1), .int .i64 (2)] none true), (b2, .cells [.slice (some ⟨b3, 0, none⟩) 3 3, .slice (some ⟨b4, 0, none⟩) 3 3, .slice (some ⟨b5, 0, none⟩) 3 3] (some 1) true), (b3, .cells [.int .i64 (0), .int .i64 (2), .int .i64 (3)] (some 1) true), (b4, .cells [.int .i64 (1), .int .i64 (2), .int .i64 (4)] (some 1) true), (b5, .cells [.int .i64 (0), .int .i64 (2), .int .i64 (3)] (some 1) true)]) (by kernel_rfl) G (fun _ => by kernel_rfl) (fun _ _ => by kernel_rfl) (by kernel_rfl) (fun _ => by kernel_rfl) (fun _ => by kernel_rfl) (by decide)

theorem aw10 {h hh : EH} {hr : RO} {F : List Nat} {b0 : Nat} {b1 : Nat} (G : Hp hr hh F ([(b0, .cells [.int .i64 (0), .int .i64 (10), .int .i64 (2), .int .i64 (0), .int .i64 (0), .int .i64 (0), .int .i64 (1), .int .i64 (10), .int .i64 (3), .int .i64 (1), .int .i64 (5), .int .i64 (3), .int .i64 (1), .int .i64 (5), .int .i64 (2)] none true), (b1, .cells [.int .i64 (1), .int .i64 (2)] none true)] : Ents) h) : Ct Try.prog 31 ⟨[.agg ⟨[.slice (some ⟨b0, 0, none⟩) 5 5, .slice (some ⟨b1, 0, none⟩) 2 2, .int .i64 (1000), .int .i64 (1300)]⟩, .int .i64 (2)]⟩ h [] (fun x : Nat => .tuple ⟨[.agg ⟨[.int .i64 (1200), .int .i64 (1200)]⟩, .int .i64 (0)]⟩) (fun _ => True) (fun x => []) :=
  Ct.of_run okf mx (n := 100000) (g := 31) (args := [.agg ⟨[.slice (some ⟨0, 0, none⟩) 5 5, .slice (some ⟨1, 0, none⟩) 2 2, .int .i64 (1000), .int .i64 (1300)]⟩, .int .i64 (2)]) (h0 := [.cells [.int .i64 (0), .int .i64 (10), .int .i64 (2), .int .i64 (0), .int .i64 (0), .int .i64 (0), .int .i64 (1), .int .i64 (10), .int .i64 (3), .int .i64 (1), .int .i64 (5), .int .i64 (3), .int .i64 (1), .int .i64 (5), .int .i64 (2)] none true, .cells [.int .i64 (1), .int .i64 (2)] none true]) (v := .tuple ⟨[.agg ⟨[.int .i64 (1200), .int .i64 (1200)]⟩, .int .i64 (0)]⟩) (m := 305) (ks := []) (ps := [(b0, .cells [.int .i64 (0), .int .i64 (10), .int .i64 (2), .int .i64 (0), .int .i64 (0), .int .i64 (0), .int .i64 (1), .int .i64 (10), .int .i64 (3), .int .i64 (1), .int .i64 (5), .int .i64 (3), .int .i64 (1), .int .i64 (5), .int .i64 (2)] none true), (b1, .cells [.int .i64 (1), .int .i64 (2)] none true)]) (by kernel_rfl) G (fun _ => by kernel_rfl) (fun _ _ => by kernel_rfl) (by kernel_rfl) (fun _ => by kernel_rfl) (fun _ => by kernel_rfl) (by decide)

theorem aw11 {h hh : EH} {hr : RO} {F : List Nat} {b0 : Nat} {b1 : Nat} {b2 : Nat} (G : Hp hr hh F ([(b0, .cells [.int .i64 (0), .int .i64 (10), .int .i64 (2), .int .i64 (0), .int .i64 (0), .int .i64 (0), .int .i64 (1), .int .i64 (10), .int .i64 (3), .int .i64 (1), .int .i64 (5), .int .i64 (3), .int .i64 (1), .int .i64 (5), .int .i64 (2)] none true), (b1, .cells [.int .i64 (1), .int .i64 (2)] none true), (b2, .cells [.int .i64 (0), .int .i64 (0), .int .i64 (0)] none true)] : Ents) h) : Ct Try.prog 24 ⟨[.agg ⟨[.slice (some ⟨b0, 0, none⟩) 5 5, .slice (some ⟨b1, 0, none⟩) 2 2, .int .i64 (1000), .int .i64 (1300)]⟩, .agg ⟨[.int .i64 (1), .int .i64 (3), .int .i64 (0)]⟩, .slice (some ⟨b2, 0, none⟩) 3 3]⟩ h [] (fun x : Nat => .tuple ⟨[.slice none 0 0, .int .i64 (9)]⟩) (fun _ => True) (fun x => []) :=
  Ct.of_run okf mx (n := 100000) (g := 24) (args := [.agg ⟨[.slice (some ⟨0, 0, none⟩) 5 5, .slice (some ⟨1, 0, none⟩) 2 2, .int .i64 (1000), .int .i64 (1300)]⟩, .agg ⟨[.int .i64 (1), .int .i64 (3), .int .i64 (0)]⟩, .slice (some ⟨2, 0, none⟩) 3 3]) (h0 := [.cells [.int .i64 (0), .int .i64 (10), .int .i64 (2), .int .i64 (0), .int .i64 (0), .int .i64 (0), .int .i64 (1), .int .i64 (10), .int .i64 (3), .int .i64 (1), .int .i64 (5), .int .i64 (3), .int .i64 (1), .int .i64 (5), .int .i64 (2)] none true, .cells [.int .i64 (1), .int .i64 (2)] none true, .cells [.int .i64 (0), .int .i64 (0), .int .i64 (0)] none true]) (v := .tuple ⟨[.slice none 0 0, .int .i64 (9)]⟩) (m := 371) (ks := []) (ps := [(b0, .cells [.int .i64 (0), .int .i64 (10), .int .i64 (2), .int .i64 (0), .int .i64 (0), .int .i64 (0), .int .i64 (1), .int .i64 (10), .int .i64 (3), .int .i64 (1), .int .i64 (5), .int .i64 (3), .int .i64 (1), .int .i64 (5), .int .i64 (2)] none true), (b1, .cells [.int .i64 (1), .int .i64 (2)] none true), (b2, .cells [.int .i64 (0), .int .i64 (0), .int .i64 (0)] none true)]) (by kernel_rfl) G (fun _ => by kernel_rfl) (fun _ _ => by kernel_rfl) (by kernel_rfl) (fun _ => by kernel_rfl) (fun _ => by kernel_rfl) (by decide)

theorem aw12 {h hh : EH} {hr : RO} {F : List Nat} {b0 : Nat} {b1 : Nat} (G : Hp hr hh F ([(b0, .cells [.int .i64 (200), .int .i64 (500), .int .i64 (300), .int .i64 (600), .int .i64 (400)] (some 1) true), (b1, .cells [.int .i64 (200), .int .i64 (500), .int .i64 (300), .int .i64 (600), .int .i64 (400)] none true)] : Ents) h) : Ct Try.prog 55 ⟨[.slice (some ⟨b0, 0, none⟩) 5 5, .slice (some ⟨b1, 0, none⟩) 5 5]⟩ h [] (fun x : Nat => .bool true) (fun _ => True) (fun x => []) :=
  Ct.of_run okf mx (n := 100000) (g := 55) (args := [.slice (some ⟨0, 0, none⟩) 5 5, .slice (some ⟨1, 0, none⟩) 5 5]) (h0 := [.cells [.int .i64 (200), .int .i64 (500), .int .i64 (300), .int .i64 (600), .int .i64 (400)] (some 1) true, .cells [.int .i64 (200), .int .i64 (500), .int .i64 (300), .int .i64 (600), .int .i64 (400)] none true]) (v := .bool true) (m := 2) (ks := []) (ps := [(b0, .cells [.int .i64 (200), .int .i64 (500), .int .i64 (300), .int .i64 (600), .int .i64 (400)] (some 1) true), (b1, .cells [.int .i64 (200), .int .i64 (500), .int .i64 (300), .int .i64 (600), .int .i64 (400)] none true)]) (by kernel_rfl) G (fun _ => by kernel_rfl) (fun _ _ => by kernel_rfl) (by kernel_rfl) (fun _ => by kernel_rfl) (fun _ => by kernel_rfl) (by decide)

theorem aw13 {h hh : EH} {hr : RO} {F : List Nat} {b0 : Nat} {b1 : Nat} (G : Hp hr hh F ([(b0, .cells [.int .i64 (1), .int .i64 (2), .int .i64 (4)] (some 1) true), (b1, .cells [.int .i64 (1), .int .i64 (2), .int .i64 (4)] none true)] : Ents) h) : Ct Try.prog 55 ⟨[.slice (some ⟨b0, 0, none⟩) 3 3, .slice (some ⟨b1, 0, none⟩) 3 3]⟩ h [] (fun x : Nat => .bool true) (fun _ => True) (fun x => []) :=
  Ct.of_run okf mx (n := 100000) (g := 55) (args := [.slice (some ⟨0, 0, none⟩) 3 3, .slice (some ⟨1, 0, none⟩) 3 3]) (h0 := [.cells [.int .i64 (1), .int .i64 (2), .int .i64 (4)] (some 1) true, .cells [.int .i64 (1), .int .i64 (2), .int .i64 (4)] none true]) (v := .bool true) (m := 2) (ks := []) (ps := [(b0, .cells [.int .i64 (1), .int .i64 (2), .int .i64 (4)] (some 1) true), (b1, .cells [.int .i64 (1), .int .i64 (2), .int .i64 (4)] none true)]) (by kernel_rfl) G (fun _ => by kernel_rfl) (fun _ _ => by kernel_rfl) (by kernel_rfl) (fun _ => by kernel_rfl) (fun _ => by kernel_rfl) (by decide)

theorem aw14 {h hh : EH} {hr : RO} {F : List Nat} {b0 : Nat} {b1 : Nat} {b2 : Nat} {b3 : Nat} {b4 : Nat} {b5 : Nat} {b6 : Nat} {b7 : Nat} (G : Hp hr hh F ([(b0, .cells [.slice (some ⟨b2, 0, none⟩) 3 3, .slice (some ⟨b3, 0, none⟩) 3 3, .slice (some ⟨b4, 0, none⟩) 3 3] (some 1) true), (b1, .cells [.slice (some ⟨b5, 0, none⟩) 3 3, .slice (some ⟨b6, 0, none⟩) 3 3, .slice (some ⟨b7, 0, none⟩) 3 3] none true), (b2, .cells [.int .i64 (0), .int .i64 (2), .int .i64 (3)] (some 1) true), (b3, .cells [.int .i64 (1), .int .i64 (2), .int .i64 (4)] (some 1) true), (b4, .cells [.int .i64 (0), .int .i64 (2), .int .i64 (3)] (some 1) true), (b5, .cells [.int .i64 (0), .int .i64 (2), .int .i64 (3)] none true), (b6, .cells [.int .i64 (1), .int .i64 (2), .int .i64 (4)] none true), (b7, .cells [.int .i64 (0), .int .i64 (2), .int .i64 (3)] none true)] : Ents) h) : Ct Try.prog 56 ⟨[.slice (some ⟨b0, 0, none⟩) 3 3, .slice (some ⟨b1, 0, none⟩) 3 3]⟩ h [] (fun x : Nat => .bool true) (fun _ => True) (fun x => []) :=
  Ct.of_run okf mx (n := 100000) (g := 56) (args := [.slice (some ⟨0, 0, none⟩) 3 3, .slice (some ⟨1, 0, none⟩) 3 3]) (h0 := [.cells [.slice (some ⟨2, 0, none⟩) 3 3, .slice (some ⟨3, 0, none⟩) 3 3, .slice (some ⟨4, 0, none⟩) 3 3] (some 1) true, .cells [.slice (some ⟨5, 0, none⟩) 3 3, .slice (some ⟨6, 0, none⟩) 3 3, .slice (some ⟨7, 0, none⟩) 3 3] none true, .cells [.int .i64 (0), .int .i64 (2), .int .i64 (3)] (some 1) true, .cells [.int .i64 (1), .int .i64 (2), .int .i64 (4)] (some 1) true, .cells [.int .i64 (0), .int .i64 (2), .int .i64 (3)] (some 1) true, .cells [.int .i64 (0), .int .i64 (2), .int .i64 (3)] none true, .cells [.int .i64 (1), .int .i64 (2), .int .i64 (4)] none true, .cells [.int .i64 (0), .int .i64 (2), .int .i64 (3)] none true]) (v := .bool true) (m := 8) (ks := []) (ps := [(b0, .cells [.slice (some ⟨b2, 0, none⟩) 3 3, .slice (some ⟨b3, 0, none⟩) 3 3, .slice (some ⟨b4, 0, none⟩) 3 3] (some 1) true), (b1, .cells [.slice (some ⟨b5, 0, none⟩) 3 3, .slice (some ⟨b6, 0, none⟩) 3 3, .slice (some ⟨b7, 0, none⟩) 3 3] none true), (b2, .cells [.int .i64 (0), .int .i64 (2), .int .i64 (3)] (some 1) true), (b3, .cells [.int .i64 (1), .int .i64 (2), .int .i64 (4)] (some 1) true), (b4, .cells [.int .i64 (0), .int .i64 (2), .int .i64 (3)] (some 1) true), (b5, .cells [.int .i64 (0), .int .i64 (2), .int .i64 (3)] none true), (b6, .cells [.int .i64 (1), .int .i64 (2), .int .i64 (4)] none true), (b7, .cells [.int .i64 (0), .int .i64 (2), .int .i64 (3)] none true)]) (by kernel_rfl) G (fun _ => by kernel_rfl) (fun _ _ => by kernel_rfl) (by kernel_rfl) (fun _ => by kernel_rfl) (fun _ => by kernel_rfl) (by decide)

end Go.Proofs.Ytenkebdjlajanaa
namespace Go.Proofs.Ytenkebdjlajanaa
open Go Go.E
set_option maxRecDepth 100000
set_option maxHeartbeats 4000000

theorem fl25 : FLT Try.prog 25 2 := FLT.of (by kernel_rfl) (by kernel_rfl) (by kernel_rfl)


theorem awake {h : EH} : Ct Try.prog 34 ⟨[]⟩ h [] (fun _ : Unit => .bool true) (fun _ => True) (fun _ => []) := by
  refine Ct.go Try.func34 rfl rfl co34 (Hp.start (hr := fun _ => none) (by simp)) ?_
  refine GW.sr rfl rfl ?_
  refine GL.o rfl (S1.asB rfl) ?_
  refine GL.dn rfl ?_
  refine GW.sr rfl rfl ?_
  refine GL.call rfl .no fo53 .nil (fun h H => aw1 (H.give (ps := ([] : Ents)) .nil)) (.d .n) (fun x1 _ => ?_)
  refine GL.call rfl .no fo12 .nil (fun h H => aw2 (H.give (ps := ([(_, .cells [.int .i64 (0), .int .i64 (10), .int .i64 (2), .int .i64 (0), .int .i64 (0), .int .i64 (0), .int .i64 (1), .int .i64 (10), .int .i64 (3), .int .i64 (1), .int .i64 (5), .int .i64 (3), .int .i64 (1), .int .i64 (5), .int .i64 (2)] none true), (_, .cells [.int .i64 (1), .int .i64 (2)] none true)] : Ents)) (.cons .z (.cons .z .nil)))) (.d (.c (v := (.agg _)) rfl .n)) (fun x2 _ => ?_)
  refine GL.o rfl (S1.mvT rfl) ?_
  refine GL.o rfl (S1.ext (v := (.slice _ _ _)) rfl rfl) ?_
  refine GL.o rfl (S1.ext (v := (.int _ _)) rfl rfl) ?_
  refine GL.o rfl (S1.asL rfl) ?_
  refine GL.o rfl (S1.asI rfl) ?_
  refine GL.dn rfl ?_
  refine GW.sr rfl rfl ?_
  refine GL.call rfl .no fo53 .nil (fun h H => aw1 (H.give (ps := ([] : Ents)) .nil)) (.d .n) (fun x3 _ => ?_)
  refine GL.call rfl .no fo17 .nil (fun h H => aw3 (H.give (ps := ([(_, .cells [.int .i64 (0), .int .i64 (10), .int .i64 (2), .int .i64 (0), .int .i64 (0), .int .i64 (0), .int .i64 (1), .int .i64 (10), .int .i64 (3), .int .i64 (1), .int .i64 (5), .int .i64 (3), .int .i64 (1), .int .i64 (5), .int .i64 (2)] none true), (_, .cells [.int .i64 (1), .int .i64 (2)] none true)] : Ents)) (.cons .z (.cons .z .nil)))) (.d (.c (v := (.agg _)) rfl .n)) (fun x4 _ => ?_)
  refine GL.o rfl (S1.mvT rfl) ?_
  refine GL.o rfl (S1.ext (v := (.int _ _)) rfl rfl) ?_
  refine GL.o rfl (S1.ext (v := (.int _ _)) rfl rfl) ?_
  refine GL.o rfl (S1.asI rfl) ?_
  refine GL.o rfl (S1.asI rfl) ?_
  refine GL.dn rfl ?_
  refine GW.sr rfl rfl ?_
  refine GL.call rfl .no fo53 .nil (fun h H => aw1 (H.give (ps := ([] : Ents)) .nil)) (.d .n) (fun x5 _ => ?_)
  refine GL.call rfl .no fo19 .nil (fun h H => aw4 (H.give (ps := ([(_, .cells [.int .i64 (0), .int .i64 (10), .int .i64 (2), .int .i64 (0), .int .i64 (0), .int .i64 (0), .int .i64 (1), .int .i64 (10), .int .i64 (3), .int .i64 (1), .int .i64 (5), .int .i64 (3), .int .i64 (1), .int .i64 (5), .int .i64 (2)] none true), (_, .cells [.int .i64 (1), .int .i64 (2)] none true)] : Ents)) (.cons .z (.cons .z .nil)))) (.d (.c (v := (.agg _)) rfl (.c (v := (.int _ _)) rfl .n))) (fun x6 _ => ?_)
  refine GL.o rfl (S1.mvT rfl) ?_
  refine GL.o rfl (S1.ext (v := (.slice _ _ _)) rfl rfl) ?_
  refine GL.o rfl (S1.ext (v := (.int _ _)) rfl rfl) ?_
  refine GL.o rfl (S1.asL rfl) ?_
  refine GL.o rfl (S1.asI rfl) ?_
  refine GL.dn rfl ?_
  refine GW.sr rfl rfl ?_
  refine GL.call rfl .no fo53 .nil (fun h H => aw1 (H.give (ps := ([] : Ents)) .nil)) (.d .n) (fun x7 _ => ?_)
  refine GL.opN rfl .no (SN.bs el23 ez23 (.c (v := (.int _ _)) rfl rfl (.c (v := (.int _ _)) rfl rfl (.c (v := (.int _ _)) rfl rfl .n))) rfl rfl) (fun a8 => ?_)
  refine GL.call rfl .no fo22 .nil (fun h H => aw5 (H.give (ps := ([(_, .cells [.int .i64 (0), .int .i64 (10), .int .i64 (2), .int .i64 (0), .int .i64 (0), .int .i64 (0), .int .i64 (1), .int .i64 (10), .int .i64 (3), .int .i64 (1), .int .i64 (5), .int .i64 (3), .int .i64 (1), .int .i64 (5), .int .i64 (2)] none true), (_, .cells [.int .i64 (1), .int .i64 (2)] none true), (_, .cells [.int .i64 (0), .int .i64 (3), .int .i64 (4)] none true)] : Ents)) (.cons (.s .z) (.cons (.s .z) (.cons .z .nil))))) (.d (.c (v := (.agg _)) rfl (.c (v := (.slice _ _ _)) rfl .n))) (fun x11 _ => ?_)
  refine GL.o rfl (S1.mvT rfl) ?_
  refine GL.o rfl (S1.ext (v := (.int _ _)) rfl rfl) ?_
  refine GL.o rfl (S1.ext (v := (.int _ _)) rfl rfl) ?_
  refine GL.o rfl (S1.asI rfl) ?_
  refine GL.o rfl (S1.asI rfl) ?_
  refine GL.dn rfl ?_
  refine GW.sr rfl rfl ?_
  refine GL.call rfl .no fo53 .nil (fun h H => aw1 (H.give (ps := ([] : Ents)) .nil)) (.d .n) (fun x12 _ => ?_)
  refine GL.call rfl .no fo54 .nil (fun h H => aw6 (H.give (ps := ([] : Ents)) .nil)) (.d (.c (v := (.int _ _)) rfl .n)) (fun x13 _ => ?_)
  refine GL.opN rfl .no (SN.bs el23 ez23 (.c (v := (.int _ _)) rfl rfl (.c (v := (.int _ _)) rfl rfl (.c (v := (.int _ _)) rfl rfl .n))) rfl rfl) (fun a14 => ?_)
  refine GL.call rfl .no fo24 .nil (fun h H => aw7 (H.give (ps := ([(_, .cells [.int .i64 (0), .int .i64 (10), .int .i64 (2), .int .i64 (0), .int .i64 (0), .int .i64 (0), .int .i64 (1), .int .i64 (10), .int .i64 (3), .int .i64 (1), .int .i64 (5), .int .i64 (3), .int .i64 (1), .int .i64 (5), .int .i64 (2)] none true), (_, .cells [.int .i64 (1), .int .i64 (2)] none true), (_, .cells [.int .i64 (0), .int .i64 (0), .int .i64 (0)] none true)] : Ents)) (.cons (.s .z) (.cons (.s .z) (.cons .z .nil))))) (.d (.c (v := (.agg _)) rfl (.c (v := (.agg _)) rfl (.c (v := (.slice _ _ _)) rfl .n)))) (fun x17 _ => ?_)
  refine GL.o rfl (S1.mvT rfl) ?_
  refine GL.o rfl (S1.ext (v := (.slice _ _ _)) rfl rfl) ?_
  refine GL.o rfl (S1.ext (v := (.int _ _)) rfl rfl) ?_
  refine GL.o rfl (S1.asL rfl) ?_
  refine GL.o rfl (S1.asI rfl) ?_
  refine GL.dn rfl ?_
  refine GW.sr rfl rfl ?_
  refine GL.call rfl .no fo53 .nil (fun h H => aw1 (H.give (ps := ([] : Ents)) .nil)) (.d .n) (fun x18 _ => ?_)
  refine GL.call rfl .no fo54 .nil (fun h H => aw8 (H.give (ps := ([] : Ents)) .nil)) (.d (.c (v := (.int _ _)) rfl .n)) (fun x19 _ => ?_)
  refine GL.o rfl (S1.mvL rfl) ?_
  refine GL.call rfl .no fo29 .nil (fun h H => aw9 (H.give (ps := ([(_, .cells [.int .i64 (0), .int .i64 (10), .int .i64 (2), .int .i64 (0), .int .i64 (0), .int .i64 (0), .int .i64 (1), .int .i64 (10), .int .i64 (3), .int .i64 (1), .int .i64 (5), .int .i64 (3), .int .i64 (1), .int .i64 (5), .int .i64 (2)] none true), (_, .cells [.int .i64 (1), .int .i64 (2)] none true), (_, .cells [.slice (some ⟨_, 0, none⟩) 3 3, .slice (some ⟨_, 0, none⟩) 3 3, .slice (some ⟨_, 0, none⟩) 3 3] (some 1) true), (_, .cells [.int .i64 (0), .int .i64 (2), .int .i64 (3)] (some 1) true), (_, .cells [.int .i64 (1), .int .i64 (2), .int .i64 (4)] (some 1) true), (_, .cells [.int .i64 (0), .int .i64 (2), .int .i64 (3)] (some 1) true)] : Ents)) (.cons .z (.cons .z (.cons (.s (.s (.s .z))) (.cons .z (.cons .z (.cons .z .nil)))))))) (.d (.c (v := (.agg _)) rfl (.c (v := (.agg _)) rfl (.c (v := (.slice _ _ _)) rfl .n)))) (fun x20 _ => ?_)
  refine GL.o rfl (S1.mvT rfl) ?_
  refine GL.o rfl (S1.ext (v := (.int _ _)) rfl rfl) ?_
  refine GL.o rfl (S1.ext (v := (.int _ _)) rfl rfl) ?_
  refine GL.o rfl (S1.asI rfl) ?_
  refine GL.o rfl (S1.asI rfl) ?_
  refine GL.dn rfl ?_
  refine GW.sr rfl rfl ?_
  refine GL.call rfl .no fo53 .nil (fun h H => aw1 (H.give (ps := ([] : Ents)) .nil)) (.d .n) (fun x21 _ => ?_)
  refine GL.call rfl .no fo31 .nil (fun h H => aw10 (H.give (ps := ([(_, .cells [.int .i64 (0), .int .i64 (10), .int .i64 (2), .int .i64 (0), .int .i64 (0), .int .i64 (0), .int .i64 (1), .int .i64 (10), .int .i64 (3), .int .i64 (1), .int .i64 (5), .int .i64 (3), .int .i64 (1), .int .i64 (5), .int .i64 (2)] none true), (_, .cells [.int .i64 (1), .int .i64 (2)] none true)] : Ents)) (.cons .z (.cons .z .nil)))) (.d (.c (v := (.agg _)) rfl (.c (v := (.int _ _)) rfl .n))) (fun x22 _ => ?_)
  refine GL.o rfl (S1.mvT rfl) ?_
  refine GL.o rfl (S1.ext (v := (.agg _)) rfl rfl) ?_
  refine GL.o rfl (S1.ext (v := (.int _ _)) rfl rfl) ?_
  refine GL.opN rfl .no (SN.al zc25) (fun a23 => ?_)
  refine GL.o rfl (S1.stA ag25 rfl rfl rfl rfl (by repeat constructor) .z) ?_
  refine GL.o rfl (S1.asI rfl) ?_
  refine GL.dn rfl ?_
  refine GW.sr rfl rfl ?_
  refine GL.call rfl .no fo53 .nil (fun h H => aw1 (H.give (ps := ([] : Ents)) .nil)) (.d .n) (fun x24 _ => ?_)
  refine GL.call rfl .no fo54 .nil (fun h H => aw8 (H.give (ps := ([] : Ents)) .nil)) (.d (.c (v := (.int _ _)) rfl .n)) (fun x25 _ => ?_)
  refine GL.opN rfl .no (SN.bs el23 ez23 (.c (v := (.int _ _)) rfl rfl (.c (v := (.int _ _)) rfl rfl (.c (v := (.int _ _)) rfl rfl .n))) rfl rfl) (fun a26 => ?_)
  refine GL.call rfl .no fo24 .nil (fun h H => aw11 (H.give (ps := ([(_, .cells [.int .i64 (0), .int .i64 (10), .int .i64 (2), .int .i64 (0), .int .i64 (0), .int .i64 (0), .int .i64 (1), .int .i64 (10), .int .i64 (3), .int .i64 (1), .int .i64 (5), .int .i64 (3), .int .i64 (1), .int .i64 (5), .int .i64 (2)] none true), (_, .cells [.int .i64 (1), .int .i64 (2)] none true), (_, .cells [.int .i64 (0), .int .i64 (0), .int .i64 (0)] none true)] : Ents)) (.cons (.s .z) (.cons (.s .z) (.cons .z .nil))))) (.d (.c (v := (.agg _)) rfl (.c (v := (.agg _)) rfl (.c (v := (.slice _ _ _)) rfl .n)))) (fun x29 _ => ?_)
  refine GL.o rfl (S1.mvT rfl) ?_
  refine GL.o rfl (S1.ext (v := (.slice _ _ _)) rfl rfl) ?_
  refine GL.o rfl (S1.ext (v := (.int _ _)) rfl rfl) ?_
  refine GL.o rfl (S1.asL rfl) ?_
  refine GL.o rfl (S1.asI rfl) ?_
  refine GL.dn rfl ?_
  refine GW.sr rfl rfl ?_
  refine GL.o rfl (S1.mvI rfl) ?_
  refine GL.o rfl (S1.eql rfl rfl) ?_
  refine GL.o rfl (S1.mvB rfl) ?_
  refine GL.one rfl (.yes rfl rfl rfl) (S1.mvI rfl) ?_
  refine GL.one rfl (.yes rfl rfl rfl) (S1.eql rfl rfl) ?_
  refine GL.o rfl (S1.pickT (v := (.bool _)) rfl rfl) ?_
  refine GL.o rfl (S1.mvB rfl) ?_
  refine GL.one rfl (.yes rfl rfl rfl) (S1.mvI rfl) ?_
  refine GL.one rfl (.yes rfl rfl rfl) (S1.eql rfl rfl) ?_
  refine GL.o rfl (S1.pickT (v := (.bool _)) rfl rfl) ?_
  refine GL.o rfl (S1.mvB rfl) ?_
  refine GL.one rfl (.yes rfl rfl rfl) (S1.mvI rfl) ?_
  refine GL.one rfl (.yes rfl rfl rfl) (S1.eql rfl rfl) ?_
  refine GL.o rfl (S1.pickT (v := (.bool _)) rfl rfl) ?_
  refine GL.o rfl (S1.mvB rfl) ?_
  refine GL.one rfl (.yes rfl rfl rfl) (S1.mvI rfl) ?_
  refine GL.one rfl (.yes rfl rfl rfl) (S1.eql rfl rfl) ?_
  refine GL.o rfl (S1.pickT (v := (.bool _)) rfl rfl) ?_
  refine GL.o rfl (S1.mvB rfl) ?_
  refine GL.one rfl (.yes rfl rfl rfl) (S1.mvI rfl) ?_
  refine GL.one rfl (.yes rfl rfl rfl) (S1.eql rfl rfl) ?_
  refine GL.o rfl (S1.pickT (v := (.bool _)) rfl rfl) ?_
  refine GL.o rfl (S1.mvB rfl) ?_
  refine GL.one rfl (.yes rfl rfl rfl) (S1.mvI rfl) ?_
  refine GL.one rfl (.yes rfl rfl rfl) (S1.eql rfl rfl) ?_
  refine GL.o rfl (S1.pickT (v := (.bool _)) rfl rfl) ?_
  refine GL.o rfl (S1.mvB rfl) ?_
  refine GL.one rfl (.yes rfl rfl rfl) (S1.mvI rfl) ?_
  refine GL.one rfl (.yes rfl rfl rfl) (S1.eql rfl rfl) ?_
  refine GL.o rfl (S1.pickT (v := (.bool _)) rfl rfl) ?_
  refine GL.o rfl (S1.mvB rfl) ?_
  refine GL.one rfl (.yes rfl rfl rfl) (S1.mvI rfl) ?_
  refine GL.one rfl (.yes rfl rfl rfl) (S1.eql rfl rfl) ?_
  refine GL.o rfl (S1.pickT (v := (.bool _)) rfl rfl) ?_
  refine GL.o rfl (S1.mvB rfl) ?_
  refine GL.one rfl (.yes rfl rfl rfl) (S1.mvL rfl) ?_
  refine GL.opN rfl (.yes rfl rfl rfl) (SN.bs el23 ez23 (.c (v := (.int _ _)) rfl rfl (.c (v := (.int _ _)) rfl rfl (.c (v := (.int _ _)) rfl rfl (.c (v := (.int _ _)) rfl rfl (.c (v := (.int _ _)) rfl rfl .n))))) rfl rfl) (fun a30 => ?_)
  refine GL.call rfl (.yes rfl rfl rfl) fo55 .nil (fun h H => aw12 (H.give (ps := ([(_, .cells [.int .i64 (200), .int .i64 (500), .int .i64 (300), .int .i64 (600), .int .i64 (400)] (some 1) true), (_, .cells [.int .i64 (200), .int .i64 (500), .int .i64 (300), .int .i64 (600), .int .i64 (400)] none true)] : Ents)) (.cons (.s (.s (.s (.s (.s (.s (.s (.s (.s (.s (.s (.s (.s (.s (.s (.s (.s (.s (.s (.s (.s (.s (.s (.s .z)))))))))))))))))))))))) (.cons .z .nil)))) (.d (.c (v := (.slice _ _ _)) rfl (.c (v := (.slice _ _ _)) rfl .n))) (fun x33 _ => ?_)
  refine GL.o rfl (S1.pickT (v := (.bool _)) rfl rfl) ?_
  refine GL.o rfl (S1.mvB rfl) ?_
  refine GL.one rfl (.yes rfl rfl rfl) (S1.mvI rfl) ?_
  refine GL.one rfl (.yes rfl rfl rfl) (S1.eql rfl rfl) ?_
  refine GL.o rfl (S1.pickT (v := (.bool _)) rfl rfl) ?_
  refine GL.o rfl (S1.mvB rfl) ?_
  refine GL.one rfl (.yes rfl rfl rfl) (S1.mvL rfl) ?_
  refine GL.opN rfl (.yes rfl rfl rfl) (SN.bs el23 ez23 (.c (v := (.int _ _)) rfl rfl (.c (v := (.int _ _)) rfl rfl (.c (v := (.int _ _)) rfl rfl .n))) rfl rfl) (fun a34 => ?_)
  refine GL.call rfl (.yes rfl rfl rfl) fo55 .nil (fun h H => aw13 (H.give (ps := ([(_, .cells [.int .i64 (1), .int .i64 (2), .int .i64 (4)] (some 1) true), (_, .cells [.int .i64 (1), .int .i64 (2), .int .i64 (4)] none true)] : Ents)) (.cons (.s (.s (.s (.s (.s (.s (.s (.s (.s (.s (.s (.s (.s (.s (.s (.s (.s (.s (.s (.s .z)))))))))))))))))))) (.cons .z .nil)))) (.d (.c (v := (.slice _ _ _)) rfl (.c (v := (.slice _ _ _)) rfl .n))) (fun x37 _ => ?_)
  refine GL.o rfl (S1.pickT (v := (.bool _)) rfl rfl) ?_
  refine GL.o rfl (S1.mvB rfl) ?_
  refine GL.one rfl (.yes rfl rfl rfl) (S1.mvI rfl) ?_
  refine GL.one rfl (.yes rfl rfl rfl) (S1.eql rfl rfl) ?_
  refine GL.o rfl (S1.pickT (v := (.bool _)) rfl rfl) ?_
  refine GL.o rfl (S1.mvB rfl) ?_
  refine GL.one rfl (.yes rfl rfl rfl) (S1.mvL rfl) ?_
  refine GL.opN rfl (.yes rfl rfl rfl) (SN.bs el23 ez23 (.c (v := (.int _ _)) rfl rfl (.c (v := (.int _ _)) rfl rfl (.c (v := (.int _ _)) rfl rfl .n))) rfl rfl) (fun a38 => ?_)
  refine GL.opN rfl (.yes rfl rfl rfl) (SN.bs el23 ez23 (.c (v := (.int _ _)) rfl rfl (.c (v := (.int _ _)) rfl rfl (.c (v := (.int _ _)) rfl rfl .n))) rfl rfl) (fun a41 => ?_)
  refine GL.opN rfl (.yes rfl rfl rfl) (SN.bs el23 ez23 (.c (v := (.int _ _)) rfl rfl (.c (v := (.int _ _)) rfl rfl (.c (v := (.int _ _)) rfl rfl .n))) rfl rfl) (fun a44 => ?_)
  refine GL.opN rfl (.yes rfl rfl rfl) (SN.bs el30 ez30 (.c (v := (.slice _ _ _)) rfl rfl (.c (v := (.slice _ _ _)) rfl rfl (.c (v := (.slice _ _ _)) rfl rfl .n))) rfl rfl) (fun a47 => ?_)
  refine GL.call rfl (.yes rfl rfl rfl) fo56 .nil (fun h H => aw14 (H.give (ps := ([(_, .cells [.slice (some ⟨_, 0, none⟩) 3 3, .slice (some ⟨_, 0, none⟩) 3 3, .slice (some ⟨_, 0, none⟩) 3 3] (some 1) true), (_, .cells [.slice (some ⟨_, 0, none⟩) 3 3, .slice (some ⟨_, 0, none⟩) 3 3, .slice (some ⟨_, 0, none⟩) 3 3] none true), (_, .cells [.int .i64 (0), .int .i64 (2), .int .i64 (3)] (some 1) true), (_, .cells [.int .i64 (1), .int .i64 (2), .int .i64 (4)] (some 1) true), (_, .cells [.int .i64 (0), .int .i64 (2), .int .i64 (3)] (some 1) true), (_, .cells [.int .i64 (0), .int .i64 (2), .int .i64 (3)] none true), (_, .cells [.int .i64 (1), .int .i64 (2), .int .i64 (4)] none true), (_, .cells [.int .i64 (0), .int .i64 (2), .int .i64 (3)] none true)] : Ents)) (.cons (.s (.s (.s (.s (.s (.s (.s (.s (.s (.s (.s (.s (.s (.s (.s (.s (.s .z))))))))))))))))) (.cons .z (.cons (.s (.s (.s (.s (.s (.s (.s (.s (.s (.s (.s (.s (.s .z))))))))))))) (.cons (.s (.s (.s (.s (.s (.s (.s (.s (.s (.s (.s (.s (.s .z))))))))))))) (.cons (.s (.s (.s (.s (.s (.s (.s (.s (.s (.s (.s (.s (.s .z))))))))))))) (.cons (.s (.s .z)) (.cons (.s .z) (.cons .z .nil)))))))))) (.d (.c (v := (.slice _ _ _)) rfl (.c (v := (.slice _ _ _)) rfl .n))) (fun x50 _ => ?_)
  refine GL.o rfl (S1.pickT (v := (.bool _)) rfl rfl) ?_
  refine GL.o rfl (S1.mvB rfl) ?_
  refine GL.one rfl (.yes rfl rfl rfl) (S1.ldW ag25 rfl (.at (.s (.s (.s (.s (.s (.s (.s (.s (.s .z)))))))))) rfl) ?_
  refine GL.one rfl (.yes rfl rfl rfl) (S1.bu zc25 bo25 (.c (v := (.int _ _)) rfl (.one rfl) fz25_0 rfl (by repeat constructor) (.c (v := (.int _ _)) rfl (.one rfl) fz25_1 rfl (by repeat constructor) .n))) ?_
  refine GL.one rfl (.yes rfl rfl rfl) (S1.eqF fl25 (l := [1200, 1200]) (l' := [1200, 1200]) rfl rfl rfl rfl) ?_
  refine GL.o rfl (S1.pickT (v := (.bool _)) rfl rfl) ?_
  refine GL.o rfl (S1.asB rfl) ?_
  refine GL.dn rfl ?_
  refine GW.toRet rfl ?_
  refine GQ.ret () (.tmp (v := (.bool _)) rfl rfl .nil) .one ?_ ?_ .nil
  rfl
  exact trivial
end Go.Proofs.Ytenkebdjlajanaa
