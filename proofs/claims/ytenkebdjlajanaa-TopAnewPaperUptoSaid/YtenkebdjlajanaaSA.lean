/- S1: contracts: sorting integers: the leaves. -/
import Derived.Test.YtenkebdjlajanaaFA
import Derived.Test.YtenkebdjlajanaaGC
set_option linter.all false
set_option linter.constructorNameAsVariable false
set_option linter.unusedSimpArgs false
set_option linter.unusedVariables false
set_option linter.unusedSectionVars false
set_option linter.unnecessarySimpa false
namespace Go.Proofs.Ytenkebdjlajanaa
open Go Go.E
set_option maxRecDepth 100000
set_option maxHeartbeats 2000000

theorem ct86 {h : EH} {x : Int} : Ct Try.prog 86 ⟨[.int .i64 x]⟩ h [] (fun r : Bool => .bool r) (fun _ => True) (fun _ => []) := by
  refine Ct.go Try.func86 rfl rfl co86 (Hp.start (hr := fun _ => none) (by simp)) ?_
  refine GW.sr rfl rfl ?_
  refine GL.o rfl (S1.asB rfl) ?_
  refine GL.dn rfl ?_
  refine GW.sr rfl rfl ?_
  refine GL.o rfl (S1.mvI rfl) ?_
  refine GL.o rfl (S1.mvI rfl) ?_
  refine GL.o rfl (S1.neq rfl rfl) ?_
  refine GL.o rfl (S1.asB rfl) ?_
  refine GL.dn rfl ?_
  refine GW.toRet rfl ?_
  refine GQ.ret _ (.tmp (v := (.bool _)) rfl rfl .nil) .one rfl ?_ .nil
  exact trivial
theorem ct75 {h : EH} {x y : Int} : Ct Try.prog 75 ⟨[.int .i64 x, .int .i64 y]⟩ h [] (fun r : Bool => .bool r) (fun _ => True) (fun _ => []) := by
  refine Ct.go Try.func75 rfl rfl co75 (Hp.start (hr := fun _ => none) (by simp)) ?_
  refine GW.sr rfl rfl ?_
  refine GL.o rfl (S1.asB rfl) ?_
  refine GL.dn rfl ?_
  refine GW.sr rfl rfl ?_
  refine GL.o rfl (S1.mvI rfl) ?_
  refine GL.call rfl .no fo86 .nil (fun h H => ct86) (.d (.c (v := (.int _ _)) rfl .n)) (fun r1 _ => ?_)
  refine GL.o rfl (S1.mvB rfl) ?_
  refine GL.split 7 rfl (fun w2 => ?_) (fun w2 => ?_)
  refine GL.one rfl (.yes rfl rfl rfl) (S1.mvI rfl) ?_
  refine GL.call rfl (.yes rfl rfl rfl) fo86 .nil (fun h H => ct86) (.d (.c (v := (.int _ _)) rfl .n)) (fun r3 _ => ?_)
  refine GL.one rfl (.yes rfl rfl rfl) (S1.not rfl) ?_
  refine GL.o rfl (S1.pickT (v := (.bool _)) rfl rfl) ?_
  refine GL.o rfl (S1.mvB rfl) ?_
  refine GL.split 12 rfl (fun w4 => ?_) (fun w4 => ?_)
  refine GL.skip rfl (.not rfl rfl rfl) ?_
  refine GL.skip rfl (.not rfl rfl rfl) ?_
  refine GL.skip rfl (.not rfl rfl rfl) ?_
  refine GL.o rfl (S1.pickT (v := (.bool _)) rfl rfl) ?_
  refine GL.o rfl (S1.asB rfl) ?_
  refine GL.dn rfl ?_
  refine GW.toRet rfl ?_
  refine GQ.ret _ (.tmp (v := (.bool _)) rfl rfl .nil) .one rfl ?_ .nil
  exact trivial
  refine GL.one rfl (.yes rfl rfl rfl) (S1.mvI rfl) ?_
  refine GL.one rfl (.yes rfl rfl rfl) (S1.mvI rfl) ?_
  refine GL.one rfl (.yes rfl rfl rfl) (S1.lss rfl rfl) ?_
  refine GL.o rfl (S1.pickF (v := (.bool _)) rfl rfl) ?_
  refine GL.o rfl (S1.asB rfl) ?_
  refine GL.dn rfl ?_
  refine GW.toRet rfl ?_
  refine GQ.ret _ (.tmp (v := (.bool _)) rfl rfl .nil) .one rfl ?_ .nil
  exact trivial
  refine GL.skip rfl (.not rfl rfl rfl) ?_
  refine GL.skip rfl (.not rfl rfl rfl) ?_
  refine GL.skip rfl (.not rfl rfl rfl) ?_
  refine GL.o rfl (S1.pickF (v := (.bool _)) rfl rfl) ?_
  refine GL.o rfl (S1.mvB rfl) ?_
  refine GL.one rfl (.yes rfl rfl rfl) (S1.mvI rfl) ?_
  refine GL.one rfl (.yes rfl rfl rfl) (S1.mvI rfl) ?_
  refine GL.one rfl (.yes rfl rfl rfl) (S1.lss rfl rfl) ?_
  refine GL.o rfl (S1.pickF (v := (.bool _)) rfl rfl) ?_
  refine GL.o rfl (S1.asB rfl) ?_
  refine GL.dn rfl ?_
  refine GW.toRet rfl ?_
  refine GQ.ret _ (.tmp (v := (.bool _)) rfl rfl .nil) .one rfl ?_ .nil
  exact trivial

section
variable {h : EH} {hr : RO} {rb m c : Nat} {opn : Option Nat} {l : List Int} {a b : Int}

theorem ct69 (H : Hp hr h [rb] [(rb, .cells (ints l) opn true)] h) (hm : m ≤ l.length) (hm2 : l.length ≤ 1073741824) (ha : 0 ≤ a) (hb : b ≤ m) (hab : a ≤ b) : Ct Try.prog 69 ⟨[.slice (some ⟨rb, 0, none⟩) m c, .int .i64 a, .int .i64 b]⟩ h [rb] (fun _ : List Int => .tuple #[]) (fun l' => Sw l l') (fun l' => [(rb, .cells (ints l') opn true)]) := by
  refine Ct.go Try.func69 rfl rfl co69 H ?_
  refine GW.sr rfl rfl ?_
  refine GL.o rfl (S1.mvI rfl) ?_
  refine GL.o rfl (S1.addI rfl rfl (by omega) (by omega)) ?_
  refine GL.o rfl (S1.asI rfl) ?_
  refine GL.dn rfl ?_
  refine GW.toBlock rfl ?_
  refine GW.toLoop (X := Int × List Int) (fun x => [(0, .slice (some ⟨rb, 0, none⟩) m c), (1, .int .i64 a), (2, .int .i64 b), (6, .int .i64 x.1)]) (fun x => [(rb, .cells (ints x.2) opn true)]) (fun x => a + 1 ≤ x.1 ∧ Sw l x.2) (fun x => (b - x.1).toNat) rfl (a + 1, l) ⟨(by first | omega | (dsimp only; omega)), Sw.refl l⟩ (.c rfl (.c rfl (.c rfl (.c rfl .n)))) .tz ?_
  rintro x f ⟨hx, s⟩
  have hs := s.1
  refine GW.toSeq rfl ?_
  refine GW.sr rfl rfl ?_
  refine GL.o rfl (S1.mvI rfl) ?_
  refine GL.o rfl (S1.mvI rfl) ?_
  refine GL.o rfl (S1.lss rfl rfl) ?_
  refine GL.dn rfl ?_
  refine GW.toD rfl rfl (fun w1 => ?_) (fun w1 => ?_)
  refine GW.toSkip rfl ?_
  refine GQ.on ?_
  refine GW.toSeq rfl ?_
  refine GW.toBlock rfl ?_
  refine GW.sr rfl rfl ?_
  refine GL.o rfl (S1.mvI rfl) ?_
  refine GL.o rfl (S1.asI rfl) ?_
  refine GL.dn rfl ?_
  refine GW.toBlock rfl ?_
  rotate_left
  refine GW.toExit rfl ?_
  refine GQ.onE ?_
  refine GQ.onE ?_
  refine GQ.outH ?_
  refine GQ.retN _ .nil .z rfl ?_ .tz
  assumption
  refine GW.toLoop (X := Int × List Int) (fun y => [(0, .slice (some ⟨rb, 0, none⟩) m c), (1, .int .i64 a), (2, .int .i64 b), (6, .int .i64 x.1), (7, .int .i64 y.1)]) (fun y => [(rb, .cells (ints y.2) opn true)]) (fun y => a ≤ y.1 ∧ y.1 ≤ x.1 ∧ Sw l y.2) (fun y => (y.1 - a).toNat) rfl (x.1, x.2) ⟨(by first | omega | (dsimp only; omega)), (by first | omega | (dsimp only; omega)), s⟩ (.c rfl (.c rfl (.c rfl (.c rfl (.c rfl .n))))) .tz ?_
  rintro y f ⟨hy0, hy1, s⟩
  have hs := s.1
  refine GW.toSeq rfl ?_
  refine GW.toSeq rfl ?_
  refine GW.toDrw mx rfl ?_
  refine GD.o rfl (S1.mvI rfl) rfl ?_
  refine GD.o rfl (S1.mvI rfl) rfl ?_
  refine GD.o rfl (S1.gtr rfl rfl) rfl ?_
  refine GD.o rfl (S1.mvB rfl) rfl ?_
  refine GD.splitD 19 rfl (fun w2 => ?_) (fun w2 => ?_)
  refine GD.one rfl (.yes rfl rfl rfl) (S1.mvL rfl) rfl ?_
  refine GD.one rfl (.yes rfl rfl rfl) (S1.mvI rfl) rfl ?_
  refine GD.one rfl (.yes rfl rfl rfl) (S1.ix el23 rfl rfl (by omega) (by omega)) rfl ?_
  refine GD.one rfl (.yes rfl rfl rfl) (S1.ldI sc3 rfl (.at .z) (by omega)) rfl ?_
  refine GD.one rfl (.yes rfl rfl rfl) (S1.mvL rfl) rfl ?_
  refine GD.one rfl (.yes rfl rfl rfl) (S1.mvI rfl) rfl ?_
  refine GD.one rfl (.yes rfl rfl rfl) (S1.subI rfl rfl (by omega) (by omega)) rfl ?_
  refine GD.one rfl (.yes rfl rfl rfl) (S1.ix el23 rfl rfl (by omega) (by omega)) rfl ?_
  refine GD.one rfl (.yes rfl rfl rfl) (S1.ldI sc3 rfl (.at .z) (by omega)) rfl ?_
  refine GD.call rfl (.yes rfl rfl rfl) fo75 .nil (fun h H => ct75) (.d (.c (v := (.int _ _)) rfl (.c (v := (.int _ _)) rfl .n))) (fun r3 _ => ?_)
  refine GD.o rfl (S1.pickT (v := (.bool _)) rfl rfl) rfl ?_
  refine GD.done rfl ?_
  refine GQ.on ?_
  refine GW.toC rfl rfl (fun w4 => ?_) (fun w4 => ?_)
  refine GW.toSkip rfl ?_
  refine GQ.on ?_
  refine GW.toSeq rfl ?_
  refine GW.toBlock rfl ?_
  refine GW.toDrw mx rfl ?_
  refine GD.o rfl (S1.mvL rfl) rfl ?_
  refine GD.o rfl (S1.mvI rfl) rfl ?_
  refine GD.o rfl (S1.mvL rfl) rfl ?_
  refine GD.o rfl (S1.mvI rfl) rfl ?_
  refine GD.o rfl (S1.subI rfl rfl (by omega) (by omega)) rfl ?_
  refine GD.o rfl (S1.mvL rfl) rfl ?_
  refine GD.o rfl (S1.mvI rfl) rfl ?_
  refine GD.o rfl (S1.subI rfl rfl (by omega) (by omega)) rfl ?_
  refine GD.o rfl (S1.ix el23 rfl rfl (by omega) (by omega)) rfl ?_
  refine GD.o rfl (S1.ldI sc3 rfl (.at .z) (by omega)) rfl ?_
  refine GD.o rfl (S1.mvL rfl) rfl ?_
  refine GD.o rfl (S1.mvI rfl) rfl ?_
  refine GD.o rfl (S1.ix el23 rfl rfl (by omega) (by omega)) rfl ?_
  refine GD.o rfl (S1.ldI sc3 rfl (.at .z) (by omega)) rfl ?_
  refine GD.o rfl (S1.ix el23 rfl rfl (by omega) (by omega)) rfl ?_
  refine GD.loud rfl .no (S1.stI sc3 rfl rfl (by omega) .z) rfl rfl (by kernel_rfl) ?_
  refine GD.o rfl (S1.ix el23 rfl rfl (by omega) (by omega)) rfl ?_
  refine GD.loud rfl .no (S1.stI sc3 rfl rfl (by simp only [List.length_set]; omega) .z) rfl rfl (by kernel_rfl) ?_
  refine GD.done rfl ?_
  refine GQ.outN ?_
  refine GQ.on ?_
  refine GW.toReg rfl ?_
  refine GL.o rfl (S1.mvI rfl) ?_
  refine GL.o rfl (S1.subI rfl rfl (by omega) (by omega)) ?_
  refine GL.o rfl (S1.asI rfl) ?_
  refine GL.done rfl ?_
  refine GQ.nextT (y.1 - 1, _) (.c rfl (.c rfl (.c rfl (.c rfl (.c rfl .n))))) .tz ⟨(by first | omega | (dsimp only; omega)), (by first | omega | (dsimp only; omega)), s.sw (by omega) (by omega)⟩ (by first | omega | (dsimp only; omega))
  refine GW.toExit rfl ?_
  refine GQ.onE ?_
  refine GQ.onE ?_
  refine GQ.outH ?_
  refine GQ.outN ?_
  refine GQ.on ?_
  refine GW.toReg rfl ?_
  refine GL.o rfl (S1.mvI rfl) ?_
  refine GL.o rfl (S1.addI rfl rfl (by omega) (by omega)) ?_
  refine GL.o rfl (S1.asI rfl) ?_
  refine GL.done rfl ?_
  refine GQ.nextT (x.1 + 1, y.2) (.c rfl (.c rfl (.c rfl (.c rfl .n)))) (.cons .z .nil) ⟨(by first | omega | (dsimp only; omega)), s⟩ (by first | omega | (dsimp only; omega))
  refine GD.skip rfl (.not rfl rfl rfl) ?_
  refine GD.skip rfl (.not rfl rfl rfl) ?_
  refine GD.skip rfl (.not rfl rfl rfl) ?_
  refine GD.skip rfl (.not rfl rfl rfl) ?_
  refine GD.skip rfl (.not rfl rfl rfl) ?_
  refine GD.skip rfl (.not rfl rfl rfl) ?_
  refine GD.skip rfl (.not rfl rfl rfl) ?_
  refine GD.skip rfl (.not rfl rfl rfl) ?_
  refine GD.skip rfl (.not rfl rfl rfl) ?_
  refine GD.skip rfl (.not rfl rfl rfl) ?_
  refine GD.o rfl (S1.pickF (v := (.bool _)) rfl rfl) rfl ?_
  refine GD.done rfl ?_
  refine GQ.on ?_
  refine GW.toF rfl rfl ?_
  refine GW.toExit rfl ?_
  refine GQ.onE ?_
  refine GQ.onE ?_
  refine GQ.outH ?_
  refine GQ.outN ?_
  refine GQ.on ?_
  refine GW.toReg rfl ?_
  refine GL.o rfl (S1.mvI rfl) ?_
  refine GL.o rfl (S1.addI rfl rfl (by omega) (by omega)) ?_
  refine GL.o rfl (S1.asI rfl) ?_
  refine GL.done rfl ?_
  refine GQ.nextT (x.1 + 1, y.2) (.c rfl (.c rfl (.c rfl (.c rfl .n)))) .tz ⟨(by first | omega | (dsimp only; omega)), s⟩ (by first | omega | (dsimp only; omega))

theorem ct81 {lo hi first : Int} (H : Hp hr h [rb] [(rb, .cells (ints l) opn true)] h) (hm : m ≤ l.length) (hm2 : l.length ≤ 1073741824) (h0 : 0 ≤ lo) (h1 : lo ≤ 1073741824) (h2 : 0 ≤ first) (h3 : first + hi ≤ m) : Ct Try.prog 81 ⟨[.slice (some ⟨rb, 0, none⟩) m c, .int .i64 lo, .int .i64 hi, .int .i64 first]⟩ h [rb] (fun _ : List Int => .tuple #[]) (fun l' => Sw l l') (fun l' => [(rb, .cells (ints l') opn true)]) := by
  refine Ct.go Try.func81 rfl rfl co81 H ?_
  refine GW.sr rfl rfl ?_
  refine GL.o rfl (S1.mvI rfl) ?_
  refine GL.o rfl (S1.asI rfl) ?_
  refine GL.dn rfl ?_
  refine GW.toBlock rfl ?_
  refine GW.toLoop (X := Int × List Int) (fun x => [(0, .slice (some ⟨rb, 0, none⟩) m c), (2, .int .i64 hi), (3, .int .i64 first), (8, .int .i64 x.1)]) (fun x => [(rb, .cells (ints x.2) opn true)]) (fun x => 0 ≤ x.1 ∧ (x.1 ≤ 1073741824) ∧ Sw l x.2) (fun x => (hi - x.1).toNat) rfl (lo, l) ⟨h0, h1, Sw.refl l⟩ (.c rfl (.c rfl (.c rfl (.c rfl .n)))) .tz ?_
  rintro x f ⟨hx0, hx1, s⟩
  have hs := s.1
  refine GW.toBlock rfl ?_
  refine GW.sr rfl rfl ?_
  refine GL.o rfl (S1.mvI rfl) ?_
  refine GL.o rfl (S1.mulI rfl rfl (by omega) (by omega)) ?_
  refine GL.o rfl (S1.addI rfl rfl (by omega) (by omega)) ?_
  refine GL.o rfl (S1.asI rfl) ?_
  refine GL.dn rfl ?_
  refine GW.toSeq rfl ?_
  refine GW.sr rfl rfl ?_
  refine GL.o rfl (S1.mvI rfl) ?_
  refine GL.o rfl (S1.mvI rfl) ?_
  refine GL.o rfl (S1.geq rfl rfl) ?_
  refine GL.dn rfl ?_
  refine GW.toD rfl rfl (fun w1 => ?_) (fun w1 => ?_)
  refine GW.toExit rfl ?_
  refine GQ.onE ?_
  refine GQ.outM rfl ?_
  refine GQ.onE ?_
  refine GQ.outH ?_
  refine GQ.retN _ .nil .z rfl ?_ .tz
  assumption
  refine GW.toSkip rfl ?_
  refine GQ.on ?_
  refine GW.toSeq rfl ?_
  refine GW.toSeq rfl ?_
  refine GW.toDrw mx rfl ?_
  refine GD.o rfl (S1.mvI rfl) rfl ?_
  refine GD.o rfl (S1.addI rfl rfl (by omega) (by omega)) rfl ?_
  refine GD.o rfl (S1.mvI rfl) rfl ?_
  refine GD.o rfl (S1.lss rfl rfl) rfl ?_
  refine GD.o rfl (S1.mvB rfl) rfl ?_
  refine GD.splitD 21 rfl (fun w2 => ?_) (fun w2 => ?_)
  refine GD.one rfl (.yes rfl rfl rfl) (S1.mvL rfl) rfl ?_
  refine GD.one rfl (.yes rfl rfl rfl) (S1.mvI rfl) rfl ?_
  refine GD.one rfl (.yes rfl rfl rfl) (S1.mvI rfl) rfl ?_
  refine GD.one rfl (.yes rfl rfl rfl) (S1.addI rfl rfl (by omega) (by omega)) rfl ?_
  refine GD.one rfl (.yes rfl rfl rfl) (S1.ix el23 rfl rfl (by omega) (by omega)) rfl ?_
  refine GD.one rfl (.yes rfl rfl rfl) (S1.ldI sc3 rfl (.at .z) (by omega)) rfl ?_
  refine GD.one rfl (.yes rfl rfl rfl) (S1.mvL rfl) rfl ?_
  refine GD.one rfl (.yes rfl rfl rfl) (S1.mvI rfl) rfl ?_
  refine GD.one rfl (.yes rfl rfl rfl) (S1.mvI rfl) rfl ?_
  refine GD.one rfl (.yes rfl rfl rfl) (S1.addI rfl rfl (by omega) (by omega)) rfl ?_
  refine GD.one rfl (.yes rfl rfl rfl) (S1.addI rfl rfl (by omega) (by omega)) rfl ?_
  refine GD.one rfl (.yes rfl rfl rfl) (S1.ix el23 rfl rfl (by omega) (by omega)) rfl ?_
  refine GD.one rfl (.yes rfl rfl rfl) (S1.ldI sc3 rfl (.at .z) (by omega)) rfl ?_
  refine GD.call rfl (.yes rfl rfl rfl) fo75 .nil (fun h H => ct75) (.d (.c (v := (.int _ _)) rfl (.c (v := (.int _ _)) rfl .n))) (fun r3 _ => ?_)
  refine GD.o rfl (S1.pickT (v := (.bool _)) rfl rfl) rfl ?_
  refine GD.done rfl ?_
  refine GQ.on ?_
  refine GW.toC rfl rfl (fun w4 => ?_) (fun w4 => ?_)
  refine GW.toReg rfl ?_
  refine GL.o rfl (S1.mvI rfl) ?_
  refine GL.o rfl (S1.addI rfl rfl (by omega) (by omega)) ?_
  refine GL.o rfl (S1.asI rfl) ?_
  refine GL.dn rfl ?_
  refine GW.toSeq rfl ?_
  refine GW.toSeq rfl ?_
  refine GW.toDrw mx rfl ?_
  refine GD.o rfl (S1.mvL rfl) rfl ?_
  refine GD.o rfl (S1.mvI rfl) rfl ?_
  refine GD.o rfl (S1.mvI rfl) rfl ?_
  refine GD.o rfl (S1.addI rfl rfl (by omega) (by omega)) rfl ?_
  refine GD.o rfl (S1.ix el23 rfl rfl (by omega) (by omega)) rfl ?_
  refine GD.o rfl (S1.ldI sc3 rfl (.at .z) (by omega)) rfl ?_
  refine GD.o rfl (S1.mvL rfl) rfl ?_
  refine GD.o rfl (S1.mvI rfl) rfl ?_
  refine GD.o rfl (S1.mvI rfl) rfl ?_
  refine GD.o rfl (S1.addI rfl rfl (by omega) (by omega)) rfl ?_
  refine GD.o rfl (S1.ix el23 rfl rfl (by omega) (by omega)) rfl ?_
  refine GD.o rfl (S1.ldI sc3 rfl (.at .z) (by omega)) rfl ?_
  refine GD.call rfl .no fo75 .nil (fun h H => ct75) (.d (.c (v := (.int _ _)) rfl (.c (v := (.int _ _)) rfl .n))) (fun r5 _ => ?_)
  refine GD.o rfl (S1.not rfl) rfl ?_
  refine GD.done rfl ?_
  refine GQ.on ?_
  refine GW.toC rfl rfl (fun w6 => ?_) (fun w6 => ?_)
  refine GW.toRet rfl ?_
  refine GQ.onR ?_
  refine GQ.outR ?_
  refine GQ.onR ?_
  refine GQ.outR ?_
  refine GQ.ret _ .nil .z rfl ?_ (.cons .z .nil)
  assumption
  refine GW.toSkip rfl ?_
  refine GQ.on ?_
  refine GW.toSeq rfl ?_
  refine GW.toDrw mx rfl ?_
  refine GD.o rfl (S1.mvL rfl) rfl ?_
  refine GD.o rfl (S1.mvI rfl) rfl ?_
  refine GD.o rfl (S1.mvI rfl) rfl ?_
  refine GD.o rfl (S1.addI rfl rfl (by omega) (by omega)) rfl ?_
  refine GD.o rfl (S1.mvL rfl) rfl ?_
  refine GD.o rfl (S1.mvI rfl) rfl ?_
  refine GD.o rfl (S1.mvI rfl) rfl ?_
  refine GD.o rfl (S1.addI rfl rfl (by omega) (by omega)) rfl ?_
  refine GD.o rfl (S1.mvL rfl) rfl ?_
  refine GD.o rfl (S1.mvI rfl) rfl ?_
  refine GD.o rfl (S1.mvI rfl) rfl ?_
  refine GD.o rfl (S1.addI rfl rfl (by omega) (by omega)) rfl ?_
  refine GD.o rfl (S1.ix el23 rfl rfl (by omega) (by omega)) rfl ?_
  refine GD.o rfl (S1.ldI sc3 rfl (.at .z) (by omega)) rfl ?_
  refine GD.o rfl (S1.mvL rfl) rfl ?_
  refine GD.o rfl (S1.mvI rfl) rfl ?_
  refine GD.o rfl (S1.mvI rfl) rfl ?_
  refine GD.o rfl (S1.addI rfl rfl (by omega) (by omega)) rfl ?_
  refine GD.o rfl (S1.ix el23 rfl rfl (by omega) (by omega)) rfl ?_
  refine GD.o rfl (S1.ldI sc3 rfl (.at .z) (by omega)) rfl ?_
  refine GD.o rfl (S1.ix el23 rfl rfl (by omega) (by omega)) rfl ?_
  refine GD.loud rfl .no (S1.stI sc3 rfl rfl (by omega) .z) rfl rfl (by kernel_rfl) ?_
  refine GD.o rfl (S1.ix el23 rfl rfl (by omega) (by omega)) rfl ?_
  refine GD.loud rfl .no (S1.stI sc3 rfl rfl (by simp only [List.length_set]; omega) .z) rfl rfl (by kernel_rfl) ?_
  refine GD.done rfl ?_
  refine GQ.on ?_
  refine GW.toReg rfl ?_
  refine GL.o rfl (S1.mvI rfl) ?_
  refine GL.o rfl (S1.asI rfl) ?_
  refine GL.done rfl ?_
  refine GQ.outN ?_
  refine GQ.nextT (2 * x.1 + 1 + 1, _) (.c rfl (.c rfl (.c rfl (.c rfl .n)))) .tz ⟨(by first | omega | (dsimp only; omega)), (by first | omega | (dsimp only; omega)), s.sw (by omega) (by omega)⟩ (by first | omega | (dsimp only; omega))
  refine GW.toSkip rfl ?_
  refine GQ.on ?_
  refine GW.toSeq rfl ?_
  refine GW.toSeq rfl ?_
  refine GW.toDrw mx rfl ?_
  refine GD.o rfl (S1.mvL rfl) rfl ?_
  refine GD.o rfl (S1.mvI rfl) rfl ?_
  refine GD.o rfl (S1.mvI rfl) rfl ?_
  refine GD.o rfl (S1.addI rfl rfl (by omega) (by omega)) rfl ?_
  refine GD.o rfl (S1.ix el23 rfl rfl (by omega) (by omega)) rfl ?_
  refine GD.o rfl (S1.ldI sc3 rfl (.at .z) (by omega)) rfl ?_
  refine GD.o rfl (S1.mvL rfl) rfl ?_
  refine GD.o rfl (S1.mvI rfl) rfl ?_
  refine GD.o rfl (S1.mvI rfl) rfl ?_
  refine GD.o rfl (S1.addI rfl rfl (by omega) (by omega)) rfl ?_
  refine GD.o rfl (S1.ix el23 rfl rfl (by omega) (by omega)) rfl ?_
  refine GD.o rfl (S1.ldI sc3 rfl (.at .z) (by omega)) rfl ?_
  refine GD.call rfl .no fo75 .nil (fun h H => ct75) (.d (.c (v := (.int _ _)) rfl (.c (v := (.int _ _)) rfl .n))) (fun r7 _ => ?_)
  refine GD.o rfl (S1.not rfl) rfl ?_
  refine GD.done rfl ?_
  refine GQ.on ?_
  refine GW.toC rfl rfl (fun w8 => ?_) (fun w8 => ?_)
  refine GW.toRet rfl ?_
  refine GQ.onR ?_
  refine GQ.outR ?_
  refine GQ.onR ?_
  refine GQ.outR ?_
  refine GQ.ret _ .nil .z rfl ?_ (.cons .z .nil)
  assumption
  refine GW.toSkip rfl ?_
  refine GQ.on ?_
  refine GW.toSeq rfl ?_
  refine GW.toDrw mx rfl ?_
  refine GD.o rfl (S1.mvL rfl) rfl ?_
  refine GD.o rfl (S1.mvI rfl) rfl ?_
  refine GD.o rfl (S1.mvI rfl) rfl ?_
  refine GD.o rfl (S1.addI rfl rfl (by omega) (by omega)) rfl ?_
  refine GD.o rfl (S1.mvL rfl) rfl ?_
  refine GD.o rfl (S1.mvI rfl) rfl ?_
  refine GD.o rfl (S1.mvI rfl) rfl ?_
  refine GD.o rfl (S1.addI rfl rfl (by omega) (by omega)) rfl ?_
  refine GD.o rfl (S1.mvL rfl) rfl ?_
  refine GD.o rfl (S1.mvI rfl) rfl ?_
  refine GD.o rfl (S1.mvI rfl) rfl ?_
  refine GD.o rfl (S1.addI rfl rfl (by omega) (by omega)) rfl ?_
  refine GD.o rfl (S1.ix el23 rfl rfl (by omega) (by omega)) rfl ?_
  refine GD.o rfl (S1.ldI sc3 rfl (.at .z) (by omega)) rfl ?_
  refine GD.o rfl (S1.mvL rfl) rfl ?_
  refine GD.o rfl (S1.mvI rfl) rfl ?_
  refine GD.o rfl (S1.mvI rfl) rfl ?_
  refine GD.o rfl (S1.addI rfl rfl (by omega) (by omega)) rfl ?_
  refine GD.o rfl (S1.ix el23 rfl rfl (by omega) (by omega)) rfl ?_
  refine GD.o rfl (S1.ldI sc3 rfl (.at .z) (by omega)) rfl ?_
  refine GD.o rfl (S1.ix el23 rfl rfl (by omega) (by omega)) rfl ?_
  refine GD.loud rfl .no (S1.stI sc3 rfl rfl (by omega) .z) rfl rfl (by kernel_rfl) ?_
  refine GD.o rfl (S1.ix el23 rfl rfl (by omega) (by omega)) rfl ?_
  refine GD.loud rfl .no (S1.stI sc3 rfl rfl (by simp only [List.length_set]; omega) .z) rfl rfl (by kernel_rfl) ?_
  refine GD.done rfl ?_
  refine GQ.on ?_
  refine GW.toReg rfl ?_
  refine GL.o rfl (S1.mvI rfl) ?_
  refine GL.o rfl (S1.asI rfl) ?_
  refine GL.done rfl ?_
  refine GQ.outN ?_
  refine GQ.nextT (2 * x.1 + 1, _) (.c rfl (.c rfl (.c rfl (.c rfl .n)))) .tz ⟨(by first | omega | (dsimp only; omega)), (by first | omega | (dsimp only; omega)), s.sw (by omega) (by omega)⟩ (by first | omega | (dsimp only; omega))
  refine GD.skip rfl (.not rfl rfl rfl) ?_
  refine GD.skip rfl (.not rfl rfl rfl) ?_
  refine GD.skip rfl (.not rfl rfl rfl) ?_
  refine GD.skip rfl (.not rfl rfl rfl) ?_
  refine GD.skip rfl (.not rfl rfl rfl) ?_
  refine GD.skip rfl (.not rfl rfl rfl) ?_
  refine GD.skip rfl (.not rfl rfl rfl) ?_
  refine GD.skip rfl (.not rfl rfl rfl) ?_
  refine GD.skip rfl (.not rfl rfl rfl) ?_
  refine GD.skip rfl (.not rfl rfl rfl) ?_
  refine GD.skip rfl (.not rfl rfl rfl) ?_
  refine GD.skip rfl (.not rfl rfl rfl) ?_
  refine GD.skip rfl (.not rfl rfl rfl) ?_
  refine GD.skip rfl (.not rfl rfl rfl) ?_
  refine GD.o rfl (S1.pickF (v := (.bool _)) rfl rfl) rfl ?_
  refine GD.done rfl ?_
  refine GQ.on ?_
  refine GW.toF rfl rfl ?_
  refine GW.toSkip rfl ?_
  refine GQ.on ?_
  refine GW.toSeq rfl ?_
  refine GW.toSeq rfl ?_
  refine GW.toDrw mx rfl ?_
  refine GD.o rfl (S1.mvL rfl) rfl ?_
  refine GD.o rfl (S1.mvI rfl) rfl ?_
  refine GD.o rfl (S1.mvI rfl) rfl ?_
  refine GD.o rfl (S1.addI rfl rfl (by omega) (by omega)) rfl ?_
  refine GD.o rfl (S1.ix el23 rfl rfl (by omega) (by omega)) rfl ?_
  refine GD.o rfl (S1.ldI sc3 rfl (.at .z) (by omega)) rfl ?_
  refine GD.o rfl (S1.mvL rfl) rfl ?_
  refine GD.o rfl (S1.mvI rfl) rfl ?_
  refine GD.o rfl (S1.mvI rfl) rfl ?_
  refine GD.o rfl (S1.addI rfl rfl (by omega) (by omega)) rfl ?_
  refine GD.o rfl (S1.ix el23 rfl rfl (by omega) (by omega)) rfl ?_
  refine GD.o rfl (S1.ldI sc3 rfl (.at .z) (by omega)) rfl ?_
  refine GD.call rfl .no fo75 .nil (fun h H => ct75) (.d (.c (v := (.int _ _)) rfl (.c (v := (.int _ _)) rfl .n))) (fun r9 _ => ?_)
  refine GD.o rfl (S1.not rfl) rfl ?_
  refine GD.done rfl ?_
  refine GQ.on ?_
  refine GW.toC rfl rfl (fun w10 => ?_) (fun w10 => ?_)
  refine GW.toRet rfl ?_
  refine GQ.onR ?_
  refine GQ.outR ?_
  refine GQ.onR ?_
  refine GQ.outR ?_
  refine GQ.ret _ .nil .z rfl ?_ (.cons .z .nil)
  assumption
  refine GW.toSkip rfl ?_
  refine GQ.on ?_
  refine GW.toSeq rfl ?_
  refine GW.toDrw mx rfl ?_
  refine GD.o rfl (S1.mvL rfl) rfl ?_
  refine GD.o rfl (S1.mvI rfl) rfl ?_
  refine GD.o rfl (S1.mvI rfl) rfl ?_
  refine GD.o rfl (S1.addI rfl rfl (by omega) (by omega)) rfl ?_
  refine GD.o rfl (S1.mvL rfl) rfl ?_
  refine GD.o rfl (S1.mvI rfl) rfl ?_
  refine GD.o rfl (S1.mvI rfl) rfl ?_
  refine GD.o rfl (S1.addI rfl rfl (by omega) (by omega)) rfl ?_
  refine GD.o rfl (S1.mvL rfl) rfl ?_
  refine GD.o rfl (S1.mvI rfl) rfl ?_
  refine GD.o rfl (S1.mvI rfl) rfl ?_
  refine GD.o rfl (S1.addI rfl rfl (by omega) (by omega)) rfl ?_
  refine GD.o rfl (S1.ix el23 rfl rfl (by omega) (by omega)) rfl ?_
  refine GD.o rfl (S1.ldI sc3 rfl (.at .z) (by omega)) rfl ?_
  refine GD.o rfl (S1.mvL rfl) rfl ?_
  refine GD.o rfl (S1.mvI rfl) rfl ?_
  refine GD.o rfl (S1.mvI rfl) rfl ?_
  refine GD.o rfl (S1.addI rfl rfl (by omega) (by omega)) rfl ?_
  refine GD.o rfl (S1.ix el23 rfl rfl (by omega) (by omega)) rfl ?_
  refine GD.o rfl (S1.ldI sc3 rfl (.at .z) (by omega)) rfl ?_
  refine GD.o rfl (S1.ix el23 rfl rfl (by omega) (by omega)) rfl ?_
  refine GD.loud rfl .no (S1.stI sc3 rfl rfl (by omega) .z) rfl rfl (by kernel_rfl) ?_
  refine GD.o rfl (S1.ix el23 rfl rfl (by omega) (by omega)) rfl ?_
  refine GD.loud rfl .no (S1.stI sc3 rfl rfl (by simp only [List.length_set]; omega) .z) rfl rfl (by kernel_rfl) ?_
  refine GD.done rfl ?_
  refine GQ.on ?_
  refine GW.toReg rfl ?_
  refine GL.o rfl (S1.mvI rfl) ?_
  refine GL.o rfl (S1.asI rfl) ?_
  refine GL.done rfl ?_
  refine GQ.outN ?_
  refine GQ.nextT (2 * x.1 + 1, _) (.c rfl (.c rfl (.c rfl (.c rfl .n)))) .tz ⟨(by first | omega | (dsimp only; omega)), (by first | omega | (dsimp only; omega)), s.sw (by omega) (by omega)⟩ (by first | omega | (dsimp only; omega))

theorem ct70 (H : Hp hr h [rb] [(rb, .cells (ints l) opn true)] h) (hm : m ≤ l.length) (hm2 : l.length ≤ 1073741824) (ha : 0 ≤ a) (hb : b ≤ m) (hab : a < b) : Ct Try.prog 70 ⟨[.slice (some ⟨rb, 0, none⟩) m c, .int .i64 a, .int .i64 b]⟩ h [rb] (fun _ : List Int => .tuple #[]) (fun l' => Sw l l') (fun l' => [(rb, .cells (ints l') opn true)]) := by
  refine Ct.go Try.func70 rfl rfl co70 H ?_
  refine GW.sr rfl rfl ?_
  refine GL.o rfl (S1.mvI rfl) ?_
  refine GL.o rfl (S1.asI rfl) ?_
  refine GL.dn rfl ?_
  refine GW.sr rfl rfl ?_
  refine GL.o rfl (S1.asI rfl) ?_
  refine GL.dn rfl ?_
  refine GW.sr rfl rfl ?_
  refine GL.o rfl (S1.mvI rfl) ?_
  refine GL.o rfl (S1.mvI rfl) ?_
  refine GL.o rfl (S1.subI rfl rfl (by omega) (by omega)) ?_
  refine GL.o rfl (S1.asI rfl) ?_
  refine GL.dn rfl ?_
  refine GW.toSeq rfl ?_
  refine GW.sr rfl rfl ?_
  refine GL.o rfl (S1.mvI rfl) ?_
  refine GL.o rfl (S1.subI rfl rfl (by omega) (by omega)) ?_
  refine GL.o rfl (S1.quoI rfl rfl (by omega) (by omega) (by omega)) ?_
  refine GL.o rfl (S1.asI rfl) ?_
  refine GL.dn rfl ?_
  refine GW.toBlock rfl ?_
  refine GW.toLoop (X := Int × List Int) (fun x => [(0, .slice (some ⟨rb, 0, none⟩) m c), (6, .int .i64 a), (7, .int .i64 0), (8, .int .i64 (b - a)), (9, .int .i64 x.1)]) (fun x => [(rb, .cells (ints x.2) opn true)]) (fun x => -1 ≤ x.1 ∧ x.1 ≤ b - a ∧ Sw l x.2) (fun x => (x.1 + 1).toNat) rfl ((b - a - 1) / 2, l) ⟨(by first | omega | (dsimp only; omega)), (by first | omega | (dsimp only; omega)), Sw.refl l⟩ (.c rfl (.c rfl (.c rfl (.c rfl (.c rfl .n))))) .tz ?_
  rintro x f ⟨hx0, hx1, s⟩
  have hs := s.1
  refine GW.toSeq rfl ?_
  refine GW.sr rfl rfl ?_
  refine GL.o rfl (S1.mvI rfl) ?_
  refine GL.o rfl (S1.geq rfl rfl) ?_
  refine GL.dn rfl ?_
  refine GW.toD rfl rfl (fun w1 => ?_) (fun w1 => ?_)
  refine GW.toSkip rfl ?_
  refine GQ.on ?_
  refine GW.toSeq rfl ?_
  refine GW.toBlock rfl ?_
  refine GW.toReg rfl ?_
  refine GL.o rfl (S1.mvL rfl) ?_
  refine GL.o rfl (S1.mvI rfl) ?_
  refine GL.o rfl (S1.mvI rfl) ?_
  refine GL.o rfl (S1.mvI rfl) ?_
  refine GL.call rfl .no fo81 (show Take _ [(rb, _)] _ from .tz) (fun h H => ct81 (rb := rb) (H.give (show Take _ [(rb, _)] _ from .tz)) (by first | omega | (simp only [List.length_set]; omega)) (by first | omega | (simp only [List.length_set]; omega)) (by first | omega | (simp only [List.length_set]; omega)) (by first | omega | (simp only [List.length_set]; omega)) (by first | omega | (simp only [List.length_set]; omega)) (by first | omega | (simp only [List.length_set]; omega))) (.d (.c (v := (.slice _ _ _)) rfl (.c (v := (.int _ _)) rfl (.c (v := (.int _ _)) rfl (.c (v := (.int _ _)) rfl .n))))) (fun l108 s108 => ?_)
  refine GL.done rfl ?_
  refine GQ.outN ?_
  refine GQ.on ?_
  refine GW.toReg rfl ?_
  refine GL.o rfl (S1.mvI rfl) ?_
  refine GL.o rfl (S1.subI rfl rfl (by omega) (by omega)) ?_
  refine GL.o rfl (S1.asI rfl) ?_
  refine GL.done rfl ?_
  refine GQ.nextT (x.1 - 1, _) (.c rfl (.c rfl (.c rfl (.c rfl (.c rfl .n))))) (.cons .z .nil) ⟨(by first | omega | (dsimp only; omega)), (by first | omega | (dsimp only; omega)), s.trans s108⟩ (by first | omega | (dsimp only; omega))
  refine GW.toExit rfl ?_
  refine GQ.onE ?_
  refine GQ.onE ?_
  refine GQ.outH ?_
  refine GQ.on ?_
  refine GW.sr rfl rfl ?_
  refine GL.o rfl (S1.mvI rfl) ?_
  refine GL.o rfl (S1.subI rfl rfl (by omega) (by omega)) ?_
  refine GL.o rfl (S1.asI rfl) ?_
  refine GL.dn rfl ?_
  refine GW.toBlock rfl ?_
  refine GW.toLoop (X := Int × List Int) (fun y => [(0, .slice (some ⟨rb, 0, none⟩) m c), (6, .int .i64 a), (7, .int .i64 0), (10, .int .i64 y.1)]) (fun y => [(rb, .cells (ints y.2) opn true)]) (fun y => -1 ≤ y.1 ∧ y.1 ≤ b - a - 1 ∧ Sw l y.2) (fun y => (y.1 + 1).toNat) rfl (b - a - 1, x.2) ⟨(by first | omega | (dsimp only; omega)), (by first | omega | (dsimp only; omega)), s⟩ (.c rfl (.c rfl (.c rfl (.c rfl .n)))) .tz ?_
  rintro y f ⟨hy0, hy1, s⟩
  have hs := s.1
  refine GW.toSeq rfl ?_
  refine GW.sr rfl rfl ?_
  refine GL.o rfl (S1.mvI rfl) ?_
  refine GL.o rfl (S1.geq rfl rfl) ?_
  refine GL.dn rfl ?_
  refine GW.toD rfl rfl (fun w3 => ?_) (fun w3 => ?_)
  refine GW.toSkip rfl ?_
  refine GQ.on ?_
  refine GW.toSeq rfl ?_
  refine GW.toBlock rfl ?_
  refine GW.toSeq rfl ?_
  refine GW.toDrw mx rfl ?_
  refine GD.o rfl (S1.mvL rfl) rfl ?_
  refine GD.o rfl (S1.mvI rfl) rfl ?_
  refine GD.o rfl (S1.mvL rfl) rfl ?_
  refine GD.o rfl (S1.mvI rfl) rfl ?_
  refine GD.o rfl (S1.mvI rfl) rfl ?_
  refine GD.o rfl (S1.addI rfl rfl (by omega) (by omega)) rfl ?_
  refine GD.o rfl (S1.mvL rfl) rfl ?_
  refine GD.o rfl (S1.mvI rfl) rfl ?_
  refine GD.o rfl (S1.mvI rfl) rfl ?_
  refine GD.o rfl (S1.addI rfl rfl (by omega) (by omega)) rfl ?_
  refine GD.o rfl (S1.ix el23 rfl rfl (by omega) (by omega)) rfl ?_
  refine GD.o rfl (S1.ldI sc3 rfl (.at .z) (by omega)) rfl ?_
  refine GD.o rfl (S1.mvL rfl) rfl ?_
  refine GD.o rfl (S1.mvI rfl) rfl ?_
  refine GD.o rfl (S1.ix el23 rfl rfl (by omega) (by omega)) rfl ?_
  refine GD.o rfl (S1.ldI sc3 rfl (.at .z) (by omega)) rfl ?_
  refine GD.o rfl (S1.ix el23 rfl rfl (by omega) (by omega)) rfl ?_
  refine GD.loud rfl .no (S1.stI sc3 rfl rfl (by omega) .z) rfl rfl (by kernel_rfl) ?_
  refine GD.o rfl (S1.ix el23 rfl rfl (by omega) (by omega)) rfl ?_
  refine GD.loud rfl .no (S1.stI sc3 rfl rfl (by simp only [List.length_set]; omega) .z) rfl rfl (by kernel_rfl) ?_
  refine GD.done rfl ?_
  refine GQ.on ?_
  refine GW.toReg rfl ?_
  refine GL.o rfl (S1.mvL rfl) ?_
  refine GL.o rfl (S1.mvI rfl) ?_
  refine GL.o rfl (S1.mvI rfl) ?_
  refine GL.o rfl (S1.mvI rfl) ?_
  refine GL.call rfl .no fo81 (show Take _ [(rb, _)] _ from .tz) (fun h H => ct81 (rb := rb) (H.give (show Take _ [(rb, _)] _ from .tz)) (by first | omega | (simp only [List.length_set]; omega)) (by first | omega | (simp only [List.length_set]; omega)) (by first | omega | (simp only [List.length_set]; omega)) (by first | omega | (simp only [List.length_set]; omega)) (by first | omega | (simp only [List.length_set]; omega)) (by first | omega | (simp only [List.length_set]; omega))) (.d (.c (v := (.slice _ _ _)) rfl (.c (v := (.int _ _)) rfl (.c (v := (.int _ _)) rfl (.c (v := (.int _ _)) rfl .n))))) (fun l108 s108 => ?_)
  refine GL.done rfl ?_
  refine GQ.outN ?_
  refine GQ.on ?_
  refine GW.toReg rfl ?_
  refine GL.o rfl (S1.mvI rfl) ?_
  refine GL.o rfl (S1.subI rfl rfl (by omega) (by omega)) ?_
  refine GL.o rfl (S1.asI rfl) ?_
  refine GL.done rfl ?_
  refine GQ.nextT (y.1 - 1, _) (.c rfl (.c rfl (.c rfl (.c rfl .n)))) (.cons .z .nil) ⟨(by first | omega | (dsimp only; omega)), (by first | omega | (dsimp only; omega)), (s.sw (by omega) (by omega)).trans s108⟩ (by first | omega | (dsimp only; omega))
  refine GW.toExit rfl ?_
  refine GQ.onE ?_
  refine GQ.onE ?_
  refine GQ.outH ?_
  refine GQ.retN _ .nil .z rfl ?_ .tz
  assumption

theorem ct73 (H : Hp hr h [rb] [(rb, .cells (ints l) opn true)] h) (hm : m ≤ l.length) (hm2 : l.length ≤ 1073741824) (ha : 0 ≤ a) (hb : b ≤ m) (hab : a ≤ b) : Ct Try.prog 73 ⟨[.slice (some ⟨rb, 0, none⟩) m c, .int .i64 a, .int .i64 b]⟩ h [rb] (fun _ : List Int => .tuple #[]) (fun l' => Sw l l') (fun l' => [(rb, .cells (ints l') opn true)]) := by
  refine Ct.go Try.func73 rfl rfl co73 H ?_
  refine GW.sr rfl rfl ?_
  refine GL.o rfl (S1.mvI rfl) ?_
  refine GL.o rfl (S1.asI rfl) ?_
  refine GL.dn rfl ?_
  refine GW.sr rfl rfl ?_
  refine GL.o rfl (S1.mvI rfl) ?_
  refine GL.o rfl (S1.subI rfl rfl (by omega) (by omega)) ?_
  refine GL.o rfl (S1.asI rfl) ?_
  refine GL.dn rfl ?_
  refine GW.toBlock rfl ?_
  refine GW.toLoop (X := Int × Int × List Int) (fun x => [(0, .slice (some ⟨rb, 0, none⟩) m c), (6, .int .i64 x.1), (7, .int .i64 x.2.1)]) (fun x => [(rb, .cells (ints x.2.2) opn true)]) (fun x => a ≤ x.1 ∧ x.2.1 < b ∧ x.1 ≤ b ∧ a - 1 ≤ x.2.1 ∧ Sw l x.2.2) (fun x => (b - x.1).toNat) rfl (a, b - 1, l) ⟨(by first | omega | (dsimp only; omega)), (by first | omega | (dsimp only; omega)), (by first | omega | (dsimp only; omega)), (by first | omega | (dsimp only; omega)), Sw.refl l⟩ (.c rfl (.c rfl (.c rfl .n))) .tz ?_
  rintro x f ⟨hx0, hx1, hx2, hx3, s⟩
  have hs := s.1
  refine GW.toSeq rfl ?_
  refine GW.sr rfl rfl ?_
  refine GL.o rfl (S1.mvI rfl) ?_
  refine GL.o rfl (S1.mvI rfl) ?_
  refine GL.o rfl (S1.lss rfl rfl) ?_
  refine GL.dn rfl ?_
  refine GW.toD rfl rfl (fun w1 => ?_) (fun w1 => ?_)
  refine GW.toSkip rfl ?_
  refine GQ.on ?_
  refine GW.toBlock rfl ?_
  refine GW.toSeq rfl ?_
  refine GW.toDrw mx rfl ?_
  refine GD.o rfl (S1.mvL rfl) rfl ?_
  refine GD.o rfl (S1.mvI rfl) rfl ?_
  refine GD.o rfl (S1.mvL rfl) rfl ?_
  refine GD.o rfl (S1.mvI rfl) rfl ?_
  refine GD.o rfl (S1.mvL rfl) rfl ?_
  refine GD.o rfl (S1.mvI rfl) rfl ?_
  refine GD.o rfl (S1.ix el23 rfl rfl (by omega) (by omega)) rfl ?_
  refine GD.o rfl (S1.ldI sc3 rfl (.at .z) (by omega)) rfl ?_
  refine GD.o rfl (S1.mvL rfl) rfl ?_
  refine GD.o rfl (S1.mvI rfl) rfl ?_
  refine GD.o rfl (S1.ix el23 rfl rfl (by omega) (by omega)) rfl ?_
  refine GD.o rfl (S1.ldI sc3 rfl (.at .z) (by omega)) rfl ?_
  refine GD.o rfl (S1.ix el23 rfl rfl (by omega) (by omega)) rfl ?_
  refine GD.loud rfl .no (S1.stI sc3 rfl rfl (by omega) .z) rfl rfl (by kernel_rfl) ?_
  refine GD.o rfl (S1.ix el23 rfl rfl (by omega) (by omega)) rfl ?_
  refine GD.loud rfl .no (S1.stI sc3 rfl rfl (by simp only [List.length_set]; omega) .z) rfl rfl (by kernel_rfl) ?_
  refine GD.done rfl ?_
  refine GQ.on ?_
  refine GW.sr rfl rfl ?_
  refine GL.o rfl (S1.mvI rfl) ?_
  refine GL.o rfl (S1.addI rfl rfl (by omega) (by omega)) ?_
  refine GL.o rfl (S1.asI rfl) ?_
  refine GL.dn rfl ?_
  refine GW.toReg rfl ?_
  refine GL.o rfl (S1.mvI rfl) ?_
  refine GL.o rfl (S1.subI rfl rfl (by omega) (by omega)) ?_
  refine GL.o rfl (S1.asI rfl) ?_
  refine GL.done rfl ?_
  refine GQ.outN ?_
  refine GQ.nextT (x.1 + 1, x.2.1 - 1, _) (.c rfl (.c rfl (.c rfl .n))) .tz ⟨(by first | omega | (dsimp only; omega)), (by first | omega | (dsimp only; omega)), (by first | omega | (dsimp only; omega)), (by first | omega | (dsimp only; omega)), s.sw (by omega) (by omega)⟩ (by first | omega | (dsimp only; omega))
  refine GW.toExit rfl ?_
  refine GQ.onE ?_
  refine GQ.onE ?_
  refine GQ.outH ?_
  refine GQ.retN _ .nil .z rfl ?_ .tz
  assumption
end
end Go.Proofs.Ytenkebdjlajanaa
namespace Go.Proofs.Ytenkebdjlajanaa
open Go Go.E
set_option maxRecDepth 100000
set_option maxHeartbeats 4000000

section
variable {h : EH} {hr : RO} {rb m c : Nat} {opn : Option Nat} {l : List Int} {a b pv : Int}

theorem ct74 (H : Hp hr h [rb] [(rb, .cells (ints l) opn true)] h) (hm : m ≤ l.length) (hm2 : l.length ≤ 1073741824) (ha : 0 ≤ a) (hb : b ≤ m) (hab : a < b) : Ct Try.prog 74 ⟨[.slice (some ⟨rb, 0, none⟩) m c, .int .i64 a, .int .i64 b]⟩ h [rb] (fun x : Bool × List Int => .bool x.1) (fun x => Sw l x.2) (fun x => [(rb, .cells (ints x.2) opn true)]) := by
  refine Ct.go Try.func74 rfl rfl co74 H ?_
  refine GW.sr rfl rfl ?_
  refine GL.o rfl (S1.asB rfl) ?_
  refine GL.dn rfl ?_
  refine GW.sr rfl rfl ?_
  refine GL.o rfl (S1.mvI rfl) ?_
  refine GL.o rfl (S1.addI rfl rfl (by omega) (by omega)) ?_
  refine GL.o rfl (S1.asI rfl) ?_
  refine GL.dn rfl ?_
  refine GW.toSeq rfl ?_
  refine GW.sr rfl rfl ?_
  refine GL.o rfl (S1.asI rfl) ?_
  refine GL.dn rfl ?_
  refine GW.toBlock rfl ?_
  refine GW.toLoop (X := Int × Int × List Int) (fun x => [(0, .slice (some ⟨rb, 0, none⟩) m c), (1, .int .i64 a), (2, .int .i64 b), (7, .int .i64 x.2.1), (8, .int .i64 x.1)]) (fun x => [(rb, .cells (ints x.2.2) opn true)]) (fun x => 0 ≤ x.1 ∧ x.1 ≤ 5 ∧ a + 1 ≤ x.2.1 ∧ x.2.1 ≤ b ∧ Sw l x.2.2) (fun x => (5 - x.1).toNat) rfl (0, a + 1, l) ⟨(by first | omega | (dsimp only; omega)), (by first | omega | (dsimp only; omega)), (by first | omega | (dsimp only; omega)), (by first | omega | (dsimp only; omega)), Sw.refl l⟩ (.c rfl (.c rfl (.c rfl (.c rfl (.c rfl .n))))) .tz ?_
  rintro x f ⟨hx0, hx1, hx2, hx3, s⟩
  have hs := s.1
  refine GW.toSeq rfl ?_
  refine GW.sr rfl rfl ?_
  refine GL.o rfl (S1.mvI rfl) ?_
  refine GL.o rfl (S1.lss rfl rfl) ?_
  refine GL.dn rfl ?_
  refine GW.toD rfl rfl (fun w1 => ?_) (fun w1 => ?_)
  refine GW.toSkip rfl ?_
  refine GQ.on ?_
  refine GW.toSeq rfl ?_
  refine GW.toBlock rfl ?_
  refine GW.toSeq rfl ?_
  refine GW.toBlock rfl ?_
  rotate_left
  refine GW.toExit rfl ?_
  refine GQ.onE ?_
  refine GQ.onE ?_
  refine GQ.outH ?_
  refine GQ.on ?_
  refine GW.sr rfl rfl ?_
  refine GL.o rfl (S1.asB rfl) ?_
  refine GL.dn rfl ?_
  refine GW.toRet rfl ?_
  refine GQ.ret (false, x.2.2) (.tmp rfl rfl .nil) .one rfl s .tz
  refine GW.toLoop (X := Int) (fun y => [(0, .slice (some ⟨rb, 0, none⟩) m c), (1, .int .i64 a), (2, .int .i64 b), (7, .int .i64 y), (8, .int .i64 x.1)]) (fun y => [(rb, .cells (ints x.2.2) opn true)]) (fun y => a + 1 ≤ y ∧ y ≤ b) (fun y => (b - y).toNat) rfl x.2.1 ⟨hx2, hx3⟩ (.c rfl (.c rfl (.c rfl (.c rfl (.c rfl .n))))) .tz ?_
  rintro y f ⟨hy0, hy1⟩
  refine GW.toSeq rfl ?_
  refine GW.toSeq rfl ?_
  refine GW.toDrw mx rfl ?_
  refine GD.o rfl (S1.mvI rfl) rfl ?_
  refine GD.o rfl (S1.mvI rfl) rfl ?_
  refine GD.o rfl (S1.lss rfl rfl) rfl ?_
  refine GD.o rfl (S1.mvB rfl) rfl ?_
  refine GD.splitD 20 rfl (fun w2 => ?_) (fun w2 => ?_)
  refine GD.one rfl (.yes rfl rfl rfl) (S1.mvL rfl) rfl ?_
  refine GD.one rfl (.yes rfl rfl rfl) (S1.mvI rfl) rfl ?_
  refine GD.one rfl (.yes rfl rfl rfl) (S1.ix el23 rfl rfl (by omega) (by omega)) rfl ?_
  refine GD.one rfl (.yes rfl rfl rfl) (S1.ldI sc3 rfl (.at .z) (by omega)) rfl ?_
  refine GD.one rfl (.yes rfl rfl rfl) (S1.mvL rfl) rfl ?_
  refine GD.one rfl (.yes rfl rfl rfl) (S1.mvI rfl) rfl ?_
  refine GD.one rfl (.yes rfl rfl rfl) (S1.subI rfl rfl (by omega) (by omega)) rfl ?_
  refine GD.one rfl (.yes rfl rfl rfl) (S1.ix el23 rfl rfl (by omega) (by omega)) rfl ?_
  refine GD.one rfl (.yes rfl rfl rfl) (S1.ldI sc3 rfl (.at .z) (by omega)) rfl ?_
  refine GD.call rfl (.yes rfl rfl rfl) fo75 .nil (fun h H => ct75) (.d (.c (v := (.int _ _)) rfl (.c (v := (.int _ _)) rfl .n))) (fun r3 _ => ?_)
  refine GD.one rfl (.yes rfl rfl rfl) (S1.not rfl) rfl ?_
  refine GD.o rfl (S1.pickT (v := (.bool _)) rfl rfl) rfl ?_
  refine GD.done rfl ?_
  refine GQ.on ?_
  refine GW.toC rfl rfl (fun w4 => ?_) (fun w4 => ?_)
  refine GW.toSkip rfl ?_
  refine GQ.on ?_
  refine GW.toBlock rfl ?_
  refine GW.toReg rfl ?_
  refine GL.o rfl (S1.mvI rfl) ?_
  refine GL.o rfl (S1.addI rfl rfl (by omega) (by omega)) ?_
  refine GL.o rfl (S1.asI rfl) ?_
  refine GL.done rfl ?_
  refine GQ.outN ?_
  refine GQ.nextT (y + 1) (.c rfl (.c rfl (.c rfl (.c rfl (.c rfl .n))))) (.cons .z .nil) ⟨by omega, by omega⟩ (by omega)
  refine GW.toExit rfl ?_
  refine GQ.onE ?_
  refine GQ.onE ?_
  refine GQ.outH ?_
  refine GQ.on ?_
  refine GW.toSeq rfl ?_
  refine GW.sr rfl rfl ?_
  refine GL.o rfl (S1.mvI rfl) ?_
  refine GL.o rfl (S1.mvI rfl) ?_
  refine GL.o rfl (S1.eql rfl rfl) ?_
  refine GL.dn rfl ?_
  refine GW.toD rfl rfl (fun w5 => ?_) (fun w5 => ?_)
  refine GW.sr rfl rfl ?_
  refine GL.o rfl (S1.asB rfl) ?_
  refine GL.dn rfl ?_
  refine GW.toRet rfl ?_
  refine GQ.onR ?_
  refine GQ.outR ?_
  refine GQ.onR ?_
  refine GQ.onR ?_
  refine GQ.outR ?_
  refine GQ.onR ?_
  (exfalso; omega)
  refine GW.toSkip rfl ?_
  refine GQ.on ?_
  refine GW.toSeq rfl ?_
  refine GW.sr rfl rfl ?_
  refine GL.o rfl (S1.mvI rfl) ?_
  refine GL.o rfl (S1.mvI rfl) ?_
  refine GL.o rfl (S1.subI rfl rfl (by omega) (by omega)) ?_
  refine GL.o rfl (S1.lss rfl rfl) ?_
  refine GL.dn rfl ?_
  refine GW.toD rfl rfl (fun w6 => ?_) (fun w6 => ?_)
  refine GW.sr rfl rfl ?_
  refine GL.o rfl (S1.asB rfl) ?_
  refine GL.dn rfl ?_
  refine GW.toRet rfl ?_
  refine GQ.onR ?_
  refine GQ.outR ?_
  refine GQ.onR ?_
  refine GQ.onR ?_
  refine GQ.outR ?_
  refine GQ.onR ?_
  refine GQ.ret (false, x.2.2) (.tmp rfl rfl .nil) .one rfl s (.cons .z .nil)
  refine GW.toSkip rfl ?_
  refine GQ.on ?_
  refine GW.toSeq rfl ?_
  refine GW.toDrw mx rfl ?_
  refine GD.o rfl (S1.mvL rfl) rfl ?_
  refine GD.o rfl (S1.mvI rfl) rfl ?_
  refine GD.o rfl (S1.mvL rfl) rfl ?_
  refine GD.o rfl (S1.mvI rfl) rfl ?_
  refine GD.o rfl (S1.subI rfl rfl (by omega) (by omega)) rfl ?_
  refine GD.o rfl (S1.mvL rfl) rfl ?_
  refine GD.o rfl (S1.mvI rfl) rfl ?_
  refine GD.o rfl (S1.subI rfl rfl (by omega) (by omega)) rfl ?_
  refine GD.o rfl (S1.ix el23 rfl rfl (by omega) (by omega)) rfl ?_
  refine GD.o rfl (S1.ldI sc3 rfl (.at .z) (by omega)) rfl ?_
  refine GD.o rfl (S1.mvL rfl) rfl ?_
  refine GD.o rfl (S1.mvI rfl) rfl ?_
  refine GD.o rfl (S1.ix el23 rfl rfl (by omega) (by omega)) rfl ?_
  refine GD.o rfl (S1.ldI sc3 rfl (.at .z) (by omega)) rfl ?_
  refine GD.o rfl (S1.ix el23 rfl rfl (by omega) (by omega)) rfl ?_
  refine GD.loud rfl .no (S1.stI sc3 rfl rfl (by omega) .z) rfl rfl (by kernel_rfl) ?_
  refine GD.o rfl (S1.ix el23 rfl rfl (by omega) (by omega)) rfl ?_
  refine GD.loud rfl .no (S1.stI sc3 rfl rfl (by simp only [List.length_set]; omega) .z) rfl rfl (by kernel_rfl) ?_
  refine GD.done rfl ?_
  refine GQ.on ?_
  refine GW.toSeq rfl ?_
  refine GW.sr rfl rfl ?_
  refine GL.o rfl (S1.mvI rfl) ?_
  refine GL.o rfl (S1.mvI rfl) ?_
  refine GL.o rfl (S1.subI rfl rfl (by omega) (by omega)) ?_
  refine GL.o rfl (S1.geq rfl rfl) ?_
  refine GL.dn rfl ?_
  refine GW.toD rfl rfl (fun w7 => ?_) (fun w7 => ?_)
  refine GW.sr rfl rfl ?_
  refine GL.o rfl (S1.mvI rfl) ?_
  refine GL.o rfl (S1.subI rfl rfl (by omega) (by omega)) ?_
  refine GL.o rfl (S1.asI rfl) ?_
  refine GL.dn rfl ?_
  refine GW.toBlock rfl ?_
  rotate_left
  refine GW.toSkip rfl ?_
  refine GQ.on ?_
  refine GW.sr rfl rfl ?_
  refine GL.o rfl (S1.mvI rfl) ?_
  refine GL.o rfl (S1.mvI rfl) ?_
  refine GL.o rfl (S1.subI rfl rfl (by omega) (by omega)) ?_
  refine GL.o rfl (S1.geq rfl rfl) ?_
  refine GL.dn rfl ?_
  refine GW.toD rfl rfl (fun w8 => ?_) (fun w8 => ?_)
  refine GW.sr rfl rfl ?_
  refine GL.o rfl (S1.mvI rfl) ?_
  refine GL.o rfl (S1.addI rfl rfl (by omega) (by omega)) ?_
  refine GL.o rfl (S1.asI rfl) ?_
  refine GL.dn rfl ?_
  refine GW.toBlock rfl ?_
  rotate_left
  refine GW.toSkip rfl ?_
  refine GQ.outN ?_
  refine GQ.on ?_
  refine GW.toReg rfl ?_
  refine GL.o rfl (S1.mvI rfl) ?_
  refine GL.o rfl (S1.addI rfl rfl (by omega) (by omega)) ?_
  refine GL.o rfl (S1.asI rfl) ?_
  refine GL.done rfl ?_
  (exfalso; omega)
  refine GD.skip rfl (.not rfl rfl rfl) ?_
  refine GD.skip rfl (.not rfl rfl rfl) ?_
  refine GD.skip rfl (.not rfl rfl rfl) ?_
  refine GD.skip rfl (.not rfl rfl rfl) ?_
  refine GD.skip rfl (.not rfl rfl rfl) ?_
  refine GD.skip rfl (.not rfl rfl rfl) ?_
  refine GD.skip rfl (.not rfl rfl rfl) ?_
  refine GD.skip rfl (.not rfl rfl rfl) ?_
  refine GD.skip rfl (.not rfl rfl rfl) ?_
  refine GD.skip rfl (.not rfl rfl rfl) ?_
  refine GD.skip rfl (.not rfl rfl rfl) ?_
  refine GD.o rfl (S1.pickF (v := (.bool _)) rfl rfl) rfl ?_
  refine GD.done rfl ?_
  refine GQ.on ?_
  refine GW.toF rfl rfl ?_
  refine GW.toExit rfl ?_
  refine GQ.onE ?_
  refine GQ.onE ?_
  refine GQ.outH ?_
  refine GQ.on ?_
  refine GW.toSeq rfl ?_
  refine GW.sr rfl rfl ?_
  refine GL.o rfl (S1.mvI rfl) ?_
  refine GL.o rfl (S1.mvI rfl) ?_
  refine GL.o rfl (S1.eql rfl rfl) ?_
  refine GL.dn rfl ?_
  refine GW.toD rfl rfl (fun w9 => ?_) (fun w9 => ?_)
  refine GW.sr rfl rfl ?_
  refine GL.o rfl (S1.asB rfl) ?_
  refine GL.dn rfl ?_
  refine GW.toRet rfl ?_
  refine GQ.onR ?_
  refine GQ.outR ?_
  refine GQ.onR ?_
  refine GQ.onR ?_
  refine GQ.outR ?_
  refine GQ.onR ?_
  refine GQ.ret (true, x.2.2) (.tmp rfl rfl .nil) .one rfl s .tz
  refine GW.toSkip rfl ?_
  refine GQ.on ?_
  refine GW.toSeq rfl ?_
  refine GW.sr rfl rfl ?_
  refine GL.o rfl (S1.mvI rfl) ?_
  refine GL.o rfl (S1.mvI rfl) ?_
  refine GL.o rfl (S1.subI rfl rfl (by omega) (by omega)) ?_
  refine GL.o rfl (S1.lss rfl rfl) ?_
  refine GL.dn rfl ?_
  refine GW.toD rfl rfl (fun w10 => ?_) (fun w10 => ?_)
  refine GW.sr rfl rfl ?_
  refine GL.o rfl (S1.asB rfl) ?_
  refine GL.dn rfl ?_
  refine GW.toRet rfl ?_
  refine GQ.onR ?_
  refine GQ.outR ?_
  refine GQ.onR ?_
  refine GQ.onR ?_
  refine GQ.outR ?_
  refine GQ.onR ?_
  (exfalso; omega)
  refine GW.toSkip rfl ?_
  refine GQ.on ?_
  refine GW.toSeq rfl ?_
  refine GW.toDrw mx rfl ?_
  refine GD.o rfl (S1.mvL rfl) rfl ?_
  refine GD.o rfl (S1.mvI rfl) rfl ?_
  refine GD.o rfl (S1.mvL rfl) rfl ?_
  refine GD.o rfl (S1.mvI rfl) rfl ?_
  refine GD.o rfl (S1.subI rfl rfl (by omega) (by omega)) rfl ?_
  refine GD.o rfl (S1.mvL rfl) rfl ?_
  refine GD.o rfl (S1.mvI rfl) rfl ?_
  refine GD.o rfl (S1.subI rfl rfl (by omega) (by omega)) rfl ?_
  refine GD.o rfl (S1.ix el23 rfl rfl (by omega) (by omega)) rfl ?_
  refine GD.o rfl (S1.ldI sc3 rfl (.at .z) (by omega)) rfl ?_
  refine GD.o rfl (S1.mvL rfl) rfl ?_
  refine GD.o rfl (S1.mvI rfl) rfl ?_
  refine GD.o rfl (S1.ix el23 rfl rfl (by omega) (by omega)) rfl ?_
  refine GD.o rfl (S1.ldI sc3 rfl (.at .z) (by omega)) rfl ?_
  refine GD.o rfl (S1.ix el23 rfl rfl (by omega) (by omega)) rfl ?_
  refine GD.loud rfl .no (S1.stI sc3 rfl rfl (by omega) .z) rfl rfl (by kernel_rfl) ?_
  refine GD.o rfl (S1.ix el23 rfl rfl (by omega) (by omega)) rfl ?_
  refine GD.loud rfl .no (S1.stI sc3 rfl rfl (by omega) .z) rfl rfl (by kernel_rfl) ?_
  refine GD.done rfl ?_
  refine GQ.on ?_
  refine GW.toSeq rfl ?_
  refine GW.sr rfl rfl ?_
  refine GL.o rfl (S1.mvI rfl) ?_
  refine GL.o rfl (S1.mvI rfl) ?_
  refine GL.o rfl (S1.subI rfl rfl (by omega) (by omega)) ?_
  refine GL.o rfl (S1.geq rfl rfl) ?_
  refine GL.dn rfl ?_
  refine GW.toD rfl rfl (fun w11 => ?_) (fun w11 => ?_)
  refine GW.sr rfl rfl ?_
  refine GL.o rfl (S1.mvI rfl) ?_
  refine GL.o rfl (S1.subI rfl rfl (by omega) (by omega)) ?_
  refine GL.o rfl (S1.asI rfl) ?_
  refine GL.dn rfl ?_
  refine GW.toBlock rfl ?_
  (exfalso; omega)
  refine GW.toSkip rfl ?_
  refine GQ.on ?_
  refine GW.sr rfl rfl ?_
  refine GL.o rfl (S1.mvI rfl) ?_
  refine GL.o rfl (S1.mvI rfl) ?_
  refine GL.o rfl (S1.subI rfl rfl (by omega) (by omega)) ?_
  refine GL.o rfl (S1.geq rfl rfl) ?_
  refine GL.dn rfl ?_
  refine GW.toD rfl rfl (fun w12 => ?_) (fun w12 => ?_)
  refine GW.sr rfl rfl ?_
  refine GL.o rfl (S1.mvI rfl) ?_
  refine GL.o rfl (S1.addI rfl rfl (by omega) (by omega)) ?_
  refine GL.o rfl (S1.asI rfl) ?_
  refine GL.dn rfl ?_
  refine GW.toBlock rfl ?_
  (exfalso; omega)
  refine GW.toSkip rfl ?_
  refine GQ.outN ?_
  refine GQ.on ?_
  refine GW.toReg rfl ?_
  refine GL.o rfl (S1.mvI rfl) ?_
  refine GL.o rfl (S1.addI rfl rfl (by omega) (by omega)) ?_
  refine GL.o rfl (S1.asI rfl) ?_
  refine GL.done rfl ?_
  (exfalso; omega)
  · refine GW.toLoop (X := Int × List Int) (fun w => [(0, .slice (some ⟨rb, 0, none⟩) m c), (1, .int .i64 a), (2, .int .i64 b), (7, .int .i64 y), (8, .int .i64 x.1), (9, .int .i64 w.1)]) (fun w => [(rb, .cells (ints w.2) opn true)]) (fun w => 0 ≤ w.1 ∧ w.1 ≤ y - 1 ∧ Sw l w.2) (fun w => w.1.toNat) rfl (y - 1, ((x.2.2.set (0 + y.toNat * 1) (x.2.2.getD (0 + (y - 1).toNat * 1) 0)).set (0 + (y - 1).toNat * 1) (x.2.2.getD (0 + y.toNat * 1) 0))) ⟨(by first | omega | (dsimp only; omega)), (by first | omega | (dsimp only; omega)), s.sw (by omega) (by omega)⟩ (.c rfl (.c rfl (.c rfl (.c rfl (.c rfl (.c rfl .n)))))) .tz ?_
    rintro w f ⟨hw0, hw1, s⟩
    have hs := s.1
    refine GW.toSeq rfl ?_
    refine GW.sr rfl rfl ?_
    refine GL.o rfl (S1.mvI rfl) ?_
    refine GL.o rfl (S1.geq rfl rfl) ?_
    refine GL.dn rfl ?_
    refine GW.toD rfl rfl (fun w13 => ?_) (fun w13 => ?_)
    refine GW.toSkip rfl ?_
    refine GQ.on ?_
    refine GW.toSeq rfl ?_
    refine GW.toBlock rfl ?_
    refine GW.toSeq rfl ?_
    refine GW.toSeq rfl ?_
    refine GW.toDrw mx rfl ?_
    refine GD.o rfl (S1.mvL rfl) rfl ?_
    refine GD.o rfl (S1.mvI rfl) rfl ?_
    refine GD.o rfl (S1.ix el23 rfl rfl (by omega) (by omega)) rfl ?_
    refine GD.o rfl (S1.ldI sc3 rfl (.at .z) (by omega)) rfl ?_
    refine GD.o rfl (S1.mvL rfl) rfl ?_
    refine GD.o rfl (S1.mvI rfl) rfl ?_
    refine GD.o rfl (S1.subI rfl rfl (by omega) (by omega)) rfl ?_
    refine GD.o rfl (S1.ix el23 rfl rfl (by omega) (by omega)) rfl ?_
    refine GD.o rfl (S1.ldI sc3 rfl (.at .z) (by omega)) rfl ?_
    refine GD.call rfl .no fo75 .nil (fun h H => ct75) (.d (.c (v := (.int _ _)) rfl (.c (v := (.int _ _)) rfl .n))) (fun r14 _ => ?_)
    refine GD.o rfl (S1.not rfl) rfl ?_
    refine GD.done rfl ?_
    refine GQ.on ?_
    refine GW.toC rfl rfl (fun w15 => ?_) (fun w15 => ?_)
    refine GW.toExit rfl ?_
    refine GQ.onE ?_
    refine GQ.outM rfl ?_
    refine GQ.onE ?_
    refine GQ.onE ?_
    refine GQ.outH ?_
    refine GQ.on ?_
    refine GW.sr rfl rfl ?_
    refine GL.o rfl (S1.mvI rfl) ?_
    refine GL.o rfl (S1.mvI rfl) ?_
    refine GL.o rfl (S1.subI rfl rfl (by omega) (by omega)) ?_
    refine GL.o rfl (S1.geq rfl rfl) ?_
    refine GL.dn rfl ?_
    refine GW.toD rfl rfl (fun w16 => ?_) (fun w16 => ?_)
    refine GW.sr rfl rfl ?_
    refine GL.o rfl (S1.mvI rfl) ?_
    refine GL.o rfl (S1.addI rfl rfl (by omega) (by omega)) ?_
    refine GL.o rfl (S1.asI rfl) ?_
    refine GL.dn rfl ?_
    refine GW.toBlock rfl ?_
    rotate_left
    refine GW.toSkip rfl ?_
    refine GQ.outN ?_
    refine GQ.on ?_
    refine GW.toReg rfl ?_
    refine GL.o rfl (S1.mvI rfl) ?_
    refine GL.o rfl (S1.addI rfl rfl (by omega) (by omega)) ?_
    refine GL.o rfl (S1.asI rfl) ?_
    refine GL.done rfl ?_
    refine GQ.nextT (x.1 + 1, y, w.2) (.c rfl (.c rfl (.c rfl (.c rfl (.c rfl .n))))) (.cons .z .nil) ⟨(by first | omega | (dsimp only; omega)), (by first | omega | (dsimp only; omega)), (by first | omega | (dsimp only; omega)), (by first | omega | (dsimp only; omega)), s⟩ (by first | omega | (dsimp only; omega))
    refine GW.toSkip rfl ?_
    refine GQ.on ?_
    refine GW.toDrw mx rfl ?_
    refine GD.o rfl (S1.mvL rfl) rfl ?_
    refine GD.o rfl (S1.mvI rfl) rfl ?_
    refine GD.o rfl (S1.mvL rfl) rfl ?_
    refine GD.o rfl (S1.mvI rfl) rfl ?_
    refine GD.o rfl (S1.subI rfl rfl (by omega) (by omega)) rfl ?_
    refine GD.o rfl (S1.mvL rfl) rfl ?_
    refine GD.o rfl (S1.mvI rfl) rfl ?_
    refine GD.o rfl (S1.subI rfl rfl (by omega) (by omega)) rfl ?_
    refine GD.o rfl (S1.ix el23 rfl rfl (by omega) (by omega)) rfl ?_
    refine GD.o rfl (S1.ldI sc3 rfl (.at .z) (by omega)) rfl ?_
    refine GD.o rfl (S1.mvL rfl) rfl ?_
    refine GD.o rfl (S1.mvI rfl) rfl ?_
    refine GD.o rfl (S1.ix el23 rfl rfl (by omega) (by omega)) rfl ?_
    refine GD.o rfl (S1.ldI sc3 rfl (.at .z) (by omega)) rfl ?_
    refine GD.o rfl (S1.ix el23 rfl rfl (by omega) (by omega)) rfl ?_
    refine GD.loud rfl .no (S1.stI sc3 rfl rfl (by omega) .z) rfl rfl (by kernel_rfl) ?_
    refine GD.o rfl (S1.ix el23 rfl rfl (by omega) (by omega)) rfl ?_
    refine GD.loud rfl .no (S1.stI sc3 rfl rfl (by simp only [List.length_set]; omega) .z) rfl rfl (by kernel_rfl) ?_
    refine GD.done rfl ?_
    refine GQ.outN ?_
    refine GQ.on ?_
    refine GW.toReg rfl ?_
    refine GL.o rfl (S1.mvI rfl) ?_
    refine GL.o rfl (S1.subI rfl rfl (by omega) (by omega)) ?_
    refine GL.o rfl (S1.asI rfl) ?_
    refine GL.done rfl ?_
    refine GQ.nextT (w.1 - 1, _) (.c rfl (.c rfl (.c rfl (.c rfl (.c rfl (.c rfl .n)))))) .tz ⟨(by first | omega | (dsimp only; omega)), (by first | omega | (dsimp only; omega)), s.sw (by omega) (by omega)⟩ (by first | omega | (dsimp only; omega))
    refine GW.toExit rfl ?_
    refine GQ.onE ?_
    refine GQ.onE ?_
    refine GQ.outH ?_
    refine GQ.on ?_
    refine GW.sr rfl rfl ?_
    refine GL.o rfl (S1.mvI rfl) ?_
    refine GL.o rfl (S1.mvI rfl) ?_
    refine GL.o rfl (S1.subI rfl rfl (by omega) (by omega)) ?_
    refine GL.o rfl (S1.geq rfl rfl) ?_
    refine GL.dn rfl ?_
    refine GW.toD rfl rfl (fun w17 => ?_) (fun w17 => ?_)
    refine GW.sr rfl rfl ?_
    refine GL.o rfl (S1.mvI rfl) ?_
    refine GL.o rfl (S1.addI rfl rfl (by omega) (by omega)) ?_
    refine GL.o rfl (S1.asI rfl) ?_
    refine GL.dn rfl ?_
    refine GW.toBlock rfl ?_
    rotate_left
    refine GW.toSkip rfl ?_
    refine GQ.outN ?_
    refine GQ.on ?_
    refine GW.toReg rfl ?_
    refine GL.o rfl (S1.mvI rfl) ?_
    refine GL.o rfl (S1.addI rfl rfl (by omega) (by omega)) ?_
    refine GL.o rfl (S1.asI rfl) ?_
    refine GL.done rfl ?_
    refine GQ.nextT (x.1 + 1, y, w.2) (.c rfl (.c rfl (.c rfl (.c rfl (.c rfl .n))))) .tz ⟨(by first | omega | (dsimp only; omega)), (by first | omega | (dsimp only; omega)), (by first | omega | (dsimp only; omega)), (by first | omega | (dsimp only; omega)), s⟩ (by first | omega | (dsimp only; omega))
    · refine GW.toLoop (X := Int × List Int) (fun z => [(0, .slice (some ⟨rb, 0, none⟩) m c), (1, .int .i64 a), (2, .int .i64 b), (7, .int .i64 y), (8, .int .i64 x.1), (10, .int .i64 z.1)]) (fun z => [(rb, .cells (ints z.2) opn true)]) (fun z => a + 1 ≤ z.1 ∧ z.1 ≤ b ∧ Sw l z.2) (fun z => (b - z.1).toNat) rfl (y + 1, w.2) ⟨(by first | omega | (dsimp only; omega)), (by first | omega | (dsimp only; omega)), s⟩ (.c rfl (.c rfl (.c rfl (.c rfl (.c rfl (.c rfl .n)))))) (.cons .z .nil) ?_
      rintro z f ⟨hz0, hz1, s⟩
      have hs := s.1
      refine GW.toSeq rfl ?_
      refine GW.sr rfl rfl ?_
      refine GL.o rfl (S1.mvI rfl) ?_
      refine GL.o rfl (S1.mvI rfl) ?_
      refine GL.o rfl (S1.lss rfl rfl) ?_
      refine GL.dn rfl ?_
      refine GW.toD rfl rfl (fun w18 => ?_) (fun w18 => ?_)
      refine GW.toSkip rfl ?_
      refine GQ.on ?_
      refine GW.toSeq rfl ?_
      refine GW.toBlock rfl ?_
      refine GW.toSeq rfl ?_
      refine GW.toSeq rfl ?_
      refine GW.toDrw mx rfl ?_
      refine GD.o rfl (S1.mvL rfl) rfl ?_
      refine GD.o rfl (S1.mvI rfl) rfl ?_
      refine GD.o rfl (S1.ix el23 rfl rfl (by omega) (by omega)) rfl ?_
      refine GD.o rfl (S1.ldI sc3 rfl (.at .z) (by omega)) rfl ?_
      refine GD.o rfl (S1.mvL rfl) rfl ?_
      refine GD.o rfl (S1.mvI rfl) rfl ?_
      refine GD.o rfl (S1.subI rfl rfl (by omega) (by omega)) rfl ?_
      refine GD.o rfl (S1.ix el23 rfl rfl (by omega) (by omega)) rfl ?_
      refine GD.o rfl (S1.ldI sc3 rfl (.at .z) (by omega)) rfl ?_
      refine GD.call rfl .no fo75 .nil (fun h H => ct75) (.d (.c (v := (.int _ _)) rfl (.c (v := (.int _ _)) rfl .n))) (fun r19 _ => ?_)
      refine GD.o rfl (S1.not rfl) rfl ?_
      refine GD.done rfl ?_
      refine GQ.on ?_
      refine GW.toC rfl rfl (fun w20 => ?_) (fun w20 => ?_)
      refine GW.toExit rfl ?_
      refine GQ.onE ?_
      refine GQ.outM rfl ?_
      refine GQ.onE ?_
      refine GQ.onE ?_
      refine GQ.outH ?_
      refine GQ.outN ?_
      refine GQ.on ?_
      refine GW.toReg rfl ?_
      refine GL.o rfl (S1.mvI rfl) ?_
      refine GL.o rfl (S1.addI rfl rfl (by omega) (by omega)) ?_
      refine GL.o rfl (S1.asI rfl) ?_
      refine GL.done rfl ?_
      refine GQ.nextT (x.1 + 1, y, z.2) (.c rfl (.c rfl (.c rfl (.c rfl (.c rfl .n))))) (.cons .z .nil) ⟨(by first | omega | (dsimp only; omega)), (by first | omega | (dsimp only; omega)), (by first | omega | (dsimp only; omega)), (by first | omega | (dsimp only; omega)), s⟩ (by first | omega | (dsimp only; omega))
      refine GW.toSkip rfl ?_
      refine GQ.on ?_
      refine GW.toDrw mx rfl ?_
      refine GD.o rfl (S1.mvL rfl) rfl ?_
      refine GD.o rfl (S1.mvI rfl) rfl ?_
      refine GD.o rfl (S1.mvL rfl) rfl ?_
      refine GD.o rfl (S1.mvI rfl) rfl ?_
      refine GD.o rfl (S1.subI rfl rfl (by omega) (by omega)) rfl ?_
      refine GD.o rfl (S1.mvL rfl) rfl ?_
      refine GD.o rfl (S1.mvI rfl) rfl ?_
      refine GD.o rfl (S1.subI rfl rfl (by omega) (by omega)) rfl ?_
      refine GD.o rfl (S1.ix el23 rfl rfl (by omega) (by omega)) rfl ?_
      refine GD.o rfl (S1.ldI sc3 rfl (.at .z) (by omega)) rfl ?_
      refine GD.o rfl (S1.mvL rfl) rfl ?_
      refine GD.o rfl (S1.mvI rfl) rfl ?_
      refine GD.o rfl (S1.ix el23 rfl rfl (by omega) (by omega)) rfl ?_
      refine GD.o rfl (S1.ldI sc3 rfl (.at .z) (by omega)) rfl ?_
      refine GD.o rfl (S1.ix el23 rfl rfl (by omega) (by omega)) rfl ?_
      refine GD.loud rfl .no (S1.stI sc3 rfl rfl (by omega) .z) rfl rfl (by kernel_rfl) ?_
      refine GD.o rfl (S1.ix el23 rfl rfl (by omega) (by omega)) rfl ?_
      refine GD.loud rfl .no (S1.stI sc3 rfl rfl (by simp only [List.length_set]; omega) .z) rfl rfl (by kernel_rfl) ?_
      refine GD.done rfl ?_
      refine GQ.outN ?_
      refine GQ.on ?_
      refine GW.toReg rfl ?_
      refine GL.o rfl (S1.mvI rfl) ?_
      refine GL.o rfl (S1.addI rfl rfl (by omega) (by omega)) ?_
      refine GL.o rfl (S1.asI rfl) ?_
      refine GL.done rfl ?_
      refine GQ.nextT (z.1 + 1, _) (.c rfl (.c rfl (.c rfl (.c rfl (.c rfl (.c rfl .n)))))) .tz ⟨(by first | omega | (dsimp only; omega)), (by first | omega | (dsimp only; omega)), s.sw (by omega) (by omega)⟩ (by first | omega | (dsimp only; omega))
      refine GW.toExit rfl ?_
      refine GQ.onE ?_
      refine GQ.onE ?_
      refine GQ.outH ?_
      refine GQ.outN ?_
      refine GQ.on ?_
      refine GW.toReg rfl ?_
      refine GL.o rfl (S1.mvI rfl) ?_
      refine GL.o rfl (S1.addI rfl rfl (by omega) (by omega)) ?_
      refine GL.o rfl (S1.asI rfl) ?_
      refine GL.done rfl ?_
      refine GQ.nextT (x.1 + 1, y, z.2) (.c rfl (.c rfl (.c rfl (.c rfl (.c rfl .n))))) .tz ⟨(by first | omega | (dsimp only; omega)), (by first | omega | (dsimp only; omega)), (by first | omega | (dsimp only; omega)), (by first | omega | (dsimp only; omega)), s⟩ (by first | omega | (dsimp only; omega))
    · refine GW.toLoop (X := Int × List Int) (fun z => [(0, .slice (some ⟨rb, 0, none⟩) m c), (1, .int .i64 a), (2, .int .i64 b), (7, .int .i64 y), (8, .int .i64 x.1), (10, .int .i64 z.1)]) (fun z => [(rb, .cells (ints z.2) opn true)]) (fun z => a + 1 ≤ z.1 ∧ z.1 ≤ b ∧ Sw l z.2) (fun z => (b - z.1).toNat) rfl (y + 1, w.2) ⟨(by first | omega | (dsimp only; omega)), (by first | omega | (dsimp only; omega)), s⟩ (.c rfl (.c rfl (.c rfl (.c rfl (.c rfl (.c rfl .n)))))) .tz ?_
      rintro z f ⟨hz0, hz1, s⟩
      have hs := s.1
      refine GW.toSeq rfl ?_
      refine GW.sr rfl rfl ?_
      refine GL.o rfl (S1.mvI rfl) ?_
      refine GL.o rfl (S1.mvI rfl) ?_
      refine GL.o rfl (S1.lss rfl rfl) ?_
      refine GL.dn rfl ?_
      refine GW.toD rfl rfl (fun w21 => ?_) (fun w21 => ?_)
      refine GW.toSkip rfl ?_
      refine GQ.on ?_
      refine GW.toSeq rfl ?_
      refine GW.toBlock rfl ?_
      refine GW.toSeq rfl ?_
      refine GW.toSeq rfl ?_
      refine GW.toDrw mx rfl ?_
      refine GD.o rfl (S1.mvL rfl) rfl ?_
      refine GD.o rfl (S1.mvI rfl) rfl ?_
      refine GD.o rfl (S1.ix el23 rfl rfl (by omega) (by omega)) rfl ?_
      refine GD.o rfl (S1.ldI sc3 rfl (.at .z) (by omega)) rfl ?_
      refine GD.o rfl (S1.mvL rfl) rfl ?_
      refine GD.o rfl (S1.mvI rfl) rfl ?_
      refine GD.o rfl (S1.subI rfl rfl (by omega) (by omega)) rfl ?_
      refine GD.o rfl (S1.ix el23 rfl rfl (by omega) (by omega)) rfl ?_
      refine GD.o rfl (S1.ldI sc3 rfl (.at .z) (by omega)) rfl ?_
      refine GD.call rfl .no fo75 .nil (fun h H => ct75) (.d (.c (v := (.int _ _)) rfl (.c (v := (.int _ _)) rfl .n))) (fun r22 _ => ?_)
      refine GD.o rfl (S1.not rfl) rfl ?_
      refine GD.done rfl ?_
      refine GQ.on ?_
      refine GW.toC rfl rfl (fun w23 => ?_) (fun w23 => ?_)
      refine GW.toExit rfl ?_
      refine GQ.onE ?_
      refine GQ.outM rfl ?_
      refine GQ.onE ?_
      refine GQ.onE ?_
      refine GQ.outH ?_
      refine GQ.outN ?_
      refine GQ.on ?_
      refine GW.toReg rfl ?_
      refine GL.o rfl (S1.mvI rfl) ?_
      refine GL.o rfl (S1.addI rfl rfl (by omega) (by omega)) ?_
      refine GL.o rfl (S1.asI rfl) ?_
      refine GL.done rfl ?_
      refine GQ.nextT (x.1 + 1, y, z.2) (.c rfl (.c rfl (.c rfl (.c rfl (.c rfl .n))))) (.cons .z .nil) ⟨(by first | omega | (dsimp only; omega)), (by first | omega | (dsimp only; omega)), (by first | omega | (dsimp only; omega)), (by first | omega | (dsimp only; omega)), s⟩ (by first | omega | (dsimp only; omega))
      refine GW.toSkip rfl ?_
      refine GQ.on ?_
      refine GW.toDrw mx rfl ?_
      refine GD.o rfl (S1.mvL rfl) rfl ?_
      refine GD.o rfl (S1.mvI rfl) rfl ?_
      refine GD.o rfl (S1.mvL rfl) rfl ?_
      refine GD.o rfl (S1.mvI rfl) rfl ?_
      refine GD.o rfl (S1.subI rfl rfl (by omega) (by omega)) rfl ?_
      refine GD.o rfl (S1.mvL rfl) rfl ?_
      refine GD.o rfl (S1.mvI rfl) rfl ?_
      refine GD.o rfl (S1.subI rfl rfl (by omega) (by omega)) rfl ?_
      refine GD.o rfl (S1.ix el23 rfl rfl (by omega) (by omega)) rfl ?_
      refine GD.o rfl (S1.ldI sc3 rfl (.at .z) (by omega)) rfl ?_
      refine GD.o rfl (S1.mvL rfl) rfl ?_
      refine GD.o rfl (S1.mvI rfl) rfl ?_
      refine GD.o rfl (S1.ix el23 rfl rfl (by omega) (by omega)) rfl ?_
      refine GD.o rfl (S1.ldI sc3 rfl (.at .z) (by omega)) rfl ?_
      refine GD.o rfl (S1.ix el23 rfl rfl (by omega) (by omega)) rfl ?_
      refine GD.loud rfl .no (S1.stI sc3 rfl rfl (by omega) .z) rfl rfl (by kernel_rfl) ?_
      refine GD.o rfl (S1.ix el23 rfl rfl (by omega) (by omega)) rfl ?_
      refine GD.loud rfl .no (S1.stI sc3 rfl rfl (by simp only [List.length_set]; omega) .z) rfl rfl (by kernel_rfl) ?_
      refine GD.done rfl ?_
      refine GQ.outN ?_
      refine GQ.on ?_
      refine GW.toReg rfl ?_
      refine GL.o rfl (S1.mvI rfl) ?_
      refine GL.o rfl (S1.addI rfl rfl (by omega) (by omega)) ?_
      refine GL.o rfl (S1.asI rfl) ?_
      refine GL.done rfl ?_
      refine GQ.nextT (z.1 + 1, _) (.c rfl (.c rfl (.c rfl (.c rfl (.c rfl (.c rfl .n)))))) .tz ⟨(by first | omega | (dsimp only; omega)), (by first | omega | (dsimp only; omega)), s.sw (by omega) (by omega)⟩ (by first | omega | (dsimp only; omega))
      refine GW.toExit rfl ?_
      refine GQ.onE ?_
      refine GQ.onE ?_
      refine GQ.outH ?_
      refine GQ.outN ?_
      refine GQ.on ?_
      refine GW.toReg rfl ?_
      refine GL.o rfl (S1.mvI rfl) ?_
      refine GL.o rfl (S1.addI rfl rfl (by omega) (by omega)) ?_
      refine GL.o rfl (S1.asI rfl) ?_
      refine GL.done rfl ?_
      refine GQ.nextT (x.1 + 1, y, z.2) (.c rfl (.c rfl (.c rfl (.c rfl (.c rfl .n))))) .tz ⟨(by first | omega | (dsimp only; omega)), (by first | omega | (dsimp only; omega)), (by first | omega | (dsimp only; omega)), (by first | omega | (dsimp only; omega)), s⟩ (by first | omega | (dsimp only; omega))
  refine GW.toLoop (X := Int × List Int) (fun z => [(0, .slice (some ⟨rb, 0, none⟩) m c), (1, .int .i64 a), (2, .int .i64 b), (7, .int .i64 y), (8, .int .i64 x.1), (10, .int .i64 z.1)]) (fun z => [(rb, .cells (ints z.2) opn true)]) (fun z => a + 1 ≤ z.1 ∧ z.1 ≤ b ∧ Sw l z.2) (fun z => (b - z.1).toNat) rfl (y + 1, ((x.2.2.set (0 + y.toNat * 1) (x.2.2.getD (0 + (y - 1).toNat * 1) 0)).set (0 + (y - 1).toNat * 1) (x.2.2.getD (0 + y.toNat * 1) 0))) ⟨(by first | omega | (dsimp only; omega)), (by first | omega | (dsimp only; omega)), s.sw (by omega) (by omega)⟩ (.c rfl (.c rfl (.c rfl (.c rfl (.c rfl (.c rfl .n)))))) .tz ?_
  rintro z f ⟨hz0, hz1, s⟩
  have hs := s.1
  refine GW.toSeq rfl ?_
  refine GW.sr rfl rfl ?_
  refine GL.o rfl (S1.mvI rfl) ?_
  refine GL.o rfl (S1.mvI rfl) ?_
  refine GL.o rfl (S1.lss rfl rfl) ?_
  refine GL.dn rfl ?_
  refine GW.toD rfl rfl (fun w24 => ?_) (fun w24 => ?_)
  refine GW.toSkip rfl ?_
  refine GQ.on ?_
  refine GW.toSeq rfl ?_
  refine GW.toBlock rfl ?_
  refine GW.toSeq rfl ?_
  refine GW.toSeq rfl ?_
  refine GW.toDrw mx rfl ?_
  refine GD.o rfl (S1.mvL rfl) rfl ?_
  refine GD.o rfl (S1.mvI rfl) rfl ?_
  refine GD.o rfl (S1.ix el23 rfl rfl (by omega) (by omega)) rfl ?_
  refine GD.o rfl (S1.ldI sc3 rfl (.at .z) (by omega)) rfl ?_
  refine GD.o rfl (S1.mvL rfl) rfl ?_
  refine GD.o rfl (S1.mvI rfl) rfl ?_
  refine GD.o rfl (S1.subI rfl rfl (by omega) (by omega)) rfl ?_
  refine GD.o rfl (S1.ix el23 rfl rfl (by omega) (by omega)) rfl ?_
  refine GD.o rfl (S1.ldI sc3 rfl (.at .z) (by omega)) rfl ?_
  refine GD.call rfl .no fo75 .nil (fun h H => ct75) (.d (.c (v := (.int _ _)) rfl (.c (v := (.int _ _)) rfl .n))) (fun r25 _ => ?_)
  refine GD.o rfl (S1.not rfl) rfl ?_
  refine GD.done rfl ?_
  refine GQ.on ?_
  refine GW.toC rfl rfl (fun w26 => ?_) (fun w26 => ?_)
  refine GW.toExit rfl ?_
  refine GQ.onE ?_
  refine GQ.outM rfl ?_
  refine GQ.onE ?_
  refine GQ.onE ?_
  refine GQ.outH ?_
  refine GQ.outN ?_
  refine GQ.on ?_
  refine GW.toReg rfl ?_
  refine GL.o rfl (S1.mvI rfl) ?_
  refine GL.o rfl (S1.addI rfl rfl (by omega) (by omega)) ?_
  refine GL.o rfl (S1.asI rfl) ?_
  refine GL.done rfl ?_
  refine GQ.nextT (x.1 + 1, y, z.2) (.c rfl (.c rfl (.c rfl (.c rfl (.c rfl .n))))) (.cons .z .nil) ⟨(by first | omega | (dsimp only; omega)), (by first | omega | (dsimp only; omega)), (by first | omega | (dsimp only; omega)), (by first | omega | (dsimp only; omega)), s⟩ (by first | omega | (dsimp only; omega))
  refine GW.toSkip rfl ?_
  refine GQ.on ?_
  refine GW.toDrw mx rfl ?_
  refine GD.o rfl (S1.mvL rfl) rfl ?_
  refine GD.o rfl (S1.mvI rfl) rfl ?_
  refine GD.o rfl (S1.mvL rfl) rfl ?_
  refine GD.o rfl (S1.mvI rfl) rfl ?_
  refine GD.o rfl (S1.subI rfl rfl (by omega) (by omega)) rfl ?_
  refine GD.o rfl (S1.mvL rfl) rfl ?_
  refine GD.o rfl (S1.mvI rfl) rfl ?_
  refine GD.o rfl (S1.subI rfl rfl (by omega) (by omega)) rfl ?_
  refine GD.o rfl (S1.ix el23 rfl rfl (by omega) (by omega)) rfl ?_
  refine GD.o rfl (S1.ldI sc3 rfl (.at .z) (by omega)) rfl ?_
  refine GD.o rfl (S1.mvL rfl) rfl ?_
  refine GD.o rfl (S1.mvI rfl) rfl ?_
  refine GD.o rfl (S1.ix el23 rfl rfl (by omega) (by omega)) rfl ?_
  refine GD.o rfl (S1.ldI sc3 rfl (.at .z) (by omega)) rfl ?_
  refine GD.o rfl (S1.ix el23 rfl rfl (by omega) (by omega)) rfl ?_
  refine GD.loud rfl .no (S1.stI sc3 rfl rfl (by omega) .z) rfl rfl (by kernel_rfl) ?_
  refine GD.o rfl (S1.ix el23 rfl rfl (by omega) (by omega)) rfl ?_
  refine GD.loud rfl .no (S1.stI sc3 rfl rfl (by simp only [List.length_set]; omega) .z) rfl rfl (by kernel_rfl) ?_
  refine GD.done rfl ?_
  refine GQ.outN ?_
  refine GQ.on ?_
  refine GW.toReg rfl ?_
  refine GL.o rfl (S1.mvI rfl) ?_
  refine GL.o rfl (S1.addI rfl rfl (by omega) (by omega)) ?_
  refine GL.o rfl (S1.asI rfl) ?_
  refine GL.done rfl ?_
  refine GQ.nextT (z.1 + 1, _) (.c rfl (.c rfl (.c rfl (.c rfl (.c rfl (.c rfl .n)))))) .tz ⟨(by first | omega | (dsimp only; omega)), (by first | omega | (dsimp only; omega)), s.sw (by omega) (by omega)⟩ (by first | omega | (dsimp only; omega))
  refine GW.toExit rfl ?_
  refine GQ.onE ?_
  refine GQ.onE ?_
  refine GQ.outH ?_
  refine GQ.outN ?_
  refine GQ.on ?_
  refine GW.toReg rfl ?_
  refine GL.o rfl (S1.mvI rfl) ?_
  refine GL.o rfl (S1.addI rfl rfl (by omega) (by omega)) ?_
  refine GL.o rfl (S1.asI rfl) ?_
  refine GL.done rfl ?_
  refine GQ.nextT (x.1 + 1, y, z.2) (.c rfl (.c rfl (.c rfl (.c rfl (.c rfl .n))))) .tz ⟨(by first | omega | (dsimp only; omega)), (by first | omega | (dsimp only; omega)), (by first | omega | (dsimp only; omega)), (by first | omega | (dsimp only; omega)), s⟩ (by first | omega | (dsimp only; omega))

theorem ct76 (H : Hp hr h [rb] [(rb, .cells (ints l) opn true)] h) (hm : m ≤ l.length) (hm2 : l.length ≤ 1073741824) (ha : 0 ≤ a) (hb : b ≤ m) (hp0 : a ≤ pv) (hp1 : pv < b) : Ct Try.prog 76 ⟨[.slice (some ⟨rb, 0, none⟩) m c, .int .i64 a, .int .i64 b, .int .i64 pv]⟩ h [rb] (fun x : Int × List Int => .int .i64 x.1) (fun x => Sw l x.2 ∧ a + 1 ≤ x.1 ∧ x.1 ≤ b) (fun x => [(rb, .cells (ints x.2) opn true)]) := by
  refine Ct.go Try.func76 rfl rfl co76 H ?_
  have s := Sw.refl l
  refine GW.sr rfl rfl ?_
  refine GL.o rfl (S1.asI rfl) ?_
  refine GL.dn rfl ?_
  refine GW.toSeq rfl ?_
  refine GW.toDrw mx rfl ?_
  refine GD.o rfl (S1.mvL rfl) rfl ?_
  refine GD.o rfl (S1.mvI rfl) rfl ?_
  refine GD.o rfl (S1.mvL rfl) rfl ?_
  refine GD.o rfl (S1.mvI rfl) rfl ?_
  refine GD.o rfl (S1.mvL rfl) rfl ?_
  refine GD.o rfl (S1.mvI rfl) rfl ?_
  refine GD.o rfl (S1.ix el23 rfl rfl (by omega) (by omega)) rfl ?_
  refine GD.o rfl (S1.ldI sc3 rfl (.at .z) (by omega)) rfl ?_
  refine GD.o rfl (S1.mvL rfl) rfl ?_
  refine GD.o rfl (S1.mvI rfl) rfl ?_
  refine GD.o rfl (S1.ix el23 rfl rfl (by omega) (by omega)) rfl ?_
  refine GD.o rfl (S1.ldI sc3 rfl (.at .z) (by omega)) rfl ?_
  refine GD.o rfl (S1.ix el23 rfl rfl (by omega) (by omega)) rfl ?_
  refine GD.loud rfl .no (S1.stI sc3 rfl rfl (by omega) .z) rfl rfl (by kernel_rfl) ?_
  refine GD.o rfl (S1.ix el23 rfl rfl (by omega) (by omega)) rfl ?_
  refine GD.loud rfl .no (S1.stI sc3 rfl rfl (by simp only [List.length_set]; omega) .z) rfl rfl (by kernel_rfl) ?_
  refine GD.done rfl ?_
  refine GQ.on ?_
  refine GW.sr rfl rfl ?_
  refine GL.o rfl (S1.mvI rfl) ?_
  refine GL.o rfl (S1.addI rfl rfl (by omega) (by omega)) ?_
  refine GL.o rfl (S1.mvI rfl) ?_
  refine GL.o rfl (S1.subI rfl rfl (by omega) (by omega)) ?_
  refine GL.o rfl (S1.asI rfl) ?_
  refine GL.o rfl (S1.asI rfl) ?_
  refine GL.dn rfl ?_
  refine GW.toSeq rfl ?_
  refine GW.toBlock rfl ?_
  refine GW.toLoop (X := Int × Int × List Int) (fun x => [(0, .slice (some ⟨rb, 0, none⟩) m c), (1, .int .i64 a), (9, .int .i64 x.1), (10, .int .i64 x.2.1)]) (fun x => [(rb, .cells (ints x.2.2) opn true)]) (fun x => a + 1 ≤ x.1 ∧ x.1 ≤ b ∧ a ≤ x.2.1 ∧ x.2.1 ≤ b - 1 ∧ Sw l x.2.2) (fun x => (b - x.1).toNat) rfl (a + 1, b - 1, ((l.set (0 + a.toNat * 1) (l.getD (0 + pv.toNat * 1) 0)).set (0 + pv.toNat * 1) (l.getD (0 + a.toNat * 1) 0))) ⟨(by first | omega | (dsimp only; omega)), (by first | omega | (dsimp only; omega)), (by first | omega | (dsimp only; omega)), (by first | omega | (dsimp only; omega)), s.sw (by omega) (by omega)⟩ (.c rfl (.c rfl (.c rfl (.c rfl .n)))) .tz ?_
  rintro x f ⟨hx0, hx1, hx2, hx3, s⟩
  have hs := s.1
  refine GW.toBlock rfl ?_
  refine GW.toSeq rfl ?_
  refine GW.toBlock rfl ?_
  refine GW.toLoop (X := Int) (fun y => [(0, .slice (some ⟨rb, 0, none⟩) m c), (1, .int .i64 a), (9, .int .i64 y), (10, .int .i64 (x.2.1))]) (fun y => [(rb, .cells (ints x.2.2) opn true)]) (fun y => (x.1) ≤ y ∧ y ≤ b) (fun y => (b - y).toNat) rfl (x.1) ⟨by omega, by omega⟩ (.c rfl (.c rfl (.c rfl (.c rfl .n)))) .tz ?_
  rintro y f ⟨hy0, hy1⟩
  refine GW.toSeq rfl ?_
  refine GW.toSeq rfl ?_
  refine GW.toDrw mx rfl ?_
  refine GD.o rfl (S1.mvI rfl) rfl ?_
  refine GD.o rfl (S1.mvI rfl) rfl ?_
  refine GD.o rfl (S1.leq rfl rfl) rfl ?_
  refine GD.o rfl (S1.mvB rfl) rfl ?_
  refine GD.splitD 32 rfl (fun w1 => ?_) (fun w1 => ?_)
  refine GD.one rfl (.yes rfl rfl rfl) (S1.mvL rfl) rfl ?_
  refine GD.one rfl (.yes rfl rfl rfl) (S1.mvI rfl) rfl ?_
  refine GD.one rfl (.yes rfl rfl rfl) (S1.ix el23 rfl rfl (by omega) (by omega)) rfl ?_
  refine GD.one rfl (.yes rfl rfl rfl) (S1.ldI sc3 rfl (.at .z) (by omega)) rfl ?_
  refine GD.one rfl (.yes rfl rfl rfl) (S1.mvL rfl) rfl ?_
  refine GD.one rfl (.yes rfl rfl rfl) (S1.mvI rfl) rfl ?_
  refine GD.one rfl (.yes rfl rfl rfl) (S1.ix el23 rfl rfl (by omega) (by omega)) rfl ?_
  refine GD.one rfl (.yes rfl rfl rfl) (S1.ldI sc3 rfl (.at .z) (by omega)) rfl ?_
  refine GD.call rfl (.yes rfl rfl rfl) fo75 .nil (fun h H => ct75) (.d (.c (v := (.int _ _)) rfl (.c (v := (.int _ _)) rfl .n))) (fun r2 _ => ?_)
  refine GD.one rfl (.yes rfl rfl rfl) (S1.not rfl) rfl ?_
  refine GD.o rfl (S1.pickT (v := (.bool _)) rfl rfl) rfl ?_
  refine GD.done rfl ?_
  refine GQ.on ?_
  refine GW.toC rfl rfl (fun w3 => ?_) (fun w3 => ?_)
  refine GW.toSkip rfl ?_
  refine GQ.on ?_
  refine GW.toBlock rfl ?_
  refine GW.toReg rfl ?_
  refine GL.o rfl (S1.mvI rfl) ?_
  refine GL.o rfl (S1.addI rfl rfl (by omega) (by omega)) ?_
  refine GL.o rfl (S1.asI rfl) ?_
  refine GL.done rfl ?_
  refine GQ.outN ?_
  refine GQ.nextT (y + 1) (.c rfl (.c rfl (.c rfl (.c rfl .n)))) (.cons .z .nil) ⟨by omega, by omega⟩ (by omega)
  refine GW.toExit rfl ?_
  refine GQ.onE ?_
  refine GQ.onE ?_
  refine GQ.outH ?_
  refine GQ.on ?_
  refine GW.toSeq rfl ?_
  refine GW.toBlock rfl ?_
  rotate_left
  refine GD.skip rfl (.not rfl rfl rfl) ?_
  refine GD.skip rfl (.not rfl rfl rfl) ?_
  refine GD.skip rfl (.not rfl rfl rfl) ?_
  refine GD.skip rfl (.not rfl rfl rfl) ?_
  refine GD.skip rfl (.not rfl rfl rfl) ?_
  refine GD.skip rfl (.not rfl rfl rfl) ?_
  refine GD.skip rfl (.not rfl rfl rfl) ?_
  refine GD.skip rfl (.not rfl rfl rfl) ?_
  refine GD.skip rfl (.not rfl rfl rfl) ?_
  refine GD.skip rfl (.not rfl rfl rfl) ?_
  refine GD.o rfl (S1.pickF (v := (.bool _)) rfl rfl) rfl ?_
  refine GD.done rfl ?_
  refine GQ.on ?_
  refine GW.toF rfl rfl ?_
  refine GW.toExit rfl ?_
  refine GQ.onE ?_
  refine GQ.onE ?_
  refine GQ.outH ?_
  refine GQ.on ?_
  refine GW.toSeq rfl ?_
  refine GW.toBlock rfl ?_
  rotate_left
  · refine GW.toLoop (X := Int) (fun z => [(0, .slice (some ⟨rb, 0, none⟩) m c), (1, .int .i64 a), (9, .int .i64 y), (10, .int .i64 z)]) (fun z => [(rb, .cells (ints x.2.2) opn true)]) (fun z => a ≤ z ∧ z ≤ (x.2.1)) (fun z => (z - a).toNat) rfl (x.2.1) ⟨by omega, by omega⟩ (.c rfl (.c rfl (.c rfl (.c rfl .n)))) (.cons .z .nil) ?_
    rintro z f ⟨hz0, hz1⟩
    refine GW.toSeq rfl ?_
    refine GW.toSeq rfl ?_
    refine GW.toDrw mx rfl ?_
    refine GD.o rfl (S1.mvI rfl) rfl ?_
    refine GD.o rfl (S1.mvI rfl) rfl ?_
    refine GD.o rfl (S1.leq rfl rfl) rfl ?_
    refine GD.o rfl (S1.mvB rfl) rfl ?_
    refine GD.splitD 49 rfl (fun w4 => ?_) (fun w4 => ?_)
    refine GD.one rfl (.yes rfl rfl rfl) (S1.mvL rfl) rfl ?_
    refine GD.one rfl (.yes rfl rfl rfl) (S1.mvI rfl) rfl ?_
    refine GD.one rfl (.yes rfl rfl rfl) (S1.ix el23 rfl rfl (by omega) (by omega)) rfl ?_
    refine GD.one rfl (.yes rfl rfl rfl) (S1.ldI sc3 rfl (.at .z) (by omega)) rfl ?_
    refine GD.one rfl (.yes rfl rfl rfl) (S1.mvL rfl) rfl ?_
    refine GD.one rfl (.yes rfl rfl rfl) (S1.mvI rfl) rfl ?_
    refine GD.one rfl (.yes rfl rfl rfl) (S1.ix el23 rfl rfl (by omega) (by omega)) rfl ?_
    refine GD.one rfl (.yes rfl rfl rfl) (S1.ldI sc3 rfl (.at .z) (by omega)) rfl ?_
    refine GD.call rfl (.yes rfl rfl rfl) fo75 .nil (fun h H => ct75) (.d (.c (v := (.int _ _)) rfl (.c (v := (.int _ _)) rfl .n))) (fun r5 _ => ?_)
    refine GD.o rfl (S1.pickT (v := (.bool _)) rfl rfl) rfl ?_
    refine GD.done rfl ?_
    refine GQ.on ?_
    refine GW.toC rfl rfl (fun w6 => ?_) (fun w6 => ?_)
    refine GW.toSkip rfl ?_
    refine GQ.on ?_
    refine GW.toBlock rfl ?_
    refine GW.toReg rfl ?_
    refine GL.o rfl (S1.mvI rfl) ?_
    refine GL.o rfl (S1.subI rfl rfl (by omega) (by omega)) ?_
    refine GL.o rfl (S1.asI rfl) ?_
    refine GL.done rfl ?_
    refine GQ.outN ?_
    refine GQ.nextT (z - 1) (.c rfl (.c rfl (.c rfl (.c rfl .n)))) (.cons .z .nil) ⟨by omega, by omega⟩ (by omega)
    refine GW.toExit rfl ?_
    refine GQ.onE ?_
    refine GQ.onE ?_
    refine GQ.outH ?_
    refine GQ.on ?_
    refine GW.toSeq rfl ?_
    refine GW.sr rfl rfl ?_
    refine GL.o rfl (S1.mvI rfl) ?_
    refine GL.o rfl (S1.mvI rfl) ?_
    refine GL.o rfl (S1.gtr rfl rfl) ?_
    refine GL.dn rfl ?_
    refine GW.toD rfl rfl (fun w7 => ?_) (fun w7 => ?_)
    refine GW.toExit rfl ?_
    refine GQ.onE ?_
    refine GQ.outM rfl ?_
    refine GQ.onE ?_
    refine GQ.outH ?_
    refine GQ.on ?_
    refine GW.sr rfl rfl ?_
    refine GL.o rfl (S1.mvI rfl) ?_
    refine GL.o rfl (S1.asI rfl) ?_
    refine GL.dn rfl ?_
    refine GW.toRet rfl ?_
    refine GQ.ret (y, x.2.2) (.tmp rfl rfl .nil) .one rfl ⟨s, by dsimp only; omega, by dsimp only; omega⟩ (.cons .z .nil)
    refine GW.toSkip rfl ?_
    refine GQ.on ?_
    refine GW.toSeq rfl ?_
    refine GW.toDrw mx rfl ?_
    refine GD.o rfl (S1.mvL rfl) rfl ?_
    refine GD.o rfl (S1.mvI rfl) rfl ?_
    refine GD.o rfl (S1.mvL rfl) rfl ?_
    refine GD.o rfl (S1.mvI rfl) rfl ?_
    refine GD.o rfl (S1.mvL rfl) rfl ?_
    refine GD.o rfl (S1.mvI rfl) rfl ?_
    refine GD.o rfl (S1.ix el23 rfl rfl (by omega) (by omega)) rfl ?_
    refine GD.o rfl (S1.ldI sc3 rfl (.at .z) (by omega)) rfl ?_
    refine GD.o rfl (S1.mvL rfl) rfl ?_
    refine GD.o rfl (S1.mvI rfl) rfl ?_
    refine GD.o rfl (S1.ix el23 rfl rfl (by omega) (by omega)) rfl ?_
    refine GD.o rfl (S1.ldI sc3 rfl (.at .z) (by omega)) rfl ?_
    refine GD.o rfl (S1.ix el23 rfl rfl (by omega) (by omega)) rfl ?_
    refine GD.loud rfl .no (S1.stI sc3 rfl rfl (by omega) .z) rfl rfl (by kernel_rfl) ?_
    refine GD.o rfl (S1.ix el23 rfl rfl (by omega) (by omega)) rfl ?_
    refine GD.loud rfl .no (S1.stI sc3 rfl rfl (by simp only [List.length_set]; omega) .z) rfl rfl (by kernel_rfl) ?_
    refine GD.done rfl ?_
    refine GQ.on ?_
    refine GW.sr rfl rfl ?_
    refine GL.o rfl (S1.mvI rfl) ?_
    refine GL.o rfl (S1.addI rfl rfl (by omega) (by omega)) ?_
    refine GL.o rfl (S1.asI rfl) ?_
    refine GL.dn rfl ?_
    refine GW.toReg rfl ?_
    refine GL.o rfl (S1.mvI rfl) ?_
    refine GL.o rfl (S1.subI rfl rfl (by omega) (by omega)) ?_
    refine GL.o rfl (S1.asI rfl) ?_
    refine GL.done rfl ?_
    refine GQ.outN ?_
    refine GQ.nextT (y + 1, z - 1, _) (.c rfl (.c rfl (.c rfl (.c rfl .n)))) .tz ⟨(by first | omega | (dsimp only; omega)), (by first | omega | (dsimp only; omega)), (by first | omega | (dsimp only; omega)), (by first | omega | (dsimp only; omega)), s.sw (by omega) (by omega)⟩ (by first | omega | (dsimp only; omega))
    refine GD.skip rfl (.not rfl rfl rfl) ?_
    refine GD.skip rfl (.not rfl rfl rfl) ?_
    refine GD.skip rfl (.not rfl rfl rfl) ?_
    refine GD.skip rfl (.not rfl rfl rfl) ?_
    refine GD.skip rfl (.not rfl rfl rfl) ?_
    refine GD.skip rfl (.not rfl rfl rfl) ?_
    refine GD.skip rfl (.not rfl rfl rfl) ?_
    refine GD.skip rfl (.not rfl rfl rfl) ?_
    refine GD.skip rfl (.not rfl rfl rfl) ?_
    refine GD.o rfl (S1.pickF (v := (.bool _)) rfl rfl) rfl ?_
    refine GD.done rfl ?_
    refine GQ.on ?_
    refine GW.toF rfl rfl ?_
    refine GW.toExit rfl ?_
    refine GQ.onE ?_
    refine GQ.onE ?_
    refine GQ.outH ?_
    refine GQ.on ?_
    refine GW.toSeq rfl ?_
    refine GW.sr rfl rfl ?_
    refine GL.o rfl (S1.mvI rfl) ?_
    refine GL.o rfl (S1.mvI rfl) ?_
    refine GL.o rfl (S1.gtr rfl rfl) ?_
    refine GL.dn rfl ?_
    refine GW.toD rfl rfl (fun w8 => ?_) (fun w8 => ?_)
    refine GW.toExit rfl ?_
    refine GQ.onE ?_
    refine GQ.outM rfl ?_
    refine GQ.onE ?_
    refine GQ.outH ?_
    refine GQ.on ?_
    refine GW.sr rfl rfl ?_
    refine GL.o rfl (S1.mvI rfl) ?_
    refine GL.o rfl (S1.asI rfl) ?_
    refine GL.dn rfl ?_
    refine GW.toRet rfl ?_
    refine GQ.ret (y, x.2.2) (.tmp rfl rfl .nil) .one rfl ⟨s, by dsimp only; omega, by dsimp only; omega⟩ .tz
    refine GW.toSkip rfl ?_
    refine GQ.on ?_
    refine GW.toSeq rfl ?_
    refine GW.toDrw mx rfl ?_
    refine GD.o rfl (S1.mvL rfl) rfl ?_
    refine GD.o rfl (S1.mvI rfl) rfl ?_
    refine GD.o rfl (S1.mvL rfl) rfl ?_
    refine GD.o rfl (S1.mvI rfl) rfl ?_
    refine GD.o rfl (S1.mvL rfl) rfl ?_
    refine GD.o rfl (S1.mvI rfl) rfl ?_
    refine GD.o rfl (S1.ix el23 rfl rfl (by omega) (by omega)) rfl ?_
    refine GD.o rfl (S1.ldI sc3 rfl (.at .z) (by omega)) rfl ?_
    refine GD.o rfl (S1.mvL rfl) rfl ?_
    refine GD.o rfl (S1.mvI rfl) rfl ?_
    refine GD.o rfl (S1.ix el23 rfl rfl (by omega) (by omega)) rfl ?_
    refine GD.o rfl (S1.ldI sc3 rfl (.at .z) (by omega)) rfl ?_
    refine GD.o rfl (S1.ix el23 rfl rfl (by omega) (by omega)) rfl ?_
    refine GD.loud rfl .no (S1.stI sc3 rfl rfl (by omega) .z) rfl rfl (by kernel_rfl) ?_
    refine GD.o rfl (S1.ix el23 rfl rfl (by omega) (by omega)) rfl ?_
    refine GD.loud rfl .no (S1.stI sc3 rfl rfl (by omega) .z) rfl rfl (by kernel_rfl) ?_
    refine GD.done rfl ?_
    refine GQ.on ?_
    refine GW.sr rfl rfl ?_
    refine GL.o rfl (S1.mvI rfl) ?_
    refine GL.o rfl (S1.addI rfl rfl (by omega) (by omega)) ?_
    refine GL.o rfl (S1.asI rfl) ?_
    refine GL.dn rfl ?_
    refine GW.toReg rfl ?_
    refine GL.o rfl (S1.mvI rfl) ?_
    refine GL.o rfl (S1.subI rfl rfl (by omega) (by omega)) ?_
    refine GL.o rfl (S1.asI rfl) ?_
    refine GL.done rfl ?_
    refine GQ.outN ?_
    refine GQ.nextT (y + 1, z - 1, _) (.c rfl (.c rfl (.c rfl (.c rfl .n)))) .tz ⟨(by first | omega | (dsimp only; omega)), (by first | omega | (dsimp only; omega)), (by first | omega | (dsimp only; omega)), (by first | omega | (dsimp only; omega)), s.sw (by omega) (by omega)⟩ (by first | omega | (dsimp only; omega))
  · refine GW.toLoop (X := Int) (fun z => [(0, .slice (some ⟨rb, 0, none⟩) m c), (1, .int .i64 a), (9, .int .i64 y), (10, .int .i64 z)]) (fun z => [(rb, .cells (ints x.2.2) opn true)]) (fun z => a ≤ z ∧ z ≤ (x.2.1)) (fun z => (z - a).toNat) rfl (x.2.1) ⟨by omega, by omega⟩ (.c rfl (.c rfl (.c rfl (.c rfl .n)))) .tz ?_
    rintro z f ⟨hz0, hz1⟩
    refine GW.toSeq rfl ?_
    refine GW.toSeq rfl ?_
    refine GW.toDrw mx rfl ?_
    refine GD.o rfl (S1.mvI rfl) rfl ?_
    refine GD.o rfl (S1.mvI rfl) rfl ?_
    refine GD.o rfl (S1.leq rfl rfl) rfl ?_
    refine GD.o rfl (S1.mvB rfl) rfl ?_
    refine GD.splitD 49 rfl (fun w9 => ?_) (fun w9 => ?_)
    refine GD.one rfl (.yes rfl rfl rfl) (S1.mvL rfl) rfl ?_
    refine GD.one rfl (.yes rfl rfl rfl) (S1.mvI rfl) rfl ?_
    refine GD.one rfl (.yes rfl rfl rfl) (S1.ix el23 rfl rfl (by omega) (by omega)) rfl ?_
    refine GD.one rfl (.yes rfl rfl rfl) (S1.ldI sc3 rfl (.at .z) (by omega)) rfl ?_
    refine GD.one rfl (.yes rfl rfl rfl) (S1.mvL rfl) rfl ?_
    refine GD.one rfl (.yes rfl rfl rfl) (S1.mvI rfl) rfl ?_
    refine GD.one rfl (.yes rfl rfl rfl) (S1.ix el23 rfl rfl (by omega) (by omega)) rfl ?_
    refine GD.one rfl (.yes rfl rfl rfl) (S1.ldI sc3 rfl (.at .z) (by omega)) rfl ?_
    refine GD.call rfl (.yes rfl rfl rfl) fo75 .nil (fun h H => ct75) (.d (.c (v := (.int _ _)) rfl (.c (v := (.int _ _)) rfl .n))) (fun r10 _ => ?_)
    refine GD.o rfl (S1.pickT (v := (.bool _)) rfl rfl) rfl ?_
    refine GD.done rfl ?_
    refine GQ.on ?_
    refine GW.toC rfl rfl (fun w11 => ?_) (fun w11 => ?_)
    refine GW.toSkip rfl ?_
    refine GQ.on ?_
    refine GW.toBlock rfl ?_
    refine GW.toReg rfl ?_
    refine GL.o rfl (S1.mvI rfl) ?_
    refine GL.o rfl (S1.subI rfl rfl (by omega) (by omega)) ?_
    refine GL.o rfl (S1.asI rfl) ?_
    refine GL.done rfl ?_
    refine GQ.outN ?_
    refine GQ.nextT (z - 1) (.c rfl (.c rfl (.c rfl (.c rfl .n)))) (.cons .z .nil) ⟨by omega, by omega⟩ (by omega)
    refine GW.toExit rfl ?_
    refine GQ.onE ?_
    refine GQ.onE ?_
    refine GQ.outH ?_
    refine GQ.on ?_
    refine GW.toSeq rfl ?_
    refine GW.sr rfl rfl ?_
    refine GL.o rfl (S1.mvI rfl) ?_
    refine GL.o rfl (S1.mvI rfl) ?_
    refine GL.o rfl (S1.gtr rfl rfl) ?_
    refine GL.dn rfl ?_
    refine GW.toD rfl rfl (fun w12 => ?_) (fun w12 => ?_)
    refine GW.toExit rfl ?_
    refine GQ.onE ?_
    refine GQ.outM rfl ?_
    refine GQ.onE ?_
    refine GQ.outH ?_
    refine GQ.on ?_
    refine GW.sr rfl rfl ?_
    refine GL.o rfl (S1.mvI rfl) ?_
    refine GL.o rfl (S1.asI rfl) ?_
    refine GL.dn rfl ?_
    refine GW.toRet rfl ?_
    refine GQ.ret (y, x.2.2) (.tmp rfl rfl .nil) .one rfl ⟨s, by dsimp only; omega, by dsimp only; omega⟩ (.cons .z .nil)
    refine GW.toSkip rfl ?_
    refine GQ.on ?_
    refine GW.toSeq rfl ?_
    refine GW.toDrw mx rfl ?_
    refine GD.o rfl (S1.mvL rfl) rfl ?_
    refine GD.o rfl (S1.mvI rfl) rfl ?_
    refine GD.o rfl (S1.mvL rfl) rfl ?_
    refine GD.o rfl (S1.mvI rfl) rfl ?_
    refine GD.o rfl (S1.mvL rfl) rfl ?_
    refine GD.o rfl (S1.mvI rfl) rfl ?_
    refine GD.o rfl (S1.ix el23 rfl rfl (by omega) (by omega)) rfl ?_
    refine GD.o rfl (S1.ldI sc3 rfl (.at .z) (by omega)) rfl ?_
    refine GD.o rfl (S1.mvL rfl) rfl ?_
    refine GD.o rfl (S1.mvI rfl) rfl ?_
    refine GD.o rfl (S1.ix el23 rfl rfl (by omega) (by omega)) rfl ?_
    refine GD.o rfl (S1.ldI sc3 rfl (.at .z) (by omega)) rfl ?_
    refine GD.o rfl (S1.ix el23 rfl rfl (by omega) (by omega)) rfl ?_
    refine GD.loud rfl .no (S1.stI sc3 rfl rfl (by omega) .z) rfl rfl (by kernel_rfl) ?_
    refine GD.o rfl (S1.ix el23 rfl rfl (by omega) (by omega)) rfl ?_
    refine GD.loud rfl .no (S1.stI sc3 rfl rfl (by omega) .z) rfl rfl (by kernel_rfl) ?_
    refine GD.done rfl ?_
    refine GQ.on ?_
    refine GW.sr rfl rfl ?_
    refine GL.o rfl (S1.mvI rfl) ?_
    refine GL.o rfl (S1.addI rfl rfl (by omega) (by omega)) ?_
    refine GL.o rfl (S1.asI rfl) ?_
    refine GL.dn rfl ?_
    refine GW.toReg rfl ?_
    refine GL.o rfl (S1.mvI rfl) ?_
    refine GL.o rfl (S1.subI rfl rfl (by omega) (by omega)) ?_
    refine GL.o rfl (S1.asI rfl) ?_
    refine GL.done rfl ?_
    refine GQ.outN ?_
    refine GQ.nextT (y + 1, z - 1, _) (.c rfl (.c rfl (.c rfl (.c rfl .n)))) .tz ⟨(by first | omega | (dsimp only; omega)), (by first | omega | (dsimp only; omega)), (by first | omega | (dsimp only; omega)), (by first | omega | (dsimp only; omega)), s.sw (by omega) (by omega)⟩ (by first | omega | (dsimp only; omega))
    refine GD.skip rfl (.not rfl rfl rfl) ?_
    refine GD.skip rfl (.not rfl rfl rfl) ?_
    refine GD.skip rfl (.not rfl rfl rfl) ?_
    refine GD.skip rfl (.not rfl rfl rfl) ?_
    refine GD.skip rfl (.not rfl rfl rfl) ?_
    refine GD.skip rfl (.not rfl rfl rfl) ?_
    refine GD.skip rfl (.not rfl rfl rfl) ?_
    refine GD.skip rfl (.not rfl rfl rfl) ?_
    refine GD.skip rfl (.not rfl rfl rfl) ?_
    refine GD.o rfl (S1.pickF (v := (.bool _)) rfl rfl) rfl ?_
    refine GD.done rfl ?_
    refine GQ.on ?_
    refine GW.toF rfl rfl ?_
    refine GW.toExit rfl ?_
    refine GQ.onE ?_
    refine GQ.onE ?_
    refine GQ.outH ?_
    refine GQ.on ?_
    refine GW.toSeq rfl ?_
    refine GW.sr rfl rfl ?_
    refine GL.o rfl (S1.mvI rfl) ?_
    refine GL.o rfl (S1.mvI rfl) ?_
    refine GL.o rfl (S1.gtr rfl rfl) ?_
    refine GL.dn rfl ?_
    refine GW.toD rfl rfl (fun w13 => ?_) (fun w13 => ?_)
    refine GW.toExit rfl ?_
    refine GQ.onE ?_
    refine GQ.outM rfl ?_
    refine GQ.onE ?_
    refine GQ.outH ?_
    refine GQ.on ?_
    refine GW.sr rfl rfl ?_
    refine GL.o rfl (S1.mvI rfl) ?_
    refine GL.o rfl (S1.asI rfl) ?_
    refine GL.dn rfl ?_
    refine GW.toRet rfl ?_
    refine GQ.ret (y, x.2.2) (.tmp rfl rfl .nil) .one rfl ⟨s, by dsimp only; omega, by dsimp only; omega⟩ .tz
    refine GW.toSkip rfl ?_
    refine GQ.on ?_
    refine GW.toSeq rfl ?_
    refine GW.toDrw mx rfl ?_
    refine GD.o rfl (S1.mvL rfl) rfl ?_
    refine GD.o rfl (S1.mvI rfl) rfl ?_
    refine GD.o rfl (S1.mvL rfl) rfl ?_
    refine GD.o rfl (S1.mvI rfl) rfl ?_
    refine GD.o rfl (S1.mvL rfl) rfl ?_
    refine GD.o rfl (S1.mvI rfl) rfl ?_
    refine GD.o rfl (S1.ix el23 rfl rfl (by omega) (by omega)) rfl ?_
    refine GD.o rfl (S1.ldI sc3 rfl (.at .z) (by omega)) rfl ?_
    refine GD.o rfl (S1.mvL rfl) rfl ?_
    refine GD.o rfl (S1.mvI rfl) rfl ?_
    refine GD.o rfl (S1.ix el23 rfl rfl (by omega) (by omega)) rfl ?_
    refine GD.o rfl (S1.ldI sc3 rfl (.at .z) (by omega)) rfl ?_
    refine GD.o rfl (S1.ix el23 rfl rfl (by omega) (by omega)) rfl ?_
    refine GD.loud rfl .no (S1.stI sc3 rfl rfl (by omega) .z) rfl rfl (by kernel_rfl) ?_
    refine GD.o rfl (S1.ix el23 rfl rfl (by omega) (by omega)) rfl ?_
    refine GD.loud rfl .no (S1.stI sc3 rfl rfl (by omega) .z) rfl rfl (by kernel_rfl) ?_
    refine GD.done rfl ?_
    refine GQ.on ?_
    refine GW.sr rfl rfl ?_
    refine GL.o rfl (S1.mvI rfl) ?_
    refine GL.o rfl (S1.addI rfl rfl (by omega) (by omega)) ?_
    refine GL.o rfl (S1.asI rfl) ?_
    refine GL.dn rfl ?_
    refine GW.toReg rfl ?_
    refine GL.o rfl (S1.mvI rfl) ?_
    refine GL.o rfl (S1.subI rfl rfl (by omega) (by omega)) ?_
    refine GL.o rfl (S1.asI rfl) ?_
    refine GL.done rfl ?_
    refine GQ.outN ?_
    refine GQ.nextT (y + 1, z - 1, _) (.c rfl (.c rfl (.c rfl (.c rfl .n)))) .tz ⟨(by first | omega | (dsimp only; omega)), (by first | omega | (dsimp only; omega)), (by first | omega | (dsimp only; omega)), (by first | omega | (dsimp only; omega)), s.sw (by omega) (by omega)⟩ (by first | omega | (dsimp only; omega))

end
end Go.Proofs.Ytenkebdjlajanaa
namespace Go.Proofs.Ytenkebdjlajanaa
open Go Go.E
set_option maxRecDepth 100000
set_option maxHeartbeats 4000000

section
variable {h : EH} {hr : RO} {rb m c : Nat} {opn : Option Nat} {l : List Int} {a b pv : Int}

theorem ct77 (H : Hp hr h [rb] [(rb, .cells (ints l) opn true)] h) (hm : m ≤ l.length) (hm2 : l.length ≤ 1073741824) (ha : 0 ≤ a) (hb : b ≤ m) (hp0 : a ≤ pv) (hp1 : pv < b) : Ct Try.prog 77 ⟨[.slice (some ⟨rb, 0, none⟩) m c, .int .i64 a, .int .i64 b, .int .i64 pv]⟩ h [rb] (fun x : Int × Bool × List Int => .tuple ⟨[.int .i64 x.1, .bool x.2.1]⟩) (fun x => Sw l x.2.2 ∧ a ≤ x.1 ∧ x.1 < b) (fun x => [(rb, .cells (ints x.2.2) opn true)]) := by
  refine Ct.go Try.func77 rfl rfl co77 H ?_
  have s0 := Sw.refl l
  have s : Sw l ((l.set (0 + a.toNat * 1) (l.getD (0 + pv.toNat * 1) 0)).set (0 + pv.toNat * 1) (l.getD (0 + a.toNat * 1) 0)) := s0.sw (by omega) (by omega)
  have hs := s.1
  refine GW.sr rfl rfl ?_
  refine GL.o rfl (S1.asI rfl) ?_
  refine GL.o rfl (S1.asB rfl) ?_
  refine GL.dn rfl ?_
  refine GW.toSeq rfl ?_
  refine GW.toDrw mx rfl ?_
  refine GD.o rfl (S1.mvL rfl) rfl ?_
  refine GD.o rfl (S1.mvI rfl) rfl ?_
  refine GD.o rfl (S1.mvL rfl) rfl ?_
  refine GD.o rfl (S1.mvI rfl) rfl ?_
  refine GD.o rfl (S1.mvL rfl) rfl ?_
  refine GD.o rfl (S1.mvI rfl) rfl ?_
  refine GD.o rfl (S1.ix el23 rfl rfl (by omega) (by omega)) rfl ?_
  refine GD.o rfl (S1.ldI sc3 rfl (.at .z) (by omega)) rfl ?_
  refine GD.o rfl (S1.mvL rfl) rfl ?_
  refine GD.o rfl (S1.mvI rfl) rfl ?_
  refine GD.o rfl (S1.ix el23 rfl rfl (by omega) (by omega)) rfl ?_
  refine GD.o rfl (S1.ldI sc3 rfl (.at .z) (by omega)) rfl ?_
  refine GD.o rfl (S1.ix el23 rfl rfl (by omega) (by omega)) rfl ?_
  refine GD.loud rfl .no (S1.stI sc3 rfl rfl (by omega) .z) rfl rfl (by kernel_rfl) ?_
  refine GD.o rfl (S1.ix el23 rfl rfl (by omega) (by omega)) rfl ?_
  refine GD.loud rfl .no (S1.stI sc3 rfl rfl (by simp only [List.length_set]; omega) .z) rfl rfl (by kernel_rfl) ?_
  refine GD.done rfl ?_
  refine GQ.on ?_
  refine GW.sr rfl rfl ?_
  refine GL.o rfl (S1.mvI rfl) ?_
  refine GL.o rfl (S1.addI rfl rfl (by omega) (by omega)) ?_
  refine GL.o rfl (S1.mvI rfl) ?_
  refine GL.o rfl (S1.subI rfl rfl (by omega) (by omega)) ?_
  refine GL.o rfl (S1.asI rfl) ?_
  refine GL.o rfl (S1.asI rfl) ?_
  refine GL.dn rfl ?_
  refine GW.toSeq rfl ?_
  refine GW.toBlock rfl ?_
  refine GW.toLoop (X := Int) (fun y => [(0, .slice (some ⟨rb, 0, none⟩) m c), (1, .int .i64 a), (10, .int .i64 y), (11, .int .i64 (b - 1))]) (fun y => [(rb, .cells (ints ((l.set (0 + a.toNat * 1) (l.getD (0 + pv.toNat * 1) 0)).set (0 + pv.toNat * 1) (l.getD (0 + a.toNat * 1) 0))) opn true)]) (fun y => (a + 1) ≤ y ∧ y ≤ b) (fun y => (b - y).toNat) rfl (a + 1) ⟨by omega, by omega⟩ (.c rfl (.c rfl (.c rfl (.c rfl .n)))) .tz ?_
  rintro y f ⟨hy0, hy1⟩
  refine GW.toSeq rfl ?_
  refine GW.toSeq rfl ?_
  refine GW.toDrw mx rfl ?_
  refine GD.o rfl (S1.mvI rfl) rfl ?_
  refine GD.o rfl (S1.mvI rfl) rfl ?_
  refine GD.o rfl (S1.leq rfl rfl) rfl ?_
  refine GD.o rfl (S1.mvB rfl) rfl ?_
  refine GD.splitD 33 rfl (fun w1 => ?_) (fun w1 => ?_)
  refine GD.one rfl (.yes rfl rfl rfl) (S1.mvL rfl) rfl ?_
  refine GD.one rfl (.yes rfl rfl rfl) (S1.mvI rfl) rfl ?_
  refine GD.one rfl (.yes rfl rfl rfl) (S1.ix el23 rfl rfl (by omega) (by omega)) rfl ?_
  refine GD.one rfl (.yes rfl rfl rfl) (S1.ldI sc3 rfl (.at .z) (by omega)) rfl ?_
  refine GD.one rfl (.yes rfl rfl rfl) (S1.mvL rfl) rfl ?_
  refine GD.one rfl (.yes rfl rfl rfl) (S1.mvI rfl) rfl ?_
  refine GD.one rfl (.yes rfl rfl rfl) (S1.ix el23 rfl rfl (by omega) (by omega)) rfl ?_
  refine GD.one rfl (.yes rfl rfl rfl) (S1.ldI sc3 rfl (.at .z) (by omega)) rfl ?_
  refine GD.call rfl (.yes rfl rfl rfl) fo75 .nil (fun h H => ct75) (.d (.c (v := (.int _ _)) rfl (.c (v := (.int _ _)) rfl .n))) (fun r2 _ => ?_)
  refine GD.o rfl (S1.pickT (v := (.bool _)) rfl rfl) rfl ?_
  refine GD.done rfl ?_
  refine GQ.on ?_
  refine GW.toC rfl rfl (fun w3 => ?_) (fun w3 => ?_)
  refine GW.toSkip rfl ?_
  refine GQ.on ?_
  refine GW.toBlock rfl ?_
  refine GW.toReg rfl ?_
  refine GL.o rfl (S1.mvI rfl) ?_
  refine GL.o rfl (S1.addI rfl rfl (by omega) (by omega)) ?_
  refine GL.o rfl (S1.asI rfl) ?_
  refine GL.done rfl ?_
  refine GQ.outN ?_
  refine GQ.nextT (y + 1) (.c rfl (.c rfl (.c rfl (.c rfl .n)))) (.cons .z .nil) ⟨by omega, by omega⟩ (by omega)
  refine GW.toExit rfl ?_
  refine GQ.onE ?_
  refine GQ.onE ?_
  refine GQ.outH ?_
  refine GQ.on ?_
  refine GW.toSeq rfl ?_
  refine GW.toBlock rfl ?_
  rotate_left
  refine GD.skip rfl (.not rfl rfl rfl) ?_
  refine GD.skip rfl (.not rfl rfl rfl) ?_
  refine GD.skip rfl (.not rfl rfl rfl) ?_
  refine GD.skip rfl (.not rfl rfl rfl) ?_
  refine GD.skip rfl (.not rfl rfl rfl) ?_
  refine GD.skip rfl (.not rfl rfl rfl) ?_
  refine GD.skip rfl (.not rfl rfl rfl) ?_
  refine GD.skip rfl (.not rfl rfl rfl) ?_
  refine GD.skip rfl (.not rfl rfl rfl) ?_
  refine GD.o rfl (S1.pickF (v := (.bool _)) rfl rfl) rfl ?_
  refine GD.done rfl ?_
  refine GQ.on ?_
  refine GW.toF rfl rfl ?_
  refine GW.toExit rfl ?_
  refine GQ.onE ?_
  refine GQ.onE ?_
  refine GQ.outH ?_
  refine GQ.on ?_
  refine GW.toSeq rfl ?_
  refine GW.toBlock rfl ?_
  rotate_left
  · refine GW.toLoop (X := Int) (fun z => [(0, .slice (some ⟨rb, 0, none⟩) m c), (1, .int .i64 a), (10, .int .i64 y), (11, .int .i64 z)]) (fun z => [(rb, .cells (ints ((l.set (0 + a.toNat * 1) (l.getD (0 + pv.toNat * 1) 0)).set (0 + pv.toNat * 1) (l.getD (0 + a.toNat * 1) 0))) opn true)]) (fun z => a ≤ z ∧ z ≤ (b - 1)) (fun z => (z - a).toNat) rfl (b - 1) ⟨by omega, by omega⟩ (.c rfl (.c rfl (.c rfl (.c rfl .n)))) (.cons .z .nil) ?_
    rintro z f ⟨hz0, hz1⟩
    refine GW.toSeq rfl ?_
    refine GW.toSeq rfl ?_
    refine GW.toDrw mx rfl ?_
    refine GD.o rfl (S1.mvI rfl) rfl ?_
    refine GD.o rfl (S1.mvI rfl) rfl ?_
    refine GD.o rfl (S1.leq rfl rfl) rfl ?_
    refine GD.o rfl (S1.mvB rfl) rfl ?_
    refine GD.splitD 49 rfl (fun w4 => ?_) (fun w4 => ?_)
    refine GD.one rfl (.yes rfl rfl rfl) (S1.mvL rfl) rfl ?_
    refine GD.one rfl (.yes rfl rfl rfl) (S1.mvI rfl) rfl ?_
    refine GD.one rfl (.yes rfl rfl rfl) (S1.ix el23 rfl rfl (by omega) (by omega)) rfl ?_
    refine GD.one rfl (.yes rfl rfl rfl) (S1.ldI sc3 rfl (.at .z) (by omega)) rfl ?_
    refine GD.one rfl (.yes rfl rfl rfl) (S1.mvL rfl) rfl ?_
    refine GD.one rfl (.yes rfl rfl rfl) (S1.mvI rfl) rfl ?_
    refine GD.one rfl (.yes rfl rfl rfl) (S1.ix el23 rfl rfl (by omega) (by omega)) rfl ?_
    refine GD.one rfl (.yes rfl rfl rfl) (S1.ldI sc3 rfl (.at .z) (by omega)) rfl ?_
    refine GD.call rfl (.yes rfl rfl rfl) fo75 .nil (fun h H => ct75) (.d (.c (v := (.int _ _)) rfl (.c (v := (.int _ _)) rfl .n))) (fun r5 _ => ?_)
    refine GD.one rfl (.yes rfl rfl rfl) (S1.not rfl) rfl ?_
    refine GD.o rfl (S1.pickT (v := (.bool _)) rfl rfl) rfl ?_
    refine GD.done rfl ?_
    refine GQ.on ?_
    refine GW.toC rfl rfl (fun w6 => ?_) (fun w6 => ?_)
    refine GW.toSkip rfl ?_
    refine GQ.on ?_
    refine GW.toBlock rfl ?_
    refine GW.toReg rfl ?_
    refine GL.o rfl (S1.mvI rfl) ?_
    refine GL.o rfl (S1.subI rfl rfl (by omega) (by omega)) ?_
    refine GL.o rfl (S1.asI rfl) ?_
    refine GL.done rfl ?_
    refine GQ.outN ?_
    refine GQ.nextT (z - 1) (.c rfl (.c rfl (.c rfl (.c rfl .n)))) (.cons .z .nil) ⟨by omega, by omega⟩ (by omega)
    refine GW.toExit rfl ?_
    refine GQ.onE ?_
    refine GQ.onE ?_
    refine GQ.outH ?_
    refine GQ.on ?_
    refine GW.toSeq rfl ?_
    refine GW.sr rfl rfl ?_
    refine GL.o rfl (S1.mvI rfl) ?_
    refine GL.o rfl (S1.mvI rfl) ?_
    refine GL.o rfl (S1.gtr rfl rfl) ?_
    refine GL.dn rfl ?_
    refine GW.toD rfl rfl (fun w7 => ?_) (fun w7 => ?_)
    refine GW.toSeq rfl ?_
    refine GW.toDrw mx rfl ?_
    refine GD.o rfl (S1.mvL rfl) rfl ?_
    refine GD.o rfl (S1.mvI rfl) rfl ?_
    refine GD.o rfl (S1.mvL rfl) rfl ?_
    refine GD.o rfl (S1.mvI rfl) rfl ?_
    refine GD.o rfl (S1.mvL rfl) rfl ?_
    refine GD.o rfl (S1.mvI rfl) rfl ?_
    refine GD.o rfl (S1.ix el23 rfl rfl (by omega) (by omega)) rfl ?_
    refine GD.o rfl (S1.ldI sc3 rfl (.at .z) (by omega)) rfl ?_
    refine GD.o rfl (S1.mvL rfl) rfl ?_
    refine GD.o rfl (S1.mvI rfl) rfl ?_
    refine GD.o rfl (S1.ix el23 rfl rfl (by omega) (by omega)) rfl ?_
    refine GD.o rfl (S1.ldI sc3 rfl (.at .z) (by omega)) rfl ?_
    refine GD.o rfl (S1.ix el23 rfl rfl (by omega) (by omega)) rfl ?_
    refine GD.loud rfl .no (S1.stI sc3 rfl rfl (by omega) .z) rfl rfl (by kernel_rfl) ?_
    refine GD.o rfl (S1.ix el23 rfl rfl (by omega) (by omega)) rfl ?_
    refine GD.loud rfl .no (S1.stI sc3 rfl rfl (by omega) .z) rfl rfl (by kernel_rfl) ?_
    refine GD.done rfl ?_
    refine GQ.on ?_
    refine GW.sr rfl rfl ?_
    refine GL.o rfl (S1.mvI rfl) ?_
    refine GL.o rfl (S1.asI rfl) ?_
    refine GL.o rfl (S1.asB rfl) ?_
    refine GL.dn rfl ?_
    refine GW.toRet rfl ?_
    refine GQ.onR ?_
    (exfalso; omega)
    refine GW.toSkip rfl ?_
    refine GQ.on ?_
    refine GW.toSeq rfl ?_
    refine GW.toDrw mx rfl ?_
    refine GD.o rfl (S1.mvL rfl) rfl ?_
    refine GD.o rfl (S1.mvI rfl) rfl ?_
    refine GD.o rfl (S1.mvL rfl) rfl ?_
    refine GD.o rfl (S1.mvI rfl) rfl ?_
    refine GD.o rfl (S1.mvL rfl) rfl ?_
    refine GD.o rfl (S1.mvI rfl) rfl ?_
    refine GD.o rfl (S1.ix el23 rfl rfl (by omega) (by omega)) rfl ?_
    refine GD.o rfl (S1.ldI sc3 rfl (.at .z) (by omega)) rfl ?_
    refine GD.o rfl (S1.mvL rfl) rfl ?_
    refine GD.o rfl (S1.mvI rfl) rfl ?_
    refine GD.o rfl (S1.ix el23 rfl rfl (by omega) (by omega)) rfl ?_
    refine GD.o rfl (S1.ldI sc3 rfl (.at .z) (by omega)) rfl ?_
    refine GD.o rfl (S1.ix el23 rfl rfl (by omega) (by omega)) rfl ?_
    refine GD.loud rfl .no (S1.stI sc3 rfl rfl (by omega) .z) rfl rfl (by kernel_rfl) ?_
    refine GD.o rfl (S1.ix el23 rfl rfl (by omega) (by omega)) rfl ?_
    refine GD.loud rfl .no (S1.stI sc3 rfl rfl (by simp only [List.length_set]; omega) .z) rfl rfl (by kernel_rfl) ?_
    refine GD.done rfl ?_
    refine GQ.on ?_
    refine GW.sr rfl rfl ?_
    refine GL.o rfl (S1.mvI rfl) ?_
    refine GL.o rfl (S1.addI rfl rfl (by omega) (by omega)) ?_
    refine GL.o rfl (S1.asI rfl) ?_
    refine GL.dn rfl ?_
    refine GW.sr rfl rfl ?_
    refine GL.o rfl (S1.mvI rfl) ?_
    refine GL.o rfl (S1.subI rfl rfl (by omega) (by omega)) ?_
    refine GL.o rfl (S1.asI rfl) ?_
    refine GL.dn rfl ?_
    refine GW.toSeq rfl ?_
    refine GW.toBlock rfl ?_
    rotate_left
    refine GD.skip rfl (.not rfl rfl rfl) ?_
    refine GD.skip rfl (.not rfl rfl rfl) ?_
    refine GD.skip rfl (.not rfl rfl rfl) ?_
    refine GD.skip rfl (.not rfl rfl rfl) ?_
    refine GD.skip rfl (.not rfl rfl rfl) ?_
    refine GD.skip rfl (.not rfl rfl rfl) ?_
    refine GD.skip rfl (.not rfl rfl rfl) ?_
    refine GD.skip rfl (.not rfl rfl rfl) ?_
    refine GD.skip rfl (.not rfl rfl rfl) ?_
    refine GD.skip rfl (.not rfl rfl rfl) ?_
    refine GD.o rfl (S1.pickF (v := (.bool _)) rfl rfl) rfl ?_
    refine GD.done rfl ?_
    refine GQ.on ?_
    refine GW.toF rfl rfl ?_
    refine GW.toExit rfl ?_
    refine GQ.onE ?_
    refine GQ.onE ?_
    refine GQ.outH ?_
    refine GQ.on ?_
    refine GW.toSeq rfl ?_
    refine GW.sr rfl rfl ?_
    refine GL.o rfl (S1.mvI rfl) ?_
    refine GL.o rfl (S1.mvI rfl) ?_
    refine GL.o rfl (S1.gtr rfl rfl) ?_
    refine GL.dn rfl ?_
    refine GW.toD rfl rfl (fun w8 => ?_) (fun w8 => ?_)
    refine GW.toSeq rfl ?_
    refine GW.toDrw mx rfl ?_
    refine GD.o rfl (S1.mvL rfl) rfl ?_
    refine GD.o rfl (S1.mvI rfl) rfl ?_
    refine GD.o rfl (S1.mvL rfl) rfl ?_
    refine GD.o rfl (S1.mvI rfl) rfl ?_
    refine GD.o rfl (S1.mvL rfl) rfl ?_
    refine GD.o rfl (S1.mvI rfl) rfl ?_
    refine GD.o rfl (S1.ix el23 rfl rfl (by omega) (by omega)) rfl ?_
    refine GD.o rfl (S1.ldI sc3 rfl (.at .z) (by omega)) rfl ?_
    refine GD.o rfl (S1.mvL rfl) rfl ?_
    refine GD.o rfl (S1.mvI rfl) rfl ?_
    refine GD.o rfl (S1.ix el23 rfl rfl (by omega) (by omega)) rfl ?_
    refine GD.o rfl (S1.ldI sc3 rfl (.at .z) (by omega)) rfl ?_
    refine GD.o rfl (S1.ix el23 rfl rfl (by omega) (by omega)) rfl ?_
    refine GD.loud rfl .no (S1.stI sc3 rfl rfl (by omega) .z) rfl rfl (by kernel_rfl) ?_
    refine GD.o rfl (S1.ix el23 rfl rfl (by omega) (by omega)) rfl ?_
    refine GD.loud rfl .no (S1.stI sc3 rfl rfl (by simp only [List.length_set]; omega) .z) rfl rfl (by kernel_rfl) ?_
    refine GD.done rfl ?_
    refine GQ.on ?_
    refine GW.sr rfl rfl ?_
    refine GL.o rfl (S1.mvI rfl) ?_
    refine GL.o rfl (S1.asI rfl) ?_
    refine GL.o rfl (S1.asB rfl) ?_
    refine GL.dn rfl ?_
    refine GW.toRet rfl ?_
    refine GQ.onR ?_
    refine GQ.retT (z, _, _) (.tmp rfl rfl (.tmp rfl rfl .nil)) .more rfl .tz ⟨s.sw (by omega) (by omega), by dsimp only; omega, by dsimp only; omega⟩
    refine GW.toSkip rfl ?_
    refine GQ.on ?_
    refine GW.toSeq rfl ?_
    refine GW.toDrw mx rfl ?_
    refine GD.o rfl (S1.mvL rfl) rfl ?_
    refine GD.o rfl (S1.mvI rfl) rfl ?_
    refine GD.o rfl (S1.mvL rfl) rfl ?_
    refine GD.o rfl (S1.mvI rfl) rfl ?_
    refine GD.o rfl (S1.mvL rfl) rfl ?_
    refine GD.o rfl (S1.mvI rfl) rfl ?_
    refine GD.o rfl (S1.ix el23 rfl rfl (by omega) (by omega)) rfl ?_
    refine GD.o rfl (S1.ldI sc3 rfl (.at .z) (by omega)) rfl ?_
    refine GD.o rfl (S1.mvL rfl) rfl ?_
    refine GD.o rfl (S1.mvI rfl) rfl ?_
    refine GD.o rfl (S1.ix el23 rfl rfl (by omega) (by omega)) rfl ?_
    refine GD.o rfl (S1.ldI sc3 rfl (.at .z) (by omega)) rfl ?_
    refine GD.o rfl (S1.ix el23 rfl rfl (by omega) (by omega)) rfl ?_
    refine GD.loud rfl .no (S1.stI sc3 rfl rfl (by omega) .z) rfl rfl (by kernel_rfl) ?_
    refine GD.o rfl (S1.ix el23 rfl rfl (by omega) (by omega)) rfl ?_
    refine GD.loud rfl .no (S1.stI sc3 rfl rfl (by omega) .z) rfl rfl (by kernel_rfl) ?_
    refine GD.done rfl ?_
    refine GQ.on ?_
    refine GW.sr rfl rfl ?_
    refine GL.o rfl (S1.mvI rfl) ?_
    refine GL.o rfl (S1.addI rfl rfl (by omega) (by omega)) ?_
    refine GL.o rfl (S1.asI rfl) ?_
    refine GL.dn rfl ?_
    refine GW.sr rfl rfl ?_
    refine GL.o rfl (S1.mvI rfl) ?_
    refine GL.o rfl (S1.subI rfl rfl (by omega) (by omega)) ?_
    refine GL.o rfl (S1.asI rfl) ?_
    refine GL.dn rfl ?_
    refine GW.toSeq rfl ?_
    refine GW.toBlock rfl ?_
    (exfalso; omega)
    refine GW.toLoop (X := Int × Int × List Int) (fun x => [(0, .slice (some ⟨rb, 0, none⟩) m c), (1, .int .i64 a), (10, .int .i64 x.1), (11, .int .i64 x.2.1)]) (fun x => [(rb, .cells (ints x.2.2) opn true)]) (fun x => a + 1 ≤ x.1 ∧ x.1 ≤ b ∧ a ≤ x.2.1 ∧ x.2.1 ≤ b - 1 ∧ Sw l x.2.2) (fun x => (b - x.1).toNat) rfl (y + 1, z - 1, ((((l.set (0 + a.toNat * 1) (l.getD (0 + pv.toNat * 1) 0)).set (0 + pv.toNat * 1) (l.getD (0 + a.toNat * 1) 0)).set (0 + y.toNat * 1) (((l.set (0 + a.toNat * 1) (l.getD (0 + pv.toNat * 1) 0)).set (0 + pv.toNat * 1) (l.getD (0 + a.toNat * 1) 0)).getD (0 + z.toNat * 1) 0)).set (0 + z.toNat * 1) (((l.set (0 + a.toNat * 1) (l.getD (0 + pv.toNat * 1) 0)).set (0 + pv.toNat * 1) (l.getD (0 + a.toNat * 1) 0)).getD (0 + y.toNat * 1) 0))) ⟨(by first | omega | (dsimp only; omega)), (by first | omega | (dsimp only; omega)), (by first | omega | (dsimp only; omega)), (by first | omega | (dsimp only; omega)), s.sw (by omega) (by omega)⟩ (.c rfl (.c rfl (.c rfl (.c rfl .n)))) .tz ?_
    rintro x f ⟨hx0, hx1, hx2, hx3, s⟩
    have hs := s.1
    refine GW.toBlock rfl ?_
    refine GW.toSeq rfl ?_
    refine GW.toBlock rfl ?_
    refine GW.toLoop (X := Int) (fun y => [(0, .slice (some ⟨rb, 0, none⟩) m c), (1, .int .i64 a), (10, .int .i64 y), (11, .int .i64 (x.2.1))]) (fun y => [(rb, .cells (ints x.2.2) opn true)]) (fun y => (x.1) ≤ y ∧ y ≤ b) (fun y => (b - y).toNat) rfl (x.1) ⟨by omega, by omega⟩ (.c rfl (.c rfl (.c rfl (.c rfl .n)))) .tz ?_
    rintro y f ⟨hy0, hy1⟩
    refine GW.toSeq rfl ?_
    refine GW.toSeq rfl ?_
    refine GW.toDrw mx rfl ?_
    refine GD.o rfl (S1.mvI rfl) rfl ?_
    refine GD.o rfl (S1.mvI rfl) rfl ?_
    refine GD.o rfl (S1.leq rfl rfl) rfl ?_
    refine GD.o rfl (S1.mvB rfl) rfl ?_
    refine GD.splitD 102 rfl (fun w9 => ?_) (fun w9 => ?_)
    refine GD.one rfl (.yes rfl rfl rfl) (S1.mvL rfl) rfl ?_
    refine GD.one rfl (.yes rfl rfl rfl) (S1.mvI rfl) rfl ?_
    refine GD.one rfl (.yes rfl rfl rfl) (S1.ix el23 rfl rfl (by omega) (by omega)) rfl ?_
    refine GD.one rfl (.yes rfl rfl rfl) (S1.ldI sc3 rfl (.at .z) (by omega)) rfl ?_
    refine GD.one rfl (.yes rfl rfl rfl) (S1.mvL rfl) rfl ?_
    refine GD.one rfl (.yes rfl rfl rfl) (S1.mvI rfl) rfl ?_
    refine GD.one rfl (.yes rfl rfl rfl) (S1.ix el23 rfl rfl (by omega) (by omega)) rfl ?_
    refine GD.one rfl (.yes rfl rfl rfl) (S1.ldI sc3 rfl (.at .z) (by omega)) rfl ?_
    refine GD.call rfl (.yes rfl rfl rfl) fo75 .nil (fun h H => ct75) (.d (.c (v := (.int _ _)) rfl (.c (v := (.int _ _)) rfl .n))) (fun r10 _ => ?_)
    refine GD.o rfl (S1.pickT (v := (.bool _)) rfl rfl) rfl ?_
    refine GD.done rfl ?_
    refine GQ.on ?_
    refine GW.toC rfl rfl (fun w11 => ?_) (fun w11 => ?_)
    refine GW.toSkip rfl ?_
    refine GQ.on ?_
    refine GW.toBlock rfl ?_
    refine GW.toReg rfl ?_
    refine GL.o rfl (S1.mvI rfl) ?_
    refine GL.o rfl (S1.addI rfl rfl (by omega) (by omega)) ?_
    refine GL.o rfl (S1.asI rfl) ?_
    refine GL.done rfl ?_
    refine GQ.outN ?_
    refine GQ.nextT (y + 1) (.c rfl (.c rfl (.c rfl (.c rfl .n)))) (.cons .z .nil) ⟨by omega, by omega⟩ (by omega)
    refine GW.toExit rfl ?_
    refine GQ.onE ?_
    refine GQ.onE ?_
    refine GQ.outH ?_
    refine GQ.on ?_
    refine GW.toSeq rfl ?_
    refine GW.toBlock rfl ?_
    rotate_left
    refine GD.skip rfl (.not rfl rfl rfl) ?_
    refine GD.skip rfl (.not rfl rfl rfl) ?_
    refine GD.skip rfl (.not rfl rfl rfl) ?_
    refine GD.skip rfl (.not rfl rfl rfl) ?_
    refine GD.skip rfl (.not rfl rfl rfl) ?_
    refine GD.skip rfl (.not rfl rfl rfl) ?_
    refine GD.skip rfl (.not rfl rfl rfl) ?_
    refine GD.skip rfl (.not rfl rfl rfl) ?_
    refine GD.skip rfl (.not rfl rfl rfl) ?_
    refine GD.o rfl (S1.pickF (v := (.bool _)) rfl rfl) rfl ?_
    refine GD.done rfl ?_
    refine GQ.on ?_
    refine GW.toF rfl rfl ?_
    refine GW.toExit rfl ?_
    refine GQ.onE ?_
    refine GQ.onE ?_
    refine GQ.outH ?_
    refine GQ.on ?_
    refine GW.toSeq rfl ?_
    refine GW.toBlock rfl ?_
    rotate_left
    · refine GW.toLoop (X := Int) (fun z => [(0, .slice (some ⟨rb, 0, none⟩) m c), (1, .int .i64 a), (10, .int .i64 y), (11, .int .i64 z)]) (fun z => [(rb, .cells (ints x.2.2) opn true)]) (fun z => a ≤ z ∧ z ≤ (x.2.1)) (fun z => (z - a).toNat) rfl (x.2.1) ⟨by omega, by omega⟩ (.c rfl (.c rfl (.c rfl (.c rfl .n)))) (.cons .z .nil) ?_
      rintro z f ⟨hz0, hz1⟩
      refine GW.toSeq rfl ?_
      refine GW.toSeq rfl ?_
      refine GW.toDrw mx rfl ?_
      refine GD.o rfl (S1.mvI rfl) rfl ?_
      refine GD.o rfl (S1.mvI rfl) rfl ?_
      refine GD.o rfl (S1.leq rfl rfl) rfl ?_
      refine GD.o rfl (S1.mvB rfl) rfl ?_
      refine GD.splitD 118 rfl (fun w12 => ?_) (fun w12 => ?_)
      refine GD.one rfl (.yes rfl rfl rfl) (S1.mvL rfl) rfl ?_
      refine GD.one rfl (.yes rfl rfl rfl) (S1.mvI rfl) rfl ?_
      refine GD.one rfl (.yes rfl rfl rfl) (S1.ix el23 rfl rfl (by omega) (by omega)) rfl ?_
      refine GD.one rfl (.yes rfl rfl rfl) (S1.ldI sc3 rfl (.at .z) (by omega)) rfl ?_
      refine GD.one rfl (.yes rfl rfl rfl) (S1.mvL rfl) rfl ?_
      refine GD.one rfl (.yes rfl rfl rfl) (S1.mvI rfl) rfl ?_
      refine GD.one rfl (.yes rfl rfl rfl) (S1.ix el23 rfl rfl (by omega) (by omega)) rfl ?_
      refine GD.one rfl (.yes rfl rfl rfl) (S1.ldI sc3 rfl (.at .z) (by omega)) rfl ?_
      refine GD.call rfl (.yes rfl rfl rfl) fo75 .nil (fun h H => ct75) (.d (.c (v := (.int _ _)) rfl (.c (v := (.int _ _)) rfl .n))) (fun r13 _ => ?_)
      refine GD.one rfl (.yes rfl rfl rfl) (S1.not rfl) rfl ?_
      refine GD.o rfl (S1.pickT (v := (.bool _)) rfl rfl) rfl ?_
      refine GD.done rfl ?_
      refine GQ.on ?_
      refine GW.toC rfl rfl (fun w14 => ?_) (fun w14 => ?_)
      refine GW.toSkip rfl ?_
      refine GQ.on ?_
      refine GW.toBlock rfl ?_
      refine GW.toReg rfl ?_
      refine GL.o rfl (S1.mvI rfl) ?_
      refine GL.o rfl (S1.subI rfl rfl (by omega) (by omega)) ?_
      refine GL.o rfl (S1.asI rfl) ?_
      refine GL.done rfl ?_
      refine GQ.outN ?_
      refine GQ.nextT (z - 1) (.c rfl (.c rfl (.c rfl (.c rfl .n)))) (.cons .z .nil) ⟨by omega, by omega⟩ (by omega)
      refine GW.toExit rfl ?_
      refine GQ.onE ?_
      refine GQ.onE ?_
      refine GQ.outH ?_
      refine GQ.on ?_
      refine GW.toSeq rfl ?_
      refine GW.sr rfl rfl ?_
      refine GL.o rfl (S1.mvI rfl) ?_
      refine GL.o rfl (S1.mvI rfl) ?_
      refine GL.o rfl (S1.gtr rfl rfl) ?_
      refine GL.dn rfl ?_
      refine GW.toD rfl rfl (fun w15 => ?_) (fun w15 => ?_)
      refine GW.toExit rfl ?_
      refine GQ.onE ?_
      refine GQ.outM rfl ?_
      refine GQ.onE ?_
      refine GQ.outH ?_
      refine GQ.on ?_
      refine GW.toSeq rfl ?_
      refine GW.toDrw mx rfl ?_
      refine GD.o rfl (S1.mvL rfl) rfl ?_
      refine GD.o rfl (S1.mvI rfl) rfl ?_
      refine GD.o rfl (S1.mvL rfl) rfl ?_
      refine GD.o rfl (S1.mvI rfl) rfl ?_
      refine GD.o rfl (S1.mvL rfl) rfl ?_
      refine GD.o rfl (S1.mvI rfl) rfl ?_
      refine GD.o rfl (S1.ix el23 rfl rfl (by omega) (by omega)) rfl ?_
      refine GD.o rfl (S1.ldI sc3 rfl (.at .z) (by omega)) rfl ?_
      refine GD.o rfl (S1.mvL rfl) rfl ?_
      refine GD.o rfl (S1.mvI rfl) rfl ?_
      refine GD.o rfl (S1.ix el23 rfl rfl (by omega) (by omega)) rfl ?_
      refine GD.o rfl (S1.ldI sc3 rfl (.at .z) (by omega)) rfl ?_
      refine GD.o rfl (S1.ix el23 rfl rfl (by omega) (by omega)) rfl ?_
      refine GD.loud rfl .no (S1.stI sc3 rfl rfl (by omega) .z) rfl rfl (by kernel_rfl) ?_
      refine GD.o rfl (S1.ix el23 rfl rfl (by omega) (by omega)) rfl ?_
      refine GD.loud rfl .no (S1.stI sc3 rfl rfl (by omega) .z) rfl rfl (by kernel_rfl) ?_
      refine GD.done rfl ?_
      refine GQ.on ?_
      refine GW.sr rfl rfl ?_
      refine GL.o rfl (S1.mvI rfl) ?_
      refine GL.o rfl (S1.asI rfl) ?_
      refine GL.o rfl (S1.asB rfl) ?_
      refine GL.dn rfl ?_
      refine GW.toRet rfl ?_
      (exfalso; omega)
      refine GW.toSkip rfl ?_
      refine GQ.on ?_
      refine GW.toSeq rfl ?_
      refine GW.toDrw mx rfl ?_
      refine GD.o rfl (S1.mvL rfl) rfl ?_
      refine GD.o rfl (S1.mvI rfl) rfl ?_
      refine GD.o rfl (S1.mvL rfl) rfl ?_
      refine GD.o rfl (S1.mvI rfl) rfl ?_
      refine GD.o rfl (S1.mvL rfl) rfl ?_
      refine GD.o rfl (S1.mvI rfl) rfl ?_
      refine GD.o rfl (S1.ix el23 rfl rfl (by omega) (by omega)) rfl ?_
      refine GD.o rfl (S1.ldI sc3 rfl (.at .z) (by omega)) rfl ?_
      refine GD.o rfl (S1.mvL rfl) rfl ?_
      refine GD.o rfl (S1.mvI rfl) rfl ?_
      refine GD.o rfl (S1.ix el23 rfl rfl (by omega) (by omega)) rfl ?_
      refine GD.o rfl (S1.ldI sc3 rfl (.at .z) (by omega)) rfl ?_
      refine GD.o rfl (S1.ix el23 rfl rfl (by omega) (by omega)) rfl ?_
      refine GD.loud rfl .no (S1.stI sc3 rfl rfl (by omega) .z) rfl rfl (by kernel_rfl) ?_
      refine GD.o rfl (S1.ix el23 rfl rfl (by omega) (by omega)) rfl ?_
      refine GD.loud rfl .no (S1.stI sc3 rfl rfl (by simp only [List.length_set]; omega) .z) rfl rfl (by kernel_rfl) ?_
      refine GD.done rfl ?_
      refine GQ.on ?_
      refine GW.sr rfl rfl ?_
      refine GL.o rfl (S1.mvI rfl) ?_
      refine GL.o rfl (S1.addI rfl rfl (by omega) (by omega)) ?_
      refine GL.o rfl (S1.asI rfl) ?_
      refine GL.dn rfl ?_
      refine GW.toReg rfl ?_
      refine GL.o rfl (S1.mvI rfl) ?_
      refine GL.o rfl (S1.subI rfl rfl (by omega) (by omega)) ?_
      refine GL.o rfl (S1.asI rfl) ?_
      refine GL.done rfl ?_
      refine GQ.outN ?_
      refine GQ.nextT (y + 1, z - 1, _) (.c rfl (.c rfl (.c rfl (.c rfl .n)))) .tz ⟨(by first | omega | (dsimp only; omega)), (by first | omega | (dsimp only; omega)), (by first | omega | (dsimp only; omega)), (by first | omega | (dsimp only; omega)), s.sw (by omega) (by omega)⟩ (by first | omega | (dsimp only; omega))
      refine GD.skip rfl (.not rfl rfl rfl) ?_
      refine GD.skip rfl (.not rfl rfl rfl) ?_
      refine GD.skip rfl (.not rfl rfl rfl) ?_
      refine GD.skip rfl (.not rfl rfl rfl) ?_
      refine GD.skip rfl (.not rfl rfl rfl) ?_
      refine GD.skip rfl (.not rfl rfl rfl) ?_
      refine GD.skip rfl (.not rfl rfl rfl) ?_
      refine GD.skip rfl (.not rfl rfl rfl) ?_
      refine GD.skip rfl (.not rfl rfl rfl) ?_
      refine GD.skip rfl (.not rfl rfl rfl) ?_
      refine GD.o rfl (S1.pickF (v := (.bool _)) rfl rfl) rfl ?_
      refine GD.done rfl ?_
      refine GQ.on ?_
      refine GW.toF rfl rfl ?_
      refine GW.toExit rfl ?_
      refine GQ.onE ?_
      refine GQ.onE ?_
      refine GQ.outH ?_
      refine GQ.on ?_
      refine GW.toSeq rfl ?_
      refine GW.sr rfl rfl ?_
      refine GL.o rfl (S1.mvI rfl) ?_
      refine GL.o rfl (S1.mvI rfl) ?_
      refine GL.o rfl (S1.gtr rfl rfl) ?_
      refine GL.dn rfl ?_
      refine GW.toD rfl rfl (fun w16 => ?_) (fun w16 => ?_)
      refine GW.toExit rfl ?_
      refine GQ.onE ?_
      refine GQ.outM rfl ?_
      refine GQ.onE ?_
      refine GQ.outH ?_
      refine GQ.on ?_
      refine GW.toSeq rfl ?_
      refine GW.toDrw mx rfl ?_
      refine GD.o rfl (S1.mvL rfl) rfl ?_
      refine GD.o rfl (S1.mvI rfl) rfl ?_
      refine GD.o rfl (S1.mvL rfl) rfl ?_
      refine GD.o rfl (S1.mvI rfl) rfl ?_
      refine GD.o rfl (S1.mvL rfl) rfl ?_
      refine GD.o rfl (S1.mvI rfl) rfl ?_
      refine GD.o rfl (S1.ix el23 rfl rfl (by omega) (by omega)) rfl ?_
      refine GD.o rfl (S1.ldI sc3 rfl (.at .z) (by omega)) rfl ?_
      refine GD.o rfl (S1.mvL rfl) rfl ?_
      refine GD.o rfl (S1.mvI rfl) rfl ?_
      refine GD.o rfl (S1.ix el23 rfl rfl (by omega) (by omega)) rfl ?_
      refine GD.o rfl (S1.ldI sc3 rfl (.at .z) (by omega)) rfl ?_
      refine GD.o rfl (S1.ix el23 rfl rfl (by omega) (by omega)) rfl ?_
      refine GD.loud rfl .no (S1.stI sc3 rfl rfl (by omega) .z) rfl rfl (by kernel_rfl) ?_
      refine GD.o rfl (S1.ix el23 rfl rfl (by omega) (by omega)) rfl ?_
      refine GD.loud rfl .no (S1.stI sc3 rfl rfl (by simp only [List.length_set]; omega) .z) rfl rfl (by kernel_rfl) ?_
      refine GD.done rfl ?_
      refine GQ.on ?_
      refine GW.sr rfl rfl ?_
      refine GL.o rfl (S1.mvI rfl) ?_
      refine GL.o rfl (S1.asI rfl) ?_
      refine GL.o rfl (S1.asB rfl) ?_
      refine GL.dn rfl ?_
      refine GW.toRet rfl ?_
      refine GQ.retT (z, _, _) (.tmp rfl rfl (.tmp rfl rfl .nil)) .more rfl .tz ⟨s.sw (by omega) (by omega), by dsimp only; omega, by dsimp only; omega⟩
      refine GW.toSkip rfl ?_
      refine GQ.on ?_
      refine GW.toSeq rfl ?_
      refine GW.toDrw mx rfl ?_
      refine GD.o rfl (S1.mvL rfl) rfl ?_
      refine GD.o rfl (S1.mvI rfl) rfl ?_
      refine GD.o rfl (S1.mvL rfl) rfl ?_
      refine GD.o rfl (S1.mvI rfl) rfl ?_
      refine GD.o rfl (S1.mvL rfl) rfl ?_
      refine GD.o rfl (S1.mvI rfl) rfl ?_
      refine GD.o rfl (S1.ix el23 rfl rfl (by omega) (by omega)) rfl ?_
      refine GD.o rfl (S1.ldI sc3 rfl (.at .z) (by omega)) rfl ?_
      refine GD.o rfl (S1.mvL rfl) rfl ?_
      refine GD.o rfl (S1.mvI rfl) rfl ?_
      refine GD.o rfl (S1.ix el23 rfl rfl (by omega) (by omega)) rfl ?_
      refine GD.o rfl (S1.ldI sc3 rfl (.at .z) (by omega)) rfl ?_
      refine GD.o rfl (S1.ix el23 rfl rfl (by omega) (by omega)) rfl ?_
      refine GD.loud rfl .no (S1.stI sc3 rfl rfl (by omega) .z) rfl rfl (by kernel_rfl) ?_
      refine GD.o rfl (S1.ix el23 rfl rfl (by omega) (by omega)) rfl ?_
      refine GD.loud rfl .no (S1.stI sc3 rfl rfl (by omega) .z) rfl rfl (by kernel_rfl) ?_
      refine GD.done rfl ?_
      refine GQ.on ?_
      refine GW.sr rfl rfl ?_
      refine GL.o rfl (S1.mvI rfl) ?_
      refine GL.o rfl (S1.addI rfl rfl (by omega) (by omega)) ?_
      refine GL.o rfl (S1.asI rfl) ?_
      refine GL.dn rfl ?_
      refine GW.toReg rfl ?_
      refine GL.o rfl (S1.mvI rfl) ?_
      refine GL.o rfl (S1.subI rfl rfl (by omega) (by omega)) ?_
      refine GL.o rfl (S1.asI rfl) ?_
      refine GL.done rfl ?_
      refine GQ.outN ?_
      (exfalso; omega)
    · refine GW.toLoop (X := Int) (fun z => [(0, .slice (some ⟨rb, 0, none⟩) m c), (1, .int .i64 a), (10, .int .i64 y), (11, .int .i64 z)]) (fun z => [(rb, .cells (ints x.2.2) opn true)]) (fun z => a ≤ z ∧ z ≤ (x.2.1)) (fun z => (z - a).toNat) rfl (x.2.1) ⟨by omega, by omega⟩ (.c rfl (.c rfl (.c rfl (.c rfl .n)))) .tz ?_
      rintro z f ⟨hz0, hz1⟩
      refine GW.toSeq rfl ?_
      refine GW.toSeq rfl ?_
      refine GW.toDrw mx rfl ?_
      refine GD.o rfl (S1.mvI rfl) rfl ?_
      refine GD.o rfl (S1.mvI rfl) rfl ?_
      refine GD.o rfl (S1.leq rfl rfl) rfl ?_
      refine GD.o rfl (S1.mvB rfl) rfl ?_
      refine GD.splitD 118 rfl (fun w17 => ?_) (fun w17 => ?_)
      refine GD.one rfl (.yes rfl rfl rfl) (S1.mvL rfl) rfl ?_
      refine GD.one rfl (.yes rfl rfl rfl) (S1.mvI rfl) rfl ?_
      refine GD.one rfl (.yes rfl rfl rfl) (S1.ix el23 rfl rfl (by omega) (by omega)) rfl ?_
      refine GD.one rfl (.yes rfl rfl rfl) (S1.ldI sc3 rfl (.at .z) (by omega)) rfl ?_
      refine GD.one rfl (.yes rfl rfl rfl) (S1.mvL rfl) rfl ?_
      refine GD.one rfl (.yes rfl rfl rfl) (S1.mvI rfl) rfl ?_
      refine GD.one rfl (.yes rfl rfl rfl) (S1.ix el23 rfl rfl (by omega) (by omega)) rfl ?_
      refine GD.one rfl (.yes rfl rfl rfl) (S1.ldI sc3 rfl (.at .z) (by omega)) rfl ?_
      refine GD.call rfl (.yes rfl rfl rfl) fo75 .nil (fun h H => ct75) (.d (.c (v := (.int _ _)) rfl (.c (v := (.int _ _)) rfl .n))) (fun r18 _ => ?_)
      refine GD.one rfl (.yes rfl rfl rfl) (S1.not rfl) rfl ?_
      refine GD.o rfl (S1.pickT (v := (.bool _)) rfl rfl) rfl ?_
      refine GD.done rfl ?_
      refine GQ.on ?_
      refine GW.toC rfl rfl (fun w19 => ?_) (fun w19 => ?_)
      refine GW.toSkip rfl ?_
      refine GQ.on ?_
      refine GW.toBlock rfl ?_
      refine GW.toReg rfl ?_
      refine GL.o rfl (S1.mvI rfl) ?_
      refine GL.o rfl (S1.subI rfl rfl (by omega) (by omega)) ?_
      refine GL.o rfl (S1.asI rfl) ?_
      refine GL.done rfl ?_
      refine GQ.outN ?_
      (exfalso; omega)
      refine GW.toExit rfl ?_
      refine GQ.onE ?_
      refine GQ.onE ?_
      refine GQ.outH ?_
      refine GQ.on ?_
      refine GW.toSeq rfl ?_
      refine GW.sr rfl rfl ?_
      refine GL.o rfl (S1.mvI rfl) ?_
      refine GL.o rfl (S1.mvI rfl) ?_
      refine GL.o rfl (S1.gtr rfl rfl) ?_
      refine GL.dn rfl ?_
      refine GW.toD rfl rfl (fun w20 => ?_) (fun w20 => ?_)
      refine GW.toExit rfl ?_
      refine GQ.onE ?_
      refine GQ.outM rfl ?_
      refine GQ.onE ?_
      refine GQ.outH ?_
      refine GQ.on ?_
      refine GW.toSeq rfl ?_
      refine GW.toDrw mx rfl ?_
      refine GD.o rfl (S1.mvL rfl) rfl ?_
      refine GD.o rfl (S1.mvI rfl) rfl ?_
      refine GD.o rfl (S1.mvL rfl) rfl ?_
      refine GD.o rfl (S1.mvI rfl) rfl ?_
      refine GD.o rfl (S1.mvL rfl) rfl ?_
      refine GD.o rfl (S1.mvI rfl) rfl ?_
      refine GD.o rfl (S1.ix el23 rfl rfl (by omega) (by omega)) rfl ?_
      refine GD.o rfl (S1.ldI sc3 rfl (.at .z) (by omega)) rfl ?_
      refine GD.o rfl (S1.mvL rfl) rfl ?_
      refine GD.o rfl (S1.mvI rfl) rfl ?_
      refine GD.o rfl (S1.ix el23 rfl rfl (by omega) (by omega)) rfl ?_
      refine GD.o rfl (S1.ldI sc3 rfl (.at .z) (by omega)) rfl ?_
      refine GD.o rfl (S1.ix el23 rfl rfl (by omega) (by omega)) rfl ?_
      refine GD.loud rfl .no (S1.stI sc3 rfl rfl (by omega) .z) rfl rfl (by kernel_rfl) ?_
      refine GD.o rfl (S1.ix el23 rfl rfl (by omega) (by omega)) rfl ?_
      refine GD.loud rfl .no (S1.stI sc3 rfl rfl (by omega) .z) rfl rfl (by kernel_rfl) ?_
      refine GD.done rfl ?_
      refine GQ.on ?_
      refine GW.sr rfl rfl ?_
      refine GL.o rfl (S1.mvI rfl) ?_
      refine GL.o rfl (S1.asI rfl) ?_
      refine GL.o rfl (S1.asB rfl) ?_
      refine GL.dn rfl ?_
      refine GW.toRet rfl ?_
      (exfalso; omega)
      refine GW.toSkip rfl ?_
      refine GQ.on ?_
      refine GW.toSeq rfl ?_
      refine GW.toDrw mx rfl ?_
      refine GD.o rfl (S1.mvL rfl) rfl ?_
      refine GD.o rfl (S1.mvI rfl) rfl ?_
      refine GD.o rfl (S1.mvL rfl) rfl ?_
      refine GD.o rfl (S1.mvI rfl) rfl ?_
      refine GD.o rfl (S1.mvL rfl) rfl ?_
      refine GD.o rfl (S1.mvI rfl) rfl ?_
      refine GD.o rfl (S1.ix el23 rfl rfl (by omega) (by omega)) rfl ?_
      refine GD.o rfl (S1.ldI sc3 rfl (.at .z) (by omega)) rfl ?_
      refine GD.o rfl (S1.mvL rfl) rfl ?_
      refine GD.o rfl (S1.mvI rfl) rfl ?_
      refine GD.o rfl (S1.ix el23 rfl rfl (by omega) (by omega)) rfl ?_
      refine GD.o rfl (S1.ldI sc3 rfl (.at .z) (by omega)) rfl ?_
      refine GD.o rfl (S1.ix el23 rfl rfl (by omega) (by omega)) rfl ?_
      refine GD.loud rfl .no (S1.stI sc3 rfl rfl (by omega) .z) rfl rfl (by kernel_rfl) ?_
      refine GD.o rfl (S1.ix el23 rfl rfl (by omega) (by omega)) rfl ?_
      refine GD.loud rfl .no (S1.stI sc3 rfl rfl (by omega) .z) rfl rfl (by kernel_rfl) ?_
      refine GD.done rfl ?_
      refine GQ.on ?_
      refine GW.sr rfl rfl ?_
      refine GL.o rfl (S1.mvI rfl) ?_
      refine GL.o rfl (S1.addI rfl rfl (by omega) (by omega)) ?_
      refine GL.o rfl (S1.asI rfl) ?_
      refine GL.dn rfl ?_
      refine GW.toReg rfl ?_
      refine GL.o rfl (S1.mvI rfl) ?_
      refine GL.o rfl (S1.subI rfl rfl (by omega) (by omega)) ?_
      refine GL.o rfl (S1.asI rfl) ?_
      refine GL.done rfl ?_
      refine GQ.outN ?_
      (exfalso; omega)
      refine GD.skip rfl (.not rfl rfl rfl) ?_
      refine GD.skip rfl (.not rfl rfl rfl) ?_
      refine GD.skip rfl (.not rfl rfl rfl) ?_
      refine GD.skip rfl (.not rfl rfl rfl) ?_
      refine GD.skip rfl (.not rfl rfl rfl) ?_
      refine GD.skip rfl (.not rfl rfl rfl) ?_
      refine GD.skip rfl (.not rfl rfl rfl) ?_
      refine GD.skip rfl (.not rfl rfl rfl) ?_
      refine GD.skip rfl (.not rfl rfl rfl) ?_
      refine GD.skip rfl (.not rfl rfl rfl) ?_
      refine GD.o rfl (S1.pickF (v := (.bool _)) rfl rfl) rfl ?_
      refine GD.done rfl ?_
      refine GQ.on ?_
      refine GW.toF rfl rfl ?_
      refine GW.toExit rfl ?_
      refine GQ.onE ?_
      refine GQ.onE ?_
      refine GQ.outH ?_
      refine GQ.on ?_
      refine GW.toSeq rfl ?_
      refine GW.sr rfl rfl ?_
      refine GL.o rfl (S1.mvI rfl) ?_
      refine GL.o rfl (S1.mvI rfl) ?_
      refine GL.o rfl (S1.gtr rfl rfl) ?_
      refine GL.dn rfl ?_
      refine GW.toD rfl rfl (fun w21 => ?_) (fun w21 => ?_)
      refine GW.toExit rfl ?_
      refine GQ.onE ?_
      refine GQ.outM rfl ?_
      refine GQ.onE ?_
      refine GQ.outH ?_
      refine GQ.on ?_
      refine GW.toSeq rfl ?_
      refine GW.toDrw mx rfl ?_
      refine GD.o rfl (S1.mvL rfl) rfl ?_
      refine GD.o rfl (S1.mvI rfl) rfl ?_
      refine GD.o rfl (S1.mvL rfl) rfl ?_
      refine GD.o rfl (S1.mvI rfl) rfl ?_
      refine GD.o rfl (S1.mvL rfl) rfl ?_
      refine GD.o rfl (S1.mvI rfl) rfl ?_
      refine GD.o rfl (S1.ix el23 rfl rfl (by omega) (by omega)) rfl ?_
      refine GD.o rfl (S1.ldI sc3 rfl (.at .z) (by omega)) rfl ?_
      refine GD.o rfl (S1.mvL rfl) rfl ?_
      refine GD.o rfl (S1.mvI rfl) rfl ?_
      refine GD.o rfl (S1.ix el23 rfl rfl (by omega) (by omega)) rfl ?_
      refine GD.o rfl (S1.ldI sc3 rfl (.at .z) (by omega)) rfl ?_
      refine GD.o rfl (S1.ix el23 rfl rfl (by omega) (by omega)) rfl ?_
      refine GD.loud rfl .no (S1.stI sc3 rfl rfl (by omega) .z) rfl rfl (by kernel_rfl) ?_
      refine GD.o rfl (S1.ix el23 rfl rfl (by omega) (by omega)) rfl ?_
      refine GD.loud rfl .no (S1.stI sc3 rfl rfl (by simp only [List.length_set]; omega) .z) rfl rfl (by kernel_rfl) ?_
      refine GD.done rfl ?_
      refine GQ.on ?_
      refine GW.sr rfl rfl ?_
      refine GL.o rfl (S1.mvI rfl) ?_
      refine GL.o rfl (S1.asI rfl) ?_
      refine GL.o rfl (S1.asB rfl) ?_
      refine GL.dn rfl ?_
      refine GW.toRet rfl ?_
      refine GQ.retT (z, _, _) (.tmp rfl rfl (.tmp rfl rfl .nil)) .more rfl .tz ⟨s.sw (by omega) (by omega), by dsimp only; omega, by dsimp only; omega⟩
      refine GW.toSkip rfl ?_
      refine GQ.on ?_
      refine GW.toSeq rfl ?_
      refine GW.toDrw mx rfl ?_
      refine GD.o rfl (S1.mvL rfl) rfl ?_
      refine GD.o rfl (S1.mvI rfl) rfl ?_
      refine GD.o rfl (S1.mvL rfl) rfl ?_
      refine GD.o rfl (S1.mvI rfl) rfl ?_
      refine GD.o rfl (S1.mvL rfl) rfl ?_
      refine GD.o rfl (S1.mvI rfl) rfl ?_
      refine GD.o rfl (S1.ix el23 rfl rfl (by omega) (by omega)) rfl ?_
      refine GD.o rfl (S1.ldI sc3 rfl (.at .z) (by omega)) rfl ?_
      refine GD.o rfl (S1.mvL rfl) rfl ?_
      refine GD.o rfl (S1.mvI rfl) rfl ?_
      refine GD.o rfl (S1.ix el23 rfl rfl (by omega) (by omega)) rfl ?_
      refine GD.o rfl (S1.ldI sc3 rfl (.at .z) (by omega)) rfl ?_
      refine GD.o rfl (S1.ix el23 rfl rfl (by omega) (by omega)) rfl ?_
      refine GD.loud rfl .no (S1.stI sc3 rfl rfl (by omega) .z) rfl rfl (by kernel_rfl) ?_
      refine GD.o rfl (S1.ix el23 rfl rfl (by omega) (by omega)) rfl ?_
      refine GD.loud rfl .no (S1.stI sc3 rfl rfl (by omega) .z) rfl rfl (by kernel_rfl) ?_
      refine GD.done rfl ?_
      refine GQ.on ?_
      refine GW.sr rfl rfl ?_
      refine GL.o rfl (S1.mvI rfl) ?_
      refine GL.o rfl (S1.addI rfl rfl (by omega) (by omega)) ?_
      refine GL.o rfl (S1.asI rfl) ?_
      refine GL.dn rfl ?_
      refine GW.toReg rfl ?_
      refine GL.o rfl (S1.mvI rfl) ?_
      refine GL.o rfl (S1.subI rfl rfl (by omega) (by omega)) ?_
      refine GL.o rfl (S1.asI rfl) ?_
      refine GL.done rfl ?_
      refine GQ.outN ?_
      (exfalso; omega)
  · refine GW.toLoop (X := Int) (fun z => [(0, .slice (some ⟨rb, 0, none⟩) m c), (1, .int .i64 a), (10, .int .i64 y), (11, .int .i64 z)]) (fun z => [(rb, .cells (ints ((l.set (0 + a.toNat * 1) (l.getD (0 + pv.toNat * 1) 0)).set (0 + pv.toNat * 1) (l.getD (0 + a.toNat * 1) 0))) opn true)]) (fun z => a ≤ z ∧ z ≤ (b - 1)) (fun z => (z - a).toNat) rfl (b - 1) ⟨by omega, by omega⟩ (.c rfl (.c rfl (.c rfl (.c rfl .n)))) .tz ?_
    rintro z f ⟨hz0, hz1⟩
    refine GW.toSeq rfl ?_
    refine GW.toSeq rfl ?_
    refine GW.toDrw mx rfl ?_
    refine GD.o rfl (S1.mvI rfl) rfl ?_
    refine GD.o rfl (S1.mvI rfl) rfl ?_
    refine GD.o rfl (S1.leq rfl rfl) rfl ?_
    refine GD.o rfl (S1.mvB rfl) rfl ?_
    refine GD.splitD 49 rfl (fun w22 => ?_) (fun w22 => ?_)
    refine GD.one rfl (.yes rfl rfl rfl) (S1.mvL rfl) rfl ?_
    refine GD.one rfl (.yes rfl rfl rfl) (S1.mvI rfl) rfl ?_
    refine GD.one rfl (.yes rfl rfl rfl) (S1.ix el23 rfl rfl (by omega) (by omega)) rfl ?_
    refine GD.one rfl (.yes rfl rfl rfl) (S1.ldI sc3 rfl (.at .z) (by omega)) rfl ?_
    refine GD.one rfl (.yes rfl rfl rfl) (S1.mvL rfl) rfl ?_
    refine GD.one rfl (.yes rfl rfl rfl) (S1.mvI rfl) rfl ?_
    refine GD.one rfl (.yes rfl rfl rfl) (S1.ix el23 rfl rfl (by omega) (by omega)) rfl ?_
    refine GD.one rfl (.yes rfl rfl rfl) (S1.ldI sc3 rfl (.at .z) (by omega)) rfl ?_
    refine GD.call rfl (.yes rfl rfl rfl) fo75 .nil (fun h H => ct75) (.d (.c (v := (.int _ _)) rfl (.c (v := (.int _ _)) rfl .n))) (fun r23 _ => ?_)
    refine GD.one rfl (.yes rfl rfl rfl) (S1.not rfl) rfl ?_
    refine GD.o rfl (S1.pickT (v := (.bool _)) rfl rfl) rfl ?_
    refine GD.done rfl ?_
    refine GQ.on ?_
    refine GW.toC rfl rfl (fun w24 => ?_) (fun w24 => ?_)
    refine GW.toSkip rfl ?_
    refine GQ.on ?_
    refine GW.toBlock rfl ?_
    refine GW.toReg rfl ?_
    refine GL.o rfl (S1.mvI rfl) ?_
    refine GL.o rfl (S1.subI rfl rfl (by omega) (by omega)) ?_
    refine GL.o rfl (S1.asI rfl) ?_
    refine GL.done rfl ?_
    refine GQ.outN ?_
    (exfalso; omega)
    refine GW.toExit rfl ?_
    refine GQ.onE ?_
    refine GQ.onE ?_
    refine GQ.outH ?_
    refine GQ.on ?_
    refine GW.toSeq rfl ?_
    refine GW.sr rfl rfl ?_
    refine GL.o rfl (S1.mvI rfl) ?_
    refine GL.o rfl (S1.mvI rfl) ?_
    refine GL.o rfl (S1.gtr rfl rfl) ?_
    refine GL.dn rfl ?_
    refine GW.toD rfl rfl (fun w25 => ?_) (fun w25 => ?_)
    refine GW.toSeq rfl ?_
    refine GW.toDrw mx rfl ?_
    refine GD.o rfl (S1.mvL rfl) rfl ?_
    refine GD.o rfl (S1.mvI rfl) rfl ?_
    refine GD.o rfl (S1.mvL rfl) rfl ?_
    refine GD.o rfl (S1.mvI rfl) rfl ?_
    refine GD.o rfl (S1.mvL rfl) rfl ?_
    refine GD.o rfl (S1.mvI rfl) rfl ?_
    refine GD.o rfl (S1.ix el23 rfl rfl (by omega) (by omega)) rfl ?_
    refine GD.o rfl (S1.ldI sc3 rfl (.at .z) (by omega)) rfl ?_
    refine GD.o rfl (S1.mvL rfl) rfl ?_
    refine GD.o rfl (S1.mvI rfl) rfl ?_
    refine GD.o rfl (S1.ix el23 rfl rfl (by omega) (by omega)) rfl ?_
    refine GD.o rfl (S1.ldI sc3 rfl (.at .z) (by omega)) rfl ?_
    refine GD.o rfl (S1.ix el23 rfl rfl (by omega) (by omega)) rfl ?_
    refine GD.loud rfl .no (S1.stI sc3 rfl rfl (by omega) .z) rfl rfl (by kernel_rfl) ?_
    refine GD.o rfl (S1.ix el23 rfl rfl (by omega) (by omega)) rfl ?_
    refine GD.loud rfl .no (S1.stI sc3 rfl rfl (by omega) .z) rfl rfl (by kernel_rfl) ?_
    refine GD.done rfl ?_
    refine GQ.on ?_
    refine GW.sr rfl rfl ?_
    refine GL.o rfl (S1.mvI rfl) ?_
    refine GL.o rfl (S1.asI rfl) ?_
    refine GL.o rfl (S1.asB rfl) ?_
    refine GL.dn rfl ?_
    refine GW.toRet rfl ?_
    refine GQ.onR ?_
    (exfalso; omega)
    refine GW.toSkip rfl ?_
    refine GQ.on ?_
    refine GW.toSeq rfl ?_
    refine GW.toDrw mx rfl ?_
    refine GD.o rfl (S1.mvL rfl) rfl ?_
    refine GD.o rfl (S1.mvI rfl) rfl ?_
    refine GD.o rfl (S1.mvL rfl) rfl ?_
    refine GD.o rfl (S1.mvI rfl) rfl ?_
    refine GD.o rfl (S1.mvL rfl) rfl ?_
    refine GD.o rfl (S1.mvI rfl) rfl ?_
    refine GD.o rfl (S1.ix el23 rfl rfl (by omega) (by omega)) rfl ?_
    refine GD.o rfl (S1.ldI sc3 rfl (.at .z) (by omega)) rfl ?_
    refine GD.o rfl (S1.mvL rfl) rfl ?_
    refine GD.o rfl (S1.mvI rfl) rfl ?_
    refine GD.o rfl (S1.ix el23 rfl rfl (by omega) (by omega)) rfl ?_
    refine GD.o rfl (S1.ldI sc3 rfl (.at .z) (by omega)) rfl ?_
    refine GD.o rfl (S1.ix el23 rfl rfl (by omega) (by omega)) rfl ?_
    refine GD.loud rfl .no (S1.stI sc3 rfl rfl (by omega) .z) rfl rfl (by kernel_rfl) ?_
    refine GD.o rfl (S1.ix el23 rfl rfl (by omega) (by omega)) rfl ?_
    refine GD.loud rfl .no (S1.stI sc3 rfl rfl (by omega) .z) rfl rfl (by kernel_rfl) ?_
    refine GD.done rfl ?_
    refine GQ.on ?_
    refine GW.sr rfl rfl ?_
    refine GL.o rfl (S1.mvI rfl) ?_
    refine GL.o rfl (S1.addI rfl rfl (by omega) (by omega)) ?_
    refine GL.o rfl (S1.asI rfl) ?_
    refine GL.dn rfl ?_
    refine GW.sr rfl rfl ?_
    refine GL.o rfl (S1.mvI rfl) ?_
    refine GL.o rfl (S1.subI rfl rfl (by omega) (by omega)) ?_
    refine GL.o rfl (S1.asI rfl) ?_
    refine GL.dn rfl ?_
    refine GW.toSeq rfl ?_
    refine GW.toBlock rfl ?_
    (exfalso; omega)
    refine GD.skip rfl (.not rfl rfl rfl) ?_
    refine GD.skip rfl (.not rfl rfl rfl) ?_
    refine GD.skip rfl (.not rfl rfl rfl) ?_
    refine GD.skip rfl (.not rfl rfl rfl) ?_
    refine GD.skip rfl (.not rfl rfl rfl) ?_
    refine GD.skip rfl (.not rfl rfl rfl) ?_
    refine GD.skip rfl (.not rfl rfl rfl) ?_
    refine GD.skip rfl (.not rfl rfl rfl) ?_
    refine GD.skip rfl (.not rfl rfl rfl) ?_
    refine GD.skip rfl (.not rfl rfl rfl) ?_
    refine GD.o rfl (S1.pickF (v := (.bool _)) rfl rfl) rfl ?_
    refine GD.done rfl ?_
    refine GQ.on ?_
    refine GW.toF rfl rfl ?_
    refine GW.toExit rfl ?_
    refine GQ.onE ?_
    refine GQ.onE ?_
    refine GQ.outH ?_
    refine GQ.on ?_
    refine GW.toSeq rfl ?_
    refine GW.sr rfl rfl ?_
    refine GL.o rfl (S1.mvI rfl) ?_
    refine GL.o rfl (S1.mvI rfl) ?_
    refine GL.o rfl (S1.gtr rfl rfl) ?_
    refine GL.dn rfl ?_
    refine GW.toD rfl rfl (fun w26 => ?_) (fun w26 => ?_)
    refine GW.toSeq rfl ?_
    refine GW.toDrw mx rfl ?_
    refine GD.o rfl (S1.mvL rfl) rfl ?_
    refine GD.o rfl (S1.mvI rfl) rfl ?_
    refine GD.o rfl (S1.mvL rfl) rfl ?_
    refine GD.o rfl (S1.mvI rfl) rfl ?_
    refine GD.o rfl (S1.mvL rfl) rfl ?_
    refine GD.o rfl (S1.mvI rfl) rfl ?_
    refine GD.o rfl (S1.ix el23 rfl rfl (by omega) (by omega)) rfl ?_
    refine GD.o rfl (S1.ldI sc3 rfl (.at .z) (by omega)) rfl ?_
    refine GD.o rfl (S1.mvL rfl) rfl ?_
    refine GD.o rfl (S1.mvI rfl) rfl ?_
    refine GD.o rfl (S1.ix el23 rfl rfl (by omega) (by omega)) rfl ?_
    refine GD.o rfl (S1.ldI sc3 rfl (.at .z) (by omega)) rfl ?_
    refine GD.o rfl (S1.ix el23 rfl rfl (by omega) (by omega)) rfl ?_
    refine GD.loud rfl .no (S1.stI sc3 rfl rfl (by omega) .z) rfl rfl (by kernel_rfl) ?_
    refine GD.o rfl (S1.ix el23 rfl rfl (by omega) (by omega)) rfl ?_
    refine GD.loud rfl .no (S1.stI sc3 rfl rfl (by simp only [List.length_set]; omega) .z) rfl rfl (by kernel_rfl) ?_
    refine GD.done rfl ?_
    refine GQ.on ?_
    refine GW.sr rfl rfl ?_
    refine GL.o rfl (S1.mvI rfl) ?_
    refine GL.o rfl (S1.asI rfl) ?_
    refine GL.o rfl (S1.asB rfl) ?_
    refine GL.dn rfl ?_
    refine GW.toRet rfl ?_
    refine GQ.onR ?_
    refine GQ.retT (z, _, _) (.tmp rfl rfl (.tmp rfl rfl .nil)) .more rfl .tz ⟨s.sw (by omega) (by omega), by dsimp only; omega, by dsimp only; omega⟩
    refine GW.toSkip rfl ?_
    refine GQ.on ?_
    refine GW.toSeq rfl ?_
    refine GW.toDrw mx rfl ?_
    refine GD.o rfl (S1.mvL rfl) rfl ?_
    refine GD.o rfl (S1.mvI rfl) rfl ?_
    refine GD.o rfl (S1.mvL rfl) rfl ?_
    refine GD.o rfl (S1.mvI rfl) rfl ?_
    refine GD.o rfl (S1.mvL rfl) rfl ?_
    refine GD.o rfl (S1.mvI rfl) rfl ?_
    refine GD.o rfl (S1.ix el23 rfl rfl (by omega) (by omega)) rfl ?_
    refine GD.o rfl (S1.ldI sc3 rfl (.at .z) (by omega)) rfl ?_
    refine GD.o rfl (S1.mvL rfl) rfl ?_
    refine GD.o rfl (S1.mvI rfl) rfl ?_
    refine GD.o rfl (S1.ix el23 rfl rfl (by omega) (by omega)) rfl ?_
    refine GD.o rfl (S1.ldI sc3 rfl (.at .z) (by omega)) rfl ?_
    refine GD.o rfl (S1.ix el23 rfl rfl (by omega) (by omega)) rfl ?_
    refine GD.loud rfl .no (S1.stI sc3 rfl rfl (by omega) .z) rfl rfl (by kernel_rfl) ?_
    refine GD.o rfl (S1.ix el23 rfl rfl (by omega) (by omega)) rfl ?_
    refine GD.loud rfl .no (S1.stI sc3 rfl rfl (by omega) .z) rfl rfl (by kernel_rfl) ?_
    refine GD.done rfl ?_
    refine GQ.on ?_
    refine GW.sr rfl rfl ?_
    refine GL.o rfl (S1.mvI rfl) ?_
    refine GL.o rfl (S1.addI rfl rfl (by omega) (by omega)) ?_
    refine GL.o rfl (S1.asI rfl) ?_
    refine GL.dn rfl ?_
    refine GW.sr rfl rfl ?_
    refine GL.o rfl (S1.mvI rfl) ?_
    refine GL.o rfl (S1.subI rfl rfl (by omega) (by omega)) ?_
    refine GL.o rfl (S1.asI rfl) ?_
    refine GL.dn rfl ?_
    refine GW.toSeq rfl ?_
    refine GW.toBlock rfl ?_
    (exfalso; omega)

end
end Go.Proofs.Ytenkebdjlajanaa
