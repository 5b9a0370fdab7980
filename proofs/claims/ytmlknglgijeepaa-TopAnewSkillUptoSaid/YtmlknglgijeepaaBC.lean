/- B8: contracts: the learner's methods. -/
import Derived.Test.YtmlknglgijeepaaBA
import Derived.Test.YtmlknglgijeepaaGB
set_option linter.all false
set_option linter.constructorNameAsVariable false
set_option linter.unusedSimpArgs false
set_option linter.unusedVariables false
set_option linter.unusedSectionVars false
set_option linter.unnecessarySimpa false
namespace Go.Proofs.Ytmlknglgijeepaa
open Go Go.E
set_option maxRecDepth 100000
set_option maxHeartbeats 1000000

section
variable {h : EH} {hr : RO} {la ca : Option Addr} {ln lc cn cc rb lb : Nat} {w : Int} {l : List Int}

theorem ct89 {wb lp o : Nat} {by' wk : Int} {v1 v2 v3 : Value} (H : Hp hr h [rb, wb, lp, lb] [(rb, opRow (ints l) 2), (wb, .cells [.int .i64 wk] none true), (lp, .cells [.pointer (some ⟨lb, 0, none⟩)] none true), (lb, .cells [v1, v2, v3, .int .i64 w] none true)] h) (ho : o < l.length) :
    Ct Try.prog 89 ⟨[.pointer (some ⟨rb, o, none⟩), .int .i64 by', .pointer (some ⟨wb, 0, none⟩), .pointer (some ⟨lp, 0, none⟩)]⟩ h [rb, wb, lp, lb] (fun _ : List Int => .tuple #[]) (fun l' => l'.length = l.length) (fun l' => [(rb, opRow (ints l') 2), (wb, .cells [.int .i64 wk] none true), (lp, .cells [.pointer (some ⟨lb, 0, none⟩)] none true), (lb, .cells [v1, v2, v3, .int .i64 w] none true)]) := by
  refine Ct.go Try.func89 rfl rfl co89 H ?_
  refine GW.toDrw mx rfl ?_
  refine GD.one rfl .no (S1.mv (v := (.pointer _)) rfl) rfl ?_
  refine GD.one rfl .no (S1.mv (v := (.pointer _)) rfl) rfl ?_
  refine GD.one rfl .no (S1.nc rfl) rfl ?_
  refine GD.one rfl .no (S1.ldI sc3 rfl (.at .z) (by omega)) rfl ?_
  refine GD.one rfl .no (S1.mv (v := (.int _ _)) rfl) rfl ?_
  refine GD.one rfl .no (S1.ld sc3 rfl (.at (.s .z)) rfl) rfl ?_
  refine GD.one rfl .no (S1.ld sc90 rfl (.at (.s (.s .z))) rfl) rfl ?_
  refine GD.one rfl .no (S1.nc rfl) rfl ?_
  refine GD.one rfl .no (S1.fa fa95_2 rfl) rfl ?_
  refine GD.one rfl .no (S1.ld sc3 rfl (.at (.s (.s (.s .z)))) rfl) rfl ?_
  refine GD.one rfl .no (S1.sub rfl rfl) rfl ?_
  refine GD.one rfl .no (S1.mul rfl rfl) rfl ?_
  refine GD.one rfl .no (S1.sub rfl rfl) rfl ?_
  refine GD.one rfl .no (S1.mx2 rfl rfl) rfl ?_
  refine GD.one rfl .no (S1.nc rfl) rfl ?_
  refine GD.loud rfl .no (S1.stI sc3 rfl rfl (by omega) .z) rfl rfl (by kernel_rfl) ?_
  refine GD.done rfl ?_
  refine GQ.retN _ .nil .z rfl ?_ (.cons .z .tz)
  (simp [*]; done)

/-- The learner's object. -/
abbrev LO (la : Option Addr) (ln lc : Nat) (ca : Option Addr) (cn cc rb : Nat) (w : Int) : EObj := .cells [.slice la ln lc, .slice ca cn cc, rowS rb ln, .int .i64 w] none true

theorem ct50 {wk : Int} (h1 : Cell hr (.sl ly75) (.slice la ln lc)) (hl : l.length = ln * 2) (H : Hp hr h [rb, lb] [(rb, opRow (ints l) 2), (lb, LO la ln lc ca cn cc rb w)] h) :
    Ct Try.prog 50 ⟨[.pointer (some ⟨lb, 0, none⟩), .int .i64 wk]⟩ h [rb, lb] (fun _ : List Int => .tuple #[]) (fun l' => l'.length = ln * 2) (fun l' => [(rb, opRow (ints l') 2), (lb, LO la ln lc ca cn cc rb wk)]) := by
  have hl1 := h1.le
  refine Ct.go Try.func50 rfl rfl co50 H ?_
  refine GW.toSeq rfl ?_
  refine GW.toReg rfl ?_
  refine GL.opN rfl .no (SN.bx (u := (.pointer _)) rfl (.one rfl)) (fun a1 => ?_)
  refine GL.opN rfl .no (SN.bx (u := (.int _ _)) rfl (.one rfl)) (fun a2 => ?_)
  refine GL.done rfl ?_
  refine GQ.on ?_
  refine GW.toSeq rfl ?_
  refine GW.toSeq rfl ?_
  refine GW.toReg rfl ?_
  refine GL.one rfl .no (S1.ld sc90 rfl (.at (.s .z)) rfl) ?_
  refine GL.one rfl .no (S1.nc rfl) ?_
  refine GL.one rfl .no (S1.fa fa95_0 rfl) ?_
  refine GL.one rfl .no (S1.fa fa25_0 rfl) ?_
  refine GL.one rfl .no (S1.ld sc22 rfl (.at (.s (.s (.s .z)))) rfl) ?_
  refine GL.one rfl .no (S1.len el22 rfl) ?_
  refine GL.one rfl .no (S1.mv (v := (.int _ _)) rfl) ?_
  refine GL.done rfl ?_
  refine GQ.on ?_
  refine GW.toBlock rfl ?_
  refine GW.toLoop (X := Nat × List Int) (fun x => [(2, .pointer (some ⟨a1, 0, none⟩)), (3, .pointer (some ⟨a2, 0, none⟩)), (11, .slice la ln lc), (12, .int .i64 ln), (13, .int .i64 x.1)]) (fun x => [(a2, .cells [.int .i64 wk] none true), (a1, .cells [.pointer (some ⟨lb, 0, none⟩)] none true), (rb, opRow (ints x.2) 2), (lb, LO la ln lc ca cn cc rb w)]) (fun x => x.1 ≤ ln ∧ x.2.length = ln * 2) (fun x => ln - x.1) rfl (0, l) ⟨Nat.zero_le _, hl⟩ (.c rfl (.c rfl (.c rfl (.c rfl (.c rfl .n))))) .tz ?_
  rintro x f ⟨hx, hp⟩
  refine GW.toSeq rfl ?_
  refine GW.toReg rfl ?_
  refine GL.one rfl .no (S1.lss rfl rfl) ?_
  refine GL.done rfl ?_
  refine GQ.on ?_
  refine GW.toSeq rfl ?_
  refine GW.toD rfl rfl (fun w3 => ?_) (fun w3 => ?_)
  refine GW.toSkip rfl ?_
  refine GQ.on ?_
  refine GW.toSeq rfl ?_
  refine GW.toBlock rfl ?_
  refine GW.toSeq rfl ?_
  refine GW.toReg rfl ?_
  refine GL.one rfl .no (S1.mv (v := (.int _ _)) rfl) ?_
  refine GL.one rfl .no (S1.ixR el22 h1 rfl rfl (by omega)) ?_
  refine GL.one rfl .no (S1.ldE ag75 h1 rfl (m := x.fst) (by omega) rfl le75) ?_
  refine GL.opN rfl .no (SN.al zc75) (fun a4 => ?_)
  refine GL.one rfl .no (S1.as (v := (.int _ _)) rfl) ?_
  refine GL.one rfl .no (S1.stA ag75 rfl rfl rfl rfl (by repeat constructor) .z) ?_
  refine GL.done rfl ?_
  refine GQ.on ?_
  refine GW.toSeq rfl ?_
  refine GW.toReg rfl ?_
  refine GL.one rfl .no (S1.mf .n (.c (v := (.pointer _)) rfl (.c (v := (.pointer _)) rfl .n))) ?_
  refine GL.one rfl .no (S1.as (v := (.func _ _ _)) rfl) ?_
  refine GL.done rfl ?_
  refine GQ.on ?_
  refine GW.toSeq rfl ?_
  refine GW.toDrw mx rfl ?_
  refine GD.one rfl .no (S1.mv (v := (.func _ _ _)) rfl) rfl ?_
  refine GD.one rfl .no (S1.ld sc90 rfl (.at (.s (.s .z))) rfl) rfl ?_
  refine GD.one rfl .no (S1.nc rfl) rfl ?_
  refine GD.one rfl .no (S1.fa fa95_1 rfl) rfl ?_
  refine GD.one rfl .no (S1.ld sc26 rfl (.at (.s (.s (.s (.s .z))))) rfl) rfl ?_
  refine GD.one rfl .no (S1.mv (v := (.int _ _)) rfl) rfl ?_
  refine GD.one rfl .no (S1.ixN el26 rfl rfl (by omega)) rfl ?_
  refine GD.one rfl .no (S1.fa fa47_0 rfl) rfl ?_
  refine GD.one rfl .no (S1.fa fa75_2 rfl) rfl ?_
  refine GD.one rfl .no (S1.fa fa47_1 rfl) rfl ?_
  refine GD.one rfl .no (S1.ld sc3 rfl (.at .z) rfl) rfl ?_
  refine GD.callF rfl .no fo89 (by kernel_rfl) (show Take _ [(rb, _), (a2, _), (a1, _), (lb, _)] _ from (.cons (.s (.s (.s .z))) (.cons (.s .z) (.cons (.s .z) (.cons (.s .z) .nil))))) (fun h H => ct89 (rb := rb) (wb := a2) (lp := a1) (lb := lb) (H.give (show Take _ [(rb, _), (a2, _), (a1, _), (lb, _)] _ from (.cons (.s (.s (.s .z))) (.cons (.s .z) (.cons (.s .z) (.cons (.s .z) .nil)))))) (by omega)) (.v (fs := []) (cs := [(.pointer _), (.pointer _)]) rfl (.c (v := (.pointer _)) rfl (.c (v := (.int _ _)) rfl .n))) (fun l89 q89 => ?_)
  refine GD.done rfl ?_
  refine GQ.on ?_
  refine GW.toDrw mx rfl ?_
  refine GD.one rfl .no (S1.mv (v := (.func _ _ _)) rfl) rfl ?_
  refine GD.one rfl .no (S1.ld sc90 rfl (.at (.s (.s .z))) rfl) rfl ?_
  refine GD.one rfl .no (S1.nc rfl) rfl ?_
  refine GD.one rfl .no (S1.fa fa95_1 rfl) rfl ?_
  refine GD.one rfl .no (S1.ld sc26 rfl (.at (.s (.s (.s .z)))) rfl) rfl ?_
  refine GD.one rfl .no (S1.mv (v := (.int _ _)) rfl) rfl ?_
  refine GD.one rfl .no (S1.ixN el26 rfl rfl (by omega)) rfl ?_
  refine GD.one rfl .no (S1.fa fa47_1 rfl) rfl ?_
  refine GD.one rfl .no (S1.fa fa75_2 rfl) rfl ?_
  refine GD.one rfl .no (S1.fa fa47_0 rfl) rfl ?_
  refine GD.one rfl .no (S1.ld sc3 rfl (.at (.s (.s (.s (.s .z))))) rfl) rfl ?_
  refine GD.callF rfl .no fo89 (by kernel_rfl) (show Take _ [(rb, _), (a2, _), (a1, _), (lb, _)] _ from (.cons .z (.cons .z (.cons .z (.cons .z .nil))))) (fun h H => ct89 (rb := rb) (wb := a2) (lp := a1) (lb := lb) (H.give (show Take _ [(rb, _), (a2, _), (a1, _), (lb, _)] _ from (.cons .z (.cons .z (.cons .z (.cons .z .nil)))))) (by omega)) (.v (fs := []) (cs := [(.pointer _), (.pointer _)]) rfl (.c (v := (.pointer _)) rfl (.c (v := (.int _ _)) rfl .n))) (fun l89 q89 => ?_)
  refine GD.done rfl ?_
  refine GQ.outN ?_
  refine GQ.on ?_
  refine GW.toReg rfl ?_
  refine GL.one rfl .no (S1.inc rfl rfl (by omega)) ?_
  refine GL.one rfl .no (S1.mv (v := (.int _ _)) rfl) ?_
  refine GL.done rfl ?_
  refine GQ.next (x.1 + 1, l89) ⟨by dsimp only; omega, by dsimp only; omega⟩ (by dsimp only; omega) (.c rfl (.c rfl (.c rfl (.c rfl (.c rfl .n))))) (.cons (.s .z) (.cons (.s .z) (.cons .z (.cons .z .nil))))
  refine GW.toExit rfl ?_
  refine GQ.onE ?_
  refine GQ.onE ?_
  refine GQ.outH ?_
  refine GQ.on ?_
  refine GW.toReg rfl ?_
  refine GL.one rfl .no (S1.ld sc90 rfl (.at (.s .z)) rfl) ?_
  refine GL.one rfl .no (S1.ld sc3 rfl (.at .z) rfl) ?_
  refine GL.one rfl .no (S1.nc rfl) ?_
  refine GL.one rfl .no (S1.fa fa95_2 rfl) ?_
  refine GL.one rfl .no (S1.st (u := (.int _ _)) sc3 rfl rfl rfl (by repeat constructor) (.s (.s (.s .z)))) ?_
  refine GL.done rfl ?_
  refine GQ.retN _ .nil .z rfl ?_ (.cons (.s (.s .z)) (.cons (.s (.s .z)) .nil))
  assumption
end
end Go.Proofs.Ytmlknglgijeepaa
namespace Go.Proofs.Ytmlknglgijeepaa
open Go Go.E
set_option maxRecDepth 100000
set_option maxHeartbeats 2000000

section
variable {h : EH} {hr : RO} {la ca : Option Addr} {ln lc cn cc rb lb : Nat} {w : Int} {l : List Int}

theorem ct87 {e0 e1 e2 e3 e4 : Int} (h1 : Cell hr (.sl ly75) (.slice la ln lc)) (H : Hp hr h [rb, lb] [(rb, opRow (ints l) 2), (lb, LO la ln lc ca cn cc rb w)] h) (hl : l.length = ln * 2) (he : 0 ≤ e2 ∧ e2 < ln) :
    Ct Try.prog 87 ⟨[.pointer (some ⟨lb, 0, none⟩), .agg ⟨[.int .i64 e0, .int .i64 e1, .int .i64 e2, .int .i64 e3, .int .i64 e4]⟩]⟩ h [rb, lb] (fun _ : List Int => .tuple #[]) (fun l' => l'.length = ln * 2) (fun l' => [(rb, opRow (ints l') 2), (lb, LO la ln lc ca cn cc rb w)]) := by
  have hl1 := h1.le
  refine Ct.go Try.func87 rfl rfl co87 H ?_
  refine GW.toSeq rfl ?_
  refine GW.toReg rfl ?_
  refine GL.opN rfl .no (SN.bx (u := .agg ⟨_⟩) rfl .agg) (fun a1 => ?_)
  refine GL.done rfl ?_
  refine GQ.on ?_
  refine GW.toSeq rfl ?_
  refine GW.toDrw mx rfl ?_
  refine GD.one rfl .no (S1.mv (v := (.pointer _)) rfl) rfl ?_
  refine GD.one rfl .no (S1.nc rfl) rfl ?_
  refine GD.one rfl .no (S1.fa fa95_1 rfl) rfl ?_
  refine GD.one rfl .no (S1.ld sc26 rfl (.at (.s (.s .z))) rfl) rfl ?_
  refine GD.one rfl .no (S1.fa fa89_2 rfl) rfl ?_
  refine GD.one rfl .no (S1.ld sc3 rfl (.at .z) rfl) rfl ?_
  refine GD.one rfl .no (S1.ix el26 rfl rfl (by omega) (by omega)) rfl ?_
  refine GD.one rfl .no (S1.mv (v := (.pointer _)) rfl) rfl ?_
  refine GD.one rfl .no (S1.nc rfl) rfl ?_
  refine GD.one rfl .no (S1.fa fa95_0 rfl) rfl ?_
  refine GD.one rfl .no (S1.fa fa25_0 rfl) rfl ?_
  refine GD.one rfl .no (S1.ld sc22 rfl (.at (.s (.s .z))) rfl) rfl ?_
  refine GD.one rfl .no (S1.fa fa89_2 rfl) rfl ?_
  refine GD.one rfl .no (S1.ld sc3 rfl (.at .z) rfl) rfl ?_
  refine GD.one rfl .no (S1.ixRI el22 h1 rfl rfl (by omega)) rfl ?_
  refine GD.one rfl .no (S1.fa fa75_1 rfl) rfl ?_
  refine GD.one rfl .no (S1.ldEs ag47 (z := 5) h1 rfl (m := e2.toNat) (by omega) rfl (d := 1) (by decide) rfl rfl) rfl ?_
  refine GD.opN rfl .no (SN.al zc47) rfl (fun a2 => ?_)
  refine GD.one rfl .no (S1.as (v := (.pointer _)) rfl) rfl ?_
  refine GD.loud rfl .no (S1.stA ag47 rfl rfl rfl rfl (by repeat constructor) .z) rfl rfl (by kernel_rfl) ?_
  refine GD.done rfl ?_
  refine GQ.on ?_
  refine GW.toDrw mx rfl ?_
  refine GD.one rfl .no (S1.mv (v := (.pointer _)) rfl) rfl ?_
  refine GD.one rfl .no (S1.mv (v := (.pointer _)) rfl) rfl ?_
  refine GD.one rfl .no (S1.mv (v := (.pointer _)) rfl) rfl ?_
  refine GD.one rfl .no (S1.nc rfl) rfl ?_
  refine GD.one rfl .no (S1.fa fa47_0 rfl) rfl ?_
  refine GD.one rfl .no (S1.ldI sc3 rfl (.at (.s (.s .z))) (by omega)) rfl ?_
  refine GD.one rfl .no (S1.fa fa47_0 rfl) rfl ?_
  refine GD.one rfl .no (S1.ld sc3 rfl (.at .z) rfl) rfl ?_
  refine GD.one rfl .no (S1.add rfl rfl) rfl ?_
  refine GD.call rfl .no fo46 .nil (fun h H => ct46) (.d (.c (v := (.int _ _)) rfl .n)) (fun e3 q3 => ?_)
  refine GD.one rfl .no (S1.mv (v := (.pointer _)) rfl) rfl ?_
  refine GD.one rfl .no (S1.nc rfl) rfl ?_
  refine GD.one rfl .no (S1.fa fa47_1 rfl) rfl ?_
  refine GD.one rfl .no (S1.ldI sc3 rfl (.at (.s (.s .z))) (by omega)) rfl ?_
  refine GD.one rfl .no (S1.fa fa47_1 rfl) rfl ?_
  refine GD.one rfl .no (S1.ld sc3 rfl (.at .z) rfl) rfl ?_
  refine GD.one rfl .no (S1.add rfl rfl) rfl ?_
  refine GD.call rfl .no fo46 .nil (fun h H => ct46) (.d (.c (v := (.int _ _)) rfl .n)) (fun e4 q4 => ?_)
  refine GD.one rfl .no (S1.nc rfl) rfl ?_
  refine GD.one rfl .no (S1.fa fa47_0 rfl) rfl ?_
  refine GD.loud rfl .no (S1.stI sc3 rfl rfl (by omega) (.s (.s .z))) rfl rfl (by kernel_rfl) ?_
  refine GD.one rfl .no (S1.nc rfl) rfl ?_
  refine GD.one rfl .no (S1.fa fa47_1 rfl) rfl ?_
  refine GD.loud rfl .no (S1.stI sc3 rfl rfl (by simp only [List.length_set]; omega) (.s (.s .z))) rfl rfl (by kernel_rfl) ?_
  refine GD.done rfl ?_
  refine GQ.retN _ .nil .z rfl ?_ (.cons (.s (.s .z)) (.cons (.s (.s .z)) .nil))
  (simp [*]; done)

theorem ct88 {e0 e1 e2 e3 e4 : Int} (h1 : Cell hr (.sl ly75) (.slice la ln lc)) (h2 : Cell hr (.sl ly80) (.slice ca cn cc)) (H : Hp hr h [rb, lb] [(rb, opRow (ints l) 2), (lb, LO la ln lc ca cn cc rb w)] h) (hl : l.length = ln * 2) (he : 0 ≤ e2 ∧ e2 < ln) (hj : 0 ≤ e3 ∧ e3 < cn) :
    Cp Try.prog 88 ⟨[.pointer (some ⟨lb, 0, none⟩), .agg ⟨[.int .i64 e0, .int .i64 e1, .int .i64 e2, .int .i64 e3, .int .i64 e4]⟩]⟩ h [rb, lb] (fun _ : List Int => .tuple #[]) (fun l' => l'.length = ln * 2) (fun l' => [(rb, opRow (ints l') 2), (lb, LO la ln lc ca cn cc rb w)])
      (fun _ : List Int => .iface 40 (.int .i64 9)) (fun _ => True) (fun l' => [(rb, opRow (ints l') 2), (lb, LO la ln lc ca cn cc rb w)]) := by
  have hl1 := h1.le
  have hl2 := h2.le
  refine Cp.go Try.func88 rfl rfl co88 H ?_
  refine GW.toSeq rfl ?_
  refine GW.toReg rfl ?_
  refine GL.opN rfl .no (SN.bx (u := .agg ⟨_⟩) rfl .agg) (fun a1 => ?_)
  refine GL.done rfl ?_
  refine GQ.on ?_
  refine GW.toSeq rfl ?_
  refine GW.toDrw mx rfl ?_
  refine GD.one rfl .no (S1.mv (v := (.pointer _)) rfl) rfl ?_
  refine GD.one rfl .no (S1.nc rfl) rfl ?_
  refine GD.one rfl .no (S1.fa fa95_1 rfl) rfl ?_
  refine GD.one rfl .no (S1.ld sc26 rfl (.at (.s (.s .z))) rfl) rfl ?_
  refine GD.one rfl .no (S1.fa fa89_2 rfl) rfl ?_
  refine GD.one rfl .no (S1.ld sc3 rfl (.at .z) rfl) rfl ?_
  refine GD.one rfl .no (S1.ix el26 rfl rfl (by omega) (by omega)) rfl ?_
  refine GD.one rfl .no (S1.mv (v := (.pointer _)) rfl) rfl ?_
  refine GD.one rfl .no (S1.nc rfl) rfl ?_
  refine GD.one rfl .no (S1.fa fa95_0 rfl) rfl ?_
  refine GD.one rfl .no (S1.fa fa25_1 rfl) rfl ?_
  refine GD.one rfl .no (S1.ld sc23 rfl (.at (.s (.s .z))) rfl) rfl ?_
  refine GD.one rfl .no (S1.fa fa89_3 rfl) rfl ?_
  refine GD.one rfl .no (S1.ld sc3 rfl (.at .z) rfl) rfl ?_
  refine GD.one rfl .no (S1.ixRI el23 h2 rfl rfl (by omega)) rfl ?_
  refine GD.one rfl .no (S1.fa fa80_1 rfl) rfl ?_
  refine GD.one rfl .no (S1.ldEs ag47 (z := 3) h2 rfl (m := e3.toNat) (by omega) rfl (d := 1) (by decide) rfl rfl) rfl ?_
  refine GD.one rfl .no (S1.fa fa89_4 rfl) rfl ?_
  refine GD.one rfl .no (S1.ld sc3 rfl (.at .z) rfl) rfl ?_
  refine GD.call rfl .no fo47 .nil (fun h H => ct47) (.d (.c (v := (.agg _)) rfl (.c (v := (.int _ _)) rfl .n))) (fun e2 q2 => ?_)
  refine GD.opN rfl .no (SN.al zc47) rfl (fun a3 => ?_)
  refine GD.one rfl .no (S1.as (v := (.pointer _)) rfl) rfl ?_
  refine GD.loud rfl .no (S1.stA ag47 rfl rfl rfl rfl (by repeat constructor) .z) rfl rfl (by kernel_rfl) ?_
  refine GD.done rfl ?_
  refine GQ.on ?_
  refine GW.toSeq rfl ?_
  refine GW.toDrwW [rb] mx rfl (fun _ H => InL.go (.c (.s (.s .z)) .n) H) ?_
  refine GE.one rfl .no (S1.mv (v := (.pointer _)) rfl) rfl (.f (by kernel_rfl)) ?_
  refine GE.one rfl .no (S1.mv (v := (.pointer _)) rfl) rfl (.f (by kernel_rfl)) ?_
  refine GE.one rfl .no (S1.mv (v := (.pointer _)) rfl) rfl (.f (by kernel_rfl)) ?_
  refine GE.one rfl .no (S1.nc rfl) rfl (.f (by kernel_rfl)) ?_
  refine GE.one rfl .no (S1.fa fa47_0 rfl) rfl (.f (by kernel_rfl)) ?_
  refine GE.one rfl .no (S1.ldI sc3 rfl (.at (.s (.s .z))) (by omega)) rfl (.f (by kernel_rfl)) ?_
  refine GE.one rfl .no (S1.fa fa47_0 rfl) rfl (.f (by kernel_rfl)) ?_
  refine GE.one rfl .no (S1.ld sc3 rfl (.at .z) rfl) rfl (.f (by kernel_rfl)) ?_
  refine GE.one rfl .no (S1.mx2 rfl rfl) rfl (.f (by kernel_rfl)) ?_
  refine GE.one rfl .no (S1.mv (v := (.pointer _)) rfl) rfl (.f (by kernel_rfl)) ?_
  refine GE.one rfl .no (S1.nc rfl) rfl (.f (by kernel_rfl)) ?_
  refine GE.one rfl .no (S1.fa fa47_1 rfl) rfl (.f (by kernel_rfl)) ?_
  refine GE.one rfl .no (S1.ldI sc3 rfl (.at (.s (.s .z))) (by omega)) rfl (.f (by kernel_rfl)) ?_
  refine GE.one rfl .no (S1.fa fa47_1 rfl) rfl (.f (by kernel_rfl)) ?_
  refine GE.one rfl .no (S1.ld sc3 rfl (.at .z) rfl) rfl (.b rfl (fun _ H => NoW.go (by repeat first | exact .n | apply NoW.c (.l (.s .z))) H)) ?_
  refine GE.one rfl .no (S1.mn2 rfl rfl) rfl (.n rfl) ?_
  refine GE.one rfl .no (S1.nc rfl) rfl (.f (by kernel_rfl)) ?_
  refine GE.one rfl .no (S1.fa fa47_0 rfl) rfl (.f (by kernel_rfl)) ?_
  refine GE.loud rfl .no (S1.stI sc3 rfl rfl (by omega) (.s (.s .z))) rfl rfl (by first | exact .w rfl (by simp) | exact .n rfl) ?_
  refine GE.one rfl .no (S1.nc rfl) rfl (.f (by kernel_rfl)) ?_
  refine GE.one rfl .no (S1.fa fa47_1 rfl) rfl (.f (by kernel_rfl)) ?_
  refine GE.loud rfl .no (S1.stI sc3 rfl rfl (by simp only [List.length_set]; omega) (.s (.s .z))) rfl rfl (.f (by kernel_rfl)) ?_
  refine GE.done rfl ?_
  refine GQ.on ?_
  refine GW.toSeq rfl ?_
  refine GW.toDrw mx rfl ?_
  refine GD.one rfl .no (S1.mv (v := (.pointer _)) rfl) rfl ?_
  refine GD.one rfl .no (S1.nc rfl) rfl ?_
  refine GD.one rfl .no (S1.fa fa47_0 rfl) rfl ?_
  refine GD.one rfl .no (S1.ldI sc3 rfl (.at (.s (.s .z))) (by simp only [List.length_set]; omega)) rfl ?_
  refine GD.one rfl .no (S1.mv (v := (.pointer _)) rfl) rfl ?_
  refine GD.one rfl .no (S1.nc rfl) rfl ?_
  refine GD.one rfl .no (S1.fa fa47_1 rfl) rfl ?_
  refine GD.one rfl .no (S1.ldI sc3 rfl (.at (.s (.s .z))) (by simp only [List.length_set]; omega)) rfl ?_
  refine GD.one rfl .no (S1.gtr rfl rfl) rfl ?_
  refine GD.done rfl ?_
  refine GQ.on ?_
  refine GW.toD rfl rfl (fun w4 => ?_) (fun w4 => ?_)
  refine GW.toReg rfl ?_
  refine GL.one rfl .no (S1.mi ni40 (v := (.int _ _)) rfl) ?_
  refine GL.panic rfl .no rfl ?_
  refine GQ.pan _ rfl ?_ (.cons (.s (.s .z)) (.cons (.s (.s .z)) .nil))
  exact trivial
  refine GW.toSkip rfl ?_
  refine GQ.retN _ .nil .z rfl ?_ (.cons (.s (.s .z)) (.cons (.s (.s .z)) .nil))
  (simp [*]; done)
end
end Go.Proofs.Ytmlknglgijeepaa
namespace Go.Proofs.Ytmlknglgijeepaa
open Go Go.E
set_option maxRecDepth 100000
set_option maxHeartbeats 2000000

theorem u129 : Try.prog.underlying 129 = some (.array 2 128) := by kernel_rfl
theorem z128 : szOf Try.prog 128 = some 1 := by kernel_rfl

section
variable {h : EH} {hr : RO} {p q : Nat} {L : Ents} {F : List Nat}

theorem df86n : ∃ h1 rc1, SndDef Try.prog 86 ⟨[.pointer (some ⟨p, 0, none⟩), .pointer (some ⟨q, 0, none⟩)]⟩ h none h1 rc1 ∧ (h1 = h ∧ rc1 = none) := by
  refine Df.go Try.func86 rfl rfl co86 (C := fun h' => h' = h) (Q' := fun h1 rc1 => h1 = h ∧ rc1 = none) rfl ?_
  refine GW.toSeq rfl ?_
  refine GW.toReg rfl ?_
  refine GL.recover rfl .no ?_
  refine GL.one rfl .no (S1.as (v := .nilIface) rfl) ?_
  refine GL.done rfl ?_
  refine GQ.on ?_
  refine GW.toSeq rfl ?_
  refine GW.toReg rfl ?_
  refine GL.one rfl .no (S1.mv (v := .nilIface) rfl) ?_
  refine GL.one rfl .no (S1.bin (v := .bool false) (by kernel_rfl)) ?_
  refine GL.done rfl ?_
  refine GQ.on ?_
  refine GW.toF rfl rfl ?_
  refine GW.toSkip rfl ?_
  exact GQ.defN rfl (fun _ e => ⟨e, rfl⟩)

theorem df86 {h0 : EH} {v0 : Option Addr} {v1 e : Int} (H : Hp hr h0 F ((p, .cells [.pointer v0] none true) :: (q, .cells [.int .i64 v1] none true) :: L) h) : ∃ h1 rc1, SndDef Try.prog 86 ⟨[.pointer (some ⟨p, 0, none⟩), .pointer (some ⟨q, 0, none⟩)]⟩ h (some (.iface 40 (.int .i64 e), false)) h1 rc1 ∧ (Hp hr h0 F ((p, .cells [.pointer none] none true) :: (q, .cells [.int .i64 e] none true) :: L) h1 ∧ rc1 = some (.iface 40 (.int .i64 e), true)) := by
  refine Df.go Try.func86 rfl rfl co86 (C := Hp hr h0 F ((p, .cells [.pointer v0] none true) :: (q, .cells [.int .i64 v1] none true) :: L)) (Q' := fun h1 rc1 => Hp hr h0 F ((p, .cells [.pointer none] none true) :: (q, .cells [.int .i64 e] none true) :: L) h1 ∧ rc1 = some (.iface 40 (.int .i64 e), true)) H ?_
  refine GW.toSeq rfl ?_
  refine GW.toReg rfl ?_
  refine GL.recover rfl .no ?_
  refine GL.one rfl .no (S1.as (v := (.iface _ _)) rfl) ?_
  refine GL.done rfl ?_
  refine GQ.on ?_
  refine GW.toSeq rfl ?_
  refine GW.toReg rfl ?_
  refine GL.one rfl .no (S1.mv (v := (.iface _ _)) rfl) ?_
  refine GL.one rfl .no (S1.bin (v := .bool true) (by kernel_rfl)) ?_
  refine GL.done rfl ?_
  refine GQ.on ?_
  refine GW.toT rfl rfl ?_
  refine GW.toDrw mx rfl ?_
  refine GD.one rfl .no (S1.mv (v := (.iface _ _)) rfl) rfl ?_
  refine GD.one rfl .no (S1.ta ni40 rfl) rfl ?_
  refine GD.loud rfl .no (S1.st (u := (.pointer _)) sc90 rfl rfl rfl (by repeat constructor) .z) rfl rfl (by kernel_rfl) ?_
  refine GD.loud rfl .no (S1.st (u := (.int _ _)) sc40 rfl rfl rfl (by repeat constructor) (.s .z)) rfl rfl (by kernel_rfl) ?_
  refine GD.done rfl ?_
  exact GQ.defN rfl (fun _ e => ⟨e, rfl⟩)
end
end Go.Proofs.Ytmlknglgijeepaa
namespace Go.Proofs.Ytmlknglgijeepaa
open Go Go.E
set_option maxRecDepth 100000
set_option maxHeartbeats 4000000

/-- What live has made: rb, lb, the row. -/
structure Lv where
  rb : Nat
  lb : Nat
  l : List Int
  w : Int

section
variable {h : EH} {hr : RO} {la ca ra ea : Option Addr} {ln lc cn cc rn rc en ec : Nat}


abbrev V49 : Lv ⊕ Unit → Value
  | .inl x => .tuple ⟨[.pointer (some ⟨x.lb, 0, none⟩), .int .i64 0]⟩
  | .inr _ => .tuple ⟨[.pointer none, .int .i64 9]⟩
abbrev R49 (ln : Nat) : Lv ⊕ Unit → Prop
  | .inl x => x.l.length = ln * 2
  | .inr _ => True
abbrev N49 (la : Option Addr) (ln lc : Nat) (ca : Option Addr) (cn cc : Nat) : Lv ⊕ Unit → Ents
  | .inl x => [(x.rb, opRow (ints x.l) 2), (x.lb, LO la ln lc ca cn cc x.rb x.w)]
  | .inr _ => []

theorem ct49 (hR : ∀ b o, hr b = some o → h[b]? = some o) (h1 : Cell hr (.sl ly75) (.slice la ln lc)) (h2 : Cell hr (.sl ly80) (.slice ca cn cc)) (h3 : Cell hr (.sl ly47) (.slice ra rn rc)) (h4 : Cell hr (.sl ly89) (.slice ea en ec)) (hrn : 0 < rn) (hrl : rn = ln) (hev : ∀ k, k < en → EvOk hr ln cn ea k) :
    Ct Try.prog 49 ⟨[.agg ⟨[.slice la ln lc, .slice ca cn cc]⟩, .slice ra rn rc, .slice ea en ec]⟩ h [] V49 (R49 ln) (N49 la ln lc ca cn cc) := by
  subst hrl
  have hl1 := h1.le
  have hl2 := h2.le
  have hl4 := h4.le
  refine WF.goE Try.func49 rfl rfl co49 (Hp.start hR) ?_
  refine GW.toSeq rfl ?_
  refine GW.toReg rfl ?_
  refine GL.opN rfl .no (SN.bx (u := .agg ⟨_⟩) rfl .agg) (fun a1 => ?_)
  refine GL.opN rfl .no (SN.al zc90) (fun a2 => ?_)
  refine GL.opN rfl .no (SN.al zc40) (fun a3 => ?_)
  refine GL.done rfl ?_
  refine GQ.on ?_
  refine GW.toSeq rfl ?_
  refine GW.toDrw mx rfl ?_
  refine GD.one rfl .no (S1.ldW ag25 rfl (.at (.s (.s .z))) rfl) rfl ?_
  refine GD.one rfl .no (S1.mv (v := (.slice _ _ _)) rfl) rfl ?_
  refine GD.call rfl .no fo85 .nil (fun h H => ct85 H.rom h3 hrn) (.d (.c (v := (.slice _ _ _)) rfl .n)) (fun x85 q85 => ?_)
  refine GD.one rfl .no (S1.bu zc95 bo95 (.c (v := .agg ⟨_⟩) rfl .agg fz95_0 rfl (by repeat constructor) (.c (v := (.slice _ _ _)) rfl (.one rfl) fz95_1 rfl (by repeat constructor) .n))) rfl ?_
  refine GD.opN rfl .no (SN.bx (u := .agg ⟨_⟩) rfl .agg) rfl (fun a5 => ?_)
  refine GD.loud rfl .no (S1.st (u := (.pointer _)) sc90 rfl rfl rfl (by repeat constructor) (.s (.s (.s .z)))) rfl rfl (by kernel_rfl) ?_
  refine GD.done rfl ?_
  refine GQ.on ?_
  refine GW.toSeq rfl ?_
  refine GW.toReg rfl ?_
  refine GL.one rfl .no (S1.mf .n (.c (v := (.pointer _)) rfl (.c (v := (.pointer _)) rfl .n))) ?_
  refine GL.defer rfl .no rfl ?_
  refine GL.done rfl ?_
  refine GQ.on ?_
  refine GW.toSeq rfl ?_
  refine GW.toReg rfl ?_
  refine GL.one rfl .no (S1.ld sc90 rfl (.at (.s (.s (.s .z)))) rfl) ?_
  refine GL.one rfl .no (S1.mf (.c (v := (.pointer _)) rfl .n) .n) ?_
  refine GL.one rfl .no (S1.ld sc90 rfl (.at (.s (.s (.s .z)))) rfl) ?_
  refine GL.one rfl .no (S1.mf (.c (v := (.pointer _)) rfl .n) .n) ?_
  refine GL.one rfl .no (S1.bua az129 (.c (v := (.func _ _ _)) rfl rfl (.c (v := (.func _ _ _)) rfl rfl .n)) rfl) ?_
  refine GL.opN rfl .no (SN.al zc129) (fun a6 => ?_)
  refine GL.one rfl .no (S1.stA ag129 rfl rfl rfl rfl (by repeat constructor) .z) ?_
  refine GL.done rfl ?_
  refine GQ.on ?_
  refine GW.toSeq rfl ?_
  refine GW.toSeq rfl ?_
  refine GW.toReg rfl ?_
  refine GL.one rfl .no (S1.mv (v := (.slice _ _ _)) rfl) ?_
  refine GL.one rfl .no (S1.len el27 rfl) ?_
  refine GL.one rfl .no (S1.mv (v := (.int _ _)) rfl) ?_
  refine GL.done rfl ?_
  refine GQ.on ?_
  refine GW.toBlock rfl ?_
  refine GW.toLoop (X := Nat × List Int × Int) (fun x => [(6, .pointer (some ⟨a2, 0, none⟩)), (7, .pointer (some ⟨a3, 0, none⟩)), (8, .pointer (some ⟨a6, 0, none⟩)), (22, .slice ea en ec), (23, .int .i64 en), (24, .int .i64 x.1)])
    (fun x => [(a6, .cells [.func (.func 87) ⟨[.pointer (some ⟨a5, 0, none⟩)]⟩ ⟨[]⟩, .func (.func 88) ⟨[.pointer (some ⟨a5, 0, none⟩)]⟩ ⟨[]⟩] none true), (a5, LO la rn lc ca cn cc x85.1 x.2.2), (x85.1, opRow (ints x.2.1) 2), (a3, .cells [.int .i64 0] none true), (a2, .cells [.pointer (some ⟨a5, 0, none⟩)] none true)])
    (fun x => x.1 ≤ en ∧ x.2.1.length = rn * 2) (fun x => en - x.1) rfl (0, x85.2, 0) ⟨Nat.zero_le _, q85⟩ (.c rfl (.c rfl (.c rfl (.c rfl (.c rfl (.c rfl .n)))))) (.cons .z (.cons .z (.cons .z (.cons .z (.cons .z .nil))))) ?_
  rintro x f ⟨hx, hp⟩
  refine GW.toSeq rfl ?_
  refine GW.toReg rfl ?_
  refine GL.one rfl .no (S1.lss rfl rfl) ?_
  refine GL.done rfl ?_
  refine GQ.on ?_
  refine GW.toSeq rfl ?_
  refine GW.toD rfl rfl (fun w7 => ?_) (fun w7 => ?_)
  refine GW.toSkip rfl ?_
  refine GQ.on ?_
  refine GW.toSeq rfl ?_
  refine GW.toBlock rfl ?_
  refine GW.toSeq rfl ?_
  refine GW.toReg rfl ?_
  refine GL.one rfl .no (S1.ixR el27 h4 rfl rfl (by omega)) ?_
  refine GL.one rfl .no (S1.ldE ag89 h4 rfl (m := x.fst) (by omega) rfl le89) ?_
  refine GL.opN rfl .no (SN.al zc89) (fun a8 => ?_)
  refine GL.one rfl .no (S1.stA ag89 rfl rfl rfl rfl (by repeat constructor) .z) ?_
  refine GL.done rfl ?_
  refine GQ.on ?_
  refine GW.toSeq rfl ?_
  refine GW.toReg rfl ?_
  refine GL.one rfl .no (S1.ld sc90 rfl (.at (.s (.s (.s (.s (.s .z)))))) rfl) ?_
  refine GL.one rfl .no (S1.fa fa89_0 rfl) ?_
  refine GL.one rfl .no (S1.ld sc3 rfl (.at .z) rfl) ?_
  refine GL.call rfl .no fo50 (show Take _ [(x85.1, _), (a5, _)] _ from (.cons (.s (.s (.s .z))) (.cons (.s (.s .z)) .nil))) (fun h H => ct50 (rb := x85.1) (lb := a5) h1 hp (H.give (show Take _ [(x85.1, _), (a5, _)] _ from (.cons (.s (.s (.s .z))) (.cons (.s (.s .z)) .nil))))) (.d (.c (v := (.pointer _)) rfl (.c (v := (.int _ _)) rfl .n))) (fun l50 q50 => ?_)
  refine GL.done rfl ?_
  refine GQ.on ?_
  refine GW.toDrw mx rfl ?_
  refine GD.one rfl .no (S1.fa fa89_1 rfl) rfl ?_
  refine GD.one rfl .no (S1.ld sc3 rfl (.at (.s (.s .z))) rfl) rfl ?_
  rotate_left
  refine GW.toExit rfl ?_
  refine GQ.onE ?_
  refine GQ.onE ?_
  refine GQ.outH ?_
  refine GQ.on ?_
  refine GW.toSeq rfl ?_
  refine GW.toReg rfl ?_
  refine GL.one rfl .no (S1.ld sc90 rfl (.at (.s (.s (.s (.s .z))))) rfl) ?_
  refine GL.one rfl .no (S1.st (u := (.pointer _)) sc90 rfl rfl rfl (by repeat constructor) (.s (.s (.s (.s .z))))) ?_
  refine GL.one rfl .no (S1.st (u := (.int _ _)) sc40 rfl rfl rfl (by repeat constructor) (.s (.s (.s .z)))) ?_
  refine GL.done rfl ?_
  refine GQ.on ?_
  refine GW.toRet rfl ?_
  rotate_left
  · obtain ⟨k01, s0, s1, j01⟩ := hev x.1 (by omega)
    simp only [ie] at k01 s0 s1 j01
    rcases k01 with k0 | k1
    · refine GD.one rfl .no (S1.ixA (j := 0) u129 z128 rfl rfl k0 (by decide)) rfl ?_
      refine GD.one rfl .no (S1.ld sc128 rfl (.at (.s (.s (.s .z)))) rfl) rfl ?_
      refine GD.one rfl .no (S1.ldW ag89 rfl (.at (.s (.s .z))) rfl) rfl ?_
      refine GD.callF rfl .no fo87 (by kernel_rfl) (show Take _ [(x85.1, _), (a5, _)] _ from (.cons .z (.cons .z .nil))) (fun h H => ct87 (rb := x85.1) (lb := a5) h1 (H.give (show Take _ [(x85.1, _), (a5, _)] _ from (.cons .z (.cons .z .nil)))) q50 (by omega)) (.v (fs := [(.pointer _)]) (cs := []) rfl (.c (v := (.agg _)) rfl .n)) (fun l87 q87 => ?_)
      refine GD.done rfl ?_
      refine GQ.outN ?_
      refine GQ.on ?_
      refine GW.toReg rfl ?_
      refine GL.one rfl .no (S1.inc rfl rfl (by omega)) ?_
      refine GL.one rfl .no (S1.mv (v := (.int _ _)) rfl) ?_
      refine GL.done rfl ?_
      refine GQ.next (x.1 + 1, l87, _) ⟨by dsimp only; omega, q87⟩ (by dsimp only; omega) (.c rfl (.c rfl (.c rfl (.c rfl (.c rfl (.c rfl .n)))))) (.cons (.s (.s (.s .z))) (.cons (.s .z) (.cons .z (.cons (.s .z) (.cons (.s .z) .nil)))))
    · have j1 := j01 k1
      refine GD.one rfl .no (S1.ixA (j := 1) u129 z128 rfl rfl k1 (by decide)) rfl ?_
      refine GD.one rfl .no (S1.ld sc128 rfl (.at (.s (.s (.s .z)))) rfl) rfl ?_
      refine GD.one rfl .no (S1.ldW ag89 rfl (.at (.s (.s .z))) rfl) rfl ?_
      refine GD.callPF rfl rfl .no fo88 (by kernel_rfl) (show Take _ [(x85.1, _), (a5, _)] _ from (.cons .z (.cons .z .nil))) (fun h H => ct88 (rb := x85.1) (lb := a5) h1 h2 (H.give (show Take _ [(x85.1, _), (a5, _)] _ from (.cons .z (.cons .z .nil)))) q50 (by omega) (by omega)) (.v (fs := [(.pointer _)]) (cs := []) rfl (.c (v := (.agg _)) rfl .n)) (fun l87 q87 => ?_) (fun l87 _ => ?_)
      refine GD.done rfl ?_
      refine GQ.outN ?_
      refine GQ.on ?_
      refine GW.toReg rfl ?_
      refine GL.one rfl .no (S1.inc rfl rfl (by omega)) ?_
      refine GL.one rfl .no (S1.mv (v := (.int _ _)) rfl) ?_
      refine GL.done rfl ?_
      refine GQ.next (x.1 + 1, l87, _) ⟨by dsimp only; omega, q87⟩ (by dsimp only; omega) (.c rfl (.c rfl (.c rfl (.c rfl (.c rfl (.c rfl .n)))))) (.cons (.s (.s (.s .z))) (.cons (.s .z) (.cons .z (.cons (.s .z) (.cons (.s .z) .nil)))))
      refine GQ.outP ?_
      refine GQ.onP ?_
      refine GQ.onP ?_
      refine GQ.outP ?_
      refine GQ.onP ?_
      refine GQ.endD (pm := some (.iface 40 (.int .i64 9))) (rc1 := some (.iface 40 (.int .i64 9), true)) (C' := Hp hr h [] [(a2, .cells [.pointer none] none true), (a3, .cells [.int .i64 9] none true)]) rfl fo86 rfl (fun h' H' => ?_) (GQ.ret (.inr ()) (.cell rfl rfl .z (loadV_sc sc90 rfl) (.cell rfl rfl (.s .z) (loadV_sc sc40 rfl) .nil)) .more rfl trivial .nil)
      obtain ⟨h2, rc2, s2, H2, rfl⟩ := df86 (e := 9) (H'.sub (show Take _ [(a2, _), (a3, _)] _ from (.cons (.s (.s (.s (.s (.s .z))))) (.cons (.s (.s (.s (.s .z)))) .nil))))
      exact ⟨_, by simpa using s2, H2⟩
  · refine GQ.endD (pm := none) (rc1 := none) (C' := Hp hr h [] [(a2, .cells [.pointer (some ⟨a5, 0, none⟩)] none true), (a3, .cells [.int .i64 0] none true), (x85.1, opRow (ints x.2.1) 2), (a5, LO la rn lc ca cn cc x85.1 x.2.2)]) rfl fo86 rfl (fun h' H' => ?_) (GQ.ret (.inl ⟨x85.1, a5, x.2.1, x.2.2⟩) (.cell rfl rfl .z (loadV_sc sc90 rfl) (.cell rfl rfl (.s .z) (loadV_sc sc40 rfl) .nil)) .more rfl hp (.cons (.s (.s .z)) (.cons (.s (.s .z)) .nil)))
    obtain ⟨h2, rc2, s2, rfl, rfl⟩ := df86n (h := h') (p := a2) (q := a3)
    exact ⟨_, by simpa using s2, H'.sub (.cons (.s (.s (.s (.s .z)))) (.cons (.s (.s (.s .z))) (.cons (.s (.s .z)) (.cons (.s .z) .nil))))⟩
end
end Go.Proofs.Ytmlknglgijeepaa
namespace Go.Proofs.Ytmlknglgijeepaa
open Go Go.E
set_option maxRecDepth 100000
set_option maxHeartbeats 4000000

section
variable {h : EH} {hr : RO} {la ca ra ea : Option Addr} {ln lc cn cc rn rc en ec : Nat}

theorem ct49' (hR : ∀ b o, hr b = some o → h[b]? = some o) (h1 : Cell hr (.sl ly75) (.slice la ln lc)) (h2 : Cell hr (.sl ly80) (.slice ca cn cc)) (h3 : Cell hr (.sl ly47) (.slice ra rn rc)) (h4 : Cell hr (.sl ly89) (.slice ea en ec)) (hH : HiOk hr ln ca cn rn ea en) :
    Ct Try.prog 49 ⟨[.agg ⟨[.slice la ln lc, .slice ca cn cc]⟩, .slice ra rn rc, .slice ea en ec]⟩ h [] V49 (R49 ln) (N49 la ln lc ca cn cc) :=
  ct49 hR h1 h2 h3 h4 (by have := hH.rl; have := hH.sk.l1; omega) hH.rl hH.ev


theorem ct17 {wk : Int} (hR : ∀ b o, hr b = some o → h[b]? = some o) (h1 : Cell hr (.sl ly75) (.slice la ln lc)) (h2 : Cell hr (.sl ly80) (.slice ca cn cc)) (h3 : Cell hr (.sl ly47) (.slice ra rn rc)) (h4 : Cell hr (.sl ly89) (.slice ea en ec)) :
    Ct Try.prog 17 ⟨[.agg ⟨[.slice la ln lc, .slice ca cn cc]⟩, .slice ra rn rc, .slice ea en ec, .int .i64 wk]⟩ h [] (fun x : Value × Ents × Nat × Int => .tuple ⟨[x.1, .int .i64 x.2.2.2]⟩) (fun x => OR wy47 x.1 x.2.1 x.2.2.1 ∧ x.2.2.1 ≤ 5) (fun x => x.2.1) := by
  have hl1 := h1.le
  have hl2 := h2.le
  have hl4 := h4.le
  refine Ct.go Try.func17 rfl rfl co17 (Hp.start hR) ?_
  refine GW.toSeq rfl ?_
  refine GW.toReg rfl ?_
  refine GL.opN rfl .no (SN.bx (u := .agg ⟨_⟩) rfl .agg) (fun a1 => ?_)
  refine GL.one rfl .no (S1.as (v := (.slice _ _ _)) rfl) ?_
  refine GL.one rfl .no (S1.as (v := (.int _ _)) rfl) ?_
  refine GL.done rfl ?_
  refine GQ.on ?_
  refine GW.toSeq rfl ?_
  refine GW.toSeq rfl ?_
  refine GW.toReg rfl ?_
  refine GL.one rfl .no (S1.ldW ag25 rfl (.at .z) rfl) ?_
  refine GL.one rfl .no (S1.mv (v := (.slice _ _ _)) rfl) ?_
  refine GL.one rfl .no (S1.mv (v := (.slice _ _ _)) rfl) ?_
  refine GL.call rfl .no fo48 .nil (fun h H => ct48 H.rom h1 h2 h3 h4) (.d (.c (v := (.agg _)) rfl (.c (v := (.slice _ _ _)) rfl (.c (v := (.slice _ _ _)) rfl .n)))) (fun e48 q48 => ?_)
  refine GL.one rfl .no (S1.as (v := (.int _ _)) rfl) ?_
  refine GL.done rfl ?_
  refine GQ.on ?_
  refine GW.toSeq rfl ?_
  refine GW.toReg rfl ?_
  refine GL.one rfl .no (S1.mv (v := (.int _ _)) rfl) ?_
  refine GL.one rfl .no (S1.neq rfl rfl) ?_
  refine GL.done rfl ?_
  refine GQ.on ?_
  refine GW.toD rfl rfl (fun w3 => ?_) (fun w3 => ?_)
  refine GW.toSeq rfl ?_
  refine GW.toReg rfl ?_
  refine GL.one rfl .no (S1.mv (v := (.int _ _)) rfl) ?_
  refine GL.one rfl .no (S1.as (v := (.slice _ _ _)) rfl) ?_
  refine GL.one rfl .no (S1.as (v := (.int _ _)) rfl) ?_
  refine GL.done rfl ?_
  refine GQ.on ?_
  refine GW.toRet rfl ?_
  refine GQ.onR ?_
  refine GQ.ret (nilS, [], 0, _) (.tmp rfl rfl (.tmp rfl rfl .nil)) .more rfl ⟨.nil, Nat.zero_le _⟩ .nil
  refine GW.toSkip rfl ?_
  refine GQ.on ?_
  refine GW.toSeq rfl ?_
  refine GW.toSeq rfl ?_
  refine GW.toReg rfl ?_
  refine GL.one rfl .no (S1.mv (v := (.slice _ _ _)) rfl) ?_
  refine GL.one rfl .no (S1.len el27 rfl) ?_
  refine GL.one rfl .no (S1.as (v := (.int _ _)) rfl) ?_
  refine GL.done rfl ?_
  refine GQ.on ?_
  refine GW.toBlock rfl ?_
  refine GW.toSeq rfl ?_
  refine GW.toReg rfl ?_
  refine GL.one rfl .no (S1.mv (v := (.int _ _)) rfl) ?_
  refine GL.opN rfl .no (SN.bs el31 ez31 (.c (v := (.int _ _)) rfl rfl .n) rfl rfl) (fun a4 => ?_)
  refine GL.call rfl .no fo38 .nil (fun h H => ct38_1 (H.get .z)) (.d (.c (v := (.int _ _)) rfl (.c (v := (.int _ _)) rfl (.c (v := (.slice _ _ _)) rfl .n)))) (fun _ _ => ?_)
  refine GL.one rfl .no (S1.as (v := (.bool _)) rfl) ?_
  refine GL.done rfl ?_
  refine GQ.on ?_
  refine GW.toC rfl rfl (fun w7 => ?_) (fun w7 => ?_)
  refine GW.toSeq rfl ?_
  refine GW.toReg rfl ?_
  refine GL.one rfl .no (S1.as (v := (.slice _ _ _)) rfl) ?_
  refine GL.one rfl .no (S1.as (v := (.int _ _)) rfl) ?_
  refine GL.done rfl ?_
  refine GQ.on ?_
  refine GW.toRet rfl ?_
  refine GQ.outR ?_
  refine GQ.onR ?_
  refine GQ.ret (nilS, [], 0, _) (.tmp rfl rfl (.tmp rfl rfl .nil)) .more rfl ⟨.nil, Nat.zero_le _⟩ .nil
  refine GW.toSeq rfl ?_
  refine GW.toReg rfl ?_
  refine GL.one rfl .no (S1.mv (v := (.int _ _)) rfl) ?_
  refine GL.one rfl .no (S1.gtr rfl rfl) ?_
  refine GL.one rfl .no (S1.mv (v := (.bool _)) rfl) ?_
  refine GL.splitD 30 rfl (fun w8 => ?_) (fun w8 => ?_)
  refine GL.one rfl (.yes rfl rfl rfl) (S1.mv (v := (.int _ _)) rfl) ?_
  refine GL.one rfl (.yes rfl rfl rfl) (S1.mv (v := (.slice _ _ _)) rfl) ?_
  refine GL.one rfl (.yes rfl rfl rfl) (S1.mv (v := (.int _ _)) rfl) ?_
  refine GL.one rfl (.yes rfl rfl rfl) (S1.dec1 rfl rfl (by omega) (by omega)) ?_
  refine GL.one rfl (.yes rfl rfl rfl) (S1.ixR el27 h4 rfl rfl (by omega)) ?_
  refine GL.one rfl (.yes rfl rfl rfl) (S1.fa fa89_0 rfl) ?_
  refine GL.one rfl (.yes rfl rfl rfl) (S1.ldCI sc3 (z := 5) h4 rfl (m := en - 1) (by omega) rfl (d := 0) rfl rfl) ?_
  refine GL.one rfl (.yes rfl rfl rfl) (S1.lss rfl rfl) ?_
  refine GL.one rfl .no (S1.pickT (v := (.bool _)) rfl rfl) ?_
  refine GL.one rfl .no (S1.as (v := (.bool _)) rfl) ?_
  refine GL.done rfl ?_
  refine GQ.on ?_
  refine GW.toD rfl rfl (fun w9 => ?_) (fun w9 => ?_)
  refine GW.toSeq rfl ?_
  refine GW.toReg rfl ?_
  refine GL.one rfl .no (S1.as (v := (.slice _ _ _)) rfl) ?_
  refine GL.one rfl .no (S1.as (v := (.int _ _)) rfl) ?_
  refine GL.done rfl ?_
  refine GQ.on ?_
  refine GW.toRet rfl ?_
  refine GQ.outR ?_
  refine GQ.onR ?_
  refine GQ.ret (nilS, [], 0, _) (.tmp rfl rfl (.tmp rfl rfl .nil)) .more rfl ⟨.nil, Nat.zero_le _⟩ .nil
  refine GW.toSkip rfl ?_
  refine GQ.outN ?_
  refine GQ.on ?_
  refine GW.toSeq rfl ?_
  refine GW.toReg rfl ?_
  refine GL.one rfl .no (S1.ldW ag25 rfl (.at (.s .z)) rfl) ?_
  refine GL.one rfl .no (S1.mv (v := (.slice _ _ _)) rfl) ?_
  refine GL.one rfl .no (S1.mv (v := (.slice _ _ _)) rfl) ?_
  refine GL.call rfl .no fo49 .nil (fun h H => ct49' H.rom h1 h2 h3 h4 (q48 (by omega))) (.d (.c (v := (.agg _)) rfl (.c (v := (.slice _ _ _)) rfl (.c (v := (.slice _ _ _)) rfl .n)))) (fun x49 => match x49 with | .inl x49 => fun q49 => ?_ | .inr _ => fun _ => ?_)
  refine GL.one rfl .no (S1.mv (v := (.tuple _)) rfl) ?_
  refine GL.one rfl .no (S1.ext (v := (.pointer _)) rfl rfl) ?_
  refine GL.one rfl .no (S1.ext (v := (.int _ _)) rfl rfl) ?_
  refine GL.one rfl .no (S1.as (v := (.pointer _)) rfl) ?_
  refine GL.one rfl .no (S1.as (v := (.int _ _)) rfl) ?_
  refine GL.done rfl ?_
  refine GQ.on ?_
  refine GW.toSeq rfl ?_
  refine GW.toSeq rfl ?_
  refine GW.toReg rfl ?_
  refine GL.one rfl .no (S1.mv (v := (.int _ _)) rfl) ?_
  refine GL.one rfl .no (S1.neq rfl rfl) ?_
  refine GL.done rfl ?_
  refine GQ.on ?_
  refine GW.toF rfl rfl ?_
  refine GW.toSkip rfl ?_
  refine GQ.on ?_
  refine GW.toSeq rfl ?_
  refine GW.toReg rfl ?_
  refine GL.one rfl .no (S1.mv (v := (.pointer _)) rfl) ?_
  refine GL.one rfl .no (S1.mv (v := (.int _ _)) rfl) ?_
  refine GL.call rfl .no fo50 (show Take _ [(x49.rb, _), (x49.lb, _)] _ from (.cons .z (.cons .z .nil))) (fun h H => ct50 (rb := x49.rb) (lb := x49.lb) h1 q49 (H.give (show Take _ [(x49.rb, _), (x49.lb, _)] _ from (.cons .z (.cons .z .nil))))) (.d (.c (v := (.pointer _)) rfl (.c (v := (.int _ _)) rfl .n))) (fun l50 q50 => ?_)
  refine GL.done rfl ?_
  refine GQ.on ?_
  refine GW.toSeq rfl ?_
  refine GW.toReg rfl ?_
  refine GL.one rfl .no (S1.mv (v := (.pointer _)) rfl) ?_
  refine GL.one rfl .no (S1.nc rfl) ?_
  refine GL.one rfl .no (S1.fa fa95_1 rfl) ?_
  refine GL.one rfl .no (S1.ld sc26 rfl (.at (.s .z)) rfl) ?_
  refine GL.one rfl .no (S1.as (v := (.slice _ _ _)) rfl) ?_
  refine GL.one rfl .no (S1.as (v := (.int _ _)) rfl) ?_
  refine GL.done rfl ?_
  refine GQ.on ?_
  refine GW.toRet rfl ?_
  refine GQ.ret (rowS x49.rb ln, [(x49.rb, opRow (ints l50) 2)], ln, 0) (.tmp rfl rfl (.tmp rfl rfl .nil)) .more rfl ⟨OR.ints q50 (by omega) (.inr rfl) (by simp [wy47]), (q48 (by omega)).sk.l5⟩ (.cons .z .nil)
  refine GL.one rfl .no (S1.mv (v := (.tuple _)) rfl) ?_
  refine GL.one rfl .no (S1.ext (v := (.pointer _)) rfl rfl) ?_
  refine GL.one rfl .no (S1.ext (v := (.int _ _)) rfl rfl) ?_
  refine GL.one rfl .no (S1.as (v := (.pointer _)) rfl) ?_
  refine GL.one rfl .no (S1.as (v := (.int _ _)) rfl) ?_
  refine GL.done rfl ?_
  refine GQ.on ?_
  refine GW.toSeq rfl ?_
  refine GW.toSeq rfl ?_
  refine GW.toReg rfl ?_
  refine GL.one rfl .no (S1.mv (v := (.int _ _)) rfl) ?_
  refine GL.one rfl .no (S1.neq rfl rfl) ?_
  refine GL.done rfl ?_
  refine GQ.on ?_
  refine GW.toT rfl rfl ?_
  refine GW.toSeq rfl ?_
  refine GW.toReg rfl ?_
  refine GL.one rfl .no (S1.mv (v := (.int _ _)) rfl) ?_
  refine GL.one rfl .no (S1.as (v := (.slice _ _ _)) rfl) ?_
  refine GL.one rfl .no (S1.as (v := (.int _ _)) rfl) ?_
  refine GL.done rfl ?_
  refine GQ.on ?_
  refine GW.toRet rfl ?_
  refine GQ.onR ?_
  refine GQ.ret (nilS, [], 0, _) (.tmp rfl rfl (.tmp rfl rfl .nil)) .more rfl ⟨.nil, Nat.zero_le _⟩ .nil
  refine GL.skip rfl (.not rfl rfl rfl) ?_
  refine GL.skip rfl (.not rfl rfl rfl) ?_
  refine GL.skip rfl (.not rfl rfl rfl) ?_
  refine GL.skip rfl (.not rfl rfl rfl) ?_
  refine GL.skip rfl (.not rfl rfl rfl) ?_
  refine GL.skip rfl (.not rfl rfl rfl) ?_
  refine GL.skip rfl (.not rfl rfl rfl) ?_
  refine GL.skip rfl (.not rfl rfl rfl) ?_
  refine GL.one rfl .no (S1.pickF (v := (.bool _)) rfl rfl) ?_
  refine GL.one rfl .no (S1.as (v := (.bool _)) rfl) ?_
  refine GL.done rfl ?_
  refine GQ.on ?_
  refine GW.toF rfl rfl ?_
  refine GW.toSkip rfl ?_
  refine GQ.outN ?_
  refine GQ.on ?_
  refine GW.toSeq rfl ?_
  refine GW.toReg rfl ?_
  refine GL.one rfl .no (S1.ldW ag25 rfl (.at (.s .z)) rfl) ?_
  refine GL.one rfl .no (S1.mv (v := (.slice _ _ _)) rfl) ?_
  refine GL.one rfl .no (S1.mv (v := (.slice _ _ _)) rfl) ?_
  refine GL.call rfl .no fo49 .nil (fun h H => ct49' H.rom h1 h2 h3 h4 (q48 (by omega))) (.d (.c (v := (.agg _)) rfl (.c (v := (.slice _ _ _)) rfl (.c (v := (.slice _ _ _)) rfl .n)))) (fun x49 => match x49 with | .inl x49 => fun q49 => ?_ | .inr _ => fun _ => ?_)
  refine GL.one rfl .no (S1.mv (v := (.tuple _)) rfl) ?_
  refine GL.one rfl .no (S1.ext (v := (.pointer _)) rfl rfl) ?_
  refine GL.one rfl .no (S1.ext (v := (.int _ _)) rfl rfl) ?_
  refine GL.one rfl .no (S1.as (v := (.pointer _)) rfl) ?_
  refine GL.one rfl .no (S1.as (v := (.int _ _)) rfl) ?_
  refine GL.done rfl ?_
  refine GQ.on ?_
  refine GW.toSeq rfl ?_
  refine GW.toSeq rfl ?_
  refine GW.toReg rfl ?_
  refine GL.one rfl .no (S1.mv (v := (.int _ _)) rfl) ?_
  refine GL.one rfl .no (S1.neq rfl rfl) ?_
  refine GL.done rfl ?_
  refine GQ.on ?_
  refine GW.toF rfl rfl ?_
  refine GW.toSkip rfl ?_
  refine GQ.on ?_
  refine GW.toSeq rfl ?_
  refine GW.toReg rfl ?_
  refine GL.one rfl .no (S1.mv (v := (.pointer _)) rfl) ?_
  refine GL.one rfl .no (S1.mv (v := (.int _ _)) rfl) ?_
  refine GL.call rfl .no fo50 (show Take _ [(x49.rb, _), (x49.lb, _)] _ from (.cons .z (.cons .z .nil))) (fun h H => ct50 (rb := x49.rb) (lb := x49.lb) h1 q49 (H.give (show Take _ [(x49.rb, _), (x49.lb, _)] _ from (.cons .z (.cons .z .nil))))) (.d (.c (v := (.pointer _)) rfl (.c (v := (.int _ _)) rfl .n))) (fun l50 q50 => ?_)
  refine GL.done rfl ?_
  refine GQ.on ?_
  refine GW.toSeq rfl ?_
  refine GW.toReg rfl ?_
  refine GL.one rfl .no (S1.mv (v := (.pointer _)) rfl) ?_
  refine GL.one rfl .no (S1.nc rfl) ?_
  refine GL.one rfl .no (S1.fa fa95_1 rfl) ?_
  refine GL.one rfl .no (S1.ld sc26 rfl (.at (.s .z)) rfl) ?_
  refine GL.one rfl .no (S1.as (v := (.slice _ _ _)) rfl) ?_
  refine GL.one rfl .no (S1.as (v := (.int _ _)) rfl) ?_
  refine GL.done rfl ?_
  refine GQ.on ?_
  refine GW.toRet rfl ?_
  refine GQ.ret (rowS x49.rb ln, [(x49.rb, opRow (ints l50) 2)], ln, 0) (.tmp rfl rfl (.tmp rfl rfl .nil)) .more rfl ⟨OR.ints q50 (by omega) (.inr rfl) (by simp [wy47]), (q48 (by omega)).sk.l5⟩ (.cons .z .nil)
  refine GL.one rfl .no (S1.mv (v := (.tuple _)) rfl) ?_
  refine GL.one rfl .no (S1.ext (v := (.pointer _)) rfl rfl) ?_
  refine GL.one rfl .no (S1.ext (v := (.int _ _)) rfl rfl) ?_
  refine GL.one rfl .no (S1.as (v := (.pointer _)) rfl) ?_
  refine GL.one rfl .no (S1.as (v := (.int _ _)) rfl) ?_
  refine GL.done rfl ?_
  refine GQ.on ?_
  refine GW.toSeq rfl ?_
  refine GW.toSeq rfl ?_
  refine GW.toReg rfl ?_
  refine GL.one rfl .no (S1.mv (v := (.int _ _)) rfl) ?_
  refine GL.one rfl .no (S1.neq rfl rfl) ?_
  refine GL.done rfl ?_
  refine GQ.on ?_
  refine GW.toT rfl rfl ?_
  refine GW.toSeq rfl ?_
  refine GW.toReg rfl ?_
  refine GL.one rfl .no (S1.mv (v := (.int _ _)) rfl) ?_
  refine GL.one rfl .no (S1.as (v := (.slice _ _ _)) rfl) ?_
  refine GL.one rfl .no (S1.as (v := (.int _ _)) rfl) ?_
  refine GL.done rfl ?_
  refine GQ.on ?_
  refine GW.toRet rfl ?_
  refine GQ.onR ?_
  refine GQ.ret (nilS, [], 0, _) (.tmp rfl rfl (.tmp rfl rfl .nil)) .more rfl ⟨.nil, Nat.zero_le _⟩ .nil
end
end Go.Proofs.Ytmlknglgijeepaa
namespace Go.Proofs.Ytmlknglgijeepaa
open Go Go.E
set_option maxRecDepth 100000
set_option maxHeartbeats 4000000

structure Sv where
  n : Int
  v : Value
  E : Ents
  m : Nat
  l : List Int
  vs : List Value

section
variable {h : EH} {hr : RO} {la ca ra ea : Option Addr} {ln lc cn cc rn rc en ec : Nat}

theorem EvOk.mono {hr' : RO} {k : Nat} (u : ∀ b o, hr b = some o → hr' b = some o) (h4 : Cell hr (.sl ly89) (.slice ea en ec)) (hk : k < en) (q : EvOk hr ln cn ea k) : EvOk hr' ln cn ea k := by
  unfold EvOk ie at *
  simp only [el_mono u h4 hk]
  exact q

theorem ct49P {h0 : EH} {F : List Nat} {L : Ents} {r : Nat} {vs : List Value} (H : Hp hr h0 F L h) (hb : At L r (opRow vs 3)) (ht : RowT ly80 vs) (hl : vs.length = cn * 3) (hcn : cn ≤ 1073741824) (h1 : Cell hr (.sl ly75) (.slice la ln lc)) (h3 : Cell hr (.sl ly47) (.slice ra rn rc)) (h4 : Cell hr (.sl ly89) (.slice ea en ec)) (hH : HiOk hr ln ca cn rn ea en) :
    Ct Try.prog 49 ⟨[.agg ⟨[.slice la ln lc, rowS r cn]⟩, .slice ra rn rc, .slice ea en ec]⟩ h [] V49 (R49 ln) (N49 la ln lc (some ⟨r, 0, none⟩) cn cn) := by
  have u := roP_up H (inB1 hb)
  have hc : Cell (roP hr [(r, opRow vs 3)]) (.sl ly80) (rowS r cn) := RowT.cellP ht (show roOf [(r, opRow vs 3)] r = some (.cells vs (some 3) true) from roOf_of (by simp) (by simp [opRow])) hl hcn (.inr rfl)
  refine ct49 (hr := roP hr [(r, opRow vs 3)]) (roP_rom H (inB1 hb)) (h1.mono u) hc (h3.mono u) (h4.mono u) ?_ hH.rl (fun k hk => (hH.ev k hk).mono u h4 hk)
  have := hH.rl; have := hH.sk.l1; omega


theorem ct22 {ins : Int} (hR : ∀ b o, hr b = some o → h[b]? = some o) (h1 : Cell hr (.sl ly75) (.slice la ln lc)) (h2 : Cell hr (.sl ly80) (.slice ca cn cc)) (h3 : Cell hr (.sl ly47) (.slice ra rn rc)) (h4 : Cell hr (.sl ly89) (.slice ea en ec)) :
    Ct Try.prog 22 ⟨[.agg ⟨[.slice la ln lc, .slice ca cn cc]⟩, .slice ra rn rc, .slice ea en ec, .int .i64 ins]⟩ h [] (fun x : Int × Int × Int => .tuple ⟨[.agg ⟨[.int .i64 x.1, .int .i64 x.2.1]⟩, .int .i64 x.2.2]⟩) (fun _ => True) (fun _ => []) := by
  have hl1 := h1.le
  have hl2 := h2.le
  have hl4 := h4.le
  refine Ct.go Try.func22 rfl rfl co22 (Hp.start hR) ?_
  refine GW.toSeq rfl ?_
  refine GW.toReg rfl ?_
  refine GL.opN rfl .no (SN.bx (u := .agg ⟨_⟩) rfl .agg) (fun a1 => ?_)
  refine GL.opN rfl .no (SN.al zc47) (fun a2 => ?_)
  refine GL.one rfl .no (S1.as (v := (.int _ _)) rfl) ?_
  refine GL.done rfl ?_
  refine GQ.on ?_
  refine GW.toSeq rfl ?_
  refine GW.toSeq rfl ?_
  refine GW.toReg rfl ?_
  refine GL.one rfl .no (S1.ldW ag25 rfl (.at (.s .z)) rfl) ?_
  refine GL.one rfl .no (S1.mv (v := (.slice _ _ _)) rfl) ?_
  refine GL.one rfl .no (S1.mv (v := (.slice _ _ _)) rfl) ?_
  refine GL.call rfl .no fo48 .nil (fun h H => ct48 H.rom h1 h2 h3 h4) (.d (.c (v := (.agg _)) rfl (.c (v := (.slice _ _ _)) rfl (.c (v := (.slice _ _ _)) rfl .n)))) (fun e48 q48 => ?_)
  refine GL.one rfl .no (S1.as (v := (.int _ _)) rfl) ?_
  refine GL.done rfl ?_
  refine GQ.on ?_
  refine GW.toSeq rfl ?_
  refine GW.toReg rfl ?_
  refine GL.one rfl .no (S1.mv (v := (.int _ _)) rfl) ?_
  refine GL.one rfl .no (S1.neq rfl rfl) ?_
  refine GL.done rfl ?_
  refine GQ.on ?_
  refine GW.toD rfl rfl (fun w4 => ?_) (fun w4 => ?_)
  refine GW.toSeq rfl ?_
  refine GW.toReg rfl ?_
  refine GL.one rfl .no (S1.bu zc47 bo47 .n) ?_
  refine GL.one rfl .no (S1.mv (v := (.int _ _)) rfl) ?_
  refine GL.one rfl .no (S1.stA ag47 rfl rfl rfl rfl (by repeat constructor) .z) ?_
  refine GL.one rfl .no (S1.as (v := (.int _ _)) rfl) ?_
  refine GL.done rfl ?_
  refine GQ.on ?_
  refine GW.toRet rfl ?_
  refine GQ.onR ?_
  refine GQ.ret (_, _, _) (.cell rfl rfl .z (loadV_W ag47 rfl) (.tmp (v := (.int _ _)) rfl rfl .nil)) .more rfl ?_ .nil
  exact trivial
  refine GW.toSkip rfl ?_
  refine GQ.on ?_
  refine GW.toSeq rfl ?_
  refine GW.toSeq rfl ?_
  refine GW.toReg rfl ?_
  refine GL.one rfl .no (S1.fa fa25_1 rfl) ?_
  refine GL.one rfl .no (S1.ld sc23 rfl (.at (.s .z)) rfl) ?_
  refine GL.one rfl .no (S1.len el23 rfl) ?_
  refine GL.one rfl .no (S1.subI rfl rfl (by omega) (by omega)) ?_
  refine GL.one rfl .no (S1.mv (v := (.int _ _)) rfl) ?_
  refine GL.opN rfl .no (SN.bs el31 ez31 (.c (v := (.int _ _)) rfl rfl .n) rfl rfl) (fun a5 => ?_)
  refine GL.call rfl .no fo38 .nil (fun h H => ct38_1 (H.get .z)) (.d (.c (v := (.int _ _)) rfl (.c (v := (.int _ _)) rfl (.c (v := (.slice _ _ _)) rfl .n)))) (fun _ _ => ?_)
  refine GL.done rfl ?_
  refine GQ.on ?_
  refine GW.toC rfl rfl (fun w8 => ?_) (fun w8 => ?_)
  refine GW.toSeq rfl ?_
  refine GW.toReg rfl ?_
  refine GL.one rfl .no (S1.bu zc47 bo47 .n) ?_
  refine GL.one rfl .no (S1.stA ag47 rfl rfl rfl rfl (by repeat constructor) (.s .z)) ?_
  refine GL.one rfl .no (S1.as (v := (.int _ _)) rfl) ?_
  refine GL.done rfl ?_
  refine GQ.on ?_
  refine GW.toRet rfl ?_
  refine GQ.onR ?_
  refine GQ.ret (_, _, _) (.cell rfl rfl (.s .z) (loadV_W ag47 rfl) (.tmp (v := (.int _ _)) rfl rfl .nil)) .more rfl ?_ .nil
  exact trivial
  refine GW.toSkip rfl ?_
  refine GQ.on ?_
  refine GW.toSeq rfl ?_
  refine GW.toReg rfl ?_
  refine GL.one rfl .no (S1.as (v := (.slice _ _ _)) rfl) ?_
  refine GL.done rfl ?_
  refine GQ.on ?_
  refine GW.toSeq rfl ?_
  refine GW.toReg rfl ?_
  refine GL.one rfl .no (S1.fa fa25_1 rfl) ?_
  refine GL.one rfl .no (S1.ld sc23 rfl (.at (.s (.s .z))) rfl) ?_
  refine GL.one rfl .no (S1.mv (v := (.int _ _)) rfl) ?_
  have hi := outB_f w8
  have hH := q48 (by omega)
  obtain ⟨i, rfl⟩ := Int.eq_ofNat_of_zero_le hi.1
  have hic : i < cn := by omega
  have hb := hH.sk.bi i hic
  simp only [ie] at hb
  refine GL.one rfl .no (S1.ixR el23 h2 rfl rfl (by omega)) ?_
  refine GL.one rfl .no (S1.fa fa80_1 rfl) ?_
  refine GL.one rfl .no (S1.ldEs ag47 (z := 3) h2 rfl (m := i) (by omega) rfl (d := 1) (by decide) rfl rfl) ?_
  refine GL.opN rfl .no (SN.al zc47) (fun a9 => ?_)
  refine GL.one rfl .no (S1.stA ag47 rfl rfl rfl rfl (by repeat constructor) .z) ?_
  refine GL.done rfl ?_
  refine GQ.on ?_
  refine GW.toSeq rfl ?_
  refine GW.toReg rfl ?_
  refine GL.one rfl .no (S1.fa fa25_1 rfl) ?_
  refine GL.one rfl .no (S1.ld sc23 rfl (.at (.s (.s (.s .z)))) rfl) ?_
  refine GL.call rfl .no fo54 .nil (fun h H => ct54 H.rom h2 (by omega)) (.d (.c (v := (.slice _ _ _)) rfl .n)) (fun x54 q54 => ?_)
  refine GL.one rfl .no (S1.fa fa25_1 rfl) ?_
  refine GL.one rfl .no (S1.st (u := (.slice _ _ _)) sc23 rfl rfl rfl (by repeat constructor) (.s (.s (.s (.s .z))))) ?_
  refine GL.done rfl ?_
  refine GQ.on ?_
  refine GW.toSeq rfl ?_
  refine GW.toSeq rfl ?_
  refine GW.toReg rfl ?_
  refine GL.one rfl .no (S1.fa fa47_0 rfl) ?_
  refine GL.one rfl .no (S1.ld sc3 rfl (.at (.s .z)) rfl) ?_
  refine GL.one rfl .no (S1.as (v := (.int _ _)) rfl) ?_
  refine GL.done rfl ?_
  refine GQ.on ?_
  refine GW.toBlock rfl ?_
  generalize hb1 : iv (el hr ca (i * 3 + 1)) = b1 at hb
  generalize hb2 : iv (el hr ca (i * 3 + 2)) = b2 at hb
  refine GW.toLoop (X := Sv) (fun x => [(1, .slice ra rn rc), (2, .slice ea en ec), (3, .int .i64 i), (4, .pointer (some ⟨a1, 0, none⟩)), (8, .pointer (some ⟨a2, 0, none⟩)), (11, x.v), (12, .pointer (some ⟨a9, 0, none⟩)), (13, .int .i64 x.n)])
    (fun x => (x54.1, opRow x.vs 3) :: (a9, .cells [.int .i64 b1, .int .i64 b2] none true) :: (a2, .cells [.int .i64 0, .int .i64 0] none true) :: (a1, .cells [.slice la ln lc, rowS x54.1 cn] none true) :: x.E)
    (fun x => b1 ≤ x.n ∧ x.n ≤ b2 + 1 ∧ NR 1 x.v x.E x.m x.l ∧ (x.m : Int) ≤ x.n - b1 ∧ x.vs.length = cn * 3 ∧ RowT ly80 x.vs) (fun x => (b2 + 1 - x.n).toNat) rfl ⟨b1, nilS, [], 0, [], x54.2⟩ ⟨Int.le_refl _, by dsimp only; omega, .nil, by dsimp only; omega, q54.1, q54.2⟩ (.c rfl (.c rfl (.c rfl (.c rfl (.c rfl (.c rfl (.c rfl (.c (by rw [← hb1]; rfl) .n)))))))) (by subst hb1 hb2; exact (.cons .z (.cons .z (.cons (.s .z) (.cons (.s .z) .nil))))) ?_
  rintro x f ⟨p1, p2, p3, p4, p5, p6⟩
  have hrn : 0 < rn := by have := hH.rl; have := hH.sk.l1; omega
  refine GW.toSeq rfl ?_
  refine GW.toSeq rfl ?_
  refine GW.toReg rfl ?_
  refine GL.one rfl .no (S1.mv (v := (.int _ _)) rfl) ?_
  refine GL.one rfl .no (S1.fa fa47_1 rfl) ?_
  refine GL.one rfl .no (S1.ld sc3 rfl (.at (.s .z)) rfl) ?_
  refine GL.one rfl .no (S1.leq rfl rfl) ?_
  refine GL.done rfl ?_
  refine GQ.on ?_
  refine GW.toD rfl rfl (fun w11 => ?_) (fun w11 => ?_)
  refine GW.toSkip rfl ?_
  refine GQ.on ?_
  refine GW.toSeq rfl ?_
  refine GW.toBlock rfl ?_
  refine GW.toSeq rfl ?_
  refine GW.toReg rfl ?_
  refine GL.one rfl .no (S1.fa fa25_1 rfl) ?_
  refine GL.one rfl .no (S1.ld sc23 rfl (.at (.s (.s (.s .z)))) rfl) ?_
  refine GL.one rfl .no (S1.mv (v := (.int _ _)) rfl) ?_
  refine GL.one rfl .no (S1.mv (v := (.int _ _)) rfl) ?_
  refine GL.one rfl .no (S1.mv (v := (.int _ _)) rfl) ?_
  refine GL.one rfl .no (S1.bu zc47 bo47 (.c (v := (.int _ _)) rfl (.one rfl) fz47_0 rfl (by repeat constructor) (.c (v := (.int _ _)) rfl (.one rfl) fz47_1 rfl (by repeat constructor) .n))) ?_
  refine GL.one rfl .no (S1.ixN el23 rfl rfl (by omega)) ?_
  refine GL.one rfl .no (S1.fa fa80_1 rfl) ?_
  rotate_left
  refine GW.toExit rfl ?_
  refine GQ.onE ?_
  refine GQ.onE ?_
  refine GQ.outH ?_
  refine GQ.on ?_
  refine GW.toSeq rfl ?_
  refine GW.toSeq rfl ?_
  refine GW.toReg rfl ?_
  refine GL.one rfl .no (S1.mv (v := (x.2)) rfl) ?_
  rotate_left
  · obtain ⟨vs', hvs, ht, hl⟩ : ∃ vs', (x.vs.set (i * 3 + 1) (.int .i64 x.n)).set (i * 3 + 2) (.int .i64 x.n) = vs' ∧ RowT ly80 vs' ∧ vs'.length = cn * 3 := by
      have hc : Cell (fun _ => none) (.int .i64) (.int .i64 x.n) := .int (fun _ => by simp [IntKind.min, IntKind.max, IntKind.signed, IntKind.bits]; omega)
      exact ⟨_, rfl, (p6.set (i := i) (d := 1) (l := .int .i64) rfl hc).set (i := i) (d := 2) (l := .int .i64) rfl hc, by simp only [List.length_set]; exact p5⟩
    refine GL.one rfl .no (S1.stA ag47 rfl rfl rfl rfl (by subst hvs; rw [Nat.zero_add]; exact spl2 (by rw [p5]; omega)) (vs' := vs') .z) ?_
    refine GL.done rfl ?_
    refine GQ.on ?_
    refine GW.toSeq rfl ?_
    refine GW.toReg rfl ?_
    refine GL.one rfl .no (S1.ldW ag25 rfl (.at (.s (.s (.s .z)))) rfl) ?_
    refine GL.one rfl .no (S1.mv (v := (.slice _ _ _)) rfl) ?_
    refine GL.one rfl .no (S1.mv (v := (.slice _ _ _)) rfl) ?_
    refine GL.call rfl .no fo49 .nil (fun h H => ct49P H .z ht hl (by omega) h1 h3 h4 hH) (.d (.c (v := (.agg _)) rfl (.c (v := (.slice _ _ _)) rfl (.c (v := (.slice _ _ _)) rfl .n)))) (fun x49 => match x49 with | .inl x49 => fun q49 => ?_ | .inr _ => fun _ => ?_)
    refine GL.one rfl .no (S1.mv (v := (.tuple _)) rfl) ?_
    refine GL.one rfl .no (S1.ext (v := (.pointer _)) rfl rfl) ?_
    refine GL.one rfl .no (S1.ext (v := (.int _ _)) rfl rfl) ?_
    refine GL.one rfl .no (S1.as (v := (.pointer _)) rfl) ?_
    refine GL.one rfl .no (S1.as (v := (.int _ _)) rfl) ?_
    refine GL.done rfl ?_
    refine GQ.on ?_
    refine GW.toSeq rfl ?_
    refine GW.toReg rfl ?_
    refine GL.one rfl .no (S1.mv (v := (.int _ _)) rfl) ?_
    refine GL.one rfl .no (S1.eql rfl rfl) ?_
    refine GL.done rfl ?_
    refine GQ.on ?_
    refine GW.toT rfl rfl ?_
    refine GW.toReg rfl ?_
    refine GL.one rfl .no (S1.mv (v := (x.2)) rfl) ?_
    refine GL.one rfl .no (S1.mv (v := (.int _ _)) rfl) ?_
    refine GL.opN rfl .no (SN.bs el31 ez31 (.c (v := (.int _ _)) rfl rfl .n) rfl rfl) (fun a13 => ?_)
    rotate_left
    refine GL.one rfl .no (S1.mv (v := (.tuple _)) rfl) ?_
    refine GL.one rfl .no (S1.ext (v := (.pointer _)) rfl rfl) ?_
    refine GL.one rfl .no (S1.ext (v := (.int _ _)) rfl rfl) ?_
    refine GL.one rfl .no (S1.as (v := (.pointer _)) rfl) ?_
    refine GL.one rfl .no (S1.as (v := (.int _ _)) rfl) ?_
    refine GL.done rfl ?_
    refine GQ.on ?_
    refine GW.toSeq rfl ?_
    refine GW.toReg rfl ?_
    refine GL.one rfl .no (S1.mv (v := (.int _ _)) rfl) ?_
    refine GL.one rfl .no (S1.eql rfl rfl) ?_
    refine GL.done rfl ?_
    refine GQ.on ?_
    refine GW.toF rfl rfl ?_
    refine GW.toSkip rfl ?_
    refine GQ.outN ?_
    refine GQ.on ?_
    refine GW.toReg rfl ?_
    refine GL.one rfl .no (S1.mv (v := (.int _ _)) rfl) ?_
    refine GL.one rfl .no (S1.addI rfl rfl (by omega) (by omega)) ?_
    refine GL.one rfl .no (S1.as (v := (.int _ _)) rfl) ?_
    refine GL.done rfl ?_
    refine GQ.next ⟨x.n + 1, x.v, x.E, x.m, x.l, vs'⟩ ⟨(by dsimp only; omega), (by dsimp only; omega), p3, (by dsimp only; omega), hl, ht⟩ (by dsimp only; omega) (.c rfl (.c rfl (.c rfl (.c rfl (.c rfl (.c rfl (.c rfl (.c rfl .n)))))))) (.cons .z .tz)
    refine GL.opN rfl .no (SN.apN (new := [x.n]) ap31_31 p3 rfl (.row rfl (.at .z) rfl) (by decide) (by omega) (show Take _ x.E _ from (.ts (.ts (.ts (.ts (.ts (.ts (.ts .tz))))))))) (fun a17 => ?_)
    refine GL.one rfl .no (S1.as (v := (.slice _ _ _)) rfl) ?_
    refine GL.done rfl ?_
    refine GQ.outN ?_
    refine GQ.on ?_
    refine GW.toReg rfl ?_
    refine GL.one rfl .no (S1.mv (v := (.int _ _)) rfl) ?_
    refine GL.one rfl .no (S1.addI rfl rfl (by omega) (by omega)) ?_
    refine GL.one rfl .no (S1.as (v := (.int _ _)) rfl) ?_
    refine GL.done rfl ?_
    refine GQ.next ⟨x.n + 1, rowS a17 (x.m + 1), [(a17, opRow (ints (x.l ++ [x.n])) 1)], x.m + 1, x.l ++ [x.n], vs'⟩ ⟨(by dsimp only; omega), (by dsimp only; omega), p3.app (by decide) rfl, (by dsimp only; omega), hl, ht⟩ (by dsimp only; omega) (.c rfl (.c rfl (.c rfl (.c rfl (.c rfl (.c rfl (.c rfl (.c rfl .n)))))))) (.cons (.s (.s (.s (.s .z)))) (.cons (.s (.s (.s (.s .z)))) (.cons (.s (.s (.s (.s .z)))) (.cons (.s (.s (.s (.s .z)))) (.cons .z .nil)))))
  rcases p3.two with ⟨e1, e2, e3⟩ | ⟨hm, r, e2, e3, hll⟩
  · rw [e2]
    refine GL.one rfl .no (S1.len el31 rfl) ?_
    refine GL.one rfl .no (S1.eql rfl rfl) ?_
    refine GL.done rfl ?_
    refine GQ.on ?_
    refine GW.toT rfl rfl ?_
    refine GW.toSeq rfl ?_
    refine GW.toReg rfl ?_
    refine GL.one rfl .no (S1.bu zc47 bo47 .n) ?_
    refine GL.one rfl .no (S1.stA ag47 rfl rfl rfl rfl (by repeat constructor) (.s (.s .z))) ?_
    refine GL.one rfl .no (S1.as (v := (.int _ _)) rfl) ?_
    refine GL.done rfl ?_
    refine GQ.on ?_
    refine GW.toRet rfl ?_
    refine GQ.onR ?_
    refine GQ.ret (_, _, _) (.cell rfl rfl (.s (.s .z)) (loadV_W ag47 rfl) (.tmp (v := (.int _ _)) rfl rfl .nil)) .more rfl ?_ .nil
    exact trivial
  · rw [e2, e3]
    refine GL.one rfl .no (S1.len el31 rfl) ?_
    refine GL.one rfl .no (S1.eql rfl rfl) ?_
    refine GL.done rfl ?_
    refine GQ.on ?_
    refine GW.toD rfl rfl (fun w17 => ?_) (fun w17 => ?_)
    refine GW.toSeq rfl ?_
    refine GW.toReg rfl ?_
    refine GL.one rfl .no (S1.bu zc47 bo47 .n) ?_
    refine GL.one rfl .no (S1.stA ag47 rfl rfl rfl rfl (by repeat constructor) (.s (.s .z))) ?_
    refine GL.one rfl .no (S1.as (v := (.int _ _)) rfl) ?_
    refine GL.done rfl ?_
    refine GQ.on ?_
    refine GW.toRet rfl ?_
    refine GQ.onR ?_
    refine GQ.ret (_, _, _) (.cell rfl rfl (.s (.s .z)) (loadV_W ag47 rfl) (.tmp (v := (.int _ _)) rfl rfl .nil)) .more rfl ?_ .nil
    exact trivial
    refine GW.toSkip rfl ?_
    refine GQ.on ?_
    refine GW.toSeq rfl ?_
    refine GW.toDrw mx rfl ?_
    refine GD.one rfl .no (S1.mv (v := (.slice _ _ _)) rfl) rfl ?_
    refine GD.one rfl .no (S1.ixN el31 rfl rfl (by omega)) rfl ?_
    refine GD.one rfl .no (S1.ldI sc3 rfl (.at (.s (.s (.s (.s .z))))) (by simp only [List.length_set]; omega)) rfl ?_
    refine GD.one rfl .no (S1.mv (v := (.slice _ _ _)) rfl) rfl ?_
    refine GD.one rfl .no (S1.mv (v := (.slice _ _ _)) rfl) rfl ?_
    refine GD.one rfl .no (S1.len el31 rfl) rfl ?_
    refine GD.one rfl .no (S1.dec1 rfl rfl (by omega) (by omega)) rfl ?_
    refine GD.one rfl .no (S1.ixN el31 rfl rfl (by omega)) rfl ?_
    refine GD.one rfl .no (S1.ldI sc3 rfl (.at (.s (.s (.s (.s .z))))) (by omega)) rfl ?_
    refine GD.one rfl .no (S1.bu zc47 bo47 (.c (v := (.int _ _)) rfl (.one rfl) fz47_0 rfl (by repeat constructor) (.c (v := (.int _ _)) rfl (.one rfl) fz47_1 rfl (by repeat constructor) .n))) rfl ?_
    refine GD.loud rfl .no (S1.stA ag47 rfl rfl rfl rfl (by repeat constructor) (.s (.s .z))) rfl rfl (by kernel_rfl) ?_
    refine GD.one rfl .no (S1.as (v := (.int _ _)) rfl) rfl ?_
    refine GD.done rfl ?_
    refine GQ.on ?_
    refine GW.toRet rfl ?_
    refine GQ.ret (_, _, _) (.cell rfl rfl (.s (.s .z)) (loadV_W ag47 rfl) (.tmp (v := (.int _ _)) rfl rfl .nil)) .more rfl ?_ .nil
    exact trivial
end
end Go.Proofs.Ytmlknglgijeepaa
namespace Go.Proofs.Ytmlknglgijeepaa
open Go Go.E
set_option maxRecDepth 100000
set_option maxHeartbeats 4000000

/-- A test that passes. -/
structure StOk (hr : RO) (ln : Nat) (ca : Option Addr) (cn : Nat) (ta : Option Addr) (tn : Nat) (al : Int) : Prop where
  sk : SkOk hr ln ca cn
  t1 : 1 ≤ tn
  t6 : tn ≤ 6
  a0 : 0 ≤ al
  a1 : al ≤ tn - 1
  ix : ∀ k, k < tn → 0 ≤ ie hr ta (k * 2) ∧ ie hr ta (k * 2) < ln

section
variable {h : EH} {hr : RO} {la ca ta ra va : Option Addr} {ln lc cn cc tn tc rn rc vn vc : Nat} {al : Int}


theorem ct55 (hR : ∀ b o, hr b = some o → h[b]? = some o) (h1 : Cell hr (.sl ly75) (.slice la ln lc)) (h2 : Cell hr (.sl ly80) (.slice ca cn cc)) (h5 : Cell hr (.sl ly134) (.slice ta tn tc)) :
    Ct Try.prog 55 ⟨[.agg ⟨[.slice la ln lc, .slice ca cn cc]⟩, .agg ⟨[.slice ta tn tc, .int .i64 al]⟩]⟩ h [] (fun e : Int => .int .i64 e) (fun e => e = 0 → StOk hr ln ca cn ta tn al) (fun _ => []) := by
  have hl1 := h1.le
  have hl2 := h2.le
  have hl5 := h5.le
  refine Ct.go Try.func55 rfl rfl co55 (Hp.start hR) ?_
  refine GW.toSeq rfl ?_
  refine GW.toReg rfl ?_
  refine GL.opN rfl .no (SN.bx (u := .agg ⟨_⟩) rfl .agg) (fun a1 => ?_)
  refine GL.opN rfl .no (SN.bx (u := .agg ⟨_⟩) rfl .agg) (fun a2 => ?_)
  refine GL.one rfl .no (S1.as (v := (.int _ _)) rfl) ?_
  refine GL.done rfl ?_
  refine GQ.on ?_
  refine GW.toSeq rfl ?_
  refine GW.toSeq rfl ?_
  refine GW.toReg rfl ?_
  refine GL.one rfl .no (S1.ldW ag25 rfl (.at (.s .z)) rfl) ?_
  refine GL.call rfl .no fo7 .nil (fun h H => ct7 H.rom h1 h2) (.d (.c (v := (.agg _)) rfl .n)) (fun e7 q7 => ?_)
  refine GL.one rfl .no (S1.mv (v := (.tuple _)) rfl) ?_
  refine GL.one rfl .no (S1.ext (v := (.int _ _)) rfl rfl) ?_
  refine GL.one rfl .no (S1.ext (v := (.int _ _)) rfl rfl) ?_
  refine GL.one rfl .no (S1.ext (v := (.int _ _)) rfl rfl) ?_
  refine GL.one rfl .no (S1.as (v := (.int _ _)) rfl) ?_
  refine GL.one rfl .no (S1.as (v := (.int _ _)) rfl) ?_
  refine GL.one rfl .no (S1.as (v := (.int _ _)) rfl) ?_
  refine GL.done rfl ?_
  refine GQ.on ?_
  refine GW.toSeq rfl ?_
  refine GW.toReg rfl ?_
  refine GL.one rfl .no (S1.mv (v := (.int _ _)) rfl) ?_
  refine GL.one rfl .no (S1.neq rfl rfl) ?_
  refine GL.done rfl ?_
  refine GQ.on ?_
  refine GW.toD rfl rfl (fun w4 => ?_) (fun w4 => ?_)
  refine GW.toSeq rfl ?_
  refine GW.toReg rfl ?_
  refine GL.one rfl .no (S1.mv (v := (.int _ _)) rfl) ?_
  refine GL.one rfl .no (S1.as (v := (.int _ _)) rfl) ?_
  refine GL.done rfl ?_
  refine GQ.on ?_
  refine GW.toRet rfl ?_
  refine GQ.onR ?_
  refine GQ.ret _ (.tmp (v := (.int _ _)) rfl rfl .nil) .one rfl ?_ .nil
  omega
  refine GW.toSkip rfl ?_
  refine GQ.on ?_
  refine GW.toSeq rfl ?_
  refine GW.toSeq rfl ?_
  refine GW.toReg rfl ?_
  refine GL.one rfl .no (S1.fa fa30_0 rfl) ?_
  refine GL.one rfl .no (S1.ld sc28 rfl (.at .z) rfl) ?_
  refine GL.one rfl .no (S1.len el28 rfl) ?_
  refine GL.one rfl .no (S1.as (v := (.int _ _)) rfl) ?_
  refine GL.done rfl ?_
  refine GQ.on ?_
  refine GW.toBlock rfl ?_
  refine GW.toSeq rfl ?_
  refine GW.toReg rfl ?_
  refine GL.one rfl .no (S1.mv (v := (.int _ _)) rfl) ?_
  refine GL.opN rfl .no (SN.bs el31 ez31 (.c (v := (.int _ _)) rfl rfl .n) rfl rfl) (fun a5 => ?_)
  refine GL.call rfl .no fo38 .nil (fun h H => ct38_1 (H.get .z)) (.d (.c (v := (.int _ _)) rfl (.c (v := (.int _ _)) rfl (.c (v := (.slice _ _ _)) rfl .n)))) (fun _ _ => ?_)
  refine GL.one rfl .no (S1.as (v := (.bool _)) rfl) ?_
  refine GL.done rfl ?_
  refine GQ.on ?_
  refine GW.toC rfl rfl (fun w8 => ?_) (fun w8 => ?_)
  refine GW.toSeq rfl ?_
  refine GW.toReg rfl ?_
  refine GL.one rfl .no (S1.as (v := (.int _ _)) rfl) ?_
  refine GL.done rfl ?_
  refine GQ.on ?_
  refine GW.toRet rfl ?_
  refine GQ.outR ?_
  refine GQ.onR ?_
  refine GQ.ret _ (.tmp (v := (.int _ _)) rfl rfl .nil) .one rfl ?_ .nil
  omega
  refine GW.toSeq rfl ?_
  refine GW.toReg rfl ?_
  refine GL.one rfl .no (S1.mv (v := (.int _ _)) rfl) ?_
  refine GL.one rfl .no (S1.subI rfl rfl (by omega) (by omega)) ?_
  refine GL.one rfl .no (S1.fa fa30_1 rfl) ?_
  refine GL.one rfl .no (S1.ld sc3 rfl (.at (.s .z)) rfl) ?_
  refine GL.opN rfl .no (SN.bs el31 ez31 (.c (v := (.int _ _)) rfl rfl .n) rfl rfl) (fun a9 => ?_)
  refine GL.call rfl .no fo38 .nil (fun h H => ct38_1 (H.get .z)) (.d (.c (v := (.int _ _)) rfl (.c (v := (.int _ _)) rfl (.c (v := (.slice _ _ _)) rfl .n)))) (fun _ _ => ?_)
  refine GL.one rfl .no (S1.as (v := (.bool _)) rfl) ?_
  refine GL.done rfl ?_
  refine GQ.on ?_
  refine GW.toC rfl rfl (fun w12 => ?_) (fun w12 => ?_)
  refine GW.toSeq rfl ?_
  refine GW.toReg rfl ?_
  refine GL.one rfl .no (S1.as (v := (.int _ _)) rfl) ?_
  refine GL.done rfl ?_
  refine GQ.on ?_
  refine GW.toRet rfl ?_
  refine GQ.outR ?_
  refine GQ.onR ?_
  refine GQ.ret _ (.tmp (v := (.int _ _)) rfl rfl .nil) .one rfl ?_ .nil
  omega
  refine GW.toSkip rfl ?_
  refine GQ.outN ?_
  refine GQ.on ?_
  refine GW.toSeq rfl ?_
  refine GW.toSeq rfl ?_
  refine GW.toReg rfl ?_
  refine GL.one rfl .no (S1.fa fa30_0 rfl) ?_
  refine GL.one rfl .no (S1.ld sc28 rfl (.at (.s (.s .z))) rfl) ?_
  refine GL.one rfl .no (S1.len el28 rfl) ?_
  refine GL.one rfl .no (S1.mv (v := (.int _ _)) rfl) ?_
  refine GL.done rfl ?_
  refine GQ.on ?_
  refine GW.toBlock rfl ?_
  refine GW.toLoop (fun x : Nat => [(2, .pointer (some ⟨a1, 0, none⟩)), (35, .slice ta tn tc), (36, .int .i64 tn), (37, .int .i64 x)]) (fun _ => [(a1, .cells [.slice la ln lc, .slice ca cn cc] none true)]) (fun x => x ≤ tn ∧ ∀ k, k < x → 0 ≤ ie hr ta (k * 2) ∧ ie hr ta (k * 2) < ln) (fun x => tn - x) rfl 0 ⟨Nat.zero_le _, fun k hk => absurd hk (by omega)⟩ (.c rfl (.c rfl (.c rfl (.c rfl .n)))) (.cons (.s (.s (.s .z))) .nil) ?_
  rintro x f ⟨hx, hp⟩
  refine GW.toSeq rfl ?_
  refine GW.toReg rfl ?_
  refine GL.one rfl .no (S1.lss rfl rfl) ?_
  refine GL.done rfl ?_
  refine GQ.on ?_
  refine GW.toSeq rfl ?_
  refine GW.toD rfl rfl (fun w13 => ?_) (fun w13 => ?_)
  refine GW.toSkip rfl ?_
  refine GQ.on ?_
  refine GW.toSeq rfl ?_
  refine GW.toBlock rfl ?_
  refine GW.toSeq rfl ?_
  refine GW.toReg rfl ?_
  refine GL.one rfl .no (S1.ixR el28 h5 rfl rfl (by omega)) ?_
  refine GL.one rfl .no (S1.ldE ag134 h5 rfl (m := x) (by omega) rfl le134) ?_
  refine GL.opN rfl .no (SN.al zc134) (fun a14 => ?_)
  refine GL.one rfl .no (S1.stA ag134 rfl rfl rfl rfl (by repeat constructor) .z) ?_
  refine GL.done rfl ?_
  refine GQ.on ?_
  refine GW.toBlock rfl ?_
  refine GW.toSeq rfl ?_
  refine GW.toReg rfl ?_
  refine GL.one rfl .no (S1.fa fa25_0 rfl) ?_
  refine GL.one rfl .no (S1.ld sc22 rfl (.at (.s .z)) rfl) ?_
  refine GL.one rfl .no (S1.len el22 rfl) ?_
  refine GL.one rfl .no (S1.subI rfl rfl (by omega) (by omega)) ?_
  refine GL.one rfl .no (S1.fa fa134_0 rfl) ?_
  refine GL.one rfl .no (S1.ld sc3 rfl (.at .z) rfl) ?_
  refine GL.opN rfl .no (SN.bs el31 ez31 (.c (v := (.int _ _)) rfl rfl .n) rfl rfl) (fun a15 => ?_)
  refine GL.call rfl .no fo38 .nil (fun h H => ct38_1 (H.get .z)) (.d (.c (v := (.int _ _)) rfl (.c (v := (.int _ _)) rfl (.c (v := (.slice _ _ _)) rfl .n)))) (fun _ _ => ?_)
  refine GL.one rfl .no (S1.as (v := (.bool _)) rfl) ?_
  refine GL.done rfl ?_
  refine GQ.on ?_
  refine GW.toC rfl rfl (fun w18 => ?_) (fun w18 => ?_)
  refine GW.toSeq rfl ?_
  refine GW.toReg rfl ?_
  refine GL.one rfl .no (S1.as (v := (.int _ _)) rfl) ?_
  refine GL.done rfl ?_
  refine GQ.on ?_
  refine GW.toRet rfl ?_
  refine GQ.outR ?_
  refine GQ.outR ?_
  refine GQ.onR ?_
  refine GQ.onR ?_
  refine GQ.outR ?_
  refine GQ.onR ?_
  refine GQ.ret _ (.tmp (v := (.int _ _)) rfl rfl .nil) .one rfl ?_ .nil
  omega
  refine GW.toSeq rfl ?_
  refine GW.toReg rfl ?_
  refine GL.one rfl .no (S1.fa fa134_1 rfl) ?_
  refine GL.one rfl .no (S1.ld sc3 rfl (.at (.s .z)) rfl) ?_
  refine GL.opN rfl .no (SN.bs el31 ez31 (.c (v := (.int _ _)) rfl rfl .n) rfl rfl) (fun a19 => ?_)
  refine GL.call rfl .no fo38 .nil (fun h H => ct38_1 (H.get .z)) (.d (.c (v := (.int _ _)) rfl (.c (v := (.int _ _)) rfl (.c (v := (.slice _ _ _)) rfl .n)))) (fun _ _ => ?_)
  refine GL.one rfl .no (S1.as (v := (.bool _)) rfl) ?_
  refine GL.done rfl ?_
  refine GQ.on ?_
  refine GW.toC rfl rfl (fun w22 => ?_) (fun w22 => ?_)
  refine GW.toSeq rfl ?_
  refine GW.toReg rfl ?_
  refine GL.one rfl .no (S1.as (v := (.int _ _)) rfl) ?_
  refine GL.done rfl ?_
  refine GQ.on ?_
  refine GW.toRet rfl ?_
  refine GQ.outR ?_
  refine GQ.outR ?_
  refine GQ.onR ?_
  refine GQ.onR ?_
  refine GQ.outR ?_
  refine GQ.onR ?_
  refine GQ.ret _ (.tmp (v := (.int _ _)) rfl rfl .nil) .one rfl ?_ .nil
  omega
  refine GW.toSkip rfl ?_
  refine GQ.outN ?_
  refine GQ.outN ?_
  refine GQ.on ?_
  refine GW.toReg rfl ?_
  refine GL.one rfl .no (S1.inc rfl rfl (by omega)) ?_
  refine GL.one rfl .no (S1.mv (v := (.int _ _)) rfl) ?_
  refine GL.done rfl ?_
  refine GQ.next (x + 1) ⟨by omega, allNext hp (by simp only [outB_e] at *; simp only [ie]; omega)⟩ (by omega) (.c rfl (.c rfl (.c rfl (.c rfl .n)))) (.cons (.s (.s (.s .z))) .nil)
  refine GW.toExit rfl ?_
  refine GQ.onE ?_
  refine GQ.onE ?_
  refine GQ.outH ?_
  refine GQ.on ?_
  refine GW.toSeq rfl ?_
  refine GW.toReg rfl ?_
  refine GL.one rfl .no (S1.as (v := (.int _ _)) rfl) ?_
  refine GL.done rfl ?_
  refine GQ.on ?_
  refine GW.toRet rfl ?_
  refine GQ.ret _ (.tmp (v := (.int _ _)) rfl rfl .nil) .one rfl ?_ .nil
  simp only [outB_e] at *
  exact fun _ => ⟨q7 (by omega), by omega, by omega, by omega, by omega, fun k hk => hp k (by omega)⟩

theorem ct57 {b : Nat} {i : Int} (h6 : Cell hr (.sl ly3) (.slice va vn vc)) (hR : ∀ b o, hr b = some o → h[b]? = some o) (hb : h[b]? = some (.cells [.slice va vn vc] none true)) (hi : 0 ≤ i ∧ i < vn) :
    Ct Try.prog 57 ⟨[.int .i64 i, .pointer (some ⟨b, 0, none⟩)]⟩ h [] (fun e : Int => .int .i64 e) (fun _ => True) (fun _ => []) := by
  refine Ct.go Try.func57 rfl rfl co57 (Hp.start hR) ?_
  refine GW.toSeq rfl ?_
  refine GW.toReg rfl ?_
  refine GL.one rfl .no (S1.as (v := (.int _ _)) rfl) ?_
  refine GL.done rfl ?_
  refine GQ.on ?_
  refine GW.toSeq rfl ?_
  refine GW.toReg rfl ?_
  refine GL.one rfl .no (S1.ld sc31 rfl (.old0 hb) rfl) ?_
  refine GL.one rfl .no (S1.mv (v := (.int _ _)) rfl) ?_
  refine GL.one rfl .no (S1.ixRI el31 h6 rfl rfl (by omega)) ?_
  refine GL.one rfl .no (S1.ldCI sc3 (z := 1) h6 rfl (m := i.toNat) (by omega) rfl (d := 0) rfl rfl) ?_
  refine GL.one rfl .no (S1.as (v := (.int _ _)) rfl) ?_
  refine GL.done rfl ?_
  refine GQ.on ?_
  refine GW.toRet rfl ?_
  refine GQ.ret _ (.tmp (v := (.int _ _)) rfl rfl .nil) .one rfl ?_ .nil
  exact trivial
theorem ct59 {b : Nat} {i : Int} (h3 : Cell hr (.sl ly47) (.slice ra rn rc)) (hR : ∀ b o, hr b = some o → h[b]? = some o) (hb : h[b]? = some (.cells [.slice ra rn rc] none true)) (hi : 0 ≤ i ∧ i < rn) :
    Ct Try.prog 59 ⟨[.int .i64 i, .pointer (some ⟨b, 0, none⟩)]⟩ h [] (fun e : Int => .int .i64 e) (fun _ => True) (fun _ => []) := by
  refine Ct.go Try.func59 rfl rfl co59 (Hp.start hR) ?_
  refine GW.toSeq rfl ?_
  refine GW.toReg rfl ?_
  refine GL.one rfl .no (S1.as (v := (.int _ _)) rfl) ?_
  refine GL.done rfl ?_
  refine GQ.on ?_
  refine GW.toSeq rfl ?_
  refine GW.toReg rfl ?_
  refine GL.one rfl .no (S1.ld sc26 rfl (.old0 hb) rfl) ?_
  refine GL.one rfl .no (S1.mv (v := (.int _ _)) rfl) ?_
  refine GL.one rfl .no (S1.ixRI el26 h3 rfl rfl (by omega)) ?_
  refine GL.one rfl .no (S1.fa fa47_0 rfl) ?_
  refine GL.one rfl .no (S1.ldCI sc3 (z := 2) h3 rfl (m := i.toNat) (by omega) rfl (d := 0) rfl rfl) ?_
  refine GL.one rfl .no (S1.as (v := (.int _ _)) rfl) ?_
  refine GL.done rfl ?_
  refine GQ.on ?_
  refine GW.toRet rfl ?_
  refine GQ.ret _ (.tmp (v := (.int _ _)) rfl rfl .nil) .one rfl ?_ .nil
  exact trivial
theorem ct60 {b : Nat} {i : Int} (h3 : Cell hr (.sl ly47) (.slice ra rn rc)) (hR : ∀ b o, hr b = some o → h[b]? = some o) (hb : h[b]? = some (.cells [.slice ra rn rc] none true)) (hi : 0 ≤ i ∧ i < rn) :
    Ct Try.prog 60 ⟨[.int .i64 i, .pointer (some ⟨b, 0, none⟩)]⟩ h [] (fun e : Int => .int .i64 e) (fun _ => True) (fun _ => []) := by
  refine Ct.go Try.func60 rfl rfl co60 (Hp.start hR) ?_
  refine GW.toSeq rfl ?_
  refine GW.toReg rfl ?_
  refine GL.one rfl .no (S1.as (v := (.int _ _)) rfl) ?_
  refine GL.done rfl ?_
  refine GQ.on ?_
  refine GW.toSeq rfl ?_
  refine GW.toReg rfl ?_
  refine GL.one rfl .no (S1.ld sc26 rfl (.old0 hb) rfl) ?_
  refine GL.one rfl .no (S1.mv (v := (.int _ _)) rfl) ?_
  refine GL.one rfl .no (S1.ixRI el26 h3 rfl rfl (by omega)) ?_
  refine GL.one rfl .no (S1.fa fa47_1 rfl) ?_
  refine GL.one rfl .no (S1.ldCI sc3 (z := 2) h3 rfl (m := i.toNat) (by omega) rfl (d := 1) rfl rfl) ?_
  refine GL.one rfl .no (S1.as (v := (.int _ _)) rfl) ?_
  refine GL.done rfl ?_
  refine GQ.on ?_
  refine GW.toRet rfl ?_
  refine GQ.ret _ (.tmp (v := (.int _ _)) rfl rfl .nil) .one rfl ?_ .nil
  exact trivial

/-- The closure that chance is given. -/
def AtC (h : EH) (hr : RO) (ta : Option Addr) (tn g : Nat) (fs cs : List Value) : Prop :=
  ∀ (h' : EH) (k : Nat), k < tn → Ext h h' → Ct Try.prog g ⟨fs ++ ([.int .i64 (iv (el hr ta (k * 2)))] ++ cs)⟩ h' [] (fun r : Int => .int .i64 r) (fun _ => True) (fun _ => [])

theorem ct56 {g : Nat} {fs cs : List Value} (hR : ∀ b o, hr b = some o → h[b]? = some o) (h5 : Cell hr (.sl ly134) (.slice ta tn tc)) (ht : tn ≤ 6) (ha : 0 ≤ al ∧ al ≤ tn - 1) (hf : fnOk Try.prog g = true) (hg : AtC h hr ta tn g fs cs) :
    Ct Try.prog 56 ⟨[.agg ⟨[.slice ta tn tc, .int .i64 al]⟩, .func (.func g) ⟨fs⟩ ⟨cs⟩]⟩ h [] (fun e : Int => .int .i64 e) (fun _ => True) (fun _ => []) := by
  have hl5 := h5.le
  refine Ct.go Try.func56 rfl rfl co56 (Hp.start hR) ?_
  refine GW.toSeq rfl ?_
  refine GW.toReg rfl ?_
  refine GL.opN rfl .no (SN.bx (u := .agg ⟨_⟩) rfl .agg) (fun a1 => ?_)
  refine GL.one rfl .no (S1.as (v := (.int _ _)) rfl) ?_
  refine GL.done rfl ?_
  refine GQ.on ?_
  refine GW.toSeq rfl ?_
  refine GW.toReg rfl ?_
  refine GL.one rfl .no (S1.fa fa30_0 rfl) ?_
  refine GL.one rfl .no (S1.ld sc28 rfl (.at .z) rfl) ?_
  refine GL.one rfl .no (S1.len el28 rfl) ?_
  refine GL.one rfl .no (S1.inc rfl rfl (by omega)) ?_
  refine GL.opN rfl .no (SN.ms ze31 el31 rfl rfl rfl (by omega)) (fun a2 => ?_)
  refine GL.one rfl .no (S1.as (v := (.slice _ _ _)) rfl) ?_
  refine GL.done rfl ?_
  refine GQ.on ?_
  refine GW.toSeq rfl ?_
  refine GW.toReg rfl ?_
  refine GL.one rfl .no (S1.mv (v := (.slice _ _ _)) rfl) ?_
  refine GL.one rfl .no (S1.ix el31 rfl rfl (by omega) (by omega)) ?_
  refine GL.one rfl .no (S1.st (u := (.int _ _)) sc3 rfl rfl rfl (by repeat constructor) .z) ?_
  refine GL.done rfl ?_
  refine GQ.on ?_
  refine GW.toSeq rfl ?_
  refine GW.toSeq rfl ?_
  refine GW.toReg rfl ?_
  refine GL.one rfl .no (S1.fa fa30_0 rfl) ?_
  refine GL.one rfl .no (S1.ld sc28 rfl (.at (.s .z)) rfl) ?_
  refine GL.one rfl .no (S1.len el28 rfl) ?_
  refine GL.one rfl .no (S1.mv (v := (.int _ _)) rfl) ?_
  refine GL.done rfl ?_
  refine GQ.on ?_
  refine GW.toBlock rfl ?_
  rw [show (Value.int .i64 1 :: List.replicate tn (Value.int .i64 0)) = ints (1 :: List.replicate tn 0) by simp [ints]]
  refine GW.toLoop (X := Nat × List Int) (fun x => [(1, .func (.func g) ⟨fs⟩ ⟨cs⟩), (2, .pointer (some ⟨a1, 0, none⟩)), (4, .int .i64 0), (5, .slice (some ⟨a2, 0, none⟩) (tn + 1) (tn + 1)), (20, .slice ta tn tc), (21, .int .i64 tn), (22, .int .i64 x.1)]) (fun x => [(a2, .cells (ints x.2) none true), (a1, .cells [.slice ta tn tc, .int .i64 al] none true)]) (fun x => x.1 ≤ tn ∧ x.2.length = tn + 1) (fun x => tn - x.1) rfl (0, 1 :: List.replicate tn 0) ⟨Nat.zero_le _, by simp⟩ (.c rfl (.c rfl (.c rfl (.c rfl (.c rfl (.c rfl (.c rfl .n))))))) .tz ?_
  rintro x f ⟨hx, hp⟩
  refine GW.toSeq rfl ?_
  refine GW.toReg rfl ?_
  refine GL.one rfl .no (S1.lss rfl rfl) ?_
  refine GL.done rfl ?_
  refine GQ.on ?_
  refine GW.toSeq rfl ?_
  refine GW.toD rfl rfl (fun w3 => ?_) (fun w3 => ?_)
  refine GW.toSkip rfl ?_
  refine GQ.on ?_
  refine GW.toSeq rfl ?_
  refine GW.toBlock rfl ?_
  refine GW.toSeq rfl ?_
  refine GW.toReg rfl ?_
  refine GL.one rfl .no (S1.ixR el28 h5 rfl rfl (by omega)) ?_
  refine GL.one rfl .no (S1.ldE ag134 h5 rfl (m := x.fst) (by omega) rfl le134) ?_
  refine GL.opN rfl .no (SN.al zc134) (fun a4 => ?_)
  refine GL.one rfl .no (S1.stA ag134 rfl rfl rfl rfl (by repeat constructor) .z) ?_
  refine GL.done rfl ?_
  refine GQ.on ?_
  refine GW.toSeq rfl ?_
  refine GW.toDrw mx rfl ?_
  refine GD.one rfl .no (S1.mv (v := (.func _ _ _)) rfl) rfl ?_
  refine GD.one rfl .no (S1.fa fa134_0 rfl) rfl ?_
  refine GD.one rfl .no (S1.ld sc3 rfl (.at .z) rfl) rfl ?_
  refine GD.call rfl .no hf .nil (fun h H => hg _ x.1 (by omega) H.ext) (.v rfl (.c (v := (.int _ _)) rfl .n)) ((fun v _ => ?_))
  refine GD.one rfl .no (S1.add rfl rfl) rfl ?_
  refine GD.one rfl .no (S1.fa fa134_1 rfl) rfl ?_
  refine GD.one rfl .no (S1.ld sc3 rfl (.at .z) rfl) rfl ?_
  refine GD.one rfl .no (S1.sub rfl rfl) rfl ?_
  refine GD.call rfl .no fo46 .nil (fun h H => ct46) (.d (.c (v := (.int _ _)) rfl .n)) (fun e46 q46 => ?_)
  refine GD.one rfl .no (S1.as (v := (.int _ _)) rfl) rfl ?_
  refine GD.done rfl ?_
  refine GQ.on ?_
  refine GW.toSeq rfl ?_
  refine GW.toSeq rfl ?_
  refine GW.toReg rfl ?_
  refine GL.one rfl .no (S1.mv (v := (.slice _ _ _)) rfl) ?_
  refine GL.one rfl .no (S1.len el31 rfl) ?_
  refine GL.one rfl .no (S1.dec1 rfl rfl (by omega) (by omega)) ?_
  refine GL.one rfl .no (S1.as (v := (.int _ _)) rfl) ?_
  refine GL.done rfl ?_
  refine GQ.on ?_
  refine GW.toBlock rfl ?_
  rotate_left
  refine GW.toExit rfl ?_
  refine GQ.onE ?_
  refine GQ.onE ?_
  refine GQ.outH ?_
  refine GQ.on ?_
  refine GW.toSeq rfl ?_
  refine GW.toSeq rfl ?_
  refine GW.toReg rfl ?_
  refine GL.one rfl .no (S1.mv (v := (.slice _ _ _)) rfl) ?_
  refine GL.one rfl .no (S1.fa fa30_1 rfl) ?_
  refine GL.one rfl .no (S1.ld sc3 rfl (.at (.s .z)) rfl) ?_
  refine GL.one rfl .no (S1.addI rfl rfl (by omega) (by omega)) ?_
  rotate_left
  · refine GW.toLoop (X := Int × List Int) (fun y => [(1, .func (.func g) ⟨fs⟩ ⟨cs⟩), (2, .pointer (some ⟨a1, 0, none⟩)), (4, .int .i64 0), (5, .slice (some ⟨a2, 0, none⟩) (tn + 1) (tn + 1)), (8, .int .i64 e46), (9, .int .i64 y.1), (20, .slice ta tn tc), (21, .int .i64 tn), (22, .int .i64 x.1)]) (fun y => [(a2, .cells (ints y.2) none true), (a1, .cells [.slice ta tn tc, .int .i64 al] none true)]) (fun y => 0 ≤ y.1 ∧ y.1 ≤ tn ∧ y.2.length = tn + 1) (fun y => y.1.toNat) rfl (tn, x.2) ⟨(by dsimp only; omega), (by dsimp only; omega), hp⟩ (.c rfl (.c rfl (.c rfl (.c rfl (.c rfl (.c (by rfl) (.c rfl (.c rfl (.c rfl .n))))))))) (.cons (.s .z) (.cons (.s .z) .nil)) ?_
    rintro y f ⟨hy0, hy1, hy⟩
    refine GW.toSeq rfl ?_
    refine GW.toSeq rfl ?_
    refine GW.toReg rfl ?_
    refine GL.one rfl .no (S1.mv (v := (.int _ _)) rfl) ?_
    refine GL.one rfl .no (S1.gtr rfl rfl) ?_
    refine GL.done rfl ?_
    refine GQ.on ?_
    refine GW.toD rfl rfl (fun w7 => ?_) (fun w7 => ?_)
    refine GW.toSkip rfl ?_
    refine GQ.on ?_
    refine GW.toSeq rfl ?_
    refine GW.toBlock rfl ?_
    refine GW.toDrw mx rfl ?_
    refine GD.one rfl .no (S1.mv (v := (.slice _ _ _)) rfl) rfl ?_
    refine GD.one rfl .no (S1.mv (v := (.int _ _)) rfl) rfl ?_
    refine GD.one rfl .no (S1.mv (v := (.slice _ _ _)) rfl) rfl ?_
    refine GD.one rfl .no (S1.mv (v := (.int _ _)) rfl) rfl ?_
    refine GD.one rfl .no (S1.ix el31 rfl rfl (by omega) (by omega)) rfl ?_
    refine GD.one rfl .no (S1.ldI sc3 rfl (.at .z) (by omega)) rfl ?_
    refine GD.one rfl .no (S1.mv (v := (.int _ _)) rfl) rfl ?_
    refine GD.one rfl .no (S1.mul rfl rfl) rfl ?_
    refine GD.one rfl .no (S1.mv (v := (.slice _ _ _)) rfl) rfl ?_
    refine GD.one rfl .no (S1.mv (v := (.int _ _)) rfl) rfl ?_
    refine GD.one rfl .no (S1.subI rfl rfl (by omega) (by omega)) rfl ?_
    refine GD.one rfl .no (S1.ix el31 rfl rfl (by omega) (by omega)) rfl ?_
    refine GD.one rfl .no (S1.ldI sc3 rfl (.at .z) (by omega)) rfl ?_
    refine GD.one rfl .no (S1.mv (v := (.int _ _)) rfl) rfl ?_
    refine GD.one rfl .no (S1.subI rfl rfl (by omega) (by omega)) rfl ?_
    refine GD.one rfl .no (S1.mul rfl rfl) rfl ?_
    refine GD.one rfl .no (S1.add rfl rfl) rfl ?_
    refine GD.one rfl .no (S1.ix el31 rfl rfl (by omega) (by omega)) rfl ?_
    refine GD.loud rfl .no (S1.stI sc3 rfl rfl (by omega) .z) rfl rfl (by kernel_rfl) ?_
    refine GD.done rfl ?_
    refine GQ.outN ?_
    refine GQ.on ?_
    refine GW.toReg rfl ?_
    refine GL.one rfl .no (S1.mv (v := (.int _ _)) rfl) ?_
    refine GL.one rfl .no (S1.subI rfl rfl (by omega) (by omega)) ?_
    refine GL.one rfl .no (S1.as (v := (.int _ _)) rfl) ?_
    refine GL.done rfl ?_
    refine GQ.nextT (y.1 - 1, _) (.c rfl (.c rfl (.c rfl (.c rfl (.c rfl (.c rfl (.c rfl (.c rfl (.c rfl .n))))))))) .tz ⟨(by dsimp only; omega), (by dsimp only; omega), by simp only [List.length_set]; exact hy⟩ (by dsimp only; omega)
    refine GW.toExit rfl ?_
    refine GQ.onE ?_
    refine GQ.onE ?_
    refine GQ.outH ?_
    refine GQ.on ?_
    refine GW.toReg rfl ?_
    refine GL.one rfl .no (S1.mv (v := (.slice _ _ _)) rfl) ?_
    refine GL.one rfl .no (S1.ix el31 rfl rfl (by omega) (by omega)) ?_
    refine GL.one rfl .no (S1.ldI sc3 rfl (.at .z) (by omega)) ?_
    refine GL.one rfl .no (S1.mv (v := (.int _ _)) rfl) ?_
    refine GL.one rfl .no (S1.mul rfl rfl) ?_
    refine GL.one rfl .no (S1.ix el31 rfl rfl (by omega) (by omega)) ?_
    refine GL.one rfl .no (S1.stI sc3 rfl rfl (by omega) .z) ?_
    refine GL.done rfl ?_
    refine GQ.outN ?_
    refine GQ.on ?_
    refine GW.toReg rfl ?_
    refine GL.one rfl .no (S1.inc rfl rfl (by omega)) ?_
    refine GL.one rfl .no (S1.mv (v := (.int _ _)) rfl) ?_
    refine GL.done rfl ?_
    refine GQ.nextT (x.1 + 1, _) (.c rfl (.c rfl (.c rfl (.c rfl (.c rfl (.c rfl (.c rfl .n))))))) .tz ⟨(by dsimp only; omega), by simp only [List.length_set]; exact hy⟩ (by dsimp only; omega)
  obtain ⟨an, rfl⟩ : ∃ an : Nat, al = an := ⟨al.toNat, by omega⟩
  refine GL.one rfl .no (S1.cutO (u := an + 1) el31 (.at .z) (.inl rfl) rfl .no (.at rfl) (by omega) (by omega) (by omega) (by omega)) ?_
  refine GL.one rfl .no (S1.len el31 rfl) ?_
  refine GL.one rfl .no (S1.mv (v := (.int _ _)) rfl) ?_
  refine GL.done rfl ?_
  refine GQ.on ?_
  refine GW.toBlock rfl ?_
  refine GW.toLoop (X := Nat × Int) (fun y => [(4, .int .i64 y.2), (71, .slice (some ⟨a2, 0 + 0 * 1, none⟩) (an + 1 - 0) (tn + 1 - 0)), (72, .int .i64 ((an + 1 - 0 : Nat) : Int)), (73, .int .i64 y.1)]) (fun y => [(a2, .cells (ints x.2) none true)]) (fun y => y.1 ≤ an + 1) (fun y => an + 1 - y.1) rfl (0, 0) (Nat.zero_le _) (.c rfl (.c rfl (.c rfl (.c rfl .n)))) (.cons .z .nil) ?_
  rintro y f hy
  refine GW.toSeq rfl ?_
  refine GW.toReg rfl ?_
  refine GL.one rfl .no (S1.lss rfl rfl) ?_
  refine GL.done rfl ?_
  refine GQ.on ?_
  refine GW.toSeq rfl ?_
  refine GW.toD rfl rfl (fun w8 => ?_) (fun w8 => ?_)
  refine GW.toSkip rfl ?_
  refine GQ.on ?_
  refine GW.toSeq rfl ?_
  refine GW.toBlock rfl ?_
  refine GW.toSeq rfl ?_
  refine GW.toReg rfl ?_
  refine GL.one rfl .no (S1.ixN el31 rfl rfl (by omega)) ?_
  refine GL.one rfl .no (S1.ldI sc3 rfl (.at .z) (by omega)) ?_
  refine GL.one rfl .no (S1.as (v := (.int _ _)) rfl) ?_
  refine GL.done rfl ?_
  refine GQ.on ?_
  refine GW.toReg rfl ?_
  refine GL.one rfl .no (S1.mv (v := (.int _ _)) rfl) ?_
  refine GL.one rfl .no (S1.mv (v := (.int _ _)) rfl) ?_
  refine GL.one rfl .no (S1.add rfl rfl) ?_
  refine GL.one rfl .no (S1.as (v := (.int _ _)) rfl) ?_
  refine GL.done rfl ?_
  refine GQ.outN ?_
  refine GQ.on ?_
  refine GW.toReg rfl ?_
  refine GL.one rfl .no (S1.inc rfl rfl (by omega)) ?_
  refine GL.one rfl .no (S1.mv (v := (.int _ _)) rfl) ?_
  refine GL.done rfl ?_
  refine GQ.nextT (y.1 + 1, _) (.c rfl (.c rfl (.c rfl (.c rfl .n)))) .tz (by dsimp only; omega) (by dsimp only; omega)
  refine GW.toExit rfl ?_
  refine GQ.onE ?_
  refine GQ.onE ?_
  refine GQ.outH ?_
  refine GQ.on ?_
  refine GW.toSeq rfl ?_
  refine GW.toReg rfl ?_
  refine GL.one rfl .no (S1.mv (v := (.int _ _)) rfl) ?_
  refine GL.one rfl .no (S1.as (v := (.int _ _)) rfl) ?_
  refine GL.done rfl ?_
  refine GQ.on ?_
  refine GW.toRet rfl ?_
  refine GQ.ret _ (.tmp (v := (.int _ _)) rfl rfl .nil) .one rfl ?_ .nil
  exact trivial
end
end Go.Proofs.Ytmlknglgijeepaa
namespace Go.Proofs.Ytmlknglgijeepaa
open Go Go.E
set_option maxRecDepth 100000
set_option maxHeartbeats 4000000

section
variable {h : EH} {hr : RO} {la ca ta ra va : Option Addr} {ln lc cn cc tn tc rn rc vn vc : Nat} {al wt : Int}

theorem ct38c {lo hi : Int} (hR : ∀ b o, hr b = some o → h[b]? = some o) (h6 : Cell hr (.sl ly3) (.slice va vn vc)) : Ct Try.prog 38 ⟨[.int .i64 lo, .int .i64 hi, .slice va vn vc]⟩ h [] (fun r : Bool => .bool r) (fun _ => True) (fun _ => []) := by
  have hl := h6.le
  by_cases hn : 0 < vn
  · obtain ⟨ha, ⟨opn, wr, hb, _⟩, _⟩ := h6.hit hn
    exact (ct38 (b := sb va) (o := so va) (vs := rv hr va) (opn := opn) (wr := wr) (x := fun k => ie hr va (k * 1 + 0)) (by omega) fun _ => ⟨ha, hR _ _ hb, fun k hk => h6.atE (d := 0) (l := .int .i64) hk rfl⟩).mono fun r _ => ⟨r, rfl, trivial, rfl⟩
  · exact (ct38 (b := 0) (o := 0) (vs := []) (opn := none) (wr := true) (x := fun _ => 0) (by omega) fun h => absurd h hn).mono fun r _ => ⟨r, rfl, trivial, rfl⟩


theorem ct24 (hR : ∀ b o, hr b = some o → h[b]? = some o) (h1 : Cell hr (.sl ly75) (.slice la ln lc)) (h2 : Cell hr (.sl ly80) (.slice ca cn cc)) (h5 : Cell hr (.sl ly134) (.slice ta tn tc)) (h6 : Cell hr (.sl ly3) (.slice va vn vc)) :
    Ct Try.prog 24 ⟨[.agg ⟨[.slice la ln lc, .slice ca cn cc]⟩, .agg ⟨[.slice ta tn tc, .int .i64 al]⟩, .slice va vn vc]⟩ h [] (fun x : Int × Int => .tuple ⟨[.int .i64 x.1, .int .i64 x.2]⟩) (fun _ => True) (fun _ => []) := by
  refine Ct.go Try.func24 rfl rfl co24 (Hp.start hR) ?_
  refine GW.toSeq rfl ?_
  refine GW.toReg rfl ?_
  refine GL.opN rfl .no (SN.bx (u := .agg ⟨_⟩) rfl .agg) (fun a1 => ?_)
  refine GL.opN rfl .no (SN.bx (u := .agg ⟨_⟩) rfl .agg) (fun a2 => ?_)
  refine GL.opN rfl .no (SN.bx (u := (.slice _ _ _)) rfl (.one rfl)) (fun a3 => ?_)
  refine GL.one rfl .no (S1.as (v := (.int _ _)) rfl) ?_
  refine GL.one rfl .no (S1.as (v := (.int _ _)) rfl) ?_
  refine GL.done rfl ?_
  refine GQ.on ?_
  refine GW.toSeq rfl ?_
  refine GW.toSeq rfl ?_
  refine GW.toReg rfl ?_
  refine GL.one rfl .no (S1.ldW ag25 rfl (.at (.s (.s .z))) rfl) ?_
  refine GL.one rfl .no (S1.ldW ag30 rfl (.at (.s .z)) rfl) ?_
  refine GL.call rfl .no fo55 .nil (fun h H => ct55 H.rom h1 h2 h5) (.d (.c (v := (.agg _)) rfl (.c (v := (.agg _)) rfl .n))) (fun e55 q55 => ?_)
  refine GL.one rfl .no (S1.as (v := (.int _ _)) rfl) ?_
  refine GL.done rfl ?_
  refine GQ.on ?_
  refine GW.toSeq rfl ?_
  refine GW.toReg rfl ?_
  refine GL.one rfl .no (S1.mv (v := (.int _ _)) rfl) ?_
  refine GL.one rfl .no (S1.neq rfl rfl) ?_
  refine GL.done rfl ?_
  refine GQ.on ?_
  refine GW.toD rfl rfl (fun w5 => ?_) (fun w5 => ?_)
  refine GW.toSeq rfl ?_
  refine GW.toReg rfl ?_
  refine GL.one rfl .no (S1.mv (v := (.int _ _)) rfl) ?_
  refine GL.one rfl .no (S1.as (v := (.int _ _)) rfl) ?_
  refine GL.one rfl .no (S1.as (v := (.int _ _)) rfl) ?_
  refine GL.done rfl ?_
  refine GQ.on ?_
  refine GW.toRet rfl ?_
  refine GQ.onR ?_
  refine GQ.ret (_, _) (.tmp (v := (.int _ _)) rfl rfl (.tmp (v := (.int _ _)) rfl rfl .nil)) .more rfl ?_ .nil
  exact trivial
  refine GW.toSkip rfl ?_
  refine GQ.on ?_
  refine GW.toSeq rfl ?_
  refine GW.toBlock rfl ?_
  refine GW.toSeq rfl ?_
  refine GW.toReg rfl ?_
  refine GL.one rfl .no (S1.ld sc31 rfl (.at .z) rfl) ?_
  refine GL.one rfl .no (S1.len el31 rfl) ?_
  refine GL.one rfl .no (S1.fa fa25_0 rfl) ?_
  refine GL.one rfl .no (S1.ld sc22 rfl (.at (.s (.s .z))) rfl) ?_
  refine GL.one rfl .no (S1.len el22 rfl) ?_
  refine GL.one rfl .no (S1.neq rfl rfl) ?_
  refine GL.one rfl .no (S1.as (v := (.bool _)) rfl) ?_
  refine GL.done rfl ?_
  refine GQ.on ?_
  refine GW.toD rfl rfl (fun w6 => ?_) (fun w6 => ?_)
  refine GW.toSeq rfl ?_
  refine GW.toReg rfl ?_
  refine GL.one rfl .no (S1.as (v := (.int _ _)) rfl) ?_
  refine GL.one rfl .no (S1.as (v := (.int _ _)) rfl) ?_
  refine GL.done rfl ?_
  refine GQ.on ?_
  refine GW.toRet rfl ?_
  refine GQ.outR ?_
  refine GQ.onR ?_
  refine GQ.ret (_, _) (.tmp (v := (.int _ _)) rfl rfl (.tmp (v := (.int _ _)) rfl rfl .nil)) .more rfl ?_ .nil
  exact trivial
  refine GW.toSeq rfl ?_
  refine GW.toReg rfl ?_
  refine GL.one rfl .no (S1.ld sc31 rfl (.at .z) rfl) ?_
  refine GL.call rfl .no fo38 .nil (fun h H => ct38c H.rom h6) (.d (.c (v := (.int _ _)) rfl (.c (v := (.int _ _)) rfl (.c (v := (.slice _ _ _)) rfl .n)))) (fun r7 _ => ?_)
  refine GL.one rfl .no (S1.as (v := (.bool _)) rfl) ?_
  refine GL.done rfl ?_
  refine GQ.on ?_
  refine GW.toC rfl rfl (fun w8 => ?_) (fun w8 => ?_)
  refine GW.toSeq rfl ?_
  refine GW.toReg rfl ?_
  refine GL.one rfl .no (S1.as (v := (.int _ _)) rfl) ?_
  refine GL.one rfl .no (S1.as (v := (.int _ _)) rfl) ?_
  refine GL.done rfl ?_
  refine GQ.on ?_
  refine GW.toRet rfl ?_
  refine GQ.outR ?_
  refine GQ.onR ?_
  refine GQ.ret (_, _) (.tmp (v := (.int _ _)) rfl rfl (.tmp (v := (.int _ _)) rfl rfl .nil)) .more rfl ?_ .nil
  exact trivial
  refine GW.toSkip rfl ?_
  refine GQ.outN ?_
  refine GQ.on ?_
  refine GW.toSeq rfl ?_
  refine GW.toReg rfl ?_
  refine GL.one rfl .no (S1.ldW ag30 rfl (.at (.s .z)) rfl) ?_
  refine GL.one rfl .no (S1.mf .n (.c (v := (.pointer _)) rfl .n)) ?_
  refine GL.call rfl .no fo56 .nil (fun h H => ct56 H.rom h5 (q55 (by omega)).t6 ⟨(q55 (by omega)).a0, (q55 (by omega)).a1⟩ fo57 (fun h' k hk e => ct57 h6 (fun b o hb => e _ _ (H.rom _ _ hb)) (e _ _ (H.get .z)) (by have := (q55 (by omega)).ix k hk; simp only [ie] at this; omega))) (.d (.c (v := (.agg _)) rfl (.c (v := (.func _ _ _)) rfl .n))) (fun e56 _ => ?_)
  refine GL.one rfl .no (S1.as (v := (.int _ _)) rfl) ?_
  refine GL.one rfl .no (S1.as (v := (.int _ _)) rfl) ?_
  refine GL.done rfl ?_
  refine GQ.on ?_
  refine GW.toRet rfl ?_
  refine GQ.ret (_, _) (.tmp (v := (.int _ _)) rfl rfl (.tmp (v := (.int _ _)) rfl rfl .nil)) .more rfl ?_ .nil
  exact trivial

theorem ct58 (hR : ∀ b o, hr b = some o → h[b]? = some o) (h1 : Cell hr (.sl ly75) (.slice la ln lc)) (h2 : Cell hr (.sl ly80) (.slice ca cn cc)) (h5 : Cell hr (.sl ly134) (.slice ta tn tc)) (h3 : Cell hr (.sl ly47) (.slice ra rn rc)) :
    Ct Try.prog 58 ⟨[.agg ⟨[.slice la ln lc, .slice ca cn cc]⟩, .agg ⟨[.slice ta tn tc, .int .i64 al]⟩, .slice ra rn rc, .int .i64 wt]⟩ h [] (fun x : Int × Int => .tuple ⟨[.int .i64 x.1, .int .i64 x.2]⟩) (fun x => x.2 = 0 → StOk hr ln ca cn ta tn al ∧ rn = ln) (fun _ => []) := by
  have hl5 := h5.le
  refine Ct.go Try.func58 rfl rfl co58 (Hp.start hR) ?_
  refine GW.toSeq rfl ?_
  refine GW.toReg rfl ?_
  refine GL.opN rfl .no (SN.bx (u := .agg ⟨_⟩) rfl .agg) (fun a1 => ?_)
  refine GL.opN rfl .no (SN.bx (u := .agg ⟨_⟩) rfl .agg) (fun a2 => ?_)
  refine GL.one rfl .no (S1.as (v := (.int _ _)) rfl) ?_
  refine GL.one rfl .no (S1.as (v := (.int _ _)) rfl) ?_
  refine GL.done rfl ?_
  refine GQ.on ?_
  refine GW.toSeq rfl ?_
  refine GW.toSeq rfl ?_
  refine GW.toReg rfl ?_
  refine GL.one rfl .no (S1.ldW ag25 rfl (.at (.s .z)) rfl) ?_
  refine GL.one rfl .no (S1.ldW ag30 rfl (.at .z) rfl) ?_
  refine GL.call rfl .no fo55 .nil (fun h H => ct55 H.rom h1 h2 h5) (.d (.c (v := (.agg _)) rfl (.c (v := (.agg _)) rfl .n))) (fun e55 q55 => ?_)
  refine GL.one rfl .no (S1.as (v := (.int _ _)) rfl) ?_
  refine GL.done rfl ?_
  refine GQ.on ?_
  refine GW.toSeq rfl ?_
  refine GW.toReg rfl ?_
  refine GL.one rfl .no (S1.mv (v := (.int _ _)) rfl) ?_
  refine GL.one rfl .no (S1.neq rfl rfl) ?_
  refine GL.done rfl ?_
  refine GQ.on ?_
  refine GW.toD rfl rfl (fun w4 => ?_) (fun w4 => ?_)
  refine GW.toSeq rfl ?_
  refine GW.toReg rfl ?_
  refine GL.one rfl .no (S1.mv (v := (.int _ _)) rfl) ?_
  refine GL.one rfl .no (S1.as (v := (.int _ _)) rfl) ?_
  refine GL.one rfl .no (S1.as (v := (.int _ _)) rfl) ?_
  refine GL.done rfl ?_
  refine GQ.on ?_
  refine GW.toRet rfl ?_
  refine GQ.onR ?_
  refine GQ.ret (_, _) (.tmp rfl rfl (.tmp rfl rfl .nil)) .more rfl (fun h => absurd h (by dsimp only; omega)) .nil
  refine GW.toSkip rfl ?_
  refine GQ.on ?_
  refine GW.toSeq rfl ?_
  refine GW.toSeq rfl ?_
  refine GW.toReg rfl ?_
  refine GL.one rfl .no (S1.ldW ag25 rfl (.at (.s .z)) rfl) ?_
  refine GL.one rfl .no (S1.mv (v := (.slice _ _ _)) rfl) ?_
  refine GL.call rfl .no fo84 .nil (fun h H => ct84 H.rom h1 h2 h3) (.d (.c (v := (.agg _)) rfl (.c (v := (.slice _ _ _)) rfl .n))) (fun e84 q84 => ?_)
  refine GL.one rfl .no (S1.as (v := (.int _ _)) rfl) ?_
  refine GL.done rfl ?_
  refine GQ.on ?_
  refine GW.toSeq rfl ?_
  refine GW.toReg rfl ?_
  refine GL.one rfl .no (S1.mv (v := (.int _ _)) rfl) ?_
  refine GL.one rfl .no (S1.neq rfl rfl) ?_
  refine GL.done rfl ?_
  refine GQ.on ?_
  refine GW.toD rfl rfl (fun w6 => ?_) (fun w6 => ?_)
  refine GW.toSeq rfl ?_
  refine GW.toReg rfl ?_
  refine GL.one rfl .no (S1.mv (v := (.int _ _)) rfl) ?_
  refine GL.one rfl .no (S1.as (v := (.int _ _)) rfl) ?_
  refine GL.one rfl .no (S1.as (v := (.int _ _)) rfl) ?_
  refine GL.done rfl ?_
  refine GQ.on ?_
  refine GW.toRet rfl ?_
  refine GQ.onR ?_
  refine GQ.ret (_, _) (.tmp rfl rfl (.tmp rfl rfl .nil)) .more rfl (fun h => absurd h (by dsimp only; omega)) .nil
  refine GW.toSkip rfl ?_
  refine GQ.on ?_
  refine GW.toSeq rfl ?_
  refine GW.toSeq rfl ?_
  refine GW.toReg rfl ?_
  refine GL.one rfl .no (S1.mv (v := (.int _ _)) rfl) ?_
  refine GL.opN rfl .no (SN.bs el31 ez31 (.c (v := (.int _ _)) rfl rfl .n) rfl rfl) (fun a7 => ?_)
  refine GL.call rfl .no fo38 .nil (fun h H => ct38_1 (H.get .z)) (.d (.c (v := (.int _ _)) rfl (.c (v := (.int _ _)) rfl (.c (v := (.slice _ _ _)) rfl .n)))) (fun _ _ => ?_)
  refine GL.done rfl ?_
  refine GQ.on ?_
  refine GW.toC rfl rfl (fun w10 => ?_) (fun w10 => ?_)
  refine GW.toSeq rfl ?_
  refine GW.toReg rfl ?_
  refine GL.one rfl .no (S1.as (v := (.int _ _)) rfl) ?_
  refine GL.one rfl .no (S1.as (v := (.int _ _)) rfl) ?_
  refine GL.done rfl ?_
  refine GQ.on ?_
  refine GW.toRet rfl ?_
  refine GQ.onR ?_
  refine GQ.ret (_, _) (.tmp rfl rfl (.tmp rfl rfl .nil)) .more rfl (fun h => absurd h (by dsimp only; omega)) .nil
  refine GW.toSkip rfl ?_
  refine GQ.on ?_
  refine GW.toSeq rfl ?_
  refine GW.toSeq rfl ?_
  refine GW.toReg rfl ?_
  refine GL.one rfl .no (S1.fa fa30_0 rfl) ?_
  refine GL.one rfl .no (S1.ld sc28 rfl (.at (.s .z)) rfl) ?_
  have hS := q55 (by omega)
  have ht1 := hS.t1
  refine GL.opX rfl .no (SX.cut el28 h5 rfl rfl (.at (l := 1) rfl) .no (by omega) (by omega)) (fun ac rc' => ?_)
  refine GL.one rfl .no (S1.len el28 rfl) ?_
  refine GL.one rfl .no (S1.mv (v := (.int _ _)) rfl) ?_
  refine GL.done rfl ?_
  refine GQ.on ?_
  refine GW.toBlock rfl ?_
  refine GW.toLoop (X := Nat × Int) (fun x => [(3, .int .i64 x.2), (27, .slice ac (tn - 1) (tc - 1)), (28, .int .i64 ((tn - 1 : Nat) : Int)), (29, .int .i64 x.1)]) (fun _ => []) (fun x => x.1 ≤ tn - 1) (fun x => tn - 1 - x.1) rfl (0, wt) (Nat.zero_le _) (.c rfl (.c rfl (.c rfl (.c rfl .n)))) .nil ?_
  rintro x f hx
  refine GW.toSeq rfl ?_
  refine GW.toReg rfl ?_
  refine GL.one rfl .no (S1.lss rfl rfl) ?_
  refine GL.done rfl ?_
  refine GQ.on ?_
  refine GW.toSeq rfl ?_
  refine GW.toD rfl rfl (fun w12 => ?_) (fun w12 => ?_)
  refine GW.toSkip rfl ?_
  refine GQ.on ?_
  refine GW.toSeq rfl ?_
  refine GW.toBlock rfl ?_
  refine GW.toReg rfl ?_
  refine GL.one rfl .no (S1.mv (v := (.int _ _)) rfl) ?_
  refine GL.one rfl .no (S1.mul rfl rfl) ?_
  refine GL.one rfl .no (S1.as (v := (.int _ _)) rfl) ?_
  refine GL.done rfl ?_
  refine GQ.outN ?_
  refine GQ.on ?_
  refine GW.toReg rfl ?_
  refine GL.one rfl .no (S1.inc rfl rfl (by omega)) ?_
  refine GL.one rfl .no (S1.mv (v := (.int _ _)) rfl) ?_
  refine GL.done rfl ?_
  refine GQ.nextT (x.1 + 1, _) (.c rfl (.c rfl (.c rfl (.c rfl .n)))) .nil (by dsimp only; omega) (by dsimp only; omega)
  refine GW.toExit rfl ?_
  refine GQ.onE ?_
  refine GQ.onE ?_
  refine GQ.outH ?_
  refine GQ.on ?_
  refine GW.toSeq rfl ?_
  refine GW.toReg rfl ?_
  refine GL.one rfl .no (S1.mv (v := (.int _ _)) rfl) ?_
  refine GL.one rfl .no (S1.as (v := (.int _ _)) rfl) ?_
  refine GL.one rfl .no (S1.as (v := (.int _ _)) rfl) ?_
  refine GL.done rfl ?_
  refine GQ.on ?_
  refine GW.toRet rfl ?_
  refine GQ.ret (_, _) (.tmp rfl rfl (.tmp rfl rfl .nil)) .more rfl (fun _ => ⟨hS, by omega⟩) .nil

theorem ct26 (hR : ∀ b o, hr b = some o → h[b]? = some o) (h1 : Cell hr (.sl ly75) (.slice la ln lc)) (h2 : Cell hr (.sl ly80) (.slice ca cn cc)) (h5 : Cell hr (.sl ly134) (.slice ta tn tc)) (h3 : Cell hr (.sl ly47) (.slice ra rn rc)) :
    Ct Try.prog 26 ⟨[.agg ⟨[.slice la ln lc, .slice ca cn cc]⟩, .agg ⟨[.slice ta tn tc, .int .i64 al]⟩, .slice ra rn rc, .int .i64 wt]⟩ h [] (fun x : Bool × Int × Int × Int => .tuple ⟨[.bool x.1, .int .i64 x.2.1, .int .i64 x.2.2.1, .int .i64 x.2.2.2]⟩) (fun _ => True) (fun _ => []) := by
  refine Ct.go Try.func26 rfl rfl co26 (Hp.start hR) ?_
  refine GW.toSeq rfl ?_
  refine GW.toReg rfl ?_
  refine GL.opN rfl .no (SN.bx (u := .agg ⟨_⟩) rfl .agg) (fun a1 => ?_)
  refine GL.opN rfl .no (SN.bx (u := .agg ⟨_⟩) rfl .agg) (fun a2 => ?_)
  refine GL.opN rfl .no (SN.bx (u := (.slice _ _ _)) rfl (.one rfl)) (fun a3 => ?_)
  refine GL.one rfl .no (S1.as (v := (.bool _)) rfl) ?_
  refine GL.one rfl .no (S1.as (v := (.int _ _)) rfl) ?_
  refine GL.one rfl .no (S1.as (v := (.int _ _)) rfl) ?_
  refine GL.one rfl .no (S1.as (v := (.int _ _)) rfl) ?_
  refine GL.done rfl ?_
  refine GQ.on ?_
  refine GW.toSeq rfl ?_
  refine GW.toReg rfl ?_
  refine GL.one rfl .no (S1.ldW ag25 rfl (.at (.s (.s .z))) rfl) ?_
  refine GL.one rfl .no (S1.ldW ag30 rfl (.at (.s .z)) rfl) ?_
  refine GL.one rfl .no (S1.ld sc26 rfl (.at .z) rfl) ?_
  refine GL.one rfl .no (S1.mv (v := (.int _ _)) rfl) ?_
  refine GL.call rfl .no fo58 .nil (fun h H => ct58 H.rom h1 h2 h5 h3) (.d (.c (v := (.agg _)) rfl (.c (v := (.agg _)) rfl (.c (v := (.slice _ _ _)) rfl (.c (v := (.int _ _)) rfl .n))))) (fun ⟨w58, e58⟩ q58 => ?_)
  refine GL.one rfl .no (S1.mv (v := (.tuple _)) rfl) ?_
  refine GL.one rfl .no (S1.ext (v := (.int _ _)) rfl rfl) ?_
  refine GL.one rfl .no (S1.ext (v := (.int _ _)) rfl rfl) ?_
  refine GL.one rfl .no (S1.as (v := (.int _ _)) rfl) ?_
  refine GL.one rfl .no (S1.as (v := (.int _ _)) rfl) ?_
  refine GL.done rfl ?_
  refine GQ.on ?_
  refine GW.toSeq rfl ?_
  refine GW.toSeq rfl ?_
  refine GW.toReg rfl ?_
  refine GL.one rfl .no (S1.mv (v := (.int _ _)) rfl) ?_
  refine GL.one rfl .no (S1.neq rfl rfl) ?_
  refine GL.done rfl ?_
  refine GQ.on ?_
  refine GW.toD rfl rfl (fun w5 => ?_) (fun w5 => ?_)
  refine GW.toSeq rfl ?_
  refine GW.toReg rfl ?_
  refine GL.one rfl .no (S1.mv (v := (.int _ _)) rfl) ?_
  refine GL.one rfl .no (S1.as (v := (.bool _)) rfl) ?_
  refine GL.one rfl .no (S1.as (v := (.int _ _)) rfl) ?_
  refine GL.one rfl .no (S1.as (v := (.int _ _)) rfl) ?_
  refine GL.one rfl .no (S1.as (v := (.int _ _)) rfl) ?_
  refine GL.done rfl ?_
  refine GQ.on ?_
  refine GW.toRet rfl ?_
  refine GQ.onR ?_
  refine GQ.ret (_, _, _, _) (.tmp (v := (.bool _)) rfl rfl (.tmp (v := (.int _ _)) rfl rfl (.tmp (v := (.int _ _)) rfl rfl (.tmp (v := (.int _ _)) rfl rfl .nil)))) .more rfl ?_ .nil
  exact trivial
  refine GW.toSkip rfl ?_
  refine GQ.on ?_
  refine GW.toSeq rfl ?_
  refine GW.toReg rfl ?_
  refine GL.one rfl .no (S1.ldW ag30 rfl (.at (.s .z)) rfl) ?_
  refine GL.one rfl .no (S1.mf .n (.c (v := (.pointer _)) rfl .n)) ?_
  refine GL.call rfl .no fo56 .nil (fun h H => ct56 H.rom h5 (q58 (by dsimp only; omega)).1.t6 ⟨(q58 (by dsimp only; omega)).1.a0, (q58 (by dsimp only; omega)).1.a1⟩ fo59 (fun h' k hk e => ct59 h3 (fun b o hb => e _ _ (H.rom _ _ hb)) (e _ _ (H.get .z)) (by have := (q58 (by dsimp only; omega)).1.ix k hk; have := (q58 (by dsimp only; omega)).2; simp only [ie] at *; omega))) (.d (.c (v := (.agg _)) rfl (.c (v := (.func _ _ _)) rfl .n))) (fun e56 _ => ?_)
  refine GL.one rfl .no (S1.as (v := (.int _ _)) rfl) ?_
  refine GL.done rfl ?_
  refine GQ.on ?_
  refine GW.toSeq rfl ?_
  refine GW.toReg rfl ?_
  refine GL.one rfl .no (S1.ldW ag30 rfl (.at (.s .z)) rfl) ?_
  refine GL.one rfl .no (S1.mf .n (.c (v := (.pointer _)) rfl .n)) ?_
  refine GL.call rfl .no fo56 .nil (fun h H => ct56 H.rom h5 (q58 (by dsimp only; omega)).1.t6 ⟨(q58 (by dsimp only; omega)).1.a0, (q58 (by dsimp only; omega)).1.a1⟩ fo60 (fun h' k hk e => ct60 h3 (fun b o hb => e _ _ (H.rom _ _ hb)) (e _ _ (H.get .z)) (by have := (q58 (by dsimp only; omega)).1.ix k hk; have := (q58 (by dsimp only; omega)).2; simp only [ie] at *; omega))) (.d (.c (v := (.agg _)) rfl (.c (v := (.func _ _ _)) rfl .n))) (fun e56 _ => ?_)
  refine GL.one rfl .no (S1.as (v := (.int _ _)) rfl) ?_
  refine GL.done rfl ?_
  refine GQ.on ?_
  refine GW.toSeq rfl ?_
  refine GW.toReg rfl ?_
  refine GL.one rfl .no (S1.mv (v := (.int _ _)) rfl) ?_
  refine GL.one rfl .no (S1.mv (v := (.int _ _)) rfl) ?_
  refine GL.one rfl .no (S1.geq rfl rfl) ?_
  refine GL.one rfl .no (S1.mv (v := (.int _ _)) rfl) ?_
  refine GL.one rfl .no (S1.mv (v := (.int _ _)) rfl) ?_
  refine GL.one rfl .no (S1.as (v := (.bool _)) rfl) ?_
  refine GL.one rfl .no (S1.as (v := (.int _ _)) rfl) ?_
  refine GL.one rfl .no (S1.as (v := (.int _ _)) rfl) ?_
  refine GL.one rfl .no (S1.as (v := (.int _ _)) rfl) ?_
  refine GL.done rfl ?_
  refine GQ.on ?_
  refine GW.toRet rfl ?_
  refine GQ.ret (_, _, _, _) (.tmp (v := (.bool _)) rfl rfl (.tmp (v := (.int _ _)) rfl rfl (.tmp (v := (.int _ _)) rfl rfl (.tmp (v := (.int _ _)) rfl rfl .nil)))) .more rfl ?_ .nil
  exact trivial
end
end Go.Proofs.Ytmlknglgijeepaa
namespace Go.Proofs.Ytmlknglgijeepaa
open Go Go.E
set_option maxRecDepth 100000
set_option maxHeartbeats 4000000

section
variable {h : EH} {hr : RO} {la ca ra : Option Addr} {ln lc cn cc rn rc : Nat}

theorem ct61 {s l : Int} : Ct Try.prog 61 ⟨[.int .i64 s, .int .i64 l]⟩ h [] (fun x : Nat × Nat => .func (.func 90) ⟨[]⟩ ⟨[.pointer (some ⟨x.1, 0, none⟩), .pointer (some ⟨x.2, 0, none⟩)]⟩) (fun _ => True) (fun x => [(x.1, .cells [.int .i64 s] none true), (x.2, .cells [.int .i64 l] none true)]) := by
  refine Ct.go Try.func61 rfl rfl co61 (Hp.start (hr := fun _ => none) (by simp)) ?_
  refine GW.toSeq rfl ?_
  refine GW.toReg rfl ?_
  refine GL.opN rfl .no (SN.bx (u := (.int _ _)) rfl (.one rfl)) (fun a1 => ?_)
  refine GL.opN rfl .no (SN.bx (u := (.int _ _)) rfl (.one rfl)) (fun a2 => ?_)
  refine GL.one rfl .no (S1.as (v := .nilFunc) rfl) ?_
  refine GL.done rfl ?_
  refine GQ.on ?_
  refine GW.toSeq rfl ?_
  refine GW.toReg rfl ?_
  refine GL.one rfl .no (S1.mf .n (.c (v := (.pointer _)) rfl (.c (v := (.pointer _)) rfl .n))) ?_
  refine GL.one rfl .no (S1.as (v := (.func _ _ _)) rfl) ?_
  refine GL.done rfl ?_
  refine GQ.on ?_
  refine GW.toRet rfl ?_
  refine GQ.ret (_, _) (.tmp (v := (.func _ _ _)) rfl rfl .nil) .one ?_ ?_ (.cons (.s .z) .tz)
  rfl
  exact trivial

theorem ct62 {b1 b2 b3 pr : Nat} {i : Int} {pl : List Int} (hR : ∀ b o, hr b = some o → h[b]? = some o) (h1 : Cell hr (.sl ly75) (.slice la ln lc)) (h3 : Cell hr (.sl ly47) (.slice ra rn rc))
    (hb1 : h[b1]? = some (.cells [.slice ra rn rc] none true)) (hb2 : h[b2]? = some (.cells [rowS pr ln] none true)) (hpr : h[pr]? = some (.cells (ints pl) none true)) (hb3 : h[b3]? = some (.cells [.slice la ln lc, .slice ca cn cc] none true)) (hpl : pl.length = ln) (hrl : rn = ln) (hi : 0 ≤ i ∧ i < ln) :
    Ct Try.prog 62 ⟨[.int .i64 i, .pointer (some ⟨b1, 0, none⟩), .pointer (some ⟨b2, 0, none⟩), .pointer (some ⟨b3, 0, none⟩)]⟩ h [] (fun e : Int => .int .i64 e) (fun _ => True) (fun _ => []) := by
  refine Ct.go Try.func62 rfl rfl co62 (Hp.start hR) ?_
  refine GW.toSeq rfl ?_
  refine GW.toReg rfl ?_
  refine GL.one rfl .no (S1.as (v := (.int _ _)) rfl) ?_
  refine GL.done rfl ?_
  refine GQ.on ?_
  refine GW.toSeq rfl ?_
  refine GW.toDrw mx rfl ?_
  refine GD.one rfl .no (S1.ld sc26 rfl (.old0 hb1) rfl) rfl ?_
  refine GD.one rfl .no (S1.mv (v := (.int _ _)) rfl) rfl ?_
  refine GD.one rfl .no (S1.ixRI el26 h3 rfl rfl (by omega)) rfl ?_
  refine GD.one rfl .no (S1.fa fa47_0 rfl) rfl ?_
  refine GD.one rfl .no (S1.ldCI sc3 (z := 2) h3 rfl (m := i.toNat) (by omega) rfl (d := 0) rfl rfl) rfl ?_
  refine GD.one rfl .no (S1.ld sc31 rfl (.old0 hb2) rfl) rfl ?_
  refine GD.one rfl .no (S1.mv (v := (.int _ _)) rfl) rfl ?_
  refine GD.one rfl .no (S1.ix el31 rfl rfl (by omega) (by omega)) rfl ?_
  refine GD.one rfl .no (S1.ldI sc3 rfl (.old0 hpr) (by omega)) rfl ?_
  refine GD.one rfl .no (S1.fa fa25_0 rfl) rfl ?_
  refine GD.one rfl .no (S1.ld sc22 rfl (.old0 hb3) rfl) rfl ?_
  refine GD.one rfl .no (S1.mv (v := (.int _ _)) rfl) rfl ?_
  refine GD.one rfl .no (S1.ixRI el22 h1 rfl rfl (by omega)) rfl ?_
  refine GD.one rfl .no (S1.fa fa75_1 rfl) rfl ?_
  refine GD.one rfl .no (S1.fa fa47_0 rfl) rfl ?_
  refine GD.one rfl .no (S1.ldCI sc3 (z := 5) h1 rfl (m := i.toNat) (by omega) rfl (d := 1) rfl rfl) rfl ?_
  refine GD.one rfl .no (S1.mul rfl rfl) rfl ?_
  refine GD.one rfl .no (S1.add rfl rfl) rfl ?_
  refine GD.call rfl .no fo46 .nil (fun h H => ct46) (.d (.c (v := (.int _ _)) rfl .n)) (fun e46 q46 => ?_)
  refine GD.one rfl .no (S1.as (v := (.int _ _)) rfl) rfl ?_
  refine GD.done rfl ?_
  refine GQ.on ?_
  refine GW.toRet rfl ?_
  refine GQ.ret _ (.tmp (v := (.int _ _)) rfl rfl .nil) .one rfl ?_ .nil
  exact trivial
end
end Go.Proofs.Ytmlknglgijeepaa
namespace Go.Proofs.Ytmlknglgijeepaa
open Go Go.E
set_option maxRecDepth 100000
set_option maxHeartbeats 4000000

section
variable {hr : RO} {ln q1 q2 q3 q4 pr l : Nat}

abbrev M91 (q1 q2 pr q3 q4 l ln : Nat) (pl : List Int) (Z : Ents) : Ents :=
  (q1, .cells [.int .i64 ln] none true) :: (q2, .cells [rowS pr ln] none true) :: (q3, .cells [.func (.yield l) #[] #[]] none true) :: (q4, .cells [.func (.func 91) ⟨[]⟩ ⟨[.pointer (some ⟨q1, 0, none⟩), .pointer (some ⟨q2, 0, none⟩), .pointer (some ⟨q3, 0, none⟩), .pointer (some ⟨q4, 0, none⟩)]⟩] none true) :: (pr, .cells (ints pl) none true) :: Z


theorem ct91 {Y : Type} (Z : Y → Ents) (RI : Y → Prop) (RD : Y → Prop) (hln : ln ≤ 5)
    (round : ∀ (pl : List Int) (y : Y) (h : EH), pl.length = ln → RI y → Hp hr h (((pr, .cells (ints pl) none true) :: Z y : Ents).map (·.1)) ((pr, .cells (ints pl) none true) :: Z y) h →
      Rt Try.prog l ⟨[rowS pr ln]⟩ h (((pr, .cells (ints pl) none true) :: Z y : Ents).map (·.1)) (fun z : Bool × Y => .bool z.1) (fun z => if z.1 = true then RI z.2 else RD z.2) (fun z => (pr, .cells (ints pl) none true) :: Z z.2)) :
    ∀ (d i : Nat) (left : Int) (pl : List Int) (y : Y) (h : EH), i + d + 1 = ln → 0 ≤ left → left ≤ 1000 → pl.length = ln → RI y → Hp hr h ((M91 q1 q2 pr q3 q4 l ln pl (Z y)).map (·.1)) (M91 q1 q2 pr q3 q4 l ln pl (Z y)) h →
    Ct Try.prog 91 ⟨[.int .i64 i, .int .i64 left, .pointer (some ⟨q1, 0, none⟩), .pointer (some ⟨q2, 0, none⟩), .pointer (some ⟨q3, 0, none⟩), .pointer (some ⟨q4, 0, none⟩)]⟩ h ((M91 q1 q2 pr q3 q4 l ln pl (Z y)).map (·.1)) (fun z : Bool × List Int × Y => .bool z.1) (fun z => z.2.1.length = ln ∧ if z.1 = true then RI z.2.2 else RD z.2.2) (fun z => M91 q1 q2 pr q3 q4 l ln z.2.1 (Z z.2.2)) := by
  intro d
  induction d with
  | zero =>
    intro i left pl y h hd hl0 hl1 hp hy H
    refine Ct.go Try.func91 rfl rfl co91 H ?_
    dsimp only [M91]
    refine GW.toSeq rfl ?_
    refine GW.toReg rfl ?_
    refine GL.one rfl .no (S1.as (v := (.bool _)) rfl) ?_
    refine GL.done rfl ?_
    refine GQ.on ?_
    refine GW.toSeq rfl ?_
    refine GW.toSeq rfl ?_
    refine GW.toReg rfl ?_
    refine GL.one rfl .no (S1.mv (v := (.int _ _)) rfl) ?_
    refine GL.one rfl .no (S1.ld sc3 rfl (.at .z) rfl) ?_
    refine GL.one rfl .no (S1.dec1 rfl rfl (by omega) (by omega)) ?_
    refine GL.one rfl .no (S1.eql rfl rfl) ?_
    refine GL.done rfl ?_
    refine GQ.on ?_
    refine GW.toD rfl rfl (fun w1 => ?_) (fun w1 => ?_)
    refine GW.toSeq rfl ?_
    refine GW.toReg rfl ?_
    refine GL.one rfl .no (S1.ld sc31 rfl (.at (.s .z)) rfl) ?_
    refine GL.one rfl .no (S1.mv (v := (.int _ _)) rfl) ?_
    refine GL.one rfl .no (S1.mv (v := (.int _ _)) rfl) ?_
    refine GL.one rfl .no (S1.ixN el31 rfl rfl (by omega)) ?_
    refine GL.one rfl .no (S1.stI sc3 rfl rfl (by omega) (.s (.s (.s (.s .z))))) ?_
    refine GL.done rfl ?_
    refine GQ.on ?_
    refine GW.toSeq rfl ?_
    refine GW.toReg rfl ?_
    refine GL.one rfl .no (S1.mv (v := (.int _ _)) rfl) ?_
    refine GL.one rfl .no (S1.gtr rfl rfl) ?_
    refine GL.one rfl .no (S1.mv (v := (.bool _)) rfl) ?_
    refine GL.splitD 20 rfl (fun w2 => ?_) (fun w2 => ?_)
    refine GL.skip rfl (.not rfl rfl rfl) ?_
    refine GL.skip rfl (.not rfl rfl rfl) ?_
    refine GL.skip rfl (.not rfl rfl rfl) ?_
    refine GL.one rfl .no (S1.pickT (v := (.bool _)) rfl rfl) ?_
    refine GL.one rfl .no (S1.as (v := (.bool _)) rfl) ?_
    refine GL.done rfl ?_
    refine GQ.on ?_
    refine GW.toRet rfl ?_
    refine GQ.onR ?_
    refine GQ.ret (true, pl.set (0 + i * 1) left, y) (.tmp rfl rfl .nil) .one rfl ⟨by rw [List.length_set]; exact hp, hy⟩ .tz
    refine GL.one rfl (.yes rfl rfl rfl) (S1.ld sc135 rfl (.at (.s (.s .z))) rfl) ?_
    refine GL.one rfl (.yes rfl rfl rfl) (S1.ld sc31 rfl (.at (.s .z)) rfl) ?_
    rotate_left
    refine GW.toSkip rfl ?_
    refine GQ.on ?_
    refine GW.toSeq rfl ?_
    refine GW.toSeq rfl ?_
    refine GW.toReg rfl ?_
    refine GL.one rfl .no (S1.mv (v := (.int _ _)) rfl) ?_
    refine GL.one rfl .no (S1.mn2 rfl rfl) ?_
    refine GL.one rfl .no (S1.addI rfl rfl (by omega) (by omega)) ?_
    refine GL.one rfl .no (S1.mv (v := (.int _ _)) rfl) ?_
    refine GL.done rfl ?_
    refine GQ.on ?_
    refine GW.toBlock rfl ?_
    (exfalso; omega)
    refine GL.yield (X := Bool × Y) (V := fun z => .bool z.1) (R := fun z => if z.1 = true then RI z.2 else RD z.2) (M := fun z => (pr, .cells (ints (pl.set (0 + i * 1) left)) none true) :: Z z.2) (ps := (pr, .cells (ints (pl.set (0 + i * 1) left)) none true) :: Z y) rfl (.yes rfl rfl rfl) (yieldee_of (fs := []) (vs := [rowS pr ln]) (cs := #[]) rfl (.c rfl .n)) (.cons (.s (.s (.s (.s .z)))) (.ts (.ts (.ts (.ts .tz)))))
      (fun h H => round _ y h (by rw [List.length_set]; exact hp) hy (H.give (ps := (pr, .cells (ints (pl.set (0 + i * 1) left)) none true) :: Z y) (.cons (.s (.s (.s (.s .z)))) (.ts (.ts (.ts (.ts .tz))))))) (fun z q => ?_)
    refine GL.one rfl .no (S1.pickF (v := (.bool _)) rfl rfl) ?_
    refine GL.one rfl .no (S1.as (v := (.bool _)) rfl) ?_
    refine GL.done rfl ?_
    refine GQ.on ?_
    refine GW.toRet rfl ?_
    refine GQ.onR ?_
    refine GQ.ret (z.1, pl.set (0 + i * 1) left, z.2) (.tmp rfl rfl .nil) .one rfl ⟨by rw [List.length_set]; exact hp, q⟩ (.cons .z (.cons .z (.cons .z (.cons .z (.cons .z .tz)))))
  | succ d ih =>
    intro i left pl y h hd hl0 hl1 hp hy H
    refine Ct.go Try.func91 rfl rfl co91 H ?_
    dsimp only [M91]
    refine GW.toSeq rfl ?_
    refine GW.toReg rfl ?_
    refine GL.one rfl .no (S1.as (v := (.bool _)) rfl) ?_
    refine GL.done rfl ?_
    refine GQ.on ?_
    refine GW.toSeq rfl ?_
    refine GW.toSeq rfl ?_
    refine GW.toReg rfl ?_
    refine GL.one rfl .no (S1.mv (v := (.int _ _)) rfl) ?_
    refine GL.one rfl .no (S1.ld sc3 rfl (.at .z) rfl) ?_
    refine GL.one rfl .no (S1.dec1 rfl rfl (by omega) (by omega)) ?_
    refine GL.one rfl .no (S1.eql rfl rfl) ?_
    refine GL.done rfl ?_
    refine GQ.on ?_
    refine GW.toD rfl rfl (fun w3 => ?_) (fun w3 => ?_)
    refine GW.toSeq rfl ?_
    refine GW.toReg rfl ?_
    refine GL.one rfl .no (S1.ld sc31 rfl (.at (.s .z)) rfl) ?_
    refine GL.one rfl .no (S1.mv (v := (.int _ _)) rfl) ?_
    refine GL.one rfl .no (S1.mv (v := (.int _ _)) rfl) ?_
    refine GL.one rfl .no (S1.ixN el31 rfl rfl (by omega)) ?_
    refine GL.one rfl .no (S1.stI sc3 rfl rfl (by omega) (.s (.s (.s (.s .z))))) ?_
    refine GL.done rfl ?_
    refine GQ.on ?_
    refine GW.toSeq rfl ?_
    refine GW.toReg rfl ?_
    refine GL.one rfl .no (S1.mv (v := (.int _ _)) rfl) ?_
    refine GL.one rfl .no (S1.gtr rfl rfl) ?_
    refine GL.one rfl .no (S1.mv (v := (.bool _)) rfl) ?_
    refine GL.splitD 20 rfl (fun w4 => ?_) (fun w4 => ?_)
    refine GL.skip rfl (.not rfl rfl rfl) ?_
    refine GL.skip rfl (.not rfl rfl rfl) ?_
    refine GL.skip rfl (.not rfl rfl rfl) ?_
    refine GL.one rfl .no (S1.pickT (v := (.bool _)) rfl rfl) ?_
    refine GL.one rfl .no (S1.as (v := (.bool _)) rfl) ?_
    refine GL.done rfl ?_
    refine GQ.on ?_
    refine GW.toRet rfl ?_
    refine GQ.onR ?_
    (exfalso; omega)
    refine GL.one rfl (.yes rfl rfl rfl) (S1.ld sc135 rfl (.at (.s (.s .z))) rfl) ?_
    refine GL.one rfl (.yes rfl rfl rfl) (S1.ld sc31 rfl (.at (.s .z)) rfl) ?_
    (exfalso; omega)
    refine GW.toSkip rfl ?_
    refine GQ.on ?_
    refine GW.toSeq rfl ?_
    refine GW.toSeq rfl ?_
    refine GW.toReg rfl ?_
    refine GL.one rfl .no (S1.mv (v := (.int _ _)) rfl) ?_
    refine GL.one rfl .no (S1.mn2 rfl rfl) ?_
    refine GL.one rfl .no (S1.addI rfl rfl (by omega) (by omega)) ?_
    refine GL.one rfl .no (S1.mv (v := (.int _ _)) rfl) ?_
    refine GL.done rfl ?_
    refine GQ.on ?_
    refine GW.toBlock rfl ?_
    refine GW.toLoop (X := Int × List Int × Y) (fun x => [(0, .int .i64 i), (1, .int .i64 left), (2, .pointer (some ⟨q1, 0, none⟩)), (3, .pointer (some ⟨q2, 0, none⟩)), (4, .pointer (some ⟨q3, 0, none⟩)), (5, .pointer (some ⟨q4, 0, none⟩)), (27, .int .i64 (min left 8 + 1)), (28, .int .i64 x.1)]) (fun x => M91 q1 q2 pr q3 q4 l ln x.2.1 (Z x.2.2)) (fun x => 0 ≤ x.1 ∧ x.1 ≤ min left 8 + 1 ∧ x.2.1.length = ln ∧ RI x.2.2) (fun x => (min left 8 + 1 - x.1).toNat) rfl (0, pl, y) ⟨(by dsimp only; omega), (by dsimp only; omega), hp, hy⟩ (.c rfl (.c rfl (.c rfl (.c rfl (.c rfl (.c rfl (.c rfl (.c rfl .n)))))))) .tz ?_
    rintro x f ⟨hx0, hx1, hp, hy⟩
    dsimp only [M91]
    refine GW.toSeq rfl ?_
    refine GW.toReg rfl ?_
    refine GL.one rfl .no (S1.lss rfl rfl) ?_
    refine GL.done rfl ?_
    refine GQ.on ?_
    refine GW.toSeq rfl ?_
    refine GW.toD rfl rfl (fun w5 => ?_) (fun w5 => ?_)
    refine GW.toSkip rfl ?_
    refine GQ.on ?_
    refine GW.toSeq rfl ?_
    refine GW.toBlock rfl ?_
    refine GW.toSeq rfl ?_
    refine GW.toReg rfl ?_
    refine GL.one rfl .no (S1.mv (v := (.int _ _)) rfl) ?_
    refine GL.one rfl .no (S1.as (v := (.int _ _)) rfl) ?_
    refine GL.done rfl ?_
    refine GQ.on ?_
    refine GW.toSeq rfl ?_
    refine GW.toReg rfl ?_
    refine GL.one rfl .no (S1.ld sc31 rfl (.at (.s .z)) rfl) ?_
    refine GL.one rfl .no (S1.mv (v := (.int _ _)) rfl) ?_
    refine GL.one rfl .no (S1.mv (v := (.int _ _)) rfl) ?_
    refine GL.one rfl .no (S1.ixN el31 rfl rfl (by omega)) ?_
    refine GL.one rfl .no (S1.stI sc3 rfl rfl (by omega) (.s (.s (.s (.s .z))))) ?_
    refine GL.done rfl ?_
    refine GQ.on ?_
    refine GW.toSeq rfl ?_
    refine GW.toReg rfl ?_
    refine GL.one rfl .no (S1.ld sc136 rfl (.at (.s (.s (.s .z)))) rfl) ?_
    refine GL.one rfl .no (S1.mv (v := (.int _ _)) rfl) ?_
    refine GL.one rfl .no (S1.inc rfl rfl (by omega)) ?_
    refine GL.one rfl .no (S1.mv (v := (.int _ _)) rfl) ?_
    refine GL.one rfl .no (S1.mv (v := (.int _ _)) rfl) ?_
    refine GL.one rfl .no (S1.subI rfl rfl (by omega) (by omega)) ?_
    refine GL.call rfl .no fo91 (show Take _ (M91 q1 q2 pr q3 q4 l ln (x.2.1.set (0 + i * 1) x.1) (Z x.2.2)) _ from .tz) (fun h H => ih (i + 1) (left - x.1) (x.2.1.set (0 + i * 1) x.1) x.2.2 _ (by omega) (by omega) (by omega) (by rw [List.length_set]; exact hp) hy (H.give (show Take _ (M91 q1 q2 pr q3 q4 l ln (x.2.1.set (0 + i * 1) x.1) (Z x.2.2)) _ from .tz))) (.v (fs := []) (cs := [(.pointer _), (.pointer _), (.pointer _), (.pointer _)]) rfl (.c (v := (.int _ _)) rfl (.c (v := (.int _ _)) rfl .n))) (fun z91 q91 => ?_)
    refine GL.one rfl .no (S1.not rfl) ?_
    refine GL.done rfl ?_
    refine GQ.on ?_
    refine GW.toC rfl rfl (fun w7 => ?_) (fun w7 => ?_)
    refine GW.toSeq rfl ?_
    refine GW.toReg rfl ?_
    refine GL.one rfl .no (S1.as (v := (.bool _)) rfl) ?_
    refine GL.done rfl ?_
    refine GQ.on ?_
    refine GW.toRet rfl ?_
    refine GQ.outR ?_
    refine GQ.onR ?_
    refine GQ.onR ?_
    refine GQ.outR ?_
    refine GQ.onR ?_
    refine GQ.ret (false, z91.2.1, z91.2.2) (.tmp rfl rfl .nil) .one rfl ⟨q91.1, by simp_all⟩ (.cons .z (.cons .z (.cons .z (.cons .z (.cons .z .tzA)))))
    refine GW.toSkip rfl ?_
    refine GQ.outN ?_
    refine GQ.on ?_
    refine GW.toReg rfl ?_
    refine GL.one rfl .no (S1.addI rfl rfl (by omega) (by omega)) ?_
    refine GL.one rfl .no (S1.mv (v := (.int _ _)) rfl) ?_
    refine GL.done rfl ?_
    refine GQ.nextT (x.1 + 1, z91.2.1, z91.2.2) (.c rfl (.c rfl (.c rfl (.c rfl (.c rfl (.c rfl (.c rfl (.c rfl .n)))))))) (.cons .z (.cons .z (.cons .z (.cons .z (.cons .z .tzA))))) ⟨(by dsimp only; omega), (by dsimp only; omega), q91.1, by simp_all⟩ (by dsimp only; omega)
    refine GW.toExit rfl ?_
    refine GQ.onE ?_
    refine GQ.onE ?_
    refine GQ.outH ?_
    refine GQ.on ?_
    refine GW.toSeq rfl ?_
    refine GW.toReg rfl ?_
    refine GL.one rfl .no (S1.as (v := (.bool _)) rfl) ?_
    refine GL.done rfl ?_
    refine GQ.on ?_
    refine GW.toRet rfl ?_
    refine GQ.ret (true, x.2.1, x.2.2) (.tmp rfl rfl .nil) .one rfl ⟨hp, hy⟩ .tz
end
end Go.Proofs.Ytmlknglgijeepaa
namespace Go.Proofs.Ytmlknglgijeepaa
open Go Go.E
set_option maxRecDepth 100000
set_option maxHeartbeats 4000000

section
variable {hr : RO} {ln s1 s2 l : Nat} {le : Int} {h : EH}

abbrev M90 (s1 s2 ln : Nat) (le : Int) (Z : Ents) : Ents := (s1, .cells [.int .i64 ln] none true) :: (s2, .cells [.int .i64 le] none true) :: Z


theorem ct90 {Y : Type} (Z : Y → Ents) (RI : Y → Prop) (RD : Nat → Y → Prop) (hln : ln ≤ 5) (hln0 : 1 ≤ ln) (hle : 0 ≤ le ∧ le ≤ 1000)
    (round : ∀ (pr : Nat) (pl : List Int) (y : Y) (h : EH), pl.length = ln → RI y → Hp hr h (((pr, .cells (ints pl) none true) :: Z y : Ents).map (·.1)) ((pr, .cells (ints pl) none true) :: Z y) h →
      Rt Try.prog l ⟨[rowS pr ln]⟩ h (((pr, .cells (ints pl) none true) :: Z y : Ents).map (·.1)) (fun z : Bool × Y => .bool z.1) (fun z => if z.1 = true then RI z.2 else RD pr z.2) (fun z => (pr, .cells (ints pl) none true) :: Z z.2))
    (y0 : Y) (hy : RI y0) (H : Hp hr h ((M90 s1 s2 ln le (Z y0)).map (·.1)) (M90 s1 s2 ln le (Z y0)) h) :
    Ct Try.prog 90 ⟨[.func (.yield l) #[] #[], .pointer (some ⟨s1, 0, none⟩), .pointer (some ⟨s2, 0, none⟩)]⟩ h ((M90 s1 s2 ln le (Z y0)).map (·.1)) (fun _ : Nat × List Int × Y => .tuple #[]) (fun x => x.2.1.length = ln ∧ (RI x.2.2 ∨ RD x.1 x.2.2)) (fun x => (x.1, .cells (ints x.2.1) none true) :: Z x.2.2) := by
  refine Ct.go Try.func90 rfl rfl co90 H ?_
  dsimp only [M90]
  refine GW.toSeq rfl ?_
  refine GW.toReg rfl ?_
  refine GL.opN rfl .no (SN.bx (u := (.func _ _ _)) rfl (.one rfl)) (fun a1 => ?_)
  refine GL.done rfl ?_
  refine GQ.on ?_
  refine GW.toSeq rfl ?_
  refine GW.toReg rfl ?_
  refine GL.one rfl .no (S1.ld sc3 rfl (.at (.s .z)) rfl) ?_
  refine GL.opN rfl .no (SN.ms ze31 el31 rfl rfl rfl (by omega)) (fun a2 => ?_)
  refine GL.opN rfl .no (SN.al zc31) (fun a3 => ?_)
  refine GL.one rfl .no (S1.st (u := (.slice _ _ _)) sc31 rfl rfl rfl (by repeat constructor) .z) ?_
  refine GL.done rfl ?_
  refine GQ.on ?_
  refine GW.toSeq rfl ?_
  refine GW.toReg rfl ?_
  refine GL.opN rfl .no (SN.al zc136) (fun a4 => ?_)
  refine GL.done rfl ?_
  refine GQ.on ?_
  refine GW.toSeq rfl ?_
  refine GW.toReg rfl ?_
  refine GL.one rfl .no (S1.mf .n (.c (v := (.pointer _)) rfl (.c (v := (.pointer _)) rfl (.c (v := (.pointer _)) rfl (.c (v := (.pointer _)) rfl .n))))) ?_
  refine GL.one rfl .no (S1.st (u := (.func _ _ _)) sc136 rfl rfl rfl (by repeat constructor) .z) ?_
  refine GL.done rfl ?_
  refine GQ.on ?_
  refine GW.toReg rfl ?_
  refine GL.one rfl .no (S1.ld sc136 rfl (.at .z) rfl) ?_
  refine GL.one rfl .no (S1.ld sc3 rfl (.at (.s (.s (.s (.s (.s .z)))))) rfl) ?_
  rw [← ints_rep]
  refine GL.call rfl .no fo91 (show Take _ (M91 s1 a3 a2 a1 a4 l ln (List.replicate ln 0) (Z y0)) _ from (.cons (.s (.s (.s (.s .z)))) (.cons (.s .z) (.cons (.s (.s .z)) (.cons .z (.cons .z (.ts .tz))))))) (fun h H => ct91 (pr := a2) Z RI (RD a2) hln (fun pl y h e1 e2 => round a2 pl y h e1 e2) (ln - 1) 0 le (List.replicate ln 0) y0 _ (by omega) (by omega) (by omega) (by simp) hy (H.give (show Take _ (M91 s1 a3 a2 a1 a4 l ln (List.replicate ln 0) (Z y0)) _ from (.cons (.s (.s (.s (.s .z)))) (.cons (.s .z) (.cons (.s (.s .z)) (.cons .z (.cons .z (.ts .tz))))))))) (.v (fs := []) (cs := [(.pointer _), (.pointer _), (.pointer _), (.pointer _)]) rfl (.c (v := (.int _ _)) rfl (.c (v := (.int _ _)) rfl .n))) (fun z91 q91 => ?_)
  refine GL.done rfl ?_
  refine GQ.retN (a2, z91.2.1, z91.2.2) .nil .z rfl ⟨q91.1, by have q := q91.2; split at q <;> simp [q]⟩ (.cons (.s (.s (.s (.s .z)))) (.ts (.ts (.ts (.ts .tzA)))))
end
end Go.Proofs.Ytmlknglgijeepaa
namespace Go.Proofs.Ytmlknglgijeepaa
open Go Go.E
set_option maxRecDepth 100000
set_option maxHeartbeats 4000000

section
variable {h : EH} {hr : RO} {la ca ta ra : Option Addr} {ln lc cn cc tn tc rn rc : Nat} {al wt : Int}


abbrev RZ (a1 a2 a3 a4 a5 a10 : Nat) (la : Option Addr) (ln lc : Nat) (ca : Option Addr) (cn cc : Nat) (ta : Option Addr) (tn tc : Nat) (al : Int) (ra : Option Addr) (rn rc : Nat) (w58 : Int) (v : Value) : Ents :=
  [(a1, .cells [.slice la ln lc, .slice ca cn cc] none true), (a2, .cells [.slice ta tn tc, .int .i64 al] none true), (a3, .cells [.slice ra rn rc] none true), (a4, .cells [v] none true), (a5, .cells [.int .i64 0] none true), (a10, .cells [.int .i64 w58] none true)]

theorem ct29 (hR : ∀ b o, hr b = some o → h[b]? = some o) (h1 : Cell hr (.sl ly75) (.slice la ln lc)) (h2 : Cell hr (.sl ly80) (.slice ca cn cc)) (h5 : Cell hr (.sl ly134) (.slice ta tn tc)) (h3 : Cell hr (.sl ly47) (.slice ra rn rc)) :
    Ct Try.prog 29 ⟨[.agg ⟨[.slice la ln lc, .slice ca cn cc]⟩, .agg ⟨[.slice ta tn tc, .int .i64 al]⟩, .slice ra rn rc, .int .i64 wt]⟩ h [] (fun x : Value × Ents × Nat × Int => .tuple ⟨[x.1, .int .i64 x.2.2.2]⟩) (fun x => OR wy3 x.1 x.2.1 x.2.2.1 ∧ x.2.2.1 ≤ 5) (fun x => x.2.1) := by
  have hl1 := h1.le
  refine Ct.goM Try.func29 rfl rfl co29 (Hp.start hR) ?_
  refine GW.toSeq rfl ?_
  refine GW.toReg rfl ?_
  refine GL.opN rfl .no (SN.bx (u := .agg ⟨_⟩) rfl .agg) (fun a1 => ?_)
  refine GL.opN rfl .no (SN.bx (u := .agg ⟨_⟩) rfl .agg) (fun a2 => ?_)
  refine GL.opN rfl .no (SN.bx (u := (.slice _ _ _)) rfl (.one rfl)) (fun a3 => ?_)
  refine GL.opN rfl .no (SN.al zc31) (fun a4 => ?_)
  refine GL.opN rfl .no (SN.al zc40) (fun a5 => ?_)
  refine GL.done rfl ?_
  refine GQ.on ?_
  refine GW.toSeq rfl ?_
  refine GW.toReg rfl ?_
  refine GL.one rfl .no (S1.ldW ag25 rfl (.at (.s (.s (.s (.s .z))))) rfl) ?_
  refine GL.one rfl .no (S1.ldW ag30 rfl (.at (.s (.s (.s .z)))) rfl) ?_
  refine GL.one rfl .no (S1.ld sc26 rfl (.at (.s (.s .z))) rfl) ?_
  refine GL.one rfl .no (S1.mv (v := (.int _ _)) rfl) ?_
  refine GL.call rfl .no fo58 .nil (fun h H => ct58 H.rom h1 h2 h5 h3) (.d (.c (v := (.agg _)) rfl (.c (v := (.agg _)) rfl (.c (v := (.slice _ _ _)) rfl (.c (v := (.int _ _)) rfl .n))))) (fun x58 q58 => ?_)
  refine GL.one rfl .no (S1.mv (v := (.tuple _)) rfl) ?_
  refine GL.one rfl .no (S1.ext (v := (.int _ _)) rfl rfl) ?_
  refine GL.one rfl .no (S1.ext (v := (.int _ _)) rfl rfl) ?_
  refine GL.opN rfl .no (SN.al zc3) (fun a7 => ?_)
  refine GL.one rfl .no (S1.st (u := (.int _ _)) sc3 rfl rfl rfl (by repeat constructor) .z) ?_
  refine GL.one rfl .no (S1.as (v := (.int _ _)) rfl) ?_
  refine GL.done rfl ?_
  refine GQ.on ?_
  refine GW.toSeq rfl ?_
  refine GW.toSeq rfl ?_
  refine GW.toReg rfl ?_
  refine GL.one rfl .no (S1.mv (v := (.int _ _)) rfl) ?_
  refine GL.one rfl .no (S1.neq rfl rfl) ?_
  refine GL.done rfl ?_
  refine GQ.on ?_
  refine GW.toD rfl rfl (fun w8 => ?_) (fun w8 => ?_)
  refine GW.toSeq rfl ?_
  refine GW.toReg rfl ?_
  refine GL.one rfl .no (S1.mv (v := (.int _ _)) rfl) ?_
  refine GL.one rfl .no (S1.st (u := (.slice _ _ _)) sc31 rfl rfl rfl (by repeat constructor) (.s (.s .z))) ?_
  refine GL.one rfl .no (S1.st (u := (.int _ _)) sc40 rfl rfl rfl (by repeat constructor) (.s .z)) ?_
  refine GL.done rfl ?_
  refine GQ.on ?_
  refine GW.toRet rfl ?_
  refine GQ.onR ?_
  refine GQ.toMB ?_
  refine GQ.ret (nilS, [], 0, _) (.cell rfl rfl (.s (.s .z)) (loadV_sc sc31 rfl) (.cell rfl rfl (.s .z) (loadV_sc sc40 rfl) .nil)) .more rfl ⟨.nil, Nat.zero_le _⟩ .nil
  refine GW.toSkip rfl ?_
  refine GQ.on ?_
  refine GW.toSeq rfl ?_
  refine GW.toSeq rfl ?_
  refine GW.toReg rfl ?_
  refine GL.one rfl .no (S1.fa fa25_0 rfl) ?_
  refine GL.one rfl .no (S1.ld sc22 rfl (.at (.s (.s (.s (.s (.s .z)))))) rfl) ?_
  refine GL.one rfl .no (S1.len el22 rfl) ?_
  refine GL.one rfl .no (S1.mulI rfl rfl (by omega) (by omega)) ?_
  refine GL.one rfl .no (S1.addI rfl rfl (by omega) (by omega)) ?_
  refine GL.one rfl .no (S1.mv (v := (.int _ _)) rfl) ?_
  refine GL.done rfl ?_
  refine GQ.on ?_
  refine GW.toBlock rfl ?_
  obtain ⟨hS, hrl⟩ := q58 (by omega)
  have hs1 := hS.sk.l1
  have hs5 := hS.sk.l5
  refine GW.toLoopD (X := Nat × List Nat) (fun x => [(4, .pointer (some ⟨a1, 0, none⟩)), (5, .pointer (some ⟨a2, 0, none⟩)), (6, .pointer (some ⟨a3, 0, none⟩)), (8, .pointer (some ⟨a4, 0, none⟩)), (9, .pointer (some ⟨a5, 0, none⟩)), (10, .pointer (some ⟨a7, 0, none⟩)), (29, .int .i64 ((ln : Int) * 8 + 1)), (30, .int .i64 x.1)])
    (fun x => defs x.2 ++ RZ a1 a2 a3 a4 a5 a7 la ln lc ca cn cc ta tn tc al ra rn rc x58.1 nilS) (fun x => x.1 ≤ ln * 8 + 1) (fun x => ln * 8 + 1 - x.1) (fun x => marks x.2) rfl (0, []) (Nat.zero_le _) rfl (.c rfl (.c rfl (.c rfl (.c rfl (.c rfl (.c rfl (.c rfl (.c rfl .n)))))))) (.cons (.s (.s (.s (.s (.s .z))))) (.cons (.s (.s (.s (.s .z)))) (.cons (.s (.s (.s .z))) (.cons (.s (.s .z)) (.cons (.s .z) .tz))))) ?_
  rintro x f hx
  refine GW.toSeq rfl ?_
  refine GW.toReg rfl ?_
  refine GL.one rfl .no (S1.lss rfl rfl) ?_
  refine GL.done rfl ?_
  refine GQ.on ?_
  refine GW.toSeq rfl ?_
  refine GW.toD rfl rfl (fun w9 => ?_) (fun w9 => ?_)
  refine GW.toSkip rfl ?_
  refine GQ.on ?_
  refine GW.toSeq rfl ?_
  refine GW.toBlock rfl ?_
  refine GW.toSeq rfl ?_
  refine GW.toReg rfl ?_
  refine GL.one rfl .no (S1.mv (v := (.int _ _)) rfl) ?_
  refine GL.one rfl .no (S1.as (v := (.int _ _)) rfl) ?_
  refine GL.done rfl ?_
  refine GQ.on ?_
  refine GW.toSeq rfl ?_
  refine GW.toReg rfl ?_
  refine GL.one rfl .no (S1.fa fa25_0 rfl) ?_
  refine GL.one rfl .no (S1.ld sc22 rfl (.at (.sA .z)) rfl) ?_
  refine GL.one rfl .no (S1.len el22 rfl) ?_
  refine GL.one rfl .no (S1.mv (v := (.int _ _)) rfl) ?_
  refine GL.call rfl .no fo61 .nil (fun h H => ct61) (.d (.c (v := (.int _ _)) rfl (.c (v := (.int _ _)) rfl .n))) (fun x61 _ => ?_)
  refine GL.done rfl ?_
  refine GQ.on ?_
  refine GW.toBlock rfl ?_
  rotate_left
  refine GW.toExit rfl ?_
  refine GQ.onE ?_
  refine GQ.onE ?_
  refine GQ.outH ?_
  refine GQ.on ?_
  refine GW.toSeq rfl ?_
  refine GW.toReg rfl ?_
  refine GL.one rfl .no (S1.st (u := (.slice _ _ _)) sc31 rfl rfl rfl (by repeat constructor) (.sA (.s (.s (.s .z))))) ?_
  refine GL.one rfl .no (S1.st (u := (.int _ _)) sc40 rfl rfl rfl (by repeat constructor) (.sA (.s (.s (.s (.s .z)))))) ?_
  refine GL.done rfl ?_
  refine GQ.on ?_
  refine GW.toRet rfl ?_
  rotate_left
  · refine GW.toRangeD (Y := Nat × List Int × Value) (M := fun y => (y.1, .cells (ints y.2.1) none true) :: (RZ a1 a2 a3 a4 a5 a7 la ln lc ca cn cc ta tn tc al ra rn rc x58.1 y.2.2 ++ defs x.2)) (R := fun y ex => y.2.1.length = ln ∧ ((ex = .normal ∧ y.2.2 = nilS) ∨ (ex = .ret ∧ y.2.2 = rowS y.1 ln))) rfl rfl fo90 (fun k2 k3 d l hh H1 => ?_) (fun d y ex hR => ?_)
    · generalize hlp : newLoop _ _ _ _ _ _ = lp0 at H1
      have H1' := H1.give (ps := M90 x61.1 x61.2 ln x.1 ((l, .loop lp0) :: RZ a1 a2 a3 a4 a5 a7 la ln lc ca cn cc ta tn tc al ra rn rc x58.1 nilS)) (.cons (.s (.s .z)) (.cons (.s (.s .z)) (.cons .z (.cons (.s (.sA (.sA .z))) (.cons (.s (.sA (.sA .z))) (.cons (.s (.sA (.sA .z))) (.cons (.s (.sA (.sA .z))) (.cons (.s (.sA (.sA .z))) (.cons (.s (.sA (.sA .z))) .nil)))))))))
      refine WF.mono (ct90 (l := l) (Y := Loop × Value) (fun y => (l, .loop y.1) :: RZ a1 a2 a3 a4 a5 a7 la ln lc ca cn cc ta tn tc al ra rn rc x58.1 y.2) (fun y => y = (lp0, nilS)) (fun pr y => y = ({ lp0 with state := .done, pending := some .ret }, rowS pr ln)) hs5 hs1 (le := x.1) ⟨by omega, by omega⟩ (fun pr pl y h hpl hy H => ?_) (lp0, nilS) rfl H1') fun o hh2 q => ?_
      · subst hy
        subst hlp
        refine Rt.go H (r := (.s .z)) (by simp only [newLoop, Array.size_ofFn]) rfl (newLoop_f rfl) k2 ?_
        clear H1 H1'
        refine GW.toReg rfl ?_
        refine GL.opN rfl .no (SN.al zc31) (fun a11 => ?_)
        refine GL.one rfl .no (S1.st (u := (.slice _ _ _)) sc31 rfl rfl rfl (by repeat constructor) .z) ?_
        refine GL.done rfl ?_
        refine GQ.body (.s (.s .z)) rfl k3 ?_
        refine GW.toBlock rfl ?_
        refine GW.toSeq rfl ?_
        refine GW.toDrw mx rfl ?_
        refine GD.one rfl .no (S1.ldW ag30 rfl (.at (.s (.s (.s (.s .z))))) rfl) rfl ?_
        refine GD.one rfl .no (S1.mf .n (.c (v := (.pointer _)) rfl (.c (v := (.pointer _)) rfl (.c (v := (.pointer _)) rfl .n)))) rfl ?_
        refine GD.call rfl .no fo56 .nil (fun h H => ct56 H.rom h5 hS.t6 ⟨hS.a0, hS.a1⟩ fo62 (fun h' k hk e => ct62 (fun b o hb => e _ _ (H.rom _ _ hb)) h1 h3 (e _ _ (H.get (.s (.s (.s (.s (.s .z))))))) (e _ _ (H.get (.s .z))) (e _ _ (H.get (.s (.s .z)))) (e _ _ (H.get (.s (.s (.s .z))))) hpl hrl (by have := hS.ix k hk; simp only [ie] at this; omega))) (.d (.c (v := (.agg _)) rfl (.c (v := (.func _ _ _)) rfl .n))) (fun e56 _ => ?_)
        refine GD.one rfl .no (S1.ld sc3 rfl (.at (.s (.s (.s (.s (.s (.s (.s (.s .z))))))))) rfl) rfl ?_
        refine GD.one rfl .no (S1.geq rfl rfl) rfl ?_
        refine GD.done rfl ?_
        refine GQ.on ?_
        refine GW.toD rfl rfl (fun w13 => ?_) (fun w13 => ?_)
        refine GW.toSeq rfl ?_
        refine GW.toReg rfl ?_
        refine GL.one rfl .no (S1.ld sc31 rfl (.at (.s .z)) rfl) ?_
        refine GL.one rfl .no (S1.st (u := (.slice _ _ _)) sc31 rfl rfl rfl (by repeat constructor) (.s (.s (.s (.s (.s (.s .z))))))) ?_
        refine GL.one rfl .no (S1.st (u := (.int _ _)) sc40 rfl rfl rfl (by repeat constructor) (.s (.s (.s (.s (.s (.s (.s .z)))))))) ?_
        refine GL.done rfl ?_
        refine GQ.on ?_
        refine GW.toRet rfl ?_
        refine GQ.outR ?_
        refine GQ.rR (false, _) .z rfl rfl (.cons (.s (.s .z)) (.cons .z (.cons (.s .z) (.cons (.s .z) (.cons (.s .z) (.cons (.s .z) (.cons (.s .z) (.cons (.s .z) .nil))))))))
        refine GW.toSkip rfl ?_
        refine GQ.outN ?_
        refine GQ.rN (true, _) .z rfl rfl (.cons (.s (.s .z)) (.cons .z (.cons (.s .z) (.cons (.s .z) (.cons (.s .z) (.cons (.s .z) (.cons (.s .z) (.cons (.s .z) .nil))))))))
      · cases o with
        | pan v => exact q.elim
        | ret v =>
          obtain ⟨y, rfl, ⟨hl, hR⟩, hP⟩ := q
          have H2 := H1.callT (ps := M90 x61.1 x61.2 ln x.1 ((l, .loop lp0) :: RZ a1 a2 a3 a4 a5 a7 la ln lc ca cn cc ta tn tc al ra rn rc x58.1 nilS)) (.cons (.s (.s .z)) (.cons (.s (.s .z)) (.cons .z (.cons (.s (.sA (.sA .z))) (.cons (.s (.sA (.sA .z))) (.cons (.s (.sA (.sA .z))) (.cons (.s (.sA (.sA .z))) (.cons (.s (.sA (.sA .z))) (.cons (.s (.sA (.sA .z))) .nil))))))))) hP
          rcases hR with e | e
          · refine ⟨(y.1, y.2.1, y.2.2.2), y.2.2.1, .normal, by rw [e]; subst hlp; rfl, by rw [e]; subst hlp; simp [newLoop], ⟨hl, .inl ⟨rfl, by rw [e]⟩⟩, H2.sub (.cons (.s (.asc (.asc (.sA (.s .z))))) (.cons .z (.cons (.sA .z) (.cons (.sA .z) (.cons (.sA .z) (.cons (.sA .z) (.cons (.sA .z) (.cons (.sA .z) (.cons (.sA .z) .tzA)))))))))⟩
          · refine ⟨(y.1, y.2.1, y.2.2.2), y.2.2.1, .ret, by rw [e]; rfl, by rw [e]; simp, ⟨hl, .inr ⟨rfl, by rw [e]⟩⟩, H2.sub (.cons (.s (.asc (.asc (.sA (.s .z))))) (.cons .z (.cons (.sA .z) (.cons (.sA .z) (.cons (.sA .z) (.cons (.sA .z) (.cons (.sA .z) (.cons (.sA .z) (.cons (.sA .z) .tzA)))))))))⟩
    · obtain ⟨hl, ⟨rfl, hv⟩ | ⟨rfl, hv⟩⟩ := hR
      · rw [hv]
        refine GQ.outN ?_
        refine GQ.outN ?_
        refine GQ.on ?_
        refine GW.toReg rfl ?_
        refine GL.one rfl .no (S1.inc rfl rfl (by omega)) ?_
        refine GL.one rfl .no (S1.mv (v := (.int _ _)) rfl) ?_
        refine GL.done rfl ?_
        refine GQ.nextD (x.1 + 1, d :: x.2) (.c rfl (.c rfl (.c rfl (.c rfl (.c rfl (.c rfl (.c rfl (.c rfl .n)))))))) (.cons .z (.app (.ts (.ts (.ts (.ts (.ts (.ts (.ts .tz))))))) (.cons (.s .z) (.cons (.s .z) (.cons (.s .z) (.cons (.s .z) (.cons (.s .z) (.cons (.s .z) .nil)))))))) (by dsimp only; omega) (by dsimp only; omega) rfl
      · rw [hv]
        refine GQ.outR ?_
        refine GQ.outR ?_
        refine GQ.onR ?_
        refine GQ.onR ?_
        refine GQ.outR ?_
        refine GQ.onR ?_
        refine GQ.toM (dd := d :: x.2) (.cons .z (.ts (.ts (.ts (.ts (.ts (.ts (.ts .tz)))))))) ?_
        refine GQ.ret (rowS y.1 ln, [(y.1, .cells (ints y.2.1) none true)], ln, 0) (.cell rfl rfl (.s (.s (.s (.s .z)))) (loadV_sc sc31 rfl) (.cell rfl rfl (.s (.s (.s (.s (.s .z))))) (loadV_sc sc40 rfl) .nil)) .more rfl ⟨OR.ints (by rw [hl]; simp [wy3]) (by omega) (.inl rfl) (by simp [wy3]), hs5⟩ (.cons .z .nil)
  · refine GQ.toM (dd := x.2) .tzA ?_
    refine GQ.ret (nilS, [], 0, _) (.cell rfl rfl (.s (.s (.s .z))) (loadV_sc sc31 rfl) (.cell rfl rfl (.s (.s (.s (.s .z)))) (loadV_sc sc40 rfl) .nil)) .more rfl ⟨.nil, Nat.zero_le _⟩ .nil
end
end Go.Proofs.Ytmlknglgijeepaa
