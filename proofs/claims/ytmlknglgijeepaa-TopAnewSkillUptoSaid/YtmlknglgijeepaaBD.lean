/- B20: contracts: the closures. -/
import Derived.Test.YtmlknglgijeepaaBC
import Derived.Test.YtmlknglgijeepaaBB
set_option linter.all false
set_option linter.constructorNameAsVariable false
set_option linter.unusedSimpArgs false
set_option linter.unusedVariables false
set_option linter.unusedSectionVars false
set_option linter.unnecessarySimpa false
namespace Go.Proofs.Ytmlknglgijeepaa
open Go Go.E
set_option maxRecDepth 100000
set_option maxHeartbeats 2000000

theorem ct10 {h : EH} : Ct Try.prog 10 ⟨[]⟩ h [] (fun _ : Unit => .tuple #[]) (fun _ => True) (fun _ => []) := by
  refine Ct.go Try.func10 rfl rfl co10 (Hp.start (hr := fun _ => none) (by simp)) ?_
  refine GW.toSkip rfl ?_
  refine GQ.retN () .nil .z ?_ ?_ .nil
  rfl
  exact trivial

section
variable {h : EH} {b0 : Nat} {v0 : Value} {E0 : Ents} {m0 : Nat}
abbrev BW (x : Nat × Value × Ents × Nat) : Ents := (x.1, .cells [x.2.1] none true) :: x.2.2.1
theorem ct19 (x : Nat × Value × Ents × Nat) (o0 : OR wy47 x.2.1 x.2.2.1 x.2.2.2) (H : Hp (fun _ => none) h ((BW x).map (·.1)) (BW x) h) :
    Ct Try.prog 19 ⟨[.pointer (some ⟨x.1, 0, none⟩)]⟩ h ((BW x).map (·.1)) (fun _ : Unit => .tuple #[]) (fun _ => True) (fun _ => []) := by
  obtain ⟨b0, v0, E0, m0⟩ := x
  dsimp only [BW] at H o0 ⊢
  refine Ct.go Try.func19 rfl rfl co19 H ?_
  refine GW.toReg rfl ?_
  refine GL.call rfl .no fo20 (show Take _ ((b0, _) :: E0) _ from .tz) (fun h H => cw20 _ _ _ _ _ _ _ rfl o0 (H.give (show Take _ ((b0, _) :: E0) _ from .tz))) (.d (.c (v := (.pointer _)) rfl .n)) (fun E0' p0 => ?_)
  refine GL.done rfl ?_
  refine GQ.retN () .nil .z ?_ ?_ .nil
  rfl
  exact trivial

theorem ct31 (x : Nat × Value × Ents × Nat) (o0 : OR wy3 x.2.1 x.2.2.1 x.2.2.2) (H : Hp (fun _ => none) h ((BW x).map (·.1)) (BW x) h) :
    Ct Try.prog 31 ⟨[.pointer (some ⟨x.1, 0, none⟩)]⟩ h ((BW x).map (·.1)) (fun _ : Unit => .tuple #[]) (fun _ => True) (fun _ => []) := by
  obtain ⟨b0, v0, E0, m0⟩ := x
  dsimp only [BW] at H o0 ⊢
  refine Ct.go Try.func31 rfl rfl co31 H ?_
  refine GW.toReg rfl ?_
  refine GL.call rfl .no fo32 (show Take _ ((b0, _) :: E0) _ from .tz) (fun h H => cw32 _ _ _ _ _ _ _ rfl o0 (H.give (show Take _ ((b0, _) :: E0) _ from .tz))) (.d (.c (v := (.pointer _)) rfl .n)) (fun E0' p0 => ?_)
  refine GL.done rfl ?_
  refine GQ.retN () .nil .z ?_ ?_ .nil
  rfl
  exact trivial

end


section
variable {h : EH} {hr : RO} {xb hb : Nat} {la ca ra ea ta va wa : Option Addr} {ln lc cn cc rn rc en ec tn tc vn vc wn wc : Nat} {x2 x3 x4 x7 x9 x12 : Int}
theorem ct6 (h1 : Cell hr (.sl ly75) (.slice la ln lc)) (h2 : Cell hr (.sl ly80) (.slice ca cn cc)) (h3 : Cell hr (.sl ly47) (.slice ra rn rc)) (h4 : Cell hr (.sl ly89) (.slice ea en ec)) (h5 : Cell hr (.sl ly134) (.slice ta tn tc)) (h6 : Cell hr (.sl ly3) (.slice va vn vc)) (h7 : Cell hr (.sl ly47) (.slice wa wn wc))
    (G : GoodA hr (xsB la ln lc ca cn cc x2 x3 x4 ra rn rc ea en ec x7 ta tn tc x9 va vn vc wa wn wc x12) zero2 xb hb h) : ClN Try.prog 6 10 1000 hb xb h := by
  have p := PS.nn
  have hx := G.x
  have hne : xb ∉ [hb] := by simpa using G.ne
  have e0 : ([] : List Int).length = 0 := rfl
  have e1 : ([] : List ByteArray).length = 0 := rfl
  refine Ct.go Try.func6 rfl rfl co6 (Hp.start1 G.rom G.z G.zo) ?_
  refine GW.toSeq rfl ?_
  refine GW.toReg rfl ?_
  refine GL.one rfl .no (S1.as (v := .nilFunc) rfl) ?_
  refine GL.done rfl ?_
  refine GQ.on ?_
  refine GW.toSeq rfl ?_
  refine GW.toReg rfl ?_
  refine GL.one rfl .no (S1.fa fa33_0 rfl) ?_
  refine GL.one rfl .no (S1.ldA ag25 rfl (.old hx (by simp_all)) (by repeat constructor)) ?_
  refine GL.call rfl .no fo7 .nil (fun h H => ct7 H.rom h1 h2) (.d (.c (v := (.agg _)) rfl .n)) (fun x7' _ => ?_)
  refine GL.one rfl .no (S1.mv (v := (.tuple _)) rfl) ?_
  refine GL.one rfl .no (S1.ext (v := (.int _ _)) rfl rfl) ?_
  refine GL.one rfl .no (S1.ext (v := (.int _ _)) rfl rfl) ?_
  refine GL.one rfl .no (S1.ext (v := (.int _ _)) rfl rfl) ?_
  refine GL.one rfl .no (S1.as (v := (.int _ _)) rfl) ?_
  refine GL.one rfl .no (S1.as (v := (.int _ _)) rfl) ?_
  refine GL.one rfl .no (S1.as (v := (.int _ _)) rfl) ?_
  refine GL.done rfl ?_
  refine GQ.on ?_
  refine GW.toSeq rfl ?_
  refine GW.toReg rfl ?_
  refine GL.one rfl .no (S1.mv (v := (.pointer _)) rfl) ?_
  refine GL.one rfl .no (S1.mv (v := (.int _ _)) rfl) ?_
  refine GL.put rfl .no fo8 (ct8) p (.cons .z .nil) (by omega) (by omega) (.d (.c (v := (.pointer _)) rfl (.c (v := (.int _ _)) rfl .n))) (fun vn2 vs2 E2 ns2 ss2 p2 lN2 lS2 => ?_)
  refine GL.done rfl ?_
  refine GQ.on ?_
  refine GW.toSeq rfl ?_
  refine GW.toReg rfl ?_
  refine GL.one rfl .no (S1.mv (v := (.pointer _)) rfl) ?_
  refine GL.one rfl .no (S1.mv (v := (.int _ _)) rfl) ?_
  refine GL.put rfl .no fo8 (ct8) p2 (.cons .z .tz) (by omega) (by omega) (.d (.c (v := (.pointer _)) rfl (.c (v := (.int _ _)) rfl .n))) (fun vn3 vs3 E3 ns3 ss3 p3 lN3 lS3 => ?_)
  refine GL.done rfl ?_
  refine GQ.on ?_
  refine GW.toSeq rfl ?_
  refine GW.toReg rfl ?_
  refine GL.one rfl .no (S1.mv (v := (.pointer _)) rfl) ?_
  refine GL.one rfl .no (S1.mv (v := (.int _ _)) rfl) ?_
  refine GL.put rfl .no fo9 (ct9) p3 (.cons .z .tz) (by omega) (by omega) (.d (.c (v := (.pointer _)) rfl (.c (v := (.int _ _)) rfl .n))) (fun vn4 vs4 E4 ns4 ss4 p4 lN4 lS4 => ?_)
  refine GL.done rfl ?_
  refine GQ.on ?_
  refine GW.toSeq rfl ?_
  refine GW.toReg rfl ?_
  refine GL.one rfl .no (S1.as (v := (.func _ _ _)) rfl) ?_
  refine GL.done rfl ?_
  refine GQ.on ?_
  refine GW.toRet rfl ?_
  refine GQ.ret (_, _, _, _, _) (.tmp (v := (.func _ _ _)) rfl rfl .nil) .one rfl ⟨p4, by dsimp only; omega, by dsimp only; omega⟩ (.cons .z (.app .tz .nil))

theorem ct11 (h1 : Cell hr (.sl ly75) (.slice la ln lc)) (h2 : Cell hr (.sl ly80) (.slice ca cn cc)) (h3 : Cell hr (.sl ly47) (.slice ra rn rc)) (h4 : Cell hr (.sl ly89) (.slice ea en ec)) (h5 : Cell hr (.sl ly134) (.slice ta tn tc)) (h6 : Cell hr (.sl ly3) (.slice va vn vc)) (h7 : Cell hr (.sl ly47) (.slice wa wn wc))
    (G : GoodA hr (xsB la ln lc ca cn cc x2 x3 x4 ra rn rc ea en ec x7 ta tn tc x9 va vn vc wa wn wc x12) zero2 xb hb h) : ClN Try.prog 11 10 1000 hb xb h := by
  have p := PS.nn
  have hx := G.x
  have hne : xb ∉ [hb] := by simpa using G.ne
  have e0 : ([] : List Int).length = 0 := rfl
  have e1 : ([] : List ByteArray).length = 0 := rfl
  refine Ct.go Try.func11 rfl rfl co11 (Hp.start1 G.rom G.z G.zo) ?_
  refine GW.toSeq rfl ?_
  refine GW.toReg rfl ?_
  refine GL.one rfl .no (S1.as (v := .nilFunc) rfl) ?_
  refine GL.done rfl ?_
  refine GQ.on ?_
  refine GW.toSeq rfl ?_
  refine GW.toReg rfl ?_
  refine GL.one rfl .no (S1.fa fa33_0 rfl) ?_
  refine GL.one rfl .no (S1.ldA ag25 rfl (.old hx (by simp_all)) (by repeat constructor)) ?_
  refine GL.one rfl .no (S1.fa fa33_1 rfl) ?_
  refine GL.one rfl .no (S1.ld sc3 rfl (.old hx (by simp_all)) rfl) ?_
  refine GL.one rfl .no (S1.fa fa33_2 rfl) ?_
  refine GL.one rfl .no (S1.ld sc3 rfl (.old hx (by simp_all)) rfl) ?_
  refine GL.call rfl .no fo12 .nil (fun h H => ct12 H.rom h1 h2) (.d (.c (v := (.agg _)) rfl (.c (v := (.int _ _)) rfl (.c (v := (.int _ _)) rfl .n)))) (fun x12' _ => ?_)
  refine GL.one rfl .no (S1.mv (v := (.tuple _)) rfl) ?_
  refine GL.one rfl .no (S1.ext (v := (.agg _)) rfl rfl) ?_
  refine GL.one rfl .no (S1.ext (v := (.int _ _)) rfl rfl) ?_
  refine GL.opN rfl .no (SN.al zc47) (fun a2 => ?_)
  refine GL.one rfl .no (S1.stA ag47 rfl rfl rfl rfl (by repeat constructor) .z) ?_
  refine GL.one rfl .no (S1.as (v := (.int _ _)) rfl) ?_
  refine GL.done rfl ?_
  refine GQ.on ?_
  refine GW.toSeq rfl ?_
  refine GW.toReg rfl ?_
  refine GL.one rfl .no (S1.mv (v := (.pointer _)) rfl) ?_
  refine GL.one rfl .no (S1.ldW ag47 rfl (.at .z) rfl) ?_
  refine GL.put rfl .no fo13 (ct13) p (.cons (.s .z) .nil) (by omega) (by omega) (.d (.c (v := (.pointer _)) rfl (.c (v := (.agg _)) rfl .n))) (fun vn3 vs3 E3 ns3 ss3 p3 lN3 lS3 => ?_)
  refine GL.done rfl ?_
  refine GQ.on ?_
  refine GW.toSeq rfl ?_
  refine GW.toReg rfl ?_
  refine GL.one rfl .no (S1.mv (v := (.pointer _)) rfl) ?_
  refine GL.one rfl .no (S1.mv (v := (.int _ _)) rfl) ?_
  refine GL.put rfl .no fo9 (ct9) p3 (.cons (.s .z) (.ts .tz)) (by omega) (by omega) (.d (.c (v := (.pointer _)) rfl (.c (v := (.int _ _)) rfl .n))) (fun vn4 vs4 E4 ns4 ss4 p4 lN4 lS4 => ?_)
  refine GL.done rfl ?_
  refine GQ.on ?_
  refine GW.toSeq rfl ?_
  refine GW.toReg rfl ?_
  refine GL.one rfl .no (S1.as (v := (.func _ _ _)) rfl) ?_
  refine GL.done rfl ?_
  refine GQ.on ?_
  refine GW.toRet rfl ?_
  refine GQ.ret (_, _, _, _, _) (.tmp (v := (.func _ _ _)) rfl rfl .nil) .one rfl ⟨p4, by dsimp only; omega, by dsimp only; omega⟩ (.cons (.s .z) (.app (.ts .tz) .nil))

theorem ct14 (h1 : Cell hr (.sl ly75) (.slice la ln lc)) (h2 : Cell hr (.sl ly80) (.slice ca cn cc)) (h3 : Cell hr (.sl ly47) (.slice ra rn rc)) (h4 : Cell hr (.sl ly89) (.slice ea en ec)) (h5 : Cell hr (.sl ly134) (.slice ta tn tc)) (h6 : Cell hr (.sl ly3) (.slice va vn vc)) (h7 : Cell hr (.sl ly47) (.slice wa wn wc))
    (G : GoodA hr (xsB la ln lc ca cn cc x2 x3 x4 ra rn rc ea en ec x7 ta tn tc x9 va vn vc wa wn wc x12) zero2 xb hb h) : ClN Try.prog 14 10 1000 hb xb h := by
  have p := PS.nn
  have hx := G.x
  have hne : xb ∉ [hb] := by simpa using G.ne
  have e0 : ([] : List Int).length = 0 := rfl
  have e1 : ([] : List ByteArray).length = 0 := rfl
  refine Ct.go Try.func14 rfl rfl co14 (Hp.start1 G.rom G.z G.zo) ?_
  refine GW.toSeq rfl ?_
  refine GW.toReg rfl ?_
  refine GL.one rfl .no (S1.as (v := .nilFunc) rfl) ?_
  refine GL.done rfl ?_
  refine GQ.on ?_
  refine GW.toSeq rfl ?_
  refine GW.toReg rfl ?_
  refine GL.one rfl .no (S1.fa fa33_0 rfl) ?_
  refine GL.one rfl .no (S1.ldA ag25 rfl (.old hx (by simp_all)) (by repeat constructor)) ?_
  refine GL.one rfl .no (S1.fa fa33_1 rfl) ?_
  refine GL.one rfl .no (S1.ld sc3 rfl (.old hx (by simp_all)) rfl) ?_
  refine GL.one rfl .no (S1.fa fa33_3 rfl) ?_
  refine GL.one rfl .no (S1.ld sc3 rfl (.old hx (by simp_all)) rfl) ?_
  refine GL.call rfl .no fo15 .nil (fun h H => ct15 H.rom h1 h2) (.d (.c (v := (.agg _)) rfl (.c (v := (.int _ _)) rfl (.c (v := (.int _ _)) rfl .n)))) (fun x15' _ => ?_)
  refine GL.one rfl .no (S1.mv (v := (.tuple _)) rfl) ?_
  refine GL.one rfl .no (S1.ext (v := (.agg _)) rfl rfl) ?_
  refine GL.one rfl .no (S1.ext (v := (.int _ _)) rfl rfl) ?_
  refine GL.opN rfl .no (SN.al zc47) (fun a2 => ?_)
  refine GL.one rfl .no (S1.stA ag47 rfl rfl rfl rfl (by repeat constructor) .z) ?_
  refine GL.one rfl .no (S1.as (v := (.int _ _)) rfl) ?_
  refine GL.done rfl ?_
  refine GQ.on ?_
  refine GW.toSeq rfl ?_
  refine GW.toReg rfl ?_
  refine GL.one rfl .no (S1.mv (v := (.pointer _)) rfl) ?_
  refine GL.one rfl .no (S1.ldW ag47 rfl (.at .z) rfl) ?_
  refine GL.put rfl .no fo13 (ct13) p (.cons (.s .z) .nil) (by omega) (by omega) (.d (.c (v := (.pointer _)) rfl (.c (v := (.agg _)) rfl .n))) (fun vn3 vs3 E3 ns3 ss3 p3 lN3 lS3 => ?_)
  refine GL.done rfl ?_
  refine GQ.on ?_
  refine GW.toSeq rfl ?_
  refine GW.toReg rfl ?_
  refine GL.one rfl .no (S1.mv (v := (.pointer _)) rfl) ?_
  refine GL.one rfl .no (S1.mv (v := (.int _ _)) rfl) ?_
  refine GL.put rfl .no fo9 (ct9) p3 (.cons (.s .z) (.ts .tz)) (by omega) (by omega) (.d (.c (v := (.pointer _)) rfl (.c (v := (.int _ _)) rfl .n))) (fun vn4 vs4 E4 ns4 ss4 p4 lN4 lS4 => ?_)
  refine GL.done rfl ?_
  refine GQ.on ?_
  refine GW.toSeq rfl ?_
  refine GW.toReg rfl ?_
  refine GL.one rfl .no (S1.as (v := (.func _ _ _)) rfl) ?_
  refine GL.done rfl ?_
  refine GQ.on ?_
  refine GW.toRet rfl ?_
  refine GQ.ret (_, _, _, _, _) (.tmp (v := (.func _ _ _)) rfl rfl .nil) .one rfl ⟨p4, by dsimp only; omega, by dsimp only; omega⟩ (.cons (.s .z) (.app (.ts .tz) .nil))

theorem ct21 (h1 : Cell hr (.sl ly75) (.slice la ln lc)) (h2 : Cell hr (.sl ly80) (.slice ca cn cc)) (h3 : Cell hr (.sl ly47) (.slice ra rn rc)) (h4 : Cell hr (.sl ly89) (.slice ea en ec)) (h5 : Cell hr (.sl ly134) (.slice ta tn tc)) (h6 : Cell hr (.sl ly3) (.slice va vn vc)) (h7 : Cell hr (.sl ly47) (.slice wa wn wc))
    (G : GoodA hr (xsB la ln lc ca cn cc x2 x3 x4 ra rn rc ea en ec x7 ta tn tc x9 va vn vc wa wn wc x12) zero2 xb hb h) : ClN Try.prog 21 10 1000 hb xb h := by
  have p := PS.nn
  have hx := G.x
  have hne : xb ∉ [hb] := by simpa using G.ne
  have e0 : ([] : List Int).length = 0 := rfl
  have e1 : ([] : List ByteArray).length = 0 := rfl
  refine Ct.go Try.func21 rfl rfl co21 (Hp.start1 G.rom G.z G.zo) ?_
  refine GW.toSeq rfl ?_
  refine GW.toReg rfl ?_
  refine GL.one rfl .no (S1.as (v := .nilFunc) rfl) ?_
  refine GL.done rfl ?_
  refine GQ.on ?_
  refine GW.toSeq rfl ?_
  refine GW.toReg rfl ?_
  refine GL.one rfl .no (S1.fa fa33_0 rfl) ?_
  refine GL.one rfl .no (S1.ldA ag25 rfl (.old hx (by simp_all)) (by repeat constructor)) ?_
  refine GL.one rfl .no (S1.fa fa33_4 rfl) ?_
  refine GL.one rfl .no (S1.ld sc26 rfl (.old hx (by simp_all)) rfl) ?_
  refine GL.one rfl .no (S1.fa fa33_5 rfl) ?_
  refine GL.one rfl .no (S1.ld sc27 rfl (.old hx (by simp_all)) rfl) ?_
  refine GL.one rfl .no (S1.fa fa33_1 rfl) ?_
  refine GL.one rfl .no (S1.ld sc3 rfl (.old hx (by simp_all)) rfl) ?_
  refine GL.call rfl .no fo22 .nil (fun h H => ct22 H.rom h1 h2 h3 h4) (.d (.c (v := (.agg _)) rfl (.c (v := (.slice _ _ _)) rfl (.c (v := (.slice _ _ _)) rfl (.c (v := (.int _ _)) rfl .n))))) (fun x22' _ => ?_)
  refine GL.one rfl .no (S1.mv (v := (.tuple _)) rfl) ?_
  refine GL.one rfl .no (S1.ext (v := (.agg _)) rfl rfl) ?_
  refine GL.one rfl .no (S1.ext (v := (.int _ _)) rfl rfl) ?_
  refine GL.opN rfl .no (SN.al zc47) (fun a2 => ?_)
  refine GL.one rfl .no (S1.stA ag47 rfl rfl rfl rfl (by repeat constructor) .z) ?_
  refine GL.one rfl .no (S1.as (v := (.int _ _)) rfl) ?_
  refine GL.done rfl ?_
  refine GQ.on ?_
  refine GW.toSeq rfl ?_
  refine GW.toReg rfl ?_
  refine GL.one rfl .no (S1.mv (v := (.pointer _)) rfl) ?_
  refine GL.one rfl .no (S1.ldW ag47 rfl (.at .z) rfl) ?_
  refine GL.put rfl .no fo13 (ct13) p (.cons (.s .z) .nil) (by omega) (by omega) (.d (.c (v := (.pointer _)) rfl (.c (v := (.agg _)) rfl .n))) (fun vn3 vs3 E3 ns3 ss3 p3 lN3 lS3 => ?_)
  refine GL.done rfl ?_
  refine GQ.on ?_
  refine GW.toSeq rfl ?_
  refine GW.toReg rfl ?_
  refine GL.one rfl .no (S1.mv (v := (.pointer _)) rfl) ?_
  refine GL.one rfl .no (S1.mv (v := (.int _ _)) rfl) ?_
  refine GL.put rfl .no fo9 (ct9) p3 (.cons (.s .z) (.ts .tz)) (by omega) (by omega) (.d (.c (v := (.pointer _)) rfl (.c (v := (.int _ _)) rfl .n))) (fun vn4 vs4 E4 ns4 ss4 p4 lN4 lS4 => ?_)
  refine GL.done rfl ?_
  refine GQ.on ?_
  refine GW.toSeq rfl ?_
  refine GW.toReg rfl ?_
  refine GL.one rfl .no (S1.as (v := (.func _ _ _)) rfl) ?_
  refine GL.done rfl ?_
  refine GQ.on ?_
  refine GW.toRet rfl ?_
  refine GQ.ret (_, _, _, _, _) (.tmp (v := (.func _ _ _)) rfl rfl .nil) .one rfl ⟨p4, by dsimp only; omega, by dsimp only; omega⟩ (.cons (.s .z) (.app (.ts .tz) .nil))

theorem ct23 (h1 : Cell hr (.sl ly75) (.slice la ln lc)) (h2 : Cell hr (.sl ly80) (.slice ca cn cc)) (h3 : Cell hr (.sl ly47) (.slice ra rn rc)) (h4 : Cell hr (.sl ly89) (.slice ea en ec)) (h5 : Cell hr (.sl ly134) (.slice ta tn tc)) (h6 : Cell hr (.sl ly3) (.slice va vn vc)) (h7 : Cell hr (.sl ly47) (.slice wa wn wc))
    (G : GoodA hr (xsB la ln lc ca cn cc x2 x3 x4 ra rn rc ea en ec x7 ta tn tc x9 va vn vc wa wn wc x12) zero2 xb hb h) : ClN Try.prog 23 10 1000 hb xb h := by
  have p := PS.nn
  have hx := G.x
  have hne : xb ∉ [hb] := by simpa using G.ne
  have e0 : ([] : List Int).length = 0 := rfl
  have e1 : ([] : List ByteArray).length = 0 := rfl
  refine Ct.go Try.func23 rfl rfl co23 (Hp.start1 G.rom G.z G.zo) ?_
  refine GW.toSeq rfl ?_
  refine GW.toReg rfl ?_
  refine GL.one rfl .no (S1.as (v := .nilFunc) rfl) ?_
  refine GL.done rfl ?_
  refine GQ.on ?_
  refine GW.toSeq rfl ?_
  refine GW.toReg rfl ?_
  refine GL.one rfl .no (S1.fa fa33_0 rfl) ?_
  refine GL.one rfl .no (S1.ldA ag25 rfl (.old hx (by simp_all)) (by repeat constructor)) ?_
  refine GL.one rfl .no (S1.fa fa33_7 rfl) ?_
  refine GL.one rfl .no (S1.ldA ag30 rfl (.old hx (by simp_all)) (by repeat constructor)) ?_
  refine GL.one rfl .no (S1.fa fa33_8 rfl) ?_
  refine GL.one rfl .no (S1.ld sc31 rfl (.old hx (by simp_all)) rfl) ?_
  refine GL.call rfl .no fo24 .nil (fun h H => ct24 H.rom h1 h2 h5 h6) (.d (.c (v := (.agg _)) rfl (.c (v := (.agg _)) rfl (.c (v := (.slice _ _ _)) rfl .n)))) (fun x24' _ => ?_)
  refine GL.one rfl .no (S1.mv (v := (.tuple _)) rfl) ?_
  refine GL.one rfl .no (S1.ext (v := (.int _ _)) rfl rfl) ?_
  refine GL.one rfl .no (S1.ext (v := (.int _ _)) rfl rfl) ?_
  refine GL.one rfl .no (S1.as (v := (.int _ _)) rfl) ?_
  refine GL.one rfl .no (S1.as (v := (.int _ _)) rfl) ?_
  refine GL.done rfl ?_
  refine GQ.on ?_
  refine GW.toSeq rfl ?_
  refine GW.toReg rfl ?_
  refine GL.one rfl .no (S1.mv (v := (.pointer _)) rfl) ?_
  refine GL.one rfl .no (S1.mv (v := (.int _ _)) rfl) ?_
  refine GL.put rfl .no fo8 (ct8) p (.cons .z .nil) (by omega) (by omega) (.d (.c (v := (.pointer _)) rfl (.c (v := (.int _ _)) rfl .n))) (fun vn2 vs2 E2 ns2 ss2 p2 lN2 lS2 => ?_)
  refine GL.done rfl ?_
  refine GQ.on ?_
  refine GW.toSeq rfl ?_
  refine GW.toReg rfl ?_
  refine GL.one rfl .no (S1.mv (v := (.pointer _)) rfl) ?_
  refine GL.one rfl .no (S1.mv (v := (.int _ _)) rfl) ?_
  refine GL.put rfl .no fo9 (ct9) p2 (.cons .z .tz) (by omega) (by omega) (.d (.c (v := (.pointer _)) rfl (.c (v := (.int _ _)) rfl .n))) (fun vn3 vs3 E3 ns3 ss3 p3 lN3 lS3 => ?_)
  refine GL.done rfl ?_
  refine GQ.on ?_
  refine GW.toSeq rfl ?_
  refine GW.toReg rfl ?_
  refine GL.one rfl .no (S1.as (v := (.func _ _ _)) rfl) ?_
  refine GL.done rfl ?_
  refine GQ.on ?_
  refine GW.toRet rfl ?_
  refine GQ.ret (_, _, _, _, _) (.tmp (v := (.func _ _ _)) rfl rfl .nil) .one rfl ⟨p3, by dsimp only; omega, by dsimp only; omega⟩ (.cons .z (.app .tz .nil))

theorem ct25 (h1 : Cell hr (.sl ly75) (.slice la ln lc)) (h2 : Cell hr (.sl ly80) (.slice ca cn cc)) (h3 : Cell hr (.sl ly47) (.slice ra rn rc)) (h4 : Cell hr (.sl ly89) (.slice ea en ec)) (h5 : Cell hr (.sl ly134) (.slice ta tn tc)) (h6 : Cell hr (.sl ly3) (.slice va vn vc)) (h7 : Cell hr (.sl ly47) (.slice wa wn wc))
    (G : GoodA hr (xsB la ln lc ca cn cc x2 x3 x4 ra rn rc ea en ec x7 ta tn tc x9 va vn vc wa wn wc x12) zero2 xb hb h) : ClN Try.prog 25 10 1000 hb xb h := by
  have p := PS.nn
  have hx := G.x
  have hne : xb ∉ [hb] := by simpa using G.ne
  have e0 : ([] : List Int).length = 0 := rfl
  have e1 : ([] : List ByteArray).length = 0 := rfl
  refine Ct.go Try.func25 rfl rfl co25 (Hp.start1 G.rom G.z G.zo) ?_
  refine GW.toSeq rfl ?_
  refine GW.toReg rfl ?_
  refine GL.one rfl .no (S1.as (v := .nilFunc) rfl) ?_
  refine GL.done rfl ?_
  refine GQ.on ?_
  refine GW.toSeq rfl ?_
  refine GW.toReg rfl ?_
  refine GL.one rfl .no (S1.fa fa33_0 rfl) ?_
  refine GL.one rfl .no (S1.ldA ag25 rfl (.old hx (by simp_all)) (by repeat constructor)) ?_
  refine GL.one rfl .no (S1.fa fa33_7 rfl) ?_
  refine GL.one rfl .no (S1.ldA ag30 rfl (.old hx (by simp_all)) (by repeat constructor)) ?_
  refine GL.one rfl .no (S1.fa fa33_9 rfl) ?_
  refine GL.one rfl .no (S1.ld sc26 rfl (.old hx (by simp_all)) rfl) ?_
  refine GL.one rfl .no (S1.fa fa33_10 rfl) ?_
  refine GL.one rfl .no (S1.ld sc3 rfl (.old hx (by simp_all)) rfl) ?_
  refine GL.call rfl .no fo26 .nil (fun h H => ct26 H.rom h1 h2 h5 h7) (.d (.c (v := (.agg _)) rfl (.c (v := (.agg _)) rfl (.c (v := (.slice _ _ _)) rfl (.c (v := (.int _ _)) rfl .n))))) (fun x26' _ => ?_)
  refine GL.one rfl .no (S1.mv (v := (.tuple _)) rfl) ?_
  refine GL.one rfl .no (S1.ext (v := (.bool _)) rfl rfl) ?_
  refine GL.one rfl .no (S1.ext (v := (.int _ _)) rfl rfl) ?_
  refine GL.one rfl .no (S1.ext (v := (.int _ _)) rfl rfl) ?_
  refine GL.one rfl .no (S1.ext (v := (.int _ _)) rfl rfl) ?_
  refine GL.one rfl .no (S1.as (v := (.bool _)) rfl) ?_
  refine GL.one rfl .no (S1.as (v := (.int _ _)) rfl) ?_
  refine GL.one rfl .no (S1.as (v := (.int _ _)) rfl) ?_
  refine GL.one rfl .no (S1.as (v := (.int _ _)) rfl) ?_
  refine GL.done rfl ?_
  refine GQ.on ?_
  refine GW.toSeq rfl ?_
  refine GW.toReg rfl ?_
  refine GL.one rfl .no (S1.mv (v := (.pointer _)) rfl) ?_
  refine GL.one rfl .no (S1.mv (v := (.bool _)) rfl) ?_
  refine GL.put rfl .no fo27 (ct27) p (.cons .z .nil) (by omega) (by omega) (.d (.c (v := (.pointer _)) rfl (.c (v := (.bool _)) rfl .n))) (fun vn2 vs2 E2 ns2 ss2 p2 lN2 lS2 => ?_)
  refine GL.done rfl ?_
  refine GQ.on ?_
  refine GW.toSeq rfl ?_
  refine GW.toReg rfl ?_
  refine GL.one rfl .no (S1.mv (v := (.pointer _)) rfl) ?_
  refine GL.one rfl .no (S1.mv (v := (.int _ _)) rfl) ?_
  refine GL.put rfl .no fo8 (ct8) p2 (.cons .z .tz) (by omega) (by omega) (.d (.c (v := (.pointer _)) rfl (.c (v := (.int _ _)) rfl .n))) (fun vn3 vs3 E3 ns3 ss3 p3 lN3 lS3 => ?_)
  refine GL.done rfl ?_
  refine GQ.on ?_
  refine GW.toSeq rfl ?_
  refine GW.toReg rfl ?_
  refine GL.one rfl .no (S1.mv (v := (.pointer _)) rfl) ?_
  refine GL.one rfl .no (S1.mv (v := (.int _ _)) rfl) ?_
  refine GL.put rfl .no fo8 (ct8) p3 (.cons .z .tz) (by omega) (by omega) (.d (.c (v := (.pointer _)) rfl (.c (v := (.int _ _)) rfl .n))) (fun vn4 vs4 E4 ns4 ss4 p4 lN4 lS4 => ?_)
  refine GL.done rfl ?_
  refine GQ.on ?_
  refine GW.toSeq rfl ?_
  refine GW.toReg rfl ?_
  refine GL.one rfl .no (S1.mv (v := (.pointer _)) rfl) ?_
  refine GL.one rfl .no (S1.mv (v := (.int _ _)) rfl) ?_
  refine GL.put rfl .no fo9 (ct9) p4 (.cons .z .tz) (by omega) (by omega) (.d (.c (v := (.pointer _)) rfl (.c (v := (.int _ _)) rfl .n))) (fun vn5 vs5 E5 ns5 ss5 p5 lN5 lS5 => ?_)
  refine GL.done rfl ?_
  refine GQ.on ?_
  refine GW.toSeq rfl ?_
  refine GW.toReg rfl ?_
  refine GL.one rfl .no (S1.as (v := (.func _ _ _)) rfl) ?_
  refine GL.done rfl ?_
  refine GQ.on ?_
  refine GW.toRet rfl ?_
  refine GQ.ret (_, _, _, _, _) (.tmp (v := (.func _ _ _)) rfl rfl .nil) .one rfl ⟨p5, by dsimp only; omega, by dsimp only; omega⟩ (.cons .z (.app .tz .nil))

theorem ct16 (h1 : Cell hr (.sl ly75) (.slice la ln lc)) (h2 : Cell hr (.sl ly80) (.slice ca cn cc)) (h3 : Cell hr (.sl ly47) (.slice ra rn rc)) (h4 : Cell hr (.sl ly89) (.slice ea en ec)) (h5 : Cell hr (.sl ly134) (.slice ta tn tc)) (h6 : Cell hr (.sl ly3) (.slice va vn vc)) (h7 : Cell hr (.sl ly47) (.slice wa wn wc))
    (G : GoodA hr (xsB la ln lc ca cn cc x2 x3 x4 ra rn rc ea en ec x7 ta tn tc x9 va vn vc wa wn wc x12) zero2 xb hb h) : ClW Try.prog 16 19 1000 hb xb h (fun x => [.pointer (some ⟨x.1, 0, none⟩)]) BW (fun x => OR wy47 x.2.1 x.2.2.1 x.2.2.2) := by
  have p := PS.nn
  have hx := G.x
  have hne : xb ∉ [hb] := by simpa using G.ne
  have e0 : ([] : List Int).length = 0 := rfl
  have e1 : ([] : List ByteArray).length = 0 := rfl
  refine Ct.go Try.func16 rfl rfl co16 (Hp.start1 G.rom G.z G.zo) ?_
  refine GW.toSeq rfl ?_
  refine GW.toReg rfl ?_
  refine GL.one rfl .no (S1.as (v := .nilFunc) rfl) ?_
  refine GL.done rfl ?_
  refine GQ.on ?_
  refine GW.toSeq rfl ?_
  refine GW.toReg rfl ?_
  refine GL.one rfl .no (S1.fa fa33_0 rfl) ?_
  refine GL.one rfl .no (S1.ldA ag25 rfl (.old hx (by simp_all)) (by repeat constructor)) ?_
  refine GL.one rfl .no (S1.fa fa33_4 rfl) ?_
  refine GL.one rfl .no (S1.ld sc26 rfl (.old hx (by simp_all)) rfl) ?_
  refine GL.one rfl .no (S1.fa fa33_5 rfl) ?_
  refine GL.one rfl .no (S1.ld sc27 rfl (.old hx (by simp_all)) rfl) ?_
  refine GL.one rfl .no (S1.fa fa33_6 rfl) ?_
  refine GL.one rfl .no (S1.ld sc3 rfl (.old hx (by simp_all)) rfl) ?_
  refine GL.call rfl .no fo17 .nil (fun h H => ct17 H.rom h1 h2 h3 h4) (.d (.c (v := (.agg _)) rfl (.c (v := (.slice _ _ _)) rfl (.c (v := (.slice _ _ _)) rfl (.c (v := (.int _ _)) rfl .n))))) (fun x ⟨o0, l0⟩ => ?_)
  refine GL.one rfl .no (S1.mv (v := (.tuple _)) rfl) ?_
  refine GL.one rfl .no (S1.ext (v := (x.1)) rfl rfl) ?_
  refine GL.one rfl .no (S1.ext (v := (.int _ _)) rfl rfl) ?_
  refine GL.opN rfl .no (SN.al zc26) (fun a2 => ?_)
  refine GL.one rfl .no (S1.st (u := (x.1)) sc26 rfl rfl (by first | (apply NR.okv; assumption) | (apply OR.okv; assumption)) (by repeat constructor) .z) ?_
  refine GL.one rfl .no (S1.as (v := (.int _ _)) rfl) ?_
  refine GL.done rfl ?_
  refine GQ.on ?_
  refine GW.toSeq rfl ?_
  refine GW.toReg rfl ?_
  refine GL.one rfl .no (S1.mv (v := (.pointer _)) rfl) ?_
  refine GL.one rfl .no (S1.ld sc26 rfl (.at .z) rfl) ?_
  refine GL.putB (B := x.2.1) rfl .no fo18 p (.cons (.s (.sA .z)) .nil) (.ts .tzA) (o0.put (z := 2) rfl rfl (fun _ _ _ _ h => ct18 h) (fun _ h => h)) (by omega) (by omega) (.d (.c (v := (.pointer _)) rfl (.c (v := (x.1)) rfl .n))) (fun vn3 vs3 E3 ns3 ss3 p3 lN3 lS3 => ?_)
  refine GL.done rfl ?_
  refine GQ.on ?_
  refine GW.toSeq rfl ?_
  refine GW.toReg rfl ?_
  refine GL.one rfl .no (S1.mv (v := (.pointer _)) rfl) ?_
  refine GL.one rfl .no (S1.mv (v := (.int _ _)) rfl) ?_
  refine GL.put rfl .no fo9 (ct9) p3 (.cons (.s (.asc (.sA .z))) (.ts (.skA .tz))) (by omega) (by omega) (.d (.c (v := (.pointer _)) rfl (.c (v := (.int _ _)) rfl .n))) (fun vn4 vs4 E4 ns4 ss4 p4 lN4 lS4 => ?_)
  refine GL.done rfl ?_
  refine GQ.on ?_
  refine GW.toSeq rfl ?_
  refine GW.toReg rfl ?_
  refine GL.one rfl .no (S1.mf .n (.c (v := (.pointer _)) rfl .n)) ?_
  refine GL.one rfl .no (S1.as (v := (.func _ _ _)) rfl) ?_
  refine GL.done rfl ?_
  refine GQ.on ?_
  refine GW.toRet rfl ?_
  refine GQ.ret ((_, _, _, _, _), (a2, x.1, x.2.1, x.2.2.1)) (.tmp (v := (.func _ _ _)) rfl rfl .nil) .one rfl ⟨⟨p4, by dsimp only; omega, by dsimp only; omega⟩, o0⟩ (.cons (.s (.asc (.sA .z))) (.app (.ts (.skA .tz)) (.cons .z .tzA)))

theorem ct28 (h1 : Cell hr (.sl ly75) (.slice la ln lc)) (h2 : Cell hr (.sl ly80) (.slice ca cn cc)) (h3 : Cell hr (.sl ly47) (.slice ra rn rc)) (h4 : Cell hr (.sl ly89) (.slice ea en ec)) (h5 : Cell hr (.sl ly134) (.slice ta tn tc)) (h6 : Cell hr (.sl ly3) (.slice va vn vc)) (h7 : Cell hr (.sl ly47) (.slice wa wn wc))
    (G : GoodA hr (xsB la ln lc ca cn cc x2 x3 x4 ra rn rc ea en ec x7 ta tn tc x9 va vn vc wa wn wc x12) zero2 xb hb h) : ClW Try.prog 28 31 1000 hb xb h (fun x => [.pointer (some ⟨x.1, 0, none⟩)]) BW (fun x => OR wy3 x.2.1 x.2.2.1 x.2.2.2) := by
  have p := PS.nn
  have hx := G.x
  have hne : xb ∉ [hb] := by simpa using G.ne
  have e0 : ([] : List Int).length = 0 := rfl
  have e1 : ([] : List ByteArray).length = 0 := rfl
  refine Ct.go Try.func28 rfl rfl co28 (Hp.start1 G.rom G.z G.zo) ?_
  refine GW.toSeq rfl ?_
  refine GW.toReg rfl ?_
  refine GL.one rfl .no (S1.as (v := .nilFunc) rfl) ?_
  refine GL.done rfl ?_
  refine GQ.on ?_
  refine GW.toSeq rfl ?_
  refine GW.toReg rfl ?_
  refine GL.one rfl .no (S1.fa fa33_0 rfl) ?_
  refine GL.one rfl .no (S1.ldA ag25 rfl (.old hx (by simp_all)) (by repeat constructor)) ?_
  refine GL.one rfl .no (S1.fa fa33_7 rfl) ?_
  refine GL.one rfl .no (S1.ldA ag30 rfl (.old hx (by simp_all)) (by repeat constructor)) ?_
  refine GL.one rfl .no (S1.fa fa33_9 rfl) ?_
  refine GL.one rfl .no (S1.ld sc26 rfl (.old hx (by simp_all)) rfl) ?_
  refine GL.one rfl .no (S1.fa fa33_10 rfl) ?_
  refine GL.one rfl .no (S1.ld sc3 rfl (.old hx (by simp_all)) rfl) ?_
  refine GL.call rfl .no fo29 .nil (fun h H => ct29 H.rom h1 h2 h5 h7) (.d (.c (v := (.agg _)) rfl (.c (v := (.agg _)) rfl (.c (v := (.slice _ _ _)) rfl (.c (v := (.int _ _)) rfl .n))))) (fun x ⟨o0, l0⟩ => ?_)
  refine GL.one rfl .no (S1.mv (v := (.tuple _)) rfl) ?_
  refine GL.one rfl .no (S1.ext (v := (x.1)) rfl rfl) ?_
  refine GL.one rfl .no (S1.ext (v := (.int _ _)) rfl rfl) ?_
  refine GL.opN rfl .no (SN.al zc31) (fun a2 => ?_)
  refine GL.one rfl .no (S1.st (u := (x.1)) sc31 rfl rfl (by first | (apply NR.okv; assumption) | (apply OR.okv; assumption)) (by repeat constructor) .z) ?_
  refine GL.one rfl .no (S1.as (v := (.int _ _)) rfl) ?_
  refine GL.done rfl ?_
  refine GQ.on ?_
  refine GW.toSeq rfl ?_
  refine GW.toReg rfl ?_
  refine GL.one rfl .no (S1.mv (v := (.pointer _)) rfl) ?_
  refine GL.one rfl .no (S1.ld sc31 rfl (.at .z) rfl) ?_
  refine GL.putB (B := x.2.1) rfl .no fo30 p (.cons (.s (.sA .z)) .nil) (.ts .tzA) (o0.put (z := 1) rfl rfl (fun _ _ _ _ h => ct30 h) (fun _ h => h)) (by omega) (by omega) (.d (.c (v := (.pointer _)) rfl (.c (v := (x.1)) rfl .n))) (fun vn3 vs3 E3 ns3 ss3 p3 lN3 lS3 => ?_)
  refine GL.done rfl ?_
  refine GQ.on ?_
  refine GW.toSeq rfl ?_
  refine GW.toReg rfl ?_
  refine GL.one rfl .no (S1.mv (v := (.pointer _)) rfl) ?_
  refine GL.one rfl .no (S1.mv (v := (.int _ _)) rfl) ?_
  refine GL.put rfl .no fo9 (ct9) p3 (.cons (.s (.asc (.sA .z))) (.ts (.skA .tz))) (by omega) (by omega) (.d (.c (v := (.pointer _)) rfl (.c (v := (.int _ _)) rfl .n))) (fun vn4 vs4 E4 ns4 ss4 p4 lN4 lS4 => ?_)
  refine GL.done rfl ?_
  refine GQ.on ?_
  refine GW.toSeq rfl ?_
  refine GW.toReg rfl ?_
  refine GL.one rfl .no (S1.mf .n (.c (v := (.pointer _)) rfl .n)) ?_
  refine GL.one rfl .no (S1.as (v := (.func _ _ _)) rfl) ?_
  refine GL.done rfl ?_
  refine GQ.on ?_
  refine GW.toRet rfl ?_
  refine GQ.ret ((_, _, _, _, _), (a2, x.1, x.2.1, x.2.2.1)) (.tmp (v := (.func _ _ _)) rfl rfl .nil) .one rfl ⟨⟨p4, by dsimp only; omega, by dsimp only; omega⟩, o0⟩ (.cons (.s (.asc (.sA .z))) (.app (.ts (.skA .tz)) (.cons .z .tzA)))

end
end Go.Proofs.Ytmlknglgijeepaa
