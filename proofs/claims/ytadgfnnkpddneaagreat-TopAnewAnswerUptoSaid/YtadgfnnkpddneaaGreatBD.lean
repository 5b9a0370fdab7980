/- B22: contracts: how results are written over. -/
import Derived.Test.YtadgfnnkpddneaaGreatBC
import Derived.Test.YtadgfnnkpddneaaGreatBB
set_option linter.all false
set_option linter.constructorNameAsVariable false
set_option linter.unusedSimpArgs false
set_option linter.unusedVariables false
set_option linter.unusedSectionVars false
set_option linter.unnecessarySimpa false
namespace Go.Proofs.YtadgfnnkpddneaaGreat
open Go Go.E
set_option maxRecDepth 100000
set_option maxHeartbeats 2000000

theorem ct10 {h : EH} : Ct Tryz.prog 10 ⟨[]⟩ h [] (fun _ : Unit => .tuple #[]) (fun _ => True) (fun _ => []) := by
  refine Ct.go Tryz.func10 rfl rfl co10 (Hp.start (hr := fun _ => none) (by simp)) ?_
  refine GW.toSkip rfl ?_
  refine GQ.retN () .nil .z ?_ ?_ .nil
  rfl
  exact trivial

section
variable {h : EH} {b0 : Nat} {v0 : Value} {E0 : Ents} {m0 : Nat}
abbrev BW (x : Nat × Value × Ents × Nat) : Ents := (x.1, .cells [x.2.1] none true) :: x.2.2.1
theorem ct15 (x : Nat × Value × Ents × Nat) (o0 : OR wy3 x.2.1 x.2.2.1 x.2.2.2) (H : Hp (fun _ => none) h ((BW x).map (·.1)) (BW x) h) :
    Ct Tryz.prog 15 ⟨[.pointer (some ⟨x.1, 0, none⟩)]⟩ h ((BW x).map (·.1)) (fun _ : Unit => .tuple #[]) (fun _ => True) (fun _ => []) := by
  obtain ⟨b0, v0, E0, m0⟩ := x
  dsimp only [BW] at H o0 ⊢
  refine Ct.go Tryz.func15 rfl rfl co15 H ?_
  refine GW.toReg rfl ?_
  refine GL.call rfl .no fo16 (show Take _ ((b0, _) :: E0) _ from .tz) (fun h H => cw16 _ _ _ _ _ _ _ rfl o0 (H.give (show Take _ ((b0, _) :: E0) _ from .tz))) (.d (.c (v := (.pointer _)) rfl .n)) (fun E0' p0 => ?_)
  refine GL.done rfl ?_
  refine GQ.retN () .nil .z ?_ ?_ .nil
  rfl
  exact trivial

theorem ct21 (x : Nat × Value × Ents × Nat) (o0 : OR wy3 x.2.1 x.2.2.1 x.2.2.2) (H : Hp (fun _ => none) h ((BW x).map (·.1)) (BW x) h) :
    Ct Tryz.prog 21 ⟨[.pointer (some ⟨x.1, 0, none⟩)]⟩ h ((BW x).map (·.1)) (fun _ : Unit => .tuple #[]) (fun _ => True) (fun _ => []) := by
  obtain ⟨b0, v0, E0, m0⟩ := x
  dsimp only [BW] at H o0 ⊢
  refine Ct.go Tryz.func21 rfl rfl co21 H ?_
  refine GW.toReg rfl ?_
  refine GL.call rfl .no fo16 (show Take _ ((b0, _) :: E0) _ from .tz) (fun h H => cw16 _ _ _ _ _ _ _ rfl o0 (H.give (show Take _ ((b0, _) :: E0) _ from .tz))) (.d (.c (v := (.pointer _)) rfl .n)) (fun E0' p0 => ?_)
  refine GL.done rfl ?_
  refine GQ.retN () .nil .z ?_ ?_ .nil
  rfl
  exact trivial

theorem ct25 (x : Nat × Value × Ents × Nat) (o0 : OR wy59 x.2.1 x.2.2.1 x.2.2.2) (H : Hp (fun _ => none) h ((BW x).map (·.1)) (BW x) h) :
    Ct Tryz.prog 25 ⟨[.pointer (some ⟨x.1, 0, none⟩)]⟩ h ((BW x).map (·.1)) (fun _ : Unit => .tuple #[]) (fun _ => True) (fun _ => []) := by
  obtain ⟨b0, v0, E0, m0⟩ := x
  dsimp only [BW] at H o0 ⊢
  refine Ct.go Tryz.func25 rfl rfl co25 H ?_
  refine GW.toReg rfl ?_
  refine GL.call rfl .no fo26 (show Take _ ((b0, _) :: E0) _ from .tz) (fun h H => cw26 _ _ _ _ _ _ _ rfl o0 (H.give (show Take _ ((b0, _) :: E0) _ from .tz))) (.d (.c (v := (.pointer _)) rfl .n)) (fun E0' p0 => ?_)
  refine GL.done rfl ?_
  refine GQ.retN () .nil .z ?_ ?_ .nil
  rfl
  exact trivial

theorem ct38 (x : Nat × Value × Ents × Nat) (o0 : OR wy120 x.2.1 x.2.2.1 x.2.2.2) (H : Hp (fun _ => none) h ((BW x).map (·.1)) (BW x) h) :
    Ct Tryz.prog 38 ⟨[.pointer (some ⟨x.1, 0, none⟩)]⟩ h ((BW x).map (·.1)) (fun _ : Unit => .tuple #[]) (fun _ => True) (fun _ => []) := by
  obtain ⟨b0, v0, E0, m0⟩ := x
  dsimp only [BW] at H o0 ⊢
  refine Ct.go Tryz.func38 rfl rfl co38 H ?_
  refine GW.toReg rfl ?_
  refine GL.call rfl .no fo39 (show Take _ ((b0, _) :: E0) _ from .tz) (fun h H => cw39 _ _ _ _ _ _ _ rfl o0 (H.give (show Take _ ((b0, _) :: E0) _ from .tz))) (.d (.c (v := (.pointer _)) rfl .n)) (fun E0' p0 => ?_)
  refine GL.done rfl ?_
  refine GQ.retN () .nil .z ?_ ?_ .nil
  rfl
  exact trivial

end

section
variable {h : EH} {b : Nat} {v1 v2 : Value} {E1 E2 : Ents} {m1 m2 : Nat} {al : Int}
theorem cw34 (o1 : OR wy81 v1 E1 m1) (o2 : OR wy3 v2 E2 m2) (H : Hp (fun _ => none) h (((b, .cells [v1, v2, .int .i64 al] none true) :: (E1 ++ E2) : Ents).map (·.1)) ((b, .cells [v1, v2, .int .i64 al] none true) :: (E1 ++ E2)) h) :
    Ct Tryz.prog 34 ⟨[.pointer (some ⟨b, 0, none⟩)]⟩ h (((b, .cells [v1, v2, .int .i64 al] none true) :: (E1 ++ E2) : Ents).map (·.1)) (fun _ : Unit => .tuple #[]) (fun _ => True) (fun _ => []) := by
  refine Ct.go Tryz.func34 rfl rfl co34 H ?_
  refine GW.sr rfl rfl ?_
  refine GL.o rfl (S1.mvP rfl) ?_
  refine GL.o rfl (S1.nc rfl) ?_
  refine GL.o rfl (S1.fa fa25_0 rfl) ?_
  refine GL.call rfl .no fo69 (show Take _ ((b, _) :: E1) _ from (.cons .z .tzA)) (fun h H => cw69 _ _ _ _ _ _ _ rfl o1 (H.give (show Take _ ((b, _) :: E1) _ from (.cons .z .tzA)))) (.d (.c (v := (.pointer _)) rfl .n)) (fun E1' p1 => ?_)
  refine GL.dn rfl ?_
  refine GW.sr rfl rfl ?_
  refine GL.o rfl (S1.mvP rfl) ?_
  refine GL.o rfl (S1.nc rfl) ?_
  refine GL.o rfl (S1.fa fa25_1 rfl) ?_
  refine GL.call rfl .no fo16 (show Take _ ((b, _) :: E2) _ from (.cons .z (.skA .tz))) (fun h H => cw16 _ _ _ _ _ _ _ rfl o2 (H.give (show Take _ ((b, _) :: E2) _ from (.cons .z (.skA .tz))))) (.d (.c (v := (.pointer _)) rfl .n)) (fun E2' p2 => ?_)
  refine GL.dn rfl ?_
  refine GW.toReg rfl ?_
  refine GL.o rfl (S1.mvP rfl) ?_
  refine GL.o rfl (S1.nc rfl) ?_
  refine GL.o rfl (S1.fa fa25_2 rfl) ?_
  refine GL.call rfl .no fo50 (show Take _ [(b, _)] _ from (.cons .z .nil)) (fun h H => cw50 (by simp) (H.give (show Take _ [(b, _)] _ from (.cons .z .nil)))) (.d (.c (v := (.pointer _)) rfl .n)) (fun _ _ => ?_)
  refine GL.done rfl ?_
  refine GQ.retN () .nil .z ?_ ?_ .nil
  rfl
  exact trivial

abbrev B33 (x : Nat × Sk) : Ents := (x.1, .cells [x.2.v1, x.2.v2, .int .i64 x.2.al] none true) :: (x.2.E1 ++ x.2.E2)
theorem ct33 (x : Nat × Sk) (q : OR wy81 x.2.v1 x.2.E1 x.2.m1 ∧ OR wy3 x.2.v2 x.2.E2 x.2.m2) (H : Hp (fun _ => none) h ((B33 x).map (·.1)) (B33 x) h) :
    Ct Tryz.prog 33 ⟨[.pointer (some ⟨x.1, 0, none⟩)]⟩ h ((B33 x).map (·.1)) (fun _ : Unit => .tuple #[]) (fun _ => True) (fun _ => []) := by
  obtain ⟨b, v1, E1, m1, v2, E2, m2, al, e⟩ := x
  obtain ⟨o1, o2⟩ := q
  dsimp only [B33] at H o1 o2 ⊢
  refine Ct.go Tryz.func33 rfl rfl co33 H ?_
  refine GW.toReg rfl ?_
  refine GL.call rfl .no fo34 (show Take _ ((b, _) :: (E1 ++ E2)) _ from .tz) (fun h H => cw34 o1 o2 (H.give (show Take _ ((b, _) :: (E1 ++ E2)) _ from .tz))) (.d (.c (v := (.pointer _)) rfl .n)) (fun _ _ => ?_)
  refine GL.done rfl ?_
  refine GQ.retN () .nil .z ?_ ?_ .nil
  rfl
  exact trivial

theorem p32 (o1 : OR wy81 v1 E1 m1) (o2 : OR wy3 v2 E2 m2) (hn : ((E1 ++ E2 : Ents).map (·.1)).Nodup) : PutCt Tryz.prog (roOf (E1 ++ E2)) 32 [.agg ⟨[v1, v2, .int .i64 al]⟩] (3 + m1 * 5 + m2) (3 + m1 * 5 + m2) := by
  have c1 := o1.cell hn (fun p hp => by simp [hp])
  have c2 := o2.cell hn (fun p hp => by simp [hp])
  obtain ⟨a1, k1, rfl⟩ := o1.eta
  obtain ⟨a2, k2, rfl⟩ := o2.eta
  have := ct32 (x2 := al) c1 c2
  rw [o1.bk rfl, o2.bk rfl, show wy81.length = 5 from rfl, show wy3.length = 1 from rfl] at this
  exact this.le (by omega) (by omega)
end
end Go.Proofs.YtadgfnnkpddneaaGreat
namespace Go.Proofs.YtadgfnnkpddneaaGreat
open Go Go.E
set_option maxRecDepth 100000
set_option maxHeartbeats 4000000


section
variable {h : EH} {hr : RO} {xb hb : Nat} {qa : Option Addr} {qn qc : Nat} {pa : Option Addr} {pn pc : Nat} {x2 : Int} {sa : Option Addr} {sn sc : Nat} {x4 : Int} {ta : Option Addr} {tn tc : Nat}
theorem ct6 (hq : Cell hr (.sl ly81) (.slice qa qn qc)) (hp : Cell hr (.sl ly3) (.slice pa pn pc)) (hs : Cell hr (.sl ly23) (.slice sa sn sc)) (ht : Cell hr (.sl ly26) (.slice ta tn tc))
    (G : GoodA hr (xsB qa qn qc pa pn pc x2 sa sn sc x4 ta tn tc) zero2 xb hb h) : ClN Tryz.prog 6 10 1000 hb xb h := by
  have p := PS.nn
  have hx := G.x
  have hne : xb ∉ [hb] := by simpa using G.ne
  have e0 : ([] : List Int).length = 0 := rfl
  have e1 : ([] : List ByteArray).length = 0 := rfl
  refine Ct.go Tryz.func6 rfl rfl co6 (Hp.start1 G.rom G.z G.zo) ?_
  refine GW.sr rfl rfl ?_
  refine GL.o rfl (S1.as (v := .nilFunc) rfl) ?_
  refine GL.dn rfl ?_
  refine GW.sr rfl rfl ?_
  refine GL.o rfl (S1.fa fa29_0 rfl) ?_
  refine GL.o rfl (S1.ldA ag25 rfl (.old hx (by simp_all)) (by repeat constructor)) ?_
  refine GL.call rfl .no fo7 .nil (fun h H => ct7 H.rom hq hp) (.d (.c (v := (.agg _)) rfl .n)) (fun ⟨u1, v1, w1⟩ _ => ?_)
  refine GL.o rfl (S1.mvT rfl) ?_
  refine GL.o rfl (S1.ext (v := (.int _ _)) rfl rfl) ?_
  refine GL.o rfl (S1.ext (v := (.int _ _)) rfl rfl) ?_
  refine GL.o rfl (S1.ext (v := (.int _ _)) rfl rfl) ?_
  refine GL.o rfl (S1.asI rfl) ?_
  refine GL.o rfl (S1.asI rfl) ?_
  refine GL.o rfl (S1.asI rfl) ?_
  refine GL.dn rfl ?_
  refine GW.sr rfl rfl ?_
  refine GL.o rfl (S1.mvP rfl) ?_
  refine GL.o rfl (S1.mvI rfl) ?_
  refine GL.put rfl .no fo8 (ct8) p (.cons .z .nil) (by omega) (by omega) (.d (.c (v := (.pointer _)) rfl (.c (v := (.int _ _)) rfl .n))) (fun vn2 vs2 E2 ns2 ss2 p2 lN2 lS2 => ?_)
  refine GL.dn rfl ?_
  refine GW.sr rfl rfl ?_
  refine GL.o rfl (S1.mvP rfl) ?_
  refine GL.o rfl (S1.mvI rfl) ?_
  refine GL.put rfl .no fo8 (ct8) p2 (.cons .z .tz) (by omega) (by omega) (.d (.c (v := (.pointer _)) rfl (.c (v := (.int _ _)) rfl .n))) (fun vn3 vs3 E3 ns3 ss3 p3 lN3 lS3 => ?_)
  refine GL.dn rfl ?_
  refine GW.sr rfl rfl ?_
  refine GL.o rfl (S1.mvP rfl) ?_
  refine GL.o rfl (S1.mvI rfl) ?_
  refine GL.put rfl .no fo9 (ct9) p3 (.cons .z .tz) (by omega) (by omega) (.d (.c (v := (.pointer _)) rfl (.c (v := (.int _ _)) rfl .n))) (fun vn4 vs4 E4 ns4 ss4 p4 lN4 lS4 => ?_)
  refine GL.dn rfl ?_
  refine GW.sr rfl rfl ?_
  refine GL.o rfl (S1.asF rfl) ?_
  refine GL.dn rfl ?_
  refine GW.toRet rfl ?_
  refine GQ.ret (_, _, _, _, _) (.tmp (v := (.func _ _ _)) rfl rfl .nil) .one rfl ⟨p4, by dsimp only; omega, by dsimp only; omega⟩ (.cons .z (.app .tz .nil))

theorem ct11 (hq : Cell hr (.sl ly81) (.slice qa qn qc)) (hp : Cell hr (.sl ly3) (.slice pa pn pc)) (hs : Cell hr (.sl ly23) (.slice sa sn sc)) (ht : Cell hr (.sl ly26) (.slice ta tn tc))
    (G : GoodA hr (xsB qa qn qc pa pn pc x2 sa sn sc x4 ta tn tc) zero2 xb hb h) : ClW Tryz.prog 11 15 1000 hb xb h (fun x => [.pointer (some ⟨x.1, 0, none⟩)]) BW (fun x => OR wy3 x.2.1 x.2.2.1 x.2.2.2) := by
  have p := PS.nn
  have hx := G.x
  have hne : xb ∉ [hb] := by simpa using G.ne
  have e0 : ([] : List Int).length = 0 := rfl
  have e1 : ([] : List ByteArray).length = 0 := rfl
  refine Ct.go Tryz.func11 rfl rfl co11 (Hp.start1 G.rom G.z G.zo) ?_
  refine GW.sr rfl rfl ?_
  refine GL.o rfl (S1.as (v := .nilFunc) rfl) ?_
  refine GL.dn rfl ?_
  refine GW.sr rfl rfl ?_
  refine GL.o rfl (S1.fa fa29_0 rfl) ?_
  refine GL.o rfl (S1.ldA ag25 rfl (.old hx (by simp_all)) (by repeat constructor)) ?_
  refine GL.o rfl (S1.fa fa29_1 rfl) ?_
  refine GL.o rfl (S1.ld sc26 rfl (.old hx (by simp_all)) rfl) ?_
  refine GL.call rfl .no fo12 .nil (fun h H => ct12 H.rom hq hp hs) (.d (.c (v := (.agg _)) rfl (.c (v := (.slice _ _ _)) rfl .n))) (fun x ⟨o0, l0⟩ => ?_)
  refine GL.o rfl (S1.mvT rfl) ?_
  refine GL.o rfl (S1.ext (v := (x.1)) rfl rfl) ?_
  refine GL.o rfl (S1.ext (v := (.bool _)) rfl rfl) ?_
  refine GL.o rfl (S1.ext (v := (.int _ _)) rfl rfl) ?_
  refine GL.opN rfl .no (SN.al zc23) (fun a2 => ?_)
  refine GL.o rfl (S1.st (u := (x.1)) sc23 rfl rfl (by first | (apply NR.okv; assumption) | (apply OR.okv; assumption)) (by repeat constructor) .z) ?_
  refine GL.o rfl (S1.asB rfl) ?_
  refine GL.o rfl (S1.asI rfl) ?_
  refine GL.dn rfl ?_
  refine GW.sr rfl rfl ?_
  refine GL.o rfl (S1.mvP rfl) ?_
  refine GL.o rfl (S1.ld sc23 rfl (.at .z) rfl) ?_
  refine GL.putB (B := x.2.1) rfl .no fo13 p (.cons (.s (.sA .z)) .nil) (.ts .tzA) (o0.put (z := 1) rfl rfl (fun _ _ _ _ h => ct13 h) (fun _ h => h)) (by omega) (by omega) (.d (.c (v := (.pointer _)) rfl (.c (v := (x.1)) rfl .n))) (fun vn3 vs3 E3 ns3 ss3 p3 lN3 lS3 => ?_)
  refine GL.dn rfl ?_
  refine GW.sr rfl rfl ?_
  refine GL.o rfl (S1.mvP rfl) ?_
  refine GL.o rfl (S1.mvB rfl) ?_
  refine GL.put rfl .no fo14 (ct14) p3 (.cons (.s (.asc (.sA .z))) (.ts (.skA .tz))) (by omega) (by omega) (.d (.c (v := (.pointer _)) rfl (.c (v := (.bool _)) rfl .n))) (fun vn4 vs4 E4 ns4 ss4 p4 lN4 lS4 => ?_)
  refine GL.dn rfl ?_
  refine GW.sr rfl rfl ?_
  refine GL.o rfl (S1.mvP rfl) ?_
  refine GL.o rfl (S1.mvI rfl) ?_
  refine GL.put rfl .no fo9 (ct9) p4 (.cons (.s (.asc (.sA .z))) (.ts (.skA .tz))) (by omega) (by omega) (.d (.c (v := (.pointer _)) rfl (.c (v := (.int _ _)) rfl .n))) (fun vn5 vs5 E5 ns5 ss5 p5 lN5 lS5 => ?_)
  refine GL.dn rfl ?_
  refine GW.sr rfl rfl ?_
  refine GL.o rfl (S1.mf .n (.c (v := (.pointer _)) rfl .n)) ?_
  refine GL.o rfl (S1.asF rfl) ?_
  refine GL.dn rfl ?_
  refine GW.toRet rfl ?_
  refine GQ.ret ((_, _, _, _, _), (a2, x.1, x.2.1, x.2.2.1)) (.tmp (v := (.func _ _ _)) rfl rfl .nil) .one rfl ⟨⟨p5, by dsimp only; omega, by dsimp only; omega⟩, o0⟩ (.cons (.s (.asc (.sA .z))) (.app (.ts (.skA .tz)) (.cons .z .tzA)))

theorem ct17 (hq : Cell hr (.sl ly81) (.slice qa qn qc)) (hp : Cell hr (.sl ly3) (.slice pa pn pc)) (hs : Cell hr (.sl ly23) (.slice sa sn sc)) (ht : Cell hr (.sl ly26) (.slice ta tn tc))
    (G : GoodA hr (xsB qa qn qc pa pn pc x2 sa sn sc x4 ta tn tc) zero2 xb hb h) : ClN Tryz.prog 17 10 1000 hb xb h := by
  have p := PS.nn
  have hx := G.x
  have hne : xb ∉ [hb] := by simpa using G.ne
  have e0 : ([] : List Int).length = 0 := rfl
  have e1 : ([] : List ByteArray).length = 0 := rfl
  refine Ct.go Tryz.func17 rfl rfl co17 (Hp.start1 G.rom G.z G.zo) ?_
  refine GW.sr rfl rfl ?_
  refine GL.o rfl (S1.as (v := .nilFunc) rfl) ?_
  refine GL.dn rfl ?_
  refine GW.sr rfl rfl ?_
  refine GL.o rfl (S1.fa fa29_0 rfl) ?_
  refine GL.o rfl (S1.ldA ag25 rfl (.old hx (by simp_all)) (by repeat constructor)) ?_
  refine GL.o rfl (S1.fa fa29_1 rfl) ?_
  refine GL.o rfl (S1.ld sc26 rfl (.old hx (by simp_all)) rfl) ?_
  refine GL.call rfl .no fo18 .nil (fun h H => ct18 H.rom hq hp hs) (.d (.c (v := (.agg _)) rfl (.c (v := (.slice _ _ _)) rfl .n))) (fun ⟨u1, v1⟩ _ => ?_)
  refine GL.o rfl (S1.mvT rfl) ?_
  refine GL.o rfl (S1.ext (v := (.int _ _)) rfl rfl) ?_
  refine GL.o rfl (S1.ext (v := (.int _ _)) rfl rfl) ?_
  refine GL.o rfl (S1.asI rfl) ?_
  refine GL.o rfl (S1.asI rfl) ?_
  refine GL.dn rfl ?_
  refine GW.sr rfl rfl ?_
  refine GL.o rfl (S1.mvP rfl) ?_
  refine GL.o rfl (S1.mvI rfl) ?_
  refine GL.put rfl .no fo8 (ct8) p (.cons .z .nil) (by omega) (by omega) (.d (.c (v := (.pointer _)) rfl (.c (v := (.int _ _)) rfl .n))) (fun vn2 vs2 E2 ns2 ss2 p2 lN2 lS2 => ?_)
  refine GL.dn rfl ?_
  refine GW.sr rfl rfl ?_
  refine GL.o rfl (S1.mvP rfl) ?_
  refine GL.o rfl (S1.mvI rfl) ?_
  refine GL.put rfl .no fo9 (ct9) p2 (.cons .z .tz) (by omega) (by omega) (.d (.c (v := (.pointer _)) rfl (.c (v := (.int _ _)) rfl .n))) (fun vn3 vs3 E3 ns3 ss3 p3 lN3 lS3 => ?_)
  refine GL.dn rfl ?_
  refine GW.sr rfl rfl ?_
  refine GL.o rfl (S1.asF rfl) ?_
  refine GL.dn rfl ?_
  refine GW.toRet rfl ?_
  refine GQ.ret (_, _, _, _, _) (.tmp (v := (.func _ _ _)) rfl rfl .nil) .one rfl ⟨p3, by dsimp only; omega, by dsimp only; omega⟩ (.cons .z (.app .tz .nil))

theorem ct19 (hq : Cell hr (.sl ly81) (.slice qa qn qc)) (hp : Cell hr (.sl ly3) (.slice pa pn pc)) (hs : Cell hr (.sl ly23) (.slice sa sn sc)) (ht : Cell hr (.sl ly26) (.slice ta tn tc))
    (G : GoodA hr (xsB qa qn qc pa pn pc x2 sa sn sc x4 ta tn tc) zero2 xb hb h) : ClW Tryz.prog 19 21 1000 hb xb h (fun x => [.pointer (some ⟨x.1, 0, none⟩)]) BW (fun x => OR wy3 x.2.1 x.2.2.1 x.2.2.2) := by
  have p := PS.nn
  have hx := G.x
  have hne : xb ∉ [hb] := by simpa using G.ne
  have e0 : ([] : List Int).length = 0 := rfl
  have e1 : ([] : List ByteArray).length = 0 := rfl
  refine Ct.go Tryz.func19 rfl rfl co19 (Hp.start1 G.rom G.z G.zo) ?_
  refine GW.sr rfl rfl ?_
  refine GL.o rfl (S1.as (v := .nilFunc) rfl) ?_
  refine GL.dn rfl ?_
  refine GW.sr rfl rfl ?_
  refine GL.o rfl (S1.fa fa29_0 rfl) ?_
  refine GL.o rfl (S1.ldA ag25 rfl (.old hx (by simp_all)) (by repeat constructor)) ?_
  refine GL.o rfl (S1.fa fa29_1 rfl) ?_
  refine GL.o rfl (S1.ld sc26 rfl (.old hx (by simp_all)) rfl) ?_
  refine GL.call rfl .no fo20 .nil (fun h H => ct20 H.rom hq hp hs) (.d (.c (v := (.agg _)) rfl (.c (v := (.slice _ _ _)) rfl .n))) (fun x ⟨o0, l0⟩ => ?_)
  refine GL.o rfl (S1.mvT rfl) ?_
  refine GL.o rfl (S1.ext (v := (x.1)) rfl rfl) ?_
  refine GL.o rfl (S1.ext (v := (.int _ _)) rfl rfl) ?_
  refine GL.opN rfl .no (SN.al zc23) (fun a2 => ?_)
  refine GL.o rfl (S1.st (u := (x.1)) sc23 rfl rfl (by first | (apply NR.okv; assumption) | (apply OR.okv; assumption)) (by repeat constructor) .z) ?_
  refine GL.o rfl (S1.asI rfl) ?_
  refine GL.dn rfl ?_
  refine GW.sr rfl rfl ?_
  refine GL.o rfl (S1.mvP rfl) ?_
  refine GL.o rfl (S1.ld sc23 rfl (.at .z) rfl) ?_
  refine GL.putB (B := x.2.1) rfl .no fo13 p (.cons (.s (.sA .z)) .nil) (.ts .tzA) (o0.put (z := 1) rfl rfl (fun _ _ _ _ h => ct13 h) (fun _ h => h)) (by omega) (by omega) (.d (.c (v := (.pointer _)) rfl (.c (v := (x.1)) rfl .n))) (fun vn3 vs3 E3 ns3 ss3 p3 lN3 lS3 => ?_)
  refine GL.dn rfl ?_
  refine GW.sr rfl rfl ?_
  refine GL.o rfl (S1.mvP rfl) ?_
  refine GL.o rfl (S1.mvI rfl) ?_
  refine GL.put rfl .no fo9 (ct9) p3 (.cons (.s (.asc (.sA .z))) (.ts (.skA .tz))) (by omega) (by omega) (.d (.c (v := (.pointer _)) rfl (.c (v := (.int _ _)) rfl .n))) (fun vn4 vs4 E4 ns4 ss4 p4 lN4 lS4 => ?_)
  refine GL.dn rfl ?_
  refine GW.sr rfl rfl ?_
  refine GL.o rfl (S1.mf .n (.c (v := (.pointer _)) rfl .n)) ?_
  refine GL.o rfl (S1.asF rfl) ?_
  refine GL.dn rfl ?_
  refine GW.toRet rfl ?_
  refine GQ.ret ((_, _, _, _, _), (a2, x.1, x.2.1, x.2.2.1)) (.tmp (v := (.func _ _ _)) rfl rfl .nil) .one rfl ⟨⟨p4, by dsimp only; omega, by dsimp only; omega⟩, o0⟩ (.cons (.s (.asc (.sA .z))) (.app (.ts (.skA .tz)) (.cons .z .tzA)))

theorem ct22 (hq : Cell hr (.sl ly81) (.slice qa qn qc)) (hp : Cell hr (.sl ly3) (.slice pa pn pc)) (hs : Cell hr (.sl ly23) (.slice sa sn sc)) (ht : Cell hr (.sl ly26) (.slice ta tn tc))
    (G : GoodA hr (xsB qa qn qc pa pn pc x2 sa sn sc x4 ta tn tc) zero2 xb hb h) : ClW Tryz.prog 22 25 1000 hb xb h (fun x => [.pointer (some ⟨x.1, 0, none⟩)]) BW (fun x => OR wy59 x.2.1 x.2.2.1 x.2.2.2) := by
  have p := PS.nn
  have hx := G.x
  have hne : xb ∉ [hb] := by simpa using G.ne
  have e0 : ([] : List Int).length = 0 := rfl
  have e1 : ([] : List ByteArray).length = 0 := rfl
  refine Ct.go Tryz.func22 rfl rfl co22 (Hp.start1 G.rom G.z G.zo) ?_
  refine GW.sr rfl rfl ?_
  refine GL.o rfl (S1.as (v := .nilFunc) rfl) ?_
  refine GL.dn rfl ?_
  refine GW.sr rfl rfl ?_
  refine GL.o rfl (S1.fa fa29_0 rfl) ?_
  refine GL.o rfl (S1.ldA ag25 rfl (.old hx (by simp_all)) (by repeat constructor)) ?_
  refine GL.o rfl (S1.fa fa29_1 rfl) ?_
  refine GL.o rfl (S1.ld sc26 rfl (.old hx (by simp_all)) rfl) ?_
  refine GL.call rfl .no fo23 .nil (fun h H => ct23 H.rom hq hp hs) (.d (.c (v := (.agg _)) rfl (.c (v := (.slice _ _ _)) rfl .n))) (fun x ⟨o0, l0⟩ => ?_)
  refine GL.o rfl (S1.mvT rfl) ?_
  refine GL.o rfl (S1.ext (v := (x.1)) rfl rfl) ?_
  refine GL.o rfl (S1.ext (v := (.int _ _)) rfl rfl) ?_
  refine GL.opN rfl .no (SN.al zc52) (fun a2 => ?_)
  refine GL.o rfl (S1.st (u := (x.1)) sc52 rfl rfl (by first | (apply NR.okv; assumption) | (apply OR.okv; assumption)) (by repeat constructor) .z) ?_
  refine GL.o rfl (S1.asI rfl) ?_
  refine GL.dn rfl ?_
  refine GW.sr rfl rfl ?_
  refine GL.o rfl (S1.mvP rfl) ?_
  refine GL.o rfl (S1.ld sc52 rfl (.at .z) rfl) ?_
  refine GL.putB (B := x.2.1) rfl .no fo24 p (.cons (.s (.sA .z)) .nil) (.ts .tzA) (o0.put (z := 2) rfl rfl (fun _ _ _ _ h => ct24 h) (fun _ h => h)) (by omega) (by omega) (.d (.c (v := (.pointer _)) rfl (.c (v := (x.1)) rfl .n))) (fun vn3 vs3 E3 ns3 ss3 p3 lN3 lS3 => ?_)
  refine GL.dn rfl ?_
  refine GW.sr rfl rfl ?_
  refine GL.o rfl (S1.mvP rfl) ?_
  refine GL.o rfl (S1.mvI rfl) ?_
  refine GL.put rfl .no fo9 (ct9) p3 (.cons (.s (.asc (.sA .z))) (.ts (.skA .tz))) (by omega) (by omega) (.d (.c (v := (.pointer _)) rfl (.c (v := (.int _ _)) rfl .n))) (fun vn4 vs4 E4 ns4 ss4 p4 lN4 lS4 => ?_)
  refine GL.dn rfl ?_
  refine GW.sr rfl rfl ?_
  refine GL.o rfl (S1.mf .n (.c (v := (.pointer _)) rfl .n)) ?_
  refine GL.o rfl (S1.asF rfl) ?_
  refine GL.dn rfl ?_
  refine GW.toRet rfl ?_
  refine GQ.ret ((_, _, _, _, _), (a2, x.1, x.2.1, x.2.2.1)) (.tmp (v := (.func _ _ _)) rfl rfl .nil) .one rfl ⟨⟨p4, by dsimp only; omega, by dsimp only; omega⟩, o0⟩ (.cons (.s (.asc (.sA .z))) (.app (.ts (.skA .tz)) (.cons .z .tzA)))

theorem ct27 (hq : Cell hr (.sl ly81) (.slice qa qn qc)) (hp : Cell hr (.sl ly3) (.slice pa pn pc)) (hs : Cell hr (.sl ly23) (.slice sa sn sc)) (ht : Cell hr (.sl ly26) (.slice ta tn tc))
    (G : GoodA hr (xsB qa qn qc pa pn pc x2 sa sn sc x4 ta tn tc) zero2 xb hb h) : ClN Tryz.prog 27 10 1000 hb xb h := by
  have p := PS.nn
  have hx := G.x
  have hne : xb ∉ [hb] := by simpa using G.ne
  have e0 : ([] : List Int).length = 0 := rfl
  have e1 : ([] : List ByteArray).length = 0 := rfl
  refine Ct.go Tryz.func27 rfl rfl co27 (Hp.start1 G.rom G.z G.zo) ?_
  refine GW.sr rfl rfl ?_
  refine GL.o rfl (S1.as (v := .nilFunc) rfl) ?_
  refine GL.dn rfl ?_
  refine GW.sr rfl rfl ?_
  refine GL.o rfl (S1.fa fa29_0 rfl) ?_
  refine GL.o rfl (S1.ldA ag25 rfl (.old hx (by simp_all)) (by repeat constructor)) ?_
  refine GL.o rfl (S1.fa fa29_1 rfl) ?_
  refine GL.o rfl (S1.ld sc26 rfl (.old hx (by simp_all)) rfl) ?_
  refine GL.call rfl .no fo28 .nil (fun h H => ct28 H.rom hq hp hs) (.d (.c (v := (.agg _)) rfl (.c (v := (.slice _ _ _)) rfl .n))) (fun ⟨u1, v1, w1, z1⟩ _ => ?_)
  refine GL.o rfl (S1.mvT rfl) ?_
  refine GL.o rfl (S1.ext (v := (.agg _)) rfl rfl) ?_
  refine GL.o rfl (S1.ext (v := (.int _ _)) rfl rfl) ?_
  refine GL.o rfl (S1.ext (v := (.int _ _)) rfl rfl) ?_
  refine GL.opN rfl .no (SN.al zc59) (fun a2 => ?_)
  refine GL.o rfl (S1.stA ag59 rfl rfl rfl rfl (by repeat constructor) .z) ?_
  refine GL.o rfl (S1.asI rfl) ?_
  refine GL.o rfl (S1.asI rfl) ?_
  refine GL.dn rfl ?_
  refine GW.sr rfl rfl ?_
  refine GL.o rfl (S1.mvP rfl) ?_
  refine GL.o rfl (S1.ldW ag59 rfl (.at .z) rfl) ?_
  refine GL.put rfl .no fo29 (ct29) p (.cons (.s .z) .nil) (by omega) (by omega) (.d (.c (v := (.pointer _)) rfl (.c (v := (.agg _)) rfl .n))) (fun vn3 vs3 E3 ns3 ss3 p3 lN3 lS3 => ?_)
  refine GL.dn rfl ?_
  refine GW.sr rfl rfl ?_
  refine GL.o rfl (S1.mvP rfl) ?_
  refine GL.o rfl (S1.mvI rfl) ?_
  refine GL.put rfl .no fo8 (ct8) p3 (.cons (.s .z) (.ts .tz)) (by omega) (by omega) (.d (.c (v := (.pointer _)) rfl (.c (v := (.int _ _)) rfl .n))) (fun vn4 vs4 E4 ns4 ss4 p4 lN4 lS4 => ?_)
  refine GL.dn rfl ?_
  refine GW.sr rfl rfl ?_
  refine GL.o rfl (S1.mvP rfl) ?_
  refine GL.o rfl (S1.mvI rfl) ?_
  refine GL.put rfl .no fo9 (ct9) p4 (.cons (.s .z) (.ts .tz)) (by omega) (by omega) (.d (.c (v := (.pointer _)) rfl (.c (v := (.int _ _)) rfl .n))) (fun vn5 vs5 E5 ns5 ss5 p5 lN5 lS5 => ?_)
  refine GL.dn rfl ?_
  refine GW.sr rfl rfl ?_
  refine GL.o rfl (S1.asF rfl) ?_
  refine GL.dn rfl ?_
  refine GW.toRet rfl ?_
  refine GQ.ret (_, _, _, _, _) (.tmp (v := (.func _ _ _)) rfl rfl .nil) .one rfl ⟨p5, by dsimp only; omega, by dsimp only; omega⟩ (.cons (.s .z) (.app (.ts .tz) .nil))

theorem ct30 (hq : Cell hr (.sl ly81) (.slice qa qn qc)) (hp : Cell hr (.sl ly3) (.slice pa pn pc)) (hs : Cell hr (.sl ly23) (.slice sa sn sc)) (ht : Cell hr (.sl ly26) (.slice ta tn tc))
    (G : GoodA hr (xsB qa qn qc pa pn pc x2 sa sn sc x4 ta tn tc) zero2 xb hb h) : ClW Tryz.prog 30 33 1000 hb xb h (fun x => [.pointer (some ⟨x.1, 0, none⟩)]) B33 (fun x => OR wy81 x.2.v1 x.2.E1 x.2.m1 ∧ OR wy3 x.2.v2 x.2.E2 x.2.m2) := by
  have p := PS.nn
  have hx := G.x
  have hne : xb ∉ [hb] := by simpa using G.ne
  have e0 : ([] : List Int).length = 0 := rfl
  have e1 : ([] : List ByteArray).length = 0 := rfl
  refine Ct.go Tryz.func30 rfl rfl co30 (Hp.start1 G.rom G.z G.zo) ?_
  refine GW.sr rfl rfl ?_
  refine GL.o rfl (S1.as (v := .nilFunc) rfl) ?_
  refine GL.dn rfl ?_
  refine GW.sr rfl rfl ?_
  refine GL.o rfl (S1.fa fa29_0 rfl) ?_
  refine GL.o rfl (S1.ldA ag25 rfl (.old hx (by simp_all)) (by repeat constructor)) ?_
  refine GL.o rfl (S1.fa fa29_2 rfl) ?_
  refine GL.o rfl (S1.ld sc3 rfl (.old hx (by simp_all)) rfl) ?_
  refine GL.call rfl .no fo31 .nil (fun h H => ct31 H.rom hq hp) (.d (.c (v := (.agg _)) rfl (.c (v := (.int _ _)) rfl .n))) (fun x ⟨o1, o2, l1, l2⟩ => ?_)
  refine GL.o rfl (S1.mvT rfl) ?_
  refine GL.o rfl (S1.ext (v := (.agg _)) rfl rfl) ?_
  refine GL.o rfl (S1.ext (v := (.int _ _)) rfl rfl) ?_
  refine GL.opN rfl .no (SN.al zc25) (fun a2 => ?_)
  refine GL.o rfl (S1.stA ag25 rfl rfl rfl (by simp only [List.all_cons, List.all_nil, Bool.and_true, Bool.and_eq_true]; and_intros; all_goals first | rfl | (apply NR.okv; assumption) | (apply OR.okv; assumption)) (by repeat constructor) .z) ?_
  refine GL.o rfl (S1.asI rfl) ?_
  refine GL.dn rfl ?_
  refine GW.sr rfl rfl ?_
  refine GL.o rfl (S1.mvP rfl) ?_
  refine GL.o rfl (S1.ldW ag25 rfl (.at .z) rfl) ?_
  refine GL.putB (B := x.E1 ++ x.E2) rfl .no fo32 p (.cons (.s (.asc (.sA (.sA .z)))) .nil) (.app (.ts .tzA) (.ts .tzA)) (fun hn => p32 o1 o2 hn) (by omega) (by omega) (.d (.c (v := (.pointer _)) rfl (.c (v := (.agg _)) rfl .n))) (fun vn3 vs3 E3 ns3 ss3 p3 lN3 lS3 => ?_)
  refine GL.dn rfl ?_
  refine GW.sr rfl rfl ?_
  refine GL.o rfl (S1.mvP rfl) ?_
  refine GL.o rfl (S1.mvI rfl) ?_
  refine GL.put rfl .no fo9 (ct9) p3 (.cons (.s (.asc (.sA (.asc (.sA .z))))) (.ts (.skA (.skA .tz)))) (by omega) (by omega) (.d (.c (v := (.pointer _)) rfl (.c (v := (.int _ _)) rfl .n))) (fun vn4 vs4 E4 ns4 ss4 p4 lN4 lS4 => ?_)
  refine GL.dn rfl ?_
  refine GW.sr rfl rfl ?_
  refine GL.o rfl (S1.mf .n (.c (v := (.pointer _)) rfl .n)) ?_
  refine GL.o rfl (S1.asF rfl) ?_
  refine GL.dn rfl ?_
  refine GW.toRet rfl ?_
  refine GQ.ret ((_, _, _, _, _), (a2, x)) (.tmp (v := (.func _ _ _)) rfl rfl .nil) .one rfl ⟨⟨p4, by dsimp only; omega, by dsimp only; omega⟩, ⟨o1, o2⟩⟩ (.cons (.s (.asc (.sA (.asc (.sA .z))))) (.app (.ts (.skA (.skA .tz))) (.cons .z (.app .tzA .tzA))))

theorem ct35 (hq : Cell hr (.sl ly81) (.slice qa qn qc)) (hp : Cell hr (.sl ly3) (.slice pa pn pc)) (hs : Cell hr (.sl ly23) (.slice sa sn sc)) (ht : Cell hr (.sl ly26) (.slice ta tn tc))
    (G : GoodA hr (xsB qa qn qc pa pn pc x2 sa sn sc x4 ta tn tc) zero2 xb hb h) : ClW Tryz.prog 35 38 1000 hb xb h (fun x => [.pointer (some ⟨x.1, 0, none⟩)]) BW (fun x => OR wy120 x.2.1 x.2.2.1 x.2.2.2) := by
  have p := PS.nn
  have hx := G.x
  have hne : xb ∉ [hb] := by simpa using G.ne
  have e0 : ([] : List Int).length = 0 := rfl
  have e1 : ([] : List ByteArray).length = 0 := rfl
  refine Ct.go Tryz.func35 rfl rfl co35 (Hp.start1 G.rom G.z G.zo) ?_
  refine GW.sr rfl rfl ?_
  refine GL.o rfl (S1.as (v := .nilFunc) rfl) ?_
  refine GL.dn rfl ?_
  refine GW.sr rfl rfl ?_
  refine GL.o rfl (S1.fa fa29_0 rfl) ?_
  refine GL.o rfl (S1.ldA ag25 rfl (.old hx (by simp_all)) (by repeat constructor)) ?_
  refine GL.o rfl (S1.fa fa29_3 rfl) ?_
  refine GL.o rfl (S1.ld sc27 rfl (.old hx (by simp_all)) rfl) ?_
  refine GL.call rfl .no fo36 .nil (fun h H => ct36 H.rom hq hp ht) (.d (.c (v := (.agg _)) rfl (.c (v := (.slice _ _ _)) rfl .n))) (fun x ⟨o0, l0⟩ => ?_)
  refine GL.o rfl (S1.mvT rfl) ?_
  refine GL.o rfl (S1.ext (v := (x.1)) rfl rfl) ?_
  refine GL.o rfl (S1.ext (v := (.int _ _)) rfl rfl) ?_
  refine GL.opN rfl .no (SN.al zc68) (fun a2 => ?_)
  refine GL.o rfl (S1.st (u := (x.1)) sc68 rfl rfl (by first | (apply NR.okv; assumption) | (apply OR.okv; assumption)) (by repeat constructor) .z) ?_
  refine GL.o rfl (S1.asI rfl) ?_
  refine GL.dn rfl ?_
  refine GW.sr rfl rfl ?_
  refine GL.o rfl (S1.mvP rfl) ?_
  refine GL.o rfl (S1.ld sc68 rfl (.at .z) rfl) ?_
  refine GL.putB (B := x.2.1) rfl .no fo37 p (.cons (.s (.sA .z)) .nil) (.ts .tzA) (o0.put (z := 2) rfl rfl (fun _ _ _ _ h => ct37 h) (fun _ h => h)) (by omega) (by omega) (.d (.c (v := (.pointer _)) rfl (.c (v := (x.1)) rfl .n))) (fun vn3 vs3 E3 ns3 ss3 p3 lN3 lS3 => ?_)
  refine GL.dn rfl ?_
  refine GW.sr rfl rfl ?_
  refine GL.o rfl (S1.mvP rfl) ?_
  refine GL.o rfl (S1.mvI rfl) ?_
  refine GL.put rfl .no fo9 (ct9) p3 (.cons (.s (.asc (.sA .z))) (.ts (.skA .tz))) (by omega) (by omega) (.d (.c (v := (.pointer _)) rfl (.c (v := (.int _ _)) rfl .n))) (fun vn4 vs4 E4 ns4 ss4 p4 lN4 lS4 => ?_)
  refine GL.dn rfl ?_
  refine GW.sr rfl rfl ?_
  refine GL.o rfl (S1.mf .n (.c (v := (.pointer _)) rfl .n)) ?_
  refine GL.o rfl (S1.asF rfl) ?_
  refine GL.dn rfl ?_
  refine GW.toRet rfl ?_
  refine GQ.ret ((_, _, _, _, _), (a2, x.1, x.2.1, x.2.2.1)) (.tmp (v := (.func _ _ _)) rfl rfl .nil) .one rfl ⟨⟨p4, by dsimp only; omega, by dsimp only; omega⟩, o0⟩ (.cons (.s (.asc (.sA .z))) (.app (.ts (.skA .tz)) (.cons .z .tzA)))

end
end Go.Proofs.YtadgfnnkpddneaaGreat
