/- B22: contracts: what Draw has made is put and written over. -/
import Derived.Test.YtenkebdjlajanaaBC
set_option linter.all false
set_option linter.constructorNameAsVariable false
set_option linter.unusedSimpArgs false
set_option linter.unusedVariables false
set_option linter.unusedSectionVars false
set_option linter.unnecessarySimpa false
namespace Go.Proofs.Ytenkebdjlajanaa
open Go Go.E
set_option maxRecDepth 100000
set_option maxHeartbeats 4000000

theorem _root_.Go.E.NNR.bkle {b n : Nat} {v : Value} {E B : Ents} {ps : List IRw} {e : List Lay} (o : NNR v E n ps) (hp : ∀ p ∈ ps, IRwOk b p) (hb : b ≤ 1073741824) (hz : e.length = 1) (he : ∀ l ∈ e, l = .int .i64 false) (nd : (B.map (·.1)).Nodup) (hs : ∀ p ∈ E, p ∈ B) : bk (roOf B) (.sl [.sl e]) v ≤ 1 + n * (1 + b) := by
  have hbase : e.all Lay.base = true := List.all_eq_true.2 fun l hl => by rw [he l hl]; rfl
  cases o with
  | nil =>
    simp only [bk, sn, nilS, sumTo]
    omega
  | @row r n ps h0 hl =>
    have hro := roOf_of nd (hs _ (.head _))
    have key : ∀ k, k < n → bkL (roOf B) [.sl e] (some ⟨r, 0, none⟩) (k * 1) 0 ≤ 1 + b := fun k hk => by
      have hlt : k < ps.length := by omega
      have hg : el (roOf B) (some ⟨r, 0, none⟩) (k * 1 + 0) = (ps[k]).v := by
        show ((match roOf B r with | some (.cells vs _ _) => vs | _ => []) : List Value).getD (0 + (k * 1 + 0)) undef = _
        rw [hro]
        show (ps.map IRw.v).getD (0 + (k * 1 + 0)) undef = _
        rw [List.getD_eq_getElem?_getD]
        simp [hlt]
      have q := hp _ (List.getElem_mem hlt)
      have ho := q.1.or hz he (by have := q.2; omega)
      simp only [bkL, hg]
      rw [bk_base hbase, ho.sn, hz]
      have := q.2
      omega
    have h2 := sumTo_le key
    rw [sumTo_const] at h2
    simp only [bk, sa, sn, List.length_cons, List.length_nil, Nat.zero_add]
    omega

abbrev B26 (x : Nat × Value × Ents × Nat × List IRw) : Ents := (x.1, .cells [x.2.1] none true) :: (x.2.2.1 ++ inn x.2.2.2.2)

section
variable {h : EH}

theorem p25 {v : Value} {E : Ents} {n : Nat} {ps : List IRw} (no : NNR v E n ps) (hps : ∀ p ∈ ps, IRwOk 16 p) (hn : n ≤ 30) (nd : ((E ++ inn ps : Ents).map (·.1)).Nodup) : PutCt Try.prog (roOf (E ++ inn ps)) 25 [v] 600 600 := by
  have hc := no.cell hps (by decide) (e := wy3) rfl (by simp [wy3]) (by omega) nd (fun p hp => by simp [hp]) (fun p hp => by simp [hp])
  have hb := no.bkle hps (by decide) (e := wy3) rfl (by simp [wy3]) nd (fun p hp => by simp [hp])
  obtain ⟨a, m, c, rfl⟩ : ∃ a m c, v = .slice a m c := by cases no <;> exact ⟨_, _, _, rfl⟩
  have hb' : bk (roOf (E ++ inn ps)) (.sl wy23) (.slice a m c) ≤ 600 := by
    have : n * (1 + 16) ≤ 30 * 17 := Nat.mul_le_mul_right _ hn
    have hb2 : bk (roOf (E ++ inn ps)) (.sl wy23) (.slice a m c) ≤ 1 + n * (1 + 16) := hb
    omega
  exact (ct25 hc).le hb' hb'

theorem inn_perm {ps : List IRw} : (inn ps).Perm (inR (ps.map fun p => (p.v, p.E, p.m))) := by
  have h1 : inR (ps.map fun p => (p.v, p.E, p.m)) = ps.flatMap (·.E) := by simp [inR, List.flatMap_map]
  rw [h1]
  exact (List.reverse_perm ps).flatMap_right _

theorem cw27 {b n : Nat} {v : Value} {E : Ents} {ps : List IRw} (no : NNR v E n ps) (hps : ∀ p ∈ ps, IRwOk 16 p) (hn : n ≤ 30) (H : Hp (fun _ => none) h (((b, .cells [v] none true) :: (E ++ inn ps) : Ents).map (·.1)) ((b, .cells [v] none true) :: (E ++ inn ps)) h) :
    Ct Try.prog 27 ⟨[.pointer (some ⟨b, 0, none⟩)]⟩ h (((b, .cells [v] none true) :: (E ++ inn ps) : Ents).map (·.1)) (fun _ : Unit => .tuple #[]) (fun _ => True) (fun _ => []) := by
  cases no with
  | nil =>
    refine Ct.go Try.func27 rfl rfl co27 H ?_
    refine GW.toReg rfl ?_
    refine GL.o rfl (S1.mvP rfl) ?_
    refine GL.o rfl (S1.nc rfl) ?_
    refine GL.o rfl (S1.ld sc30 rfl (.at .z) rfl) ?_
    refine GL.call rfl .no fo49 .nil (fun h' H' => cw49z) (.d (.c rfl (.c rfl .n))) (fun _ _ => ?_)
    refine GL.done rfl ?_
    refine GQ.retN () .nil .z ?_ ?_ .nil
    rfl
    exact trivial
  | @row r n ps h0 hl =>
    simp only [List.cons_append, List.nil_append] at H ⊢
    refine Ct.go Try.func27 rfl rfl co27 H ?_
    refine GW.toReg rfl ?_
    refine GL.o rfl (S1.mvP rfl) ?_
    refine GL.o rfl (S1.nc rfl) ?_
    refine GL.o rfl (S1.ld sc30 rfl (.at .z) rfl) ?_
    refine GL.call rfl .no fo49 (ps := (r, opRow (ps.map IRw.v) 1) :: inn ps) (.cons (.s .z) (.ts .tz)) (fun h' H' => cw49n (vs := ps.map IRw.v) (opn := some 1) (qs := ps.map fun p => (p.v, p.E, p.m)) (by omega) (by simp) (by simp [hl]) (fun q hq => by
      obtain ⟨p, hp, rfl⟩ := List.mem_map.1 hq
      exact (hps p hp).1.or rfl (by simp [wy3]) (by have := (hps p hp).2; omega)) inn_perm (H'.give (ps := (r, opRow (ps.map IRw.v) 1) :: inn ps) (.cons (.s .z) (.ts .tz)))) (.d (.c rfl (.c rfl .n))) (fun _ _ => ?_)
    refine GL.done rfl ?_
    refine GQ.retN () .nil .z ?_ ?_ .nil
    rfl
    exact trivial

theorem ct26 (x : Nat × Value × Ents × Nat × List IRw) (q : NNR x.2.1 x.2.2.1 x.2.2.2.1 x.2.2.2.2 ∧ (∀ p ∈ x.2.2.2.2, IRwOk 16 p) ∧ x.2.2.2.1 ≤ 30) (H : Hp (fun _ => none) h ((B26 x).map (·.1)) (B26 x) h) :
    Ct Try.prog 26 ⟨[.pointer (some ⟨x.1, 0, none⟩)]⟩ h ((B26 x).map (·.1)) (fun _ : Unit => .tuple #[]) (fun _ => True) (fun _ => []) := by
  obtain ⟨b, v, E, n, ps⟩ := x
  obtain ⟨o1, o2, o3⟩ := q
  dsimp only [B26] at H o1 o2 o3 ⊢
  refine Ct.go Try.func26 rfl rfl co26 H ?_
  refine GW.toReg rfl ?_
  refine GL.call rfl .no fo27 (show Take _ ((b, _) :: (E ++ inn ps)) _ from .tz) (fun h H => cw27 o1 o2 o3 (H.give (show Take _ ((b, _) :: (E ++ inn ps)) _ from .tz))) (.d (.c (v := (.pointer _)) rfl .n)) (fun _ _ => ?_)
  refine GL.done rfl ?_
  refine GQ.retN () .nil .z ?_ ?_ .nil
  rfl
  exact trivial

theorem ct10 : Ct Try.prog 10 ⟨[]⟩ h [] (fun _ : Unit => .tuple #[]) (fun _ => True) (fun _ => []) := by
  refine Ct.go Try.func10 rfl rfl co10 (Hp.start (hr := fun _ => none) (by simp)) ?_
  refine GW.toSkip rfl ?_
  refine GQ.retN () .nil .z ?_ ?_ .nil
  rfl
  exact trivial

abbrev BW (x : Nat × Value × Ents × Nat) : Ents := (x.1, .cells [x.2.1] none true) :: x.2.2.1
theorem ct14 (x : Nat × Value × Ents × Nat) (o0 : OR wy3 x.2.1 x.2.2.1 x.2.2.2) (H : Hp (fun _ => none) h ((BW x).map (·.1)) (BW x) h) :
    Ct Try.prog 14 ⟨[.pointer (some ⟨x.1, 0, none⟩)]⟩ h ((BW x).map (·.1)) (fun _ : Unit => .tuple #[]) (fun _ => True) (fun _ => []) := by
  obtain ⟨b0, v0, E0, m0⟩ := x
  dsimp only [BW] at H o0 ⊢
  refine Ct.go Try.func14 rfl rfl co14 H ?_
  refine GW.toReg rfl ?_
  refine GL.call rfl .no fo15 (show Take _ ((b0, _) :: E0) _ from .tz) (fun h H => cw15 _ _ _ _ _ _ _ rfl o0 (H.give (show Take _ ((b0, _) :: E0) _ from .tz))) (.d (.c (v := (.pointer _)) rfl .n)) (fun E0' p0 => ?_)
  refine GL.done rfl ?_
  refine GQ.retN () .nil .z ?_ ?_ .nil
  rfl
  exact trivial

theorem ct20 (x : Nat × Value × Ents × Nat) (o0 : OR wy3 x.2.1 x.2.2.1 x.2.2.2) (H : Hp (fun _ => none) h ((BW x).map (·.1)) (BW x) h) :
    Ct Try.prog 20 ⟨[.pointer (some ⟨x.1, 0, none⟩)]⟩ h ((BW x).map (·.1)) (fun _ : Unit => .tuple #[]) (fun _ => True) (fun _ => []) := by
  obtain ⟨b0, v0, E0, m0⟩ := x
  dsimp only [BW] at H o0 ⊢
  refine Ct.go Try.func20 rfl rfl co20 H ?_
  refine GW.toReg rfl ?_
  refine GL.call rfl .no fo15 (show Take _ ((b0, _) :: E0) _ from .tz) (fun h H => cw15 _ _ _ _ _ _ _ rfl o0 (H.give (show Take _ ((b0, _) :: E0) _ from .tz))) (.d (.c (v := (.pointer _)) rfl .n)) (fun E0' p0 => ?_)
  refine GL.done rfl ?_
  refine GQ.retN () .nil .z ?_ ?_ .nil
  rfl
  exact trivial

end
end Go.Proofs.Ytenkebdjlajanaa
namespace Go.Proofs.Ytenkebdjlajanaa
open Go Go.E
set_option maxRecDepth 100000
set_option maxHeartbeats 4000000


section
variable {h : EH} {hr : RO} {xb hb : Nat} {qa : Option Addr} {qn qc : Nat} {wa : Option Addr} {wn wc : Nat} {x2 : Int} {x3 : Int} {x4 : Int} {pa : Option Addr} {pn pc : Nat} {x6 : Int} {x7 : Int} {x8 : Int} {na : Option Addr} {nn nc : Nat} {ta : Option Addr} {tn tc : Nat} {x11 : Int}
theorem ct6 (hq : Cell hr (.sl ly71) (.slice qa qn qc)) (hw : Cell hr (.sl ly3) (.slice wa wn wc)) (hp : Cell hr (.sl ly3) (.slice pa pn pc)) (hn : Cell hr (.sl ly3) (.slice na nn nc)) (ht : Cell hr (.sl ly23) (.slice ta tn tc))
    (G : GoodA hr (xsB qa qn qc wa wn wc x2 x3 x4 pa pn pc x6 x7 x8 na nn nc ta tn tc x11) zero2 xb hb h) : ClN Try.prog 6 10 1000 hb xb h := by
  have p := PS.nn
  have hx := G.x
  have hne : xb ∉ [hb] := by simpa using G.ne
  have e0 : ([] : List Int).length = 0 := rfl
  have e1 : ([] : List ByteArray).length = 0 := rfl
  refine Ct.go Try.func6 rfl rfl co6 (Hp.start1 G.rom G.z G.zo) ?_
  refine GW.sr rfl rfl ?_
  refine GL.o rfl (S1.as (v := .nilFunc) rfl) ?_
  refine GL.dn rfl ?_
  refine GW.sr rfl rfl ?_
  refine GL.o rfl (S1.fa fa32_0 rfl) ?_
  refine GL.o rfl (S1.ldA ag27 rfl (.old hx (by simp_all)) (by repeat constructor)) ?_
  refine GL.call rfl .no fo7 .nil (fun h H => ct7 H.rom hq hw) (.d (.c (v := (.agg _)) rfl .n)) (fun ⟨u1, v1, w1⟩ _ => ?_)
  refine GL.o rfl (S1.mvT rfl) ?_
  refine GL.o rfl (S1.ext (v := (.int _ _)) rfl rfl) ?_
  refine GL.o rfl (S1.ext (v := (.int _ _)) rfl rfl) ?_
  refine GL.o rfl (S1.ext (v := (.int _ _)) rfl rfl) ?_
  refine GL.o rfl (S1.asI rfl) ?_
  refine GL.o rfl (S1.asI rfl) ?_
  refine GL.o rfl (S1.asI rfl) ?_
  refine GL.dn rfl ?_
  refine GW.sr rfl rfl ?_
  refine GL.o rfl (S1.mvP rfl) ?_
  refine GL.o rfl (S1.mvI rfl) ?_
  refine GL.put rfl .no fo8 (ct8) p (.cons .z .nil) (by omega) (by omega) (.d (.c (v := (.pointer _)) rfl (.c (v := (.int _ _)) rfl .n))) (fun vn2 vs2 E2 ns2 ss2 p2 lN2 lS2 => ?_)
  refine GL.dn rfl ?_
  refine GW.sr rfl rfl ?_
  refine GL.o rfl (S1.mvP rfl) ?_
  refine GL.o rfl (S1.mvI rfl) ?_
  refine GL.put rfl .no fo8 (ct8) p2 (.cons .z .tz) (by omega) (by omega) (.d (.c (v := (.pointer _)) rfl (.c (v := (.int _ _)) rfl .n))) (fun vn3 vs3 E3 ns3 ss3 p3 lN3 lS3 => ?_)
  refine GL.dn rfl ?_
  refine GW.sr rfl rfl ?_
  refine GL.o rfl (S1.mvP rfl) ?_
  refine GL.o rfl (S1.mvI rfl) ?_
  refine GL.put rfl .no fo9 (ct9) p3 (.cons .z .tz) (by omega) (by omega) (.d (.c (v := (.pointer _)) rfl (.c (v := (.int _ _)) rfl .n))) (fun vn4 vs4 E4 ns4 ss4 p4 lN4 lS4 => ?_)
  refine GL.dn rfl ?_
  refine GW.sr rfl rfl ?_
  refine GL.o rfl (S1.asF rfl) ?_
  refine GL.dn rfl ?_
  refine GW.toRet rfl ?_
  refine GQ.ret (_, _, _, _, _) (.tmp (v := (.func _ _ _)) rfl rfl .nil) .one rfl ⟨p4, by dsimp only; omega, by dsimp only; omega⟩ (.cons .z (.app .tz .nil))

theorem ct11 (hq : Cell hr (.sl ly71) (.slice qa qn qc)) (hw : Cell hr (.sl ly3) (.slice wa wn wc)) (hp : Cell hr (.sl ly3) (.slice pa pn pc)) (hn : Cell hr (.sl ly3) (.slice na nn nc)) (ht : Cell hr (.sl ly23) (.slice ta tn tc))
    (G : GoodA hr (xsB qa qn qc wa wn wc x2 x3 x4 pa pn pc x6 x7 x8 na nn nc ta tn tc x11) zero2 xb hb h) : ClW Try.prog 11 14 1000 hb xb h (fun x => [.pointer (some ⟨x.1, 0, none⟩)]) BW (fun x => OR wy3 x.2.1 x.2.2.1 x.2.2.2) := by
  have p := PS.nn
  have hx := G.x
  have hne : xb ∉ [hb] := by simpa using G.ne
  have e0 : ([] : List Int).length = 0 := rfl
  have e1 : ([] : List ByteArray).length = 0 := rfl
  refine Ct.go Try.func11 rfl rfl co11 (Hp.start1 G.rom G.z G.zo) ?_
  refine GW.sr rfl rfl ?_
  refine GL.o rfl (S1.as (v := .nilFunc) rfl) ?_
  refine GL.dn rfl ?_
  refine GW.sr rfl rfl ?_
  refine GL.o rfl (S1.fa fa32_0 rfl) ?_
  refine GL.o rfl (S1.ldA ag27 rfl (.old hx (by simp_all)) (by repeat constructor)) ?_
  refine GL.call rfl .no fo12 .nil (fun h H => ct12 H.rom hq hw) (.d (.c (v := (.agg _)) rfl .n)) (fun x ⟨o0, l0⟩ => ?_)
  refine GL.o rfl (S1.mvT rfl) ?_
  refine GL.o rfl (S1.ext (v := (x.1)) rfl rfl) ?_
  refine GL.o rfl (S1.ext (v := (.int _ _)) rfl rfl) ?_
  refine GL.opN rfl .no (SN.al zc23) (fun a2 => ?_)
  refine GL.o rfl (S1.st (u := (x.1)) sc23 rfl rfl (by first | (apply NR.okv; assumption) | (apply OR.okv; assumption)) (by repeat constructor) .z) ?_
  refine GL.o rfl (S1.asI rfl) ?_
  refine GL.dn rfl ?_
  refine GW.sr rfl rfl ?_
  refine GL.o rfl (S1.mvP rfl) ?_
  refine GL.o rfl (S1.ld sc23 rfl (.at .z) rfl) ?_
  refine GL.putB (B := x.2.1) rfl .no fo13 p (.cons (.s (.sA .z)) .nil) (.ts .tzA) (o0.put (z := 1) rfl rfl (fun _ _ _ _ h => ct13 h) (fun _ h => h)) (by omega) (by omega) (.d (.c (v := (.pointer _)) rfl (.c (v := (x.1)) rfl .n))) (fun vn3 vs3 E3 ns3 ss3 p3 lN3 lS3 => ?_)
  refine GL.dn rfl ?_
  refine GW.sr rfl rfl ?_
  refine GL.o rfl (S1.mvP rfl) ?_
  refine GL.o rfl (S1.mvI rfl) ?_
  refine GL.put rfl .no fo9 (ct9) p3 (.cons (.s (.asc (.sA .z))) (.ts (.skA .tz))) (by omega) (by omega) (.d (.c (v := (.pointer _)) rfl (.c (v := (.int _ _)) rfl .n))) (fun vn4 vs4 E4 ns4 ss4 p4 lN4 lS4 => ?_)
  refine GL.dn rfl ?_
  refine GW.sr rfl rfl ?_
  refine GL.o rfl (S1.mf .n (.c (v := (.pointer _)) rfl .n)) ?_
  refine GL.o rfl (S1.asF rfl) ?_
  refine GL.dn rfl ?_
  refine GW.toRet rfl ?_
  refine GQ.ret ((_, _, _, _, _), (a2, x.1, x.2.1, x.2.2.1)) (.tmp (v := (.func _ _ _)) rfl rfl .nil) .one rfl ⟨⟨p4, by dsimp only; omega, by dsimp only; omega⟩, o0⟩ (.cons (.s (.asc (.sA .z))) (.app (.ts (.skA .tz)) (.cons .z .tzA)))

theorem ct16 (hq : Cell hr (.sl ly71) (.slice qa qn qc)) (hw : Cell hr (.sl ly3) (.slice wa wn wc)) (hp : Cell hr (.sl ly3) (.slice pa pn pc)) (hn : Cell hr (.sl ly3) (.slice na nn nc)) (ht : Cell hr (.sl ly23) (.slice ta tn tc))
    (G : GoodA hr (xsB qa qn qc wa wn wc x2 x3 x4 pa pn pc x6 x7 x8 na nn nc ta tn tc x11) zero2 xb hb h) : ClN Try.prog 16 10 1000 hb xb h := by
  have p := PS.nn
  have hx := G.x
  have hne : xb ∉ [hb] := by simpa using G.ne
  have e0 : ([] : List Int).length = 0 := rfl
  have e1 : ([] : List ByteArray).length = 0 := rfl
  refine Ct.go Try.func16 rfl rfl co16 (Hp.start1 G.rom G.z G.zo) ?_
  refine GW.sr rfl rfl ?_
  refine GL.o rfl (S1.as (v := .nilFunc) rfl) ?_
  refine GL.dn rfl ?_
  refine GW.sr rfl rfl ?_
  refine GL.o rfl (S1.fa fa32_0 rfl) ?_
  refine GL.o rfl (S1.ldA ag27 rfl (.old hx (by simp_all)) (by repeat constructor)) ?_
  refine GL.call rfl .no fo17 .nil (fun h H => ct17 H.rom hq hw) (.d (.c (v := (.agg _)) rfl .n)) (fun ⟨u1, v1⟩ _ => ?_)
  refine GL.o rfl (S1.mvT rfl) ?_
  refine GL.o rfl (S1.ext (v := (.int _ _)) rfl rfl) ?_
  refine GL.o rfl (S1.ext (v := (.int _ _)) rfl rfl) ?_
  refine GL.o rfl (S1.asI rfl) ?_
  refine GL.o rfl (S1.asI rfl) ?_
  refine GL.dn rfl ?_
  refine GW.sr rfl rfl ?_
  refine GL.o rfl (S1.mvP rfl) ?_
  refine GL.o rfl (S1.mvI rfl) ?_
  refine GL.put rfl .no fo8 (ct8) p (.cons .z .nil) (by omega) (by omega) (.d (.c (v := (.pointer _)) rfl (.c (v := (.int _ _)) rfl .n))) (fun vn2 vs2 E2 ns2 ss2 p2 lN2 lS2 => ?_)
  refine GL.dn rfl ?_
  refine GW.sr rfl rfl ?_
  refine GL.o rfl (S1.mvP rfl) ?_
  refine GL.o rfl (S1.mvI rfl) ?_
  refine GL.put rfl .no fo9 (ct9) p2 (.cons .z .tz) (by omega) (by omega) (.d (.c (v := (.pointer _)) rfl (.c (v := (.int _ _)) rfl .n))) (fun vn3 vs3 E3 ns3 ss3 p3 lN3 lS3 => ?_)
  refine GL.dn rfl ?_
  refine GW.sr rfl rfl ?_
  refine GL.o rfl (S1.asF rfl) ?_
  refine GL.dn rfl ?_
  refine GW.toRet rfl ?_
  refine GQ.ret (_, _, _, _, _) (.tmp (v := (.func _ _ _)) rfl rfl .nil) .one rfl ⟨p3, by dsimp only; omega, by dsimp only; omega⟩ (.cons .z (.app .tz .nil))

theorem ct18 (hq : Cell hr (.sl ly71) (.slice qa qn qc)) (hw : Cell hr (.sl ly3) (.slice wa wn wc)) (hp : Cell hr (.sl ly3) (.slice pa pn pc)) (hn : Cell hr (.sl ly3) (.slice na nn nc)) (ht : Cell hr (.sl ly23) (.slice ta tn tc))
    (G : GoodA hr (xsB qa qn qc wa wn wc x2 x3 x4 pa pn pc x6 x7 x8 na nn nc ta tn tc x11) zero2 xb hb h) : ClW Try.prog 18 20 1000 hb xb h (fun x => [.pointer (some ⟨x.1, 0, none⟩)]) BW (fun x => OR wy3 x.2.1 x.2.2.1 x.2.2.2) := by
  have p := PS.nn
  have hx := G.x
  have hne : xb ∉ [hb] := by simpa using G.ne
  have e0 : ([] : List Int).length = 0 := rfl
  have e1 : ([] : List ByteArray).length = 0 := rfl
  refine Ct.go Try.func18 rfl rfl co18 (Hp.start1 G.rom G.z G.zo) ?_
  refine GW.sr rfl rfl ?_
  refine GL.o rfl (S1.as (v := .nilFunc) rfl) ?_
  refine GL.dn rfl ?_
  refine GW.sr rfl rfl ?_
  refine GL.o rfl (S1.fa fa32_0 rfl) ?_
  refine GL.o rfl (S1.ldA ag27 rfl (.old hx (by simp_all)) (by repeat constructor)) ?_
  refine GL.o rfl (S1.fa fa32_1 rfl) ?_
  refine GL.o rfl (S1.ld sc3 rfl (.old hx (by simp_all)) rfl) ?_
  refine GL.call rfl .no fo19 .nil (fun h H => ct19 H.rom hq hw) (.d (.c (v := (.agg _)) rfl (.c (v := (.int _ _)) rfl .n))) (fun x ⟨o0, l0⟩ => ?_)
  refine GL.o rfl (S1.mvT rfl) ?_
  refine GL.o rfl (S1.ext (v := (x.1)) rfl rfl) ?_
  refine GL.o rfl (S1.ext (v := (.int _ _)) rfl rfl) ?_
  refine GL.opN rfl .no (SN.al zc23) (fun a2 => ?_)
  refine GL.o rfl (S1.st (u := (x.1)) sc23 rfl rfl (by first | (apply NR.okv; assumption) | (apply OR.okv; assumption)) (by repeat constructor) .z) ?_
  refine GL.o rfl (S1.asI rfl) ?_
  refine GL.dn rfl ?_
  refine GW.sr rfl rfl ?_
  refine GL.o rfl (S1.mvP rfl) ?_
  refine GL.o rfl (S1.ld sc23 rfl (.at .z) rfl) ?_
  refine GL.putB (B := x.2.1) rfl .no fo13 p (.cons (.s (.sA .z)) .nil) (.ts .tzA) (o0.put (z := 1) rfl rfl (fun _ _ _ _ h => ct13 h) (fun _ h => h)) (by omega) (by omega) (.d (.c (v := (.pointer _)) rfl (.c (v := (x.1)) rfl .n))) (fun vn3 vs3 E3 ns3 ss3 p3 lN3 lS3 => ?_)
  refine GL.dn rfl ?_
  refine GW.sr rfl rfl ?_
  refine GL.o rfl (S1.mvP rfl) ?_
  refine GL.o rfl (S1.mvI rfl) ?_
  refine GL.put rfl .no fo9 (ct9) p3 (.cons (.s (.asc (.sA .z))) (.ts (.skA .tz))) (by omega) (by omega) (.d (.c (v := (.pointer _)) rfl (.c (v := (.int _ _)) rfl .n))) (fun vn4 vs4 E4 ns4 ss4 p4 lN4 lS4 => ?_)
  refine GL.dn rfl ?_
  refine GW.sr rfl rfl ?_
  refine GL.o rfl (S1.mf .n (.c (v := (.pointer _)) rfl .n)) ?_
  refine GL.o rfl (S1.asF rfl) ?_
  refine GL.dn rfl ?_
  refine GW.toRet rfl ?_
  refine GQ.ret ((_, _, _, _, _), (a2, x.1, x.2.1, x.2.2.1)) (.tmp (v := (.func _ _ _)) rfl rfl .nil) .one rfl ⟨⟨p4, by dsimp only; omega, by dsimp only; omega⟩, o0⟩ (.cons (.s (.asc (.sA .z))) (.app (.ts (.skA .tz)) (.cons .z .tzA)))

theorem ct21 (hq : Cell hr (.sl ly71) (.slice qa qn qc)) (hw : Cell hr (.sl ly3) (.slice wa wn wc)) (hp : Cell hr (.sl ly3) (.slice pa pn pc)) (hn : Cell hr (.sl ly3) (.slice na nn nc)) (ht : Cell hr (.sl ly23) (.slice ta tn tc))
    (G : GoodA hr (xsB qa qn qc wa wn wc x2 x3 x4 pa pn pc x6 x7 x8 na nn nc ta tn tc x11) zero2 xb hb h) : ClN Try.prog 21 10 1000 hb xb h := by
  have p := PS.nn
  have hx := G.x
  have hne : xb ∉ [hb] := by simpa using G.ne
  have e0 : ([] : List Int).length = 0 := rfl
  have e1 : ([] : List ByteArray).length = 0 := rfl
  refine Ct.go Try.func21 rfl rfl co21 (Hp.start1 G.rom G.z G.zo) ?_
  refine GW.sr rfl rfl ?_
  refine GL.o rfl (S1.as (v := .nilFunc) rfl) ?_
  refine GL.dn rfl ?_
  refine GW.sr rfl rfl ?_
  refine GL.o rfl (S1.fa fa32_0 rfl) ?_
  refine GL.o rfl (S1.ldA ag27 rfl (.old hx (by simp_all)) (by repeat constructor)) ?_
  refine GL.o rfl (S1.fa fa32_2 rfl) ?_
  refine GL.o rfl (S1.ld sc23 rfl (.old hx (by simp_all)) rfl) ?_
  refine GL.call rfl .no fo22 .nil (fun h H => ct22 H.rom hq hw hp) (.d (.c (v := (.agg _)) rfl (.c (v := (.slice _ _ _)) rfl .n))) (fun ⟨u1, v1⟩ _ => ?_)
  refine GL.o rfl (S1.mvT rfl) ?_
  refine GL.o rfl (S1.ext (v := (.int _ _)) rfl rfl) ?_
  refine GL.o rfl (S1.ext (v := (.int _ _)) rfl rfl) ?_
  refine GL.o rfl (S1.asI rfl) ?_
  refine GL.o rfl (S1.asI rfl) ?_
  refine GL.dn rfl ?_
  refine GW.sr rfl rfl ?_
  refine GL.o rfl (S1.mvP rfl) ?_
  refine GL.o rfl (S1.mvI rfl) ?_
  refine GL.put rfl .no fo8 (ct8) p (.cons .z .nil) (by omega) (by omega) (.d (.c (v := (.pointer _)) rfl (.c (v := (.int _ _)) rfl .n))) (fun vn2 vs2 E2 ns2 ss2 p2 lN2 lS2 => ?_)
  refine GL.dn rfl ?_
  refine GW.sr rfl rfl ?_
  refine GL.o rfl (S1.mvP rfl) ?_
  refine GL.o rfl (S1.mvI rfl) ?_
  refine GL.put rfl .no fo9 (ct9) p2 (.cons .z .tz) (by omega) (by omega) (.d (.c (v := (.pointer _)) rfl (.c (v := (.int _ _)) rfl .n))) (fun vn3 vs3 E3 ns3 ss3 p3 lN3 lS3 => ?_)
  refine GL.dn rfl ?_
  refine GW.sr rfl rfl ?_
  refine GL.o rfl (S1.asF rfl) ?_
  refine GL.dn rfl ?_
  refine GW.toRet rfl ?_
  refine GQ.ret (_, _, _, _, _) (.tmp (v := (.func _ _ _)) rfl rfl .nil) .one rfl ⟨p3, by dsimp only; omega, by dsimp only; omega⟩ (.cons .z (.app .tz .nil))

theorem ct23 (hq : Cell hr (.sl ly71) (.slice qa qn qc)) (hw : Cell hr (.sl ly3) (.slice wa wn wc)) (hp : Cell hr (.sl ly3) (.slice pa pn pc)) (hn : Cell hr (.sl ly3) (.slice na nn nc)) (ht : Cell hr (.sl ly23) (.slice ta tn tc))
    (G : GoodA hr (xsB qa qn qc wa wn wc x2 x3 x4 pa pn pc x6 x7 x8 na nn nc ta tn tc x11) zero2 xb hb h) : ClW Try.prog 23 26 1000 hb xb h (fun x => [.pointer (some ⟨x.1, 0, none⟩)]) B26 (fun x => NNR x.2.1 x.2.2.1 x.2.2.2.1 x.2.2.2.2 ∧ (∀ p ∈ x.2.2.2.2, IRwOk 16 p) ∧ x.2.2.2.1 ≤ 30) := by
  have p := PS.nn
  have hx := G.x
  have hne : xb ∉ [hb] := by simpa using G.ne
  have e0 : ([] : List Int).length = 0 := rfl
  have e1 : ([] : List ByteArray).length = 0 := rfl
  refine Ct.go Try.func23 rfl rfl co23 (Hp.start1 G.rom G.z G.zo) ?_
  refine GW.sr rfl rfl ?_
  refine GL.o rfl (S1.as (v := .nilFunc) rfl) ?_
  refine GL.dn rfl ?_
  refine GW.sr rfl rfl ?_
  refine GL.o rfl (S1.fa fa32_0 rfl) ?_
  refine GL.o rfl (S1.ldA ag27 rfl (.old hx (by simp_all)) (by repeat constructor)) ?_
  refine GL.o rfl (S1.fa fa32_3 rfl) ?_
  refine GL.o rfl (S1.ldA ag29 rfl (.old hx (by simp_all)) (by repeat constructor)) ?_
  refine GL.o rfl (S1.fa fa32_4 rfl) ?_
  refine GL.o rfl (S1.ld sc23 rfl (.old hx (by simp_all)) rfl) ?_
  refine GL.call rfl .no fo24 .nil (fun h H => ct24 H.rom hq hw hn) (.d (.c (v := (.agg _)) rfl (.c (v := (.agg _)) rfl (.c (v := (.slice _ _ _)) rfl .n)))) (fun x ⟨o0, o1, l0⟩ => ?_)
  refine GL.o rfl (S1.mvT rfl) ?_
  refine GL.o rfl (S1.ext (v := (x.1)) rfl rfl) ?_
  refine GL.o rfl (S1.ext (v := (.int _ _)) rfl rfl) ?_
  refine GL.opN rfl .no (SN.al zc30) (fun a2 => ?_)
  refine GL.o rfl (S1.st (u := x.1) sc30 rfl rfl o0.okv (by repeat constructor) .z) ?_
  refine GL.o rfl (S1.asI rfl) ?_
  refine GL.dn rfl ?_
  refine GW.sr rfl rfl ?_
  refine GL.o rfl (S1.mvP rfl) ?_
  refine GL.o rfl (S1.ld sc30 rfl (.at .z) rfl) ?_
  refine GL.putB (B := x.2.1 ++ inn x.2.2.2.1) rfl .no fo25 p (.cons (.s (.asc (.sA (.sA .z)))) .nil) (.app (.ts .tzA) (.ts .tzA)) (fun hn => p25 o0 o1 l0 hn) (by omega) (by omega) (.d (.c (v := (.pointer _)) rfl (.c (v := (x.1)) rfl .n))) (fun vn3 vs3 E3 ns3 ss3 p3 lN3 lS3 => ?_)
  refine GL.dn rfl ?_
  refine GW.sr rfl rfl ?_
  refine GL.o rfl (S1.mvP rfl) ?_
  refine GL.o rfl (S1.mvI rfl) ?_
  refine GL.put rfl .no fo9 (ct9) p3 (.cons (.s (.asc (.sA (.asc (.sA .z))))) (.ts (.skA (.skA .tz)))) (by omega) (by omega) (.d (.c (v := (.pointer _)) rfl (.c (v := (.int _ _)) rfl .n))) (fun vn4 vs4 E4 ns4 ss4 p4 lN4 lS4 => ?_)
  refine GL.dn rfl ?_
  refine GW.sr rfl rfl ?_
  refine GL.o rfl (S1.mf .n (.c (v := (.pointer _)) rfl .n)) ?_
  refine GL.o rfl (S1.asF rfl) ?_
  refine GL.dn rfl ?_
  refine GW.toRet rfl ?_
  refine GQ.ret ((_, _, _, _, _), (a2, x.1, x.2.1, x.2.2.1, x.2.2.2.1)) (.tmp (v := (.func _ _ _)) rfl rfl .nil) .one rfl ⟨⟨p4, by dsimp only; omega, by dsimp only; omega⟩, ⟨o0, o1, l0⟩⟩ (.cons (.s (.asc (.sA (.asc (.sA .z))))) (.app (.ts (.skA (.skA .tz))) (.cons .z (.app .tzA .tzA))))

theorem ct28 (hq : Cell hr (.sl ly71) (.slice qa qn qc)) (hw : Cell hr (.sl ly3) (.slice wa wn wc)) (hp : Cell hr (.sl ly3) (.slice pa pn pc)) (hn : Cell hr (.sl ly3) (.slice na nn nc)) (ht : Cell hr (.sl ly23) (.slice ta tn tc))
    (G : GoodA hr (xsB qa qn qc wa wn wc x2 x3 x4 pa pn pc x6 x7 x8 na nn nc ta tn tc x11) zero2 xb hb h) : ClN Try.prog 28 10 1000 hb xb h := by
  have p := PS.nn
  have hx := G.x
  have hne : xb ∉ [hb] := by simpa using G.ne
  have e0 : ([] : List Int).length = 0 := rfl
  have e1 : ([] : List ByteArray).length = 0 := rfl
  refine Ct.go Try.func28 rfl rfl co28 (Hp.start1 G.rom G.z G.zo) ?_
  refine GW.sr rfl rfl ?_
  refine GL.o rfl (S1.as (v := .nilFunc) rfl) ?_
  refine GL.dn rfl ?_
  refine GW.sr rfl rfl ?_
  refine GL.o rfl (S1.fa fa32_0 rfl) ?_
  refine GL.o rfl (S1.ldA ag27 rfl (.old hx (by simp_all)) (by repeat constructor)) ?_
  refine GL.o rfl (S1.fa fa32_3 rfl) ?_
  refine GL.o rfl (S1.ldA ag29 rfl (.old hx (by simp_all)) (by repeat constructor)) ?_
  refine GL.o rfl (S1.fa fa32_5 rfl) ?_
  refine GL.o rfl (S1.ld sc30 rfl (.old hx (by simp_all)) rfl) ?_
  refine GL.call rfl .no fo29 .nil (fun h H => ct29 H.rom hq hw ht) (.d (.c (v := (.agg _)) rfl (.c (v := (.agg _)) rfl (.c (v := (.slice _ _ _)) rfl .n)))) (fun ⟨u1, v1⟩ _ => ?_)
  refine GL.o rfl (S1.mvT rfl) ?_
  refine GL.o rfl (S1.ext (v := (.int _ _)) rfl rfl) ?_
  refine GL.o rfl (S1.ext (v := (.int _ _)) rfl rfl) ?_
  refine GL.o rfl (S1.asI rfl) ?_
  refine GL.o rfl (S1.asI rfl) ?_
  refine GL.dn rfl ?_
  refine GW.sr rfl rfl ?_
  refine GL.o rfl (S1.mvP rfl) ?_
  refine GL.o rfl (S1.mvI rfl) ?_
  refine GL.put rfl .no fo8 (ct8) p (.cons .z .nil) (by omega) (by omega) (.d (.c (v := (.pointer _)) rfl (.c (v := (.int _ _)) rfl .n))) (fun vn2 vs2 E2 ns2 ss2 p2 lN2 lS2 => ?_)
  refine GL.dn rfl ?_
  refine GW.sr rfl rfl ?_
  refine GL.o rfl (S1.mvP rfl) ?_
  refine GL.o rfl (S1.mvI rfl) ?_
  refine GL.put rfl .no fo9 (ct9) p2 (.cons .z .tz) (by omega) (by omega) (.d (.c (v := (.pointer _)) rfl (.c (v := (.int _ _)) rfl .n))) (fun vn3 vs3 E3 ns3 ss3 p3 lN3 lS3 => ?_)
  refine GL.dn rfl ?_
  refine GW.sr rfl rfl ?_
  refine GL.o rfl (S1.asF rfl) ?_
  refine GL.dn rfl ?_
  refine GW.toRet rfl ?_
  refine GQ.ret (_, _, _, _, _) (.tmp (v := (.func _ _ _)) rfl rfl .nil) .one rfl ⟨p3, by dsimp only; omega, by dsimp only; omega⟩ (.cons .z (.app .tz .nil))

theorem ct30 (hq : Cell hr (.sl ly71) (.slice qa qn qc)) (hw : Cell hr (.sl ly3) (.slice wa wn wc)) (hp : Cell hr (.sl ly3) (.slice pa pn pc)) (hn : Cell hr (.sl ly3) (.slice na nn nc)) (ht : Cell hr (.sl ly23) (.slice ta tn tc))
    (G : GoodA hr (xsB qa qn qc wa wn wc x2 x3 x4 pa pn pc x6 x7 x8 na nn nc ta tn tc x11) zero2 xb hb h) : ClN Try.prog 30 10 1000 hb xb h := by
  have p := PS.nn
  have hx := G.x
  have hne : xb ∉ [hb] := by simpa using G.ne
  have e0 : ([] : List Int).length = 0 := rfl
  have e1 : ([] : List ByteArray).length = 0 := rfl
  refine Ct.go Try.func30 rfl rfl co30 (Hp.start1 G.rom G.z G.zo) ?_
  refine GW.sr rfl rfl ?_
  refine GL.o rfl (S1.as (v := .nilFunc) rfl) ?_
  refine GL.dn rfl ?_
  refine GW.sr rfl rfl ?_
  refine GL.o rfl (S1.fa fa32_0 rfl) ?_
  refine GL.o rfl (S1.ldA ag27 rfl (.old hx (by simp_all)) (by repeat constructor)) ?_
  refine GL.o rfl (S1.fa fa32_6 rfl) ?_
  refine GL.o rfl (S1.ld sc3 rfl (.old hx (by simp_all)) rfl) ?_
  refine GL.call rfl .no fo31 .nil (fun h H => ct31 H.rom hq hw) (.d (.c (v := (.agg _)) rfl (.c (v := (.int _ _)) rfl .n))) (fun ⟨u1, v1, w1⟩ _ => ?_)
  refine GL.o rfl (S1.mvT rfl) ?_
  refine GL.o rfl (S1.ext (v := (.agg _)) rfl rfl) ?_
  refine GL.o rfl (S1.ext (v := (.int _ _)) rfl rfl) ?_
  refine GL.opN rfl .no (SN.al zc25) (fun a2 => ?_)
  refine GL.o rfl (S1.stA ag25 rfl rfl rfl rfl (by repeat constructor) .z) ?_
  refine GL.o rfl (S1.asI rfl) ?_
  refine GL.dn rfl ?_
  refine GW.sr rfl rfl ?_
  refine GL.o rfl (S1.mvP rfl) ?_
  refine GL.o rfl (S1.ldW ag25 rfl (.at .z) rfl) ?_
  refine GL.put rfl .no fo32 (ct32) p (.cons (.s .z) .nil) (by omega) (by omega) (.d (.c (v := (.pointer _)) rfl (.c (v := (.agg _)) rfl .n))) (fun vn3 vs3 E3 ns3 ss3 p3 lN3 lS3 => ?_)
  refine GL.dn rfl ?_
  refine GW.sr rfl rfl ?_
  refine GL.o rfl (S1.mvP rfl) ?_
  refine GL.o rfl (S1.mvI rfl) ?_
  refine GL.put rfl .no fo9 (ct9) p3 (.cons (.s .z) (.ts .tz)) (by omega) (by omega) (.d (.c (v := (.pointer _)) rfl (.c (v := (.int _ _)) rfl .n))) (fun vn4 vs4 E4 ns4 ss4 p4 lN4 lS4 => ?_)
  refine GL.dn rfl ?_
  refine GW.sr rfl rfl ?_
  refine GL.o rfl (S1.asF rfl) ?_
  refine GL.dn rfl ?_
  refine GW.toRet rfl ?_
  refine GQ.ret (_, _, _, _, _) (.tmp (v := (.func _ _ _)) rfl rfl .nil) .one rfl ⟨p4, by dsimp only; omega, by dsimp only; omega⟩ (.cons (.s .z) (.app (.ts .tz) .nil))

end
end Go.Proofs.Ytenkebdjlajanaa
