/- P1: contracts: what is put, what is written over (printed by wip/tools/pw.py). -/
import Derived.Test.YtmlknglgijeepaaBA
set_option linter.all false
set_option linter.constructorNameAsVariable false
set_option linter.unusedSimpArgs false
set_option linter.unusedVariables false
set_option linter.unusedSectionVars false
set_option linter.unnecessarySimpa false
namespace Go.Proofs.Ytmlknglgijeepaa
open Go Go.E
set_option maxRecDepth 100000

theorem ct8 {hr : RO} {x : Int} : PutCt Try.prog hr 8 [.int .i64 x] 1 1 := by
  intro h hb vn vs E ns ss H p l1 l2
  cases p <;> refine Ct.go Try.func8 rfl rfl co8 H ?_
  · refine GW.toReg rfl ?_
    refine GL.one rfl .no (S1.mv (v := (.pointer _)) rfl) ?_
    refine GL.one rfl .no (S1.mv (v := (.pointer _)) rfl) ?_
    refine GL.one rfl .no (S1.nc rfl) ?_
    refine GL.one rfl .no (S1.fa fa36_0 rfl) ?_
    refine GL.one rfl .no (S1.ld sc31 rfl (.at .z) rfl) ?_
    refine GL.one rfl .no (S1.mv (v := (.int _ _)) rfl) ?_
    refine GL.opN rfl .no (SN.bs el31 ez31 (.c (v := (.int _ _)) rfl rfl .n) rfl rfl) (fun a1 => ?_)
    refine GL.opN rfl .no (SN.ap0 ap31_31 rfl (.row rfl (.at .z) rfl) (by omega) (by omega)) (fun a4 => ?_)
    refine GL.one rfl .no (S1.nc rfl) ?_
    refine GL.one rfl .no (S1.fa fa36_0 rfl) ?_
    refine GL.one rfl .no (S1.st (u := (.slice _ _ _)) sc31 rfl rfl rfl (by repeat constructor) (.s (.s .z))) ?_
    refine GL.done rfl ?_
    refine GQ.putEnd rfl (PS.rn (ns := [x]) (by simp)) (by simp) (by simp) (.cons (.s (.s .z)) (.cons .z .nil))
  · refine GW.toReg rfl ?_
    refine GL.one rfl .no (S1.mv (v := (.pointer _)) rfl) ?_
    refine GL.one rfl .no (S1.mv (v := (.pointer _)) rfl) ?_
    refine GL.one rfl .no (S1.nc rfl) ?_
    refine GL.one rfl .no (S1.fa fa36_0 rfl) ?_
    refine GL.one rfl .no (S1.ld sc31 rfl (.at .z) rfl) ?_
    refine GL.one rfl .no (S1.mv (v := (.int _ _)) rfl) ?_
    refine GL.opN rfl .no (SN.bs el31 ez31 (.c (v := (.int _ _)) rfl rfl .n) rfl rfl) (fun a5 => ?_)
    refine GL.opN rfl .no (SN.apO ap31_31 rfl (.row rfl (.at .z) rfl) (by omega) (by omega) rfl (.s (.s .z)) (by first | rfl | omega | (rw [ints_len]; omega) | (rw [strs_len]; omega))) (fun a8 => ?_)
    refine GL.one rfl .no (S1.nc rfl) ?_
    refine GL.one rfl .no (S1.fa fa36_0 rfl) ?_
    refine GL.one rfl .no (S1.st (u := (.slice _ _ _)) sc31 rfl rfl rfl (by repeat constructor) (.s (.s .z))) ?_
    refine GL.done rfl ?_
    refine GQ.putEnd rfl (PS.rnA (ns := ns) (x := x) rfl) (by simp) (by simp) (.cons (.s (.s .z)) (.cons .z .nil))
  · refine GW.toReg rfl ?_
    refine GL.one rfl .no (S1.mv (v := (.pointer _)) rfl) ?_
    refine GL.one rfl .no (S1.mv (v := (.pointer _)) rfl) ?_
    refine GL.one rfl .no (S1.nc rfl) ?_
    refine GL.one rfl .no (S1.fa fa36_0 rfl) ?_
    refine GL.one rfl .no (S1.ld sc31 rfl (.at .z) rfl) ?_
    refine GL.one rfl .no (S1.mv (v := (.int _ _)) rfl) ?_
    refine GL.opN rfl .no (SN.bs el31 ez31 (.c (v := (.int _ _)) rfl rfl .n) rfl rfl) (fun a9 => ?_)
    refine GL.opN rfl .no (SN.ap0 ap31_31 rfl (.row rfl (.at .z) rfl) (by omega) (by omega)) (fun a12 => ?_)
    refine GL.one rfl .no (S1.nc rfl) ?_
    refine GL.one rfl .no (S1.fa fa36_0 rfl) ?_
    refine GL.one rfl .no (S1.st (u := (.slice _ _ _)) sc31 rfl rfl rfl (by repeat constructor) (.s (.s .z))) ?_
    refine GL.done rfl ?_
    refine GQ.putEnd rfl (PS.rr (ns := [x]) (by simp) (by assumption)) (by simp) (by simp) (.cons (.s (.s .z)) (.cons .z (.cons (.s .z) .nil)))
  · refine GW.toReg rfl ?_
    refine GL.one rfl .no (S1.mv (v := (.pointer _)) rfl) ?_
    refine GL.one rfl .no (S1.mv (v := (.pointer _)) rfl) ?_
    refine GL.one rfl .no (S1.nc rfl) ?_
    refine GL.one rfl .no (S1.fa fa36_0 rfl) ?_
    refine GL.one rfl .no (S1.ld sc31 rfl (.at .z) rfl) ?_
    refine GL.one rfl .no (S1.mv (v := (.int _ _)) rfl) ?_
    refine GL.opN rfl .no (SN.bs el31 ez31 (.c (v := (.int _ _)) rfl rfl .n) rfl rfl) (fun a13 => ?_)
    refine GL.opN rfl .no (SN.apO ap31_31 rfl (.row rfl (.at .z) rfl) (by omega) (by omega) rfl (.s (.s .z)) (by first | rfl | omega | (rw [ints_len]; omega) | (rw [strs_len]; omega))) (fun a16 => ?_)
    refine GL.one rfl .no (S1.nc rfl) ?_
    refine GL.one rfl .no (S1.fa fa36_0 rfl) ?_
    refine GL.one rfl .no (S1.st (u := (.slice _ _ _)) sc31 rfl rfl rfl (by repeat constructor) (.s (.s .z))) ?_
    refine GL.done rfl ?_
    refine GQ.putEnd rfl (PS.rrA (ns := ns) (x := x) (by assumption) rfl rfl) (by simp) (by simp) (.cons (.s (.s .z)) (.cons .z (.cons (.s .z) .nil)))

theorem ct9 {hr : RO} {x : Int} : PutCt Try.prog hr 9 [.int .i64 x] 1 1 := by
  intro h hb vn vs E ns ss H p l1 l2
  cases p <;> refine Ct.go Try.func9 rfl rfl co9 H ?_
  · refine GW.toReg rfl ?_
    refine GL.one rfl .no (S1.mv (v := (.pointer _)) rfl) ?_
    refine GL.one rfl .no (S1.mv (v := (.pointer _)) rfl) ?_
    refine GL.one rfl .no (S1.nc rfl) ?_
    refine GL.one rfl .no (S1.fa fa36_0 rfl) ?_
    refine GL.one rfl .no (S1.ld sc31 rfl (.at .z) rfl) ?_
    refine GL.one rfl .no (S1.mv (v := (.int _ _)) rfl) ?_
    refine GL.opN rfl .no (SN.bs el31 ez31 (.c (v := (.int _ _)) rfl rfl .n) rfl rfl) (fun a1 => ?_)
    refine GL.opN rfl .no (SN.ap0 ap31_31 rfl (.row rfl (.at .z) rfl) (by omega) (by omega)) (fun a4 => ?_)
    refine GL.one rfl .no (S1.nc rfl) ?_
    refine GL.one rfl .no (S1.fa fa36_0 rfl) ?_
    refine GL.one rfl .no (S1.st (u := (.slice _ _ _)) sc31 rfl rfl rfl (by repeat constructor) (.s (.s .z))) ?_
    refine GL.done rfl ?_
    refine GQ.putEnd rfl (PS.rn (ns := [x]) (by simp)) (by simp) (by simp) (.cons (.s (.s .z)) (.cons .z .nil))
  · refine GW.toReg rfl ?_
    refine GL.one rfl .no (S1.mv (v := (.pointer _)) rfl) ?_
    refine GL.one rfl .no (S1.mv (v := (.pointer _)) rfl) ?_
    refine GL.one rfl .no (S1.nc rfl) ?_
    refine GL.one rfl .no (S1.fa fa36_0 rfl) ?_
    refine GL.one rfl .no (S1.ld sc31 rfl (.at .z) rfl) ?_
    refine GL.one rfl .no (S1.mv (v := (.int _ _)) rfl) ?_
    refine GL.opN rfl .no (SN.bs el31 ez31 (.c (v := (.int _ _)) rfl rfl .n) rfl rfl) (fun a5 => ?_)
    refine GL.opN rfl .no (SN.apO ap31_31 rfl (.row rfl (.at .z) rfl) (by omega) (by omega) rfl (.s (.s .z)) (by first | rfl | omega | (rw [ints_len]; omega) | (rw [strs_len]; omega))) (fun a8 => ?_)
    refine GL.one rfl .no (S1.nc rfl) ?_
    refine GL.one rfl .no (S1.fa fa36_0 rfl) ?_
    refine GL.one rfl .no (S1.st (u := (.slice _ _ _)) sc31 rfl rfl rfl (by repeat constructor) (.s (.s .z))) ?_
    refine GL.done rfl ?_
    refine GQ.putEnd rfl (PS.rnA (ns := ns) (x := x) rfl) (by simp) (by simp) (.cons (.s (.s .z)) (.cons .z .nil))
  · refine GW.toReg rfl ?_
    refine GL.one rfl .no (S1.mv (v := (.pointer _)) rfl) ?_
    refine GL.one rfl .no (S1.mv (v := (.pointer _)) rfl) ?_
    refine GL.one rfl .no (S1.nc rfl) ?_
    refine GL.one rfl .no (S1.fa fa36_0 rfl) ?_
    refine GL.one rfl .no (S1.ld sc31 rfl (.at .z) rfl) ?_
    refine GL.one rfl .no (S1.mv (v := (.int _ _)) rfl) ?_
    refine GL.opN rfl .no (SN.bs el31 ez31 (.c (v := (.int _ _)) rfl rfl .n) rfl rfl) (fun a9 => ?_)
    refine GL.opN rfl .no (SN.ap0 ap31_31 rfl (.row rfl (.at .z) rfl) (by omega) (by omega)) (fun a12 => ?_)
    refine GL.one rfl .no (S1.nc rfl) ?_
    refine GL.one rfl .no (S1.fa fa36_0 rfl) ?_
    refine GL.one rfl .no (S1.st (u := (.slice _ _ _)) sc31 rfl rfl rfl (by repeat constructor) (.s (.s .z))) ?_
    refine GL.done rfl ?_
    refine GQ.putEnd rfl (PS.rr (ns := [x]) (by simp) (by assumption)) (by simp) (by simp) (.cons (.s (.s .z)) (.cons .z (.cons (.s .z) .nil)))
  · refine GW.toReg rfl ?_
    refine GL.one rfl .no (S1.mv (v := (.pointer _)) rfl) ?_
    refine GL.one rfl .no (S1.mv (v := (.pointer _)) rfl) ?_
    refine GL.one rfl .no (S1.nc rfl) ?_
    refine GL.one rfl .no (S1.fa fa36_0 rfl) ?_
    refine GL.one rfl .no (S1.ld sc31 rfl (.at .z) rfl) ?_
    refine GL.one rfl .no (S1.mv (v := (.int _ _)) rfl) ?_
    refine GL.opN rfl .no (SN.bs el31 ez31 (.c (v := (.int _ _)) rfl rfl .n) rfl rfl) (fun a13 => ?_)
    refine GL.opN rfl .no (SN.apO ap31_31 rfl (.row rfl (.at .z) rfl) (by omega) (by omega) rfl (.s (.s .z)) (by first | rfl | omega | (rw [ints_len]; omega) | (rw [strs_len]; omega))) (fun a16 => ?_)
    refine GL.one rfl .no (S1.nc rfl) ?_
    refine GL.one rfl .no (S1.fa fa36_0 rfl) ?_
    refine GL.one rfl .no (S1.st (u := (.slice _ _ _)) sc31 rfl rfl rfl (by repeat constructor) (.s (.s .z))) ?_
    refine GL.done rfl ?_
    refine GQ.putEnd rfl (PS.rrA (ns := ns) (x := x) (by assumption) rfl rfl) (by simp) (by simp) (.cons (.s (.s .z)) (.cons .z (.cons (.s .z) .nil)))


theorem ct13 {hr : RO} {x0 : Int} {x1 : Int}  : PutCt Try.prog hr 13 [.agg ⟨[.int .i64 x0, .int .i64 x1]⟩] (1 + (1 + 0)) (1 + (1 + 0)) := by
  intro h hb vn vs E ns ss H p l1 l2
  refine Ct.go Try.func13 rfl rfl co13 H ?_
  refine GW.toSeq rfl ?_
  refine GW.toReg rfl ?_
  refine GL.opN rfl .no (SN.bx (u := .agg ⟨_⟩) rfl .agg) (fun a1 => ?_)
  refine GL.done rfl ?_
  refine GQ.on ?_
  refine GW.toSeq rfl ?_
  refine GW.toReg rfl ?_
  refine GL.one rfl .no (S1.mv (v := (.pointer _)) rfl) ?_
  refine GL.one rfl .no (S1.fa fa47_0 rfl) ?_
  refine GL.one rfl .no (S1.ld sc3 rfl (.at .z) rfl) ?_
  refine GL.put rfl .no fo8 (ct8) p (.cons (.s .z) (.ts .tz)) (by omega) (by omega) (.d (.c (v := (.pointer _)) rfl (.c (v := (.int _ _)) rfl .n))) (fun vn2 vs2 E2 ns2 ss2 p2 lN2 lS2 => ?_)
  refine GL.done rfl ?_
  refine GQ.on ?_
  refine GW.toReg rfl ?_
  refine GL.one rfl .no (S1.mv (v := (.pointer _)) rfl) ?_
  refine GL.one rfl .no (S1.fa fa47_1 rfl) ?_
  refine GL.one rfl .no (S1.ld sc3 rfl (.at .z) rfl) ?_
  refine GL.put rfl .no fo8 (ct8) p2 (.cons (.s .z) (.ts .tz)) (by omega) (by omega) (.d (.c (v := (.pointer _)) rfl (.c (v := (.int _ _)) rfl .n))) (fun vn3 vs3 E3 ns3 ss3 p3 lN3 lS3 => ?_)
  refine GL.done rfl ?_
  refine GQ.putEnd rfl p3 (by omega) (by omega) (.cons (.s .z) (.ts .tz))


/-- A list is put. -/
theorem ct51 {hr : RO} {a : Option Addr} {n c g : Nat} {wn ws : Nat → Nat} (hc : Cell hr (.sl wy47) (.slice a n c)) (hf : fnOk Try.prog g = true) (pc : ∀ k, k < n → PutCt Try.prog hr g [.agg ⟨[.int .i64 (iv (el hr a (k * 2))), .int .i64 (iv (el hr a (k * 2 + 1)))]⟩] (wn k) (ws k)) :
    PutCt Try.prog hr 51 [.slice a n c, .func (.func g) ⟨[]⟩ ⟨[]⟩] (1 + sumTo wn n) (sumTo ws n) := by
  intro h hb vn vs E ns ss H p l1 l2
  have hl := hc.le
  refine Ct.go Try.func51 rfl rfl co51 H ?_
  refine GW.cut (fun _ => [(0, .pointer (some ⟨hb, 0, none⟩)), (1, .slice a n c), (2, .func (.func g) ⟨[]⟩ ⟨[]⟩)]) (fun y : Value × Value × Ents × List Int × List ByteArray => (hb, .cells [y.1, y.2.1] none true) :: y.2.2.1) (fun y => PS y.1 y.2.1 y.2.2.1 y.2.2.2.1 y.2.2.2.2 ∧ y.2.2.2.1.length ≤ ns.length + 1 ∧ y.2.2.2.2.length ≤ ss.length) rfl ?_ ?_
  · cases p
    · refine GW.toReg rfl ?_
      refine GL.one rfl .no (S1.mv (v := (.pointer _)) rfl) ?_
      refine GL.one rfl .no (S1.mv (v := (.pointer _)) rfl) ?_
      refine GL.one rfl .no (S1.nc rfl) ?_
      refine GL.one rfl .no (S1.fa fa36_0 rfl) ?_
      refine GL.one rfl .no (S1.ld sc31 rfl (.at .z) rfl) ?_
      refine GL.one rfl .no (S1.mv (v := (.slice _ _ _)) rfl) ?_
      refine GL.one rfl .no (S1.len el26 rfl) ?_
      refine GL.opN rfl .no (SN.bs el31 ez31 (.c (v := (.int _ _)) rfl rfl .n) rfl rfl) (fun a1 => ?_)
      refine GL.opN rfl .no (SN.ap0 ap31_31 rfl (.row rfl (.at .z) rfl) (by omega) (by omega)) (fun a4 => ?_)
      refine GL.one rfl .no (S1.nc rfl) ?_
      refine GL.one rfl .no (S1.fa fa36_0 rfl) ?_
      refine GL.one rfl .no (S1.st (u := (.slice _ _ _)) sc31 rfl rfl rfl (by repeat constructor) (.s (.s .z))) ?_
      refine GL.done rfl ?_
      refine GQ.cutEnd (_, _, _, _, _) ⟨PS.rn (ns := [(n : Int)]) (by simp), by simp, by simp⟩ (.c rfl (.c rfl (.c rfl .n))) (.cons (.s (.s .z)) (.cons .z .nil))
    · refine GW.toReg rfl ?_
      refine GL.one rfl .no (S1.mv (v := (.pointer _)) rfl) ?_
      refine GL.one rfl .no (S1.mv (v := (.pointer _)) rfl) ?_
      refine GL.one rfl .no (S1.nc rfl) ?_
      refine GL.one rfl .no (S1.fa fa36_0 rfl) ?_
      refine GL.one rfl .no (S1.ld sc31 rfl (.at .z) rfl) ?_
      refine GL.one rfl .no (S1.mv (v := (.slice _ _ _)) rfl) ?_
      refine GL.one rfl .no (S1.len el26 rfl) ?_
      refine GL.opN rfl .no (SN.bs el31 ez31 (.c (v := (.int _ _)) rfl rfl .n) rfl rfl) (fun a5 => ?_)
      refine GL.opN rfl .no (SN.apO ap31_31 rfl (.row rfl (.at .z) rfl) (by omega) (by omega) rfl (.s (.s .z)) (by first | rfl | omega | (rw [ints_len]; omega) | (rw [strs_len]; omega))) (fun a8 => ?_)
      refine GL.one rfl .no (S1.nc rfl) ?_
      refine GL.one rfl .no (S1.fa fa36_0 rfl) ?_
      refine GL.one rfl .no (S1.st (u := (.slice _ _ _)) sc31 rfl rfl rfl (by repeat constructor) (.s (.s .z))) ?_
      refine GL.done rfl ?_
      refine GQ.cutEnd (_, _, _, _, _) ⟨PS.rnA (ns := ns) (x := (n : Int)) rfl, by simp, by simp⟩ (.c rfl (.c rfl (.c rfl .n))) (.cons (.s (.s .z)) (.cons .z .nil))
    · refine GW.toReg rfl ?_
      refine GL.one rfl .no (S1.mv (v := (.pointer _)) rfl) ?_
      refine GL.one rfl .no (S1.mv (v := (.pointer _)) rfl) ?_
      refine GL.one rfl .no (S1.nc rfl) ?_
      refine GL.one rfl .no (S1.fa fa36_0 rfl) ?_
      refine GL.one rfl .no (S1.ld sc31 rfl (.at .z) rfl) ?_
      refine GL.one rfl .no (S1.mv (v := (.slice _ _ _)) rfl) ?_
      refine GL.one rfl .no (S1.len el26 rfl) ?_
      refine GL.opN rfl .no (SN.bs el31 ez31 (.c (v := (.int _ _)) rfl rfl .n) rfl rfl) (fun a9 => ?_)
      refine GL.opN rfl .no (SN.ap0 ap31_31 rfl (.row rfl (.at .z) rfl) (by omega) (by omega)) (fun a12 => ?_)
      refine GL.one rfl .no (S1.nc rfl) ?_
      refine GL.one rfl .no (S1.fa fa36_0 rfl) ?_
      refine GL.one rfl .no (S1.st (u := (.slice _ _ _)) sc31 rfl rfl rfl (by repeat constructor) (.s (.s .z))) ?_
      refine GL.done rfl ?_
      refine GQ.cutEnd (_, _, _, _, _) ⟨PS.rr (ns := [(n : Int)]) (by simp) (by assumption), by simp, by simp⟩ (.c rfl (.c rfl (.c rfl .n))) (.cons (.s (.s .z)) (.cons .z (.cons (.s .z) .nil)))
    · refine GW.toReg rfl ?_
      refine GL.one rfl .no (S1.mv (v := (.pointer _)) rfl) ?_
      refine GL.one rfl .no (S1.mv (v := (.pointer _)) rfl) ?_
      refine GL.one rfl .no (S1.nc rfl) ?_
      refine GL.one rfl .no (S1.fa fa36_0 rfl) ?_
      refine GL.one rfl .no (S1.ld sc31 rfl (.at .z) rfl) ?_
      refine GL.one rfl .no (S1.mv (v := (.slice _ _ _)) rfl) ?_
      refine GL.one rfl .no (S1.len el26 rfl) ?_
      refine GL.opN rfl .no (SN.bs el31 ez31 (.c (v := (.int _ _)) rfl rfl .n) rfl rfl) (fun a13 => ?_)
      refine GL.opN rfl .no (SN.apO ap31_31 rfl (.row rfl (.at .z) rfl) (by omega) (by omega) rfl (.s (.s .z)) (by first | rfl | omega | (rw [ints_len]; omega) | (rw [strs_len]; omega))) (fun a16 => ?_)
      refine GL.one rfl .no (S1.nc rfl) ?_
      refine GL.one rfl .no (S1.fa fa36_0 rfl) ?_
      refine GL.one rfl .no (S1.st (u := (.slice _ _ _)) sc31 rfl rfl rfl (by repeat constructor) (.s (.s .z))) ?_
      refine GL.done rfl ?_
      refine GQ.cutEnd (_, _, _, _, _) ⟨PS.rrA (ns := ns) (x := (n : Int)) (by assumption) rfl rfl, by simp, by simp⟩ (.c rfl (.c rfl (.c rfl .n))) (.cons (.s (.s .z)) (.cons .z (.cons (.s .z) .nil)))
  rintro ⟨vn1, vs1, E1, ns1, ss1⟩ f1 ⟨p1, q1, q2⟩
  refine GW.toSeq rfl ?_
  refine GW.toReg rfl ?_
  refine GL.one rfl .no (S1.as (v := (.int _ _)) rfl) ?_
  refine GL.done rfl ?_
  refine GQ.on ?_
  refine GW.toBlock rfl ?_
  refine GW.toLoop (X := Nat × Value × Value × Ents × List Int × List ByteArray) (fun y => [(0, .pointer (some ⟨hb, 0, none⟩)), (1, .slice a n c), (2, .func (.func g) ⟨[]⟩ ⟨[]⟩), (6, .int .i64 (y.1 : Int))]) (fun y => (hb, .cells [y.2.1, y.2.2.1] none true) :: y.2.2.2.1)
    (fun y => y.1 ≤ n ∧ PS y.2.1 y.2.2.1 y.2.2.2.1 y.2.2.2.2.1 y.2.2.2.2.2 ∧ y.2.2.2.2.1.length ≤ ns.length + 1 + sumTo wn y.1 ∧ y.2.2.2.2.2.length ≤ ss.length + sumTo ws y.1) (fun y => n - y.1) rfl (0, vn1, vs1, E1, ns1, ss1) ⟨Nat.zero_le _, p1, by simpa [sumTo] using q1, by simpa [sumTo] using q2⟩ (.c rfl (.c rfl (.c rfl (.c rfl .n)))) .tz ?_
  rintro ⟨k, vn2, vs2, E2, ns2, ss2⟩ f2 ⟨hk, p2, r1, r2⟩
  simp only at hk p2 r1 r2
  have m1 := sumTo_mono (w := wn) hk
  have m2 := sumTo_mono (w := ws) hk
  refine GW.toSeq rfl ?_
  refine GW.toSeq rfl ?_
  refine GW.toReg rfl ?_
  refine GL.one rfl .no (S1.mv (v := (.int _ _)) rfl) ?_
  refine GL.one rfl .no (S1.mv (v := (.slice _ _ _)) rfl) ?_
  refine GL.one rfl .no (S1.len el26 rfl) ?_
  refine GL.one rfl .no (S1.lss rfl rfl) ?_
  refine GL.done rfl ?_
  refine GQ.on ?_
  refine GW.toD rfl rfl (fun w17 => ?_) (fun w17 => ?_)
  refine GW.toSkip rfl ?_
  refine GQ.on ?_
  refine GW.toSeq rfl ?_
  refine GW.toBlock rfl ?_
  refine GW.toReg rfl ?_
  refine GL.one rfl .no (S1.mv (v := (.func _ _ _)) rfl) ?_
  refine GL.one rfl .no (S1.mv (v := (.pointer _)) rfl) ?_
  refine GL.one rfl .no (S1.mv (v := (.slice _ _ _)) rfl) ?_
  refine GL.one rfl .no (S1.mv (v := (.int _ _)) rfl) ?_
  refine GL.one rfl .no (S1.ixR el26 hc rfl rfl (by omega)) ?_
  refine GL.one rfl .no (S1.ldE ag47 hc rfl (m := (k, vn2, vs2, E2, ns2, ss2).fst) (by omega) rfl le47) ?_
  rotate_left
  refine GW.toExit rfl ?_
  refine GQ.onE ?_
  refine GQ.onE ?_
  refine GQ.outH ?_
  refine GQ.putEnd rfl p2 (by omega) (by omega) .tz
  · have m3 := sumTo_mono (w := wn) (show k + 1 ≤ n by omega)
    have m4 := sumTo_mono (w := ws) (show k + 1 ≤ n by omega)
    simp only [sumTo] at m3 m4
    refine GL.put rfl .no hf (pc k (by omega)) p2 (.cons .z .tz) (by omega) (by omega) (.v (fs := []) (cs := []) rfl (.c rfl (.c rfl .n))) (fun vn3 vs3 E3 ns3 ss3 p3 l3 m3 => ?_)
    refine GL.done rfl ?_
    refine GQ.outN ?_
    refine GQ.on ?_
    refine GW.toReg rfl ?_
    refine GL.one rfl .no (S1.mv (v := (.int _ _)) rfl) ?_
    refine GL.one rfl .no (S1.inc rfl rfl (by omega)) ?_
    refine GL.one rfl .no (S1.as (v := (.int _ _)) rfl) ?_
    refine GL.done rfl ?_
    refine GQ.next (k + 1, vn3, vs3, E3, ns3, ss3) ⟨by simp only; omega, p3, by simp only [sumTo]; omega, by simp only [sumTo]; omega⟩ (by simp only; omega) (.c rfl (.c rfl (.c rfl (.c rfl .n)))) (.cons .z .tz)


theorem ct18 {hr : RO} {a : Option Addr} {n c : Nat} (hc : Cell hr (.sl wy47) (.slice a n c)) : PutCt Try.prog hr 18 [.slice a n c] (bk hr (.sl wy47) (.slice a n c)) (bk hr (.sl wy47) (.slice a n c)) := by
  intro h hb vn vs E ns ss H p l1 l2
  refine Ct.go Try.func18 rfl rfl co18 H ?_
  refine GW.toReg rfl ?_
  refine GL.one rfl .no (S1.mv (v := (.pointer _)) rfl) ?_
  refine GL.one rfl .no (S1.mv (v := (.slice _ _ _)) rfl) ?_
  refine GL.put rfl .no fo51 ((ct51 (wn := fun k => bkL hr wy47 a (k * 2) 0) (ws := fun k => bkL hr wy47 a (k * 2) 0) hc fo13 (fun k hk => (ct13 ).le (Nat.le_refl _) (Nat.le_refl _))).le (wN' := bk hr (.sl wy47) (.slice a n c)) (wS' := bk hr (.sl wy47) (.slice a n c)) (Nat.le_refl _) (Nat.le_add_left _ _)) p (.cons .z .tz) (by omega) (by omega) (.d (.c rfl (.c rfl (.c rfl .n)))) (fun vn3 vs3 E3 ns3 ss3 p3 l3 m3 => ?_)
  refine GL.done rfl ?_
  refine GQ.putEnd rfl p3 (by omega) (by omega) (.cons .z .tz)

theorem ct27 {hr : RO} {x : Bool} : PutCt Try.prog hr 27 [.bool x] 1 1 := by
  intro h hb vn vs E ns ss H p l1 l2
  cases x <;> cases p <;> refine Ct.go Try.func27 rfl rfl co27 H ?_
  · refine GW.toSeq rfl ?_
    refine GW.toReg rfl ?_
    refine GL.one rfl .no (S1.as (v := (.int _ _)) rfl) ?_
    refine GL.done rfl ?_
    refine GQ.on ?_
    refine GW.toSeq rfl ?_
    refine GW.toSeq rfl ?_
    refine GW.toReg rfl ?_
    refine GL.one rfl .no (S1.mv (v := (.bool _)) rfl) ?_
    refine GL.done rfl ?_
    refine GQ.on ?_
    refine GW.toF rfl rfl ?_
    refine GW.toSkip rfl ?_
    refine GQ.on ?_
    refine GW.toReg rfl ?_
    refine GL.one rfl .no (S1.mv (v := (.pointer _)) rfl) ?_
    refine GL.one rfl .no (S1.mv (v := (.pointer _)) rfl) ?_
    refine GL.one rfl .no (S1.nc rfl) ?_
    refine GL.one rfl .no (S1.fa fa36_0 rfl) ?_
    refine GL.one rfl .no (S1.ld sc31 rfl (.at .z) rfl) ?_
    refine GL.one rfl .no (S1.mv (v := (.int _ _)) rfl) ?_
    refine GL.opN rfl .no (SN.bs el31 ez31 (.c (v := (.int _ _)) rfl rfl .n) rfl rfl) (fun a1 => ?_)
    refine GL.opN rfl .no (SN.ap0 ap31_31 rfl (.row rfl (.at .z) rfl) (by omega) (by omega)) (fun a4 => ?_)
    refine GL.one rfl .no (S1.nc rfl) ?_
    refine GL.one rfl .no (S1.fa fa36_0 rfl) ?_
    refine GL.one rfl .no (S1.st (u := (.slice _ _ _)) sc31 rfl rfl rfl (by repeat constructor) (.s (.s .z))) ?_
    refine GL.done rfl ?_
    refine GQ.putEnd rfl (PS.rn (ns := [0]) (by simp)) (by simp) (by simp) (.cons (.s (.s .z)) (.cons .z .nil))
  · refine GW.toSeq rfl ?_
    refine GW.toReg rfl ?_
    refine GL.one rfl .no (S1.as (v := (.int _ _)) rfl) ?_
    refine GL.done rfl ?_
    refine GQ.on ?_
    refine GW.toSeq rfl ?_
    refine GW.toSeq rfl ?_
    refine GW.toReg rfl ?_
    refine GL.one rfl .no (S1.mv (v := (.bool _)) rfl) ?_
    refine GL.done rfl ?_
    refine GQ.on ?_
    refine GW.toF rfl rfl ?_
    refine GW.toSkip rfl ?_
    refine GQ.on ?_
    refine GW.toReg rfl ?_
    refine GL.one rfl .no (S1.mv (v := (.pointer _)) rfl) ?_
    refine GL.one rfl .no (S1.mv (v := (.pointer _)) rfl) ?_
    refine GL.one rfl .no (S1.nc rfl) ?_
    refine GL.one rfl .no (S1.fa fa36_0 rfl) ?_
    refine GL.one rfl .no (S1.ld sc31 rfl (.at .z) rfl) ?_
    refine GL.one rfl .no (S1.mv (v := (.int _ _)) rfl) ?_
    refine GL.opN rfl .no (SN.bs el31 ez31 (.c (v := (.int _ _)) rfl rfl .n) rfl rfl) (fun a5 => ?_)
    refine GL.opN rfl .no (SN.apO ap31_31 rfl (.row rfl (.at .z) rfl) (by omega) (by omega) rfl (.s (.s .z)) (by first | rfl | omega | (rw [ints_len]; omega) | (rw [strs_len]; omega))) (fun a8 => ?_)
    refine GL.one rfl .no (S1.nc rfl) ?_
    refine GL.one rfl .no (S1.fa fa36_0 rfl) ?_
    refine GL.one rfl .no (S1.st (u := (.slice _ _ _)) sc31 rfl rfl rfl (by repeat constructor) (.s (.s .z))) ?_
    refine GL.done rfl ?_
    refine GQ.putEnd rfl (PS.rnA (ns := ns) (x := 0) rfl) (by simp) (by simp) (.cons (.s (.s .z)) (.cons .z .nil))
  · refine GW.toSeq rfl ?_
    refine GW.toReg rfl ?_
    refine GL.one rfl .no (S1.as (v := (.int _ _)) rfl) ?_
    refine GL.done rfl ?_
    refine GQ.on ?_
    refine GW.toSeq rfl ?_
    refine GW.toSeq rfl ?_
    refine GW.toReg rfl ?_
    refine GL.one rfl .no (S1.mv (v := (.bool _)) rfl) ?_
    refine GL.done rfl ?_
    refine GQ.on ?_
    refine GW.toF rfl rfl ?_
    refine GW.toSkip rfl ?_
    refine GQ.on ?_
    refine GW.toReg rfl ?_
    refine GL.one rfl .no (S1.mv (v := (.pointer _)) rfl) ?_
    refine GL.one rfl .no (S1.mv (v := (.pointer _)) rfl) ?_
    refine GL.one rfl .no (S1.nc rfl) ?_
    refine GL.one rfl .no (S1.fa fa36_0 rfl) ?_
    refine GL.one rfl .no (S1.ld sc31 rfl (.at .z) rfl) ?_
    refine GL.one rfl .no (S1.mv (v := (.int _ _)) rfl) ?_
    refine GL.opN rfl .no (SN.bs el31 ez31 (.c (v := (.int _ _)) rfl rfl .n) rfl rfl) (fun a9 => ?_)
    refine GL.opN rfl .no (SN.ap0 ap31_31 rfl (.row rfl (.at .z) rfl) (by omega) (by omega)) (fun a12 => ?_)
    refine GL.one rfl .no (S1.nc rfl) ?_
    refine GL.one rfl .no (S1.fa fa36_0 rfl) ?_
    refine GL.one rfl .no (S1.st (u := (.slice _ _ _)) sc31 rfl rfl rfl (by repeat constructor) (.s (.s .z))) ?_
    refine GL.done rfl ?_
    refine GQ.putEnd rfl (PS.rr (ns := [0]) (by simp) (by assumption)) (by simp) (by simp) (.cons (.s (.s .z)) (.cons .z (.cons (.s .z) .nil)))
  · refine GW.toSeq rfl ?_
    refine GW.toReg rfl ?_
    refine GL.one rfl .no (S1.as (v := (.int _ _)) rfl) ?_
    refine GL.done rfl ?_
    refine GQ.on ?_
    refine GW.toSeq rfl ?_
    refine GW.toSeq rfl ?_
    refine GW.toReg rfl ?_
    refine GL.one rfl .no (S1.mv (v := (.bool _)) rfl) ?_
    refine GL.done rfl ?_
    refine GQ.on ?_
    refine GW.toF rfl rfl ?_
    refine GW.toSkip rfl ?_
    refine GQ.on ?_
    refine GW.toReg rfl ?_
    refine GL.one rfl .no (S1.mv (v := (.pointer _)) rfl) ?_
    refine GL.one rfl .no (S1.mv (v := (.pointer _)) rfl) ?_
    refine GL.one rfl .no (S1.nc rfl) ?_
    refine GL.one rfl .no (S1.fa fa36_0 rfl) ?_
    refine GL.one rfl .no (S1.ld sc31 rfl (.at .z) rfl) ?_
    refine GL.one rfl .no (S1.mv (v := (.int _ _)) rfl) ?_
    refine GL.opN rfl .no (SN.bs el31 ez31 (.c (v := (.int _ _)) rfl rfl .n) rfl rfl) (fun a13 => ?_)
    refine GL.opN rfl .no (SN.apO ap31_31 rfl (.row rfl (.at .z) rfl) (by omega) (by omega) rfl (.s (.s .z)) (by first | rfl | omega | (rw [ints_len]; omega) | (rw [strs_len]; omega))) (fun a16 => ?_)
    refine GL.one rfl .no (S1.nc rfl) ?_
    refine GL.one rfl .no (S1.fa fa36_0 rfl) ?_
    refine GL.one rfl .no (S1.st (u := (.slice _ _ _)) sc31 rfl rfl rfl (by repeat constructor) (.s (.s .z))) ?_
    refine GL.done rfl ?_
    refine GQ.putEnd rfl (PS.rrA (ns := ns) (x := 0) (by assumption) rfl rfl) (by simp) (by simp) (.cons (.s (.s .z)) (.cons .z (.cons (.s .z) .nil)))
  · refine GW.toSeq rfl ?_
    refine GW.toReg rfl ?_
    refine GL.one rfl .no (S1.as (v := (.int _ _)) rfl) ?_
    refine GL.done rfl ?_
    refine GQ.on ?_
    refine GW.toSeq rfl ?_
    refine GW.toSeq rfl ?_
    refine GW.toReg rfl ?_
    refine GL.one rfl .no (S1.mv (v := (.bool _)) rfl) ?_
    refine GL.done rfl ?_
    refine GQ.on ?_
    refine GW.toT rfl rfl ?_
    refine GW.toReg rfl ?_
    refine GL.one rfl .no (S1.as (v := (.int _ _)) rfl) ?_
    refine GL.done rfl ?_
    refine GQ.on ?_
    refine GW.toReg rfl ?_
    refine GL.one rfl .no (S1.mv (v := (.pointer _)) rfl) ?_
    refine GL.one rfl .no (S1.mv (v := (.pointer _)) rfl) ?_
    refine GL.one rfl .no (S1.nc rfl) ?_
    refine GL.one rfl .no (S1.fa fa36_0 rfl) ?_
    refine GL.one rfl .no (S1.ld sc31 rfl (.at .z) rfl) ?_
    refine GL.one rfl .no (S1.mv (v := (.int _ _)) rfl) ?_
    refine GL.opN rfl .no (SN.bs el31 ez31 (.c (v := (.int _ _)) rfl rfl .n) rfl rfl) (fun a17 => ?_)
    refine GL.opN rfl .no (SN.ap0 ap31_31 rfl (.row rfl (.at .z) rfl) (by omega) (by omega)) (fun a20 => ?_)
    refine GL.one rfl .no (S1.nc rfl) ?_
    refine GL.one rfl .no (S1.fa fa36_0 rfl) ?_
    refine GL.one rfl .no (S1.st (u := (.slice _ _ _)) sc31 rfl rfl rfl (by repeat constructor) (.s (.s .z))) ?_
    refine GL.done rfl ?_
    refine GQ.putEnd rfl (PS.rn (ns := [1]) (by simp)) (by simp) (by simp) (.cons (.s (.s .z)) (.cons .z .nil))
  · refine GW.toSeq rfl ?_
    refine GW.toReg rfl ?_
    refine GL.one rfl .no (S1.as (v := (.int _ _)) rfl) ?_
    refine GL.done rfl ?_
    refine GQ.on ?_
    refine GW.toSeq rfl ?_
    refine GW.toSeq rfl ?_
    refine GW.toReg rfl ?_
    refine GL.one rfl .no (S1.mv (v := (.bool _)) rfl) ?_
    refine GL.done rfl ?_
    refine GQ.on ?_
    refine GW.toT rfl rfl ?_
    refine GW.toReg rfl ?_
    refine GL.one rfl .no (S1.as (v := (.int _ _)) rfl) ?_
    refine GL.done rfl ?_
    refine GQ.on ?_
    refine GW.toReg rfl ?_
    refine GL.one rfl .no (S1.mv (v := (.pointer _)) rfl) ?_
    refine GL.one rfl .no (S1.mv (v := (.pointer _)) rfl) ?_
    refine GL.one rfl .no (S1.nc rfl) ?_
    refine GL.one rfl .no (S1.fa fa36_0 rfl) ?_
    refine GL.one rfl .no (S1.ld sc31 rfl (.at .z) rfl) ?_
    refine GL.one rfl .no (S1.mv (v := (.int _ _)) rfl) ?_
    refine GL.opN rfl .no (SN.bs el31 ez31 (.c (v := (.int _ _)) rfl rfl .n) rfl rfl) (fun a21 => ?_)
    refine GL.opN rfl .no (SN.apO ap31_31 rfl (.row rfl (.at .z) rfl) (by omega) (by omega) rfl (.s (.s .z)) (by first | rfl | omega | (rw [ints_len]; omega) | (rw [strs_len]; omega))) (fun a24 => ?_)
    refine GL.one rfl .no (S1.nc rfl) ?_
    refine GL.one rfl .no (S1.fa fa36_0 rfl) ?_
    refine GL.one rfl .no (S1.st (u := (.slice _ _ _)) sc31 rfl rfl rfl (by repeat constructor) (.s (.s .z))) ?_
    refine GL.done rfl ?_
    refine GQ.putEnd rfl (PS.rnA (ns := ns) (x := 1) rfl) (by simp) (by simp) (.cons (.s (.s .z)) (.cons .z .nil))
  · refine GW.toSeq rfl ?_
    refine GW.toReg rfl ?_
    refine GL.one rfl .no (S1.as (v := (.int _ _)) rfl) ?_
    refine GL.done rfl ?_
    refine GQ.on ?_
    refine GW.toSeq rfl ?_
    refine GW.toSeq rfl ?_
    refine GW.toReg rfl ?_
    refine GL.one rfl .no (S1.mv (v := (.bool _)) rfl) ?_
    refine GL.done rfl ?_
    refine GQ.on ?_
    refine GW.toT rfl rfl ?_
    refine GW.toReg rfl ?_
    refine GL.one rfl .no (S1.as (v := (.int _ _)) rfl) ?_
    refine GL.done rfl ?_
    refine GQ.on ?_
    refine GW.toReg rfl ?_
    refine GL.one rfl .no (S1.mv (v := (.pointer _)) rfl) ?_
    refine GL.one rfl .no (S1.mv (v := (.pointer _)) rfl) ?_
    refine GL.one rfl .no (S1.nc rfl) ?_
    refine GL.one rfl .no (S1.fa fa36_0 rfl) ?_
    refine GL.one rfl .no (S1.ld sc31 rfl (.at .z) rfl) ?_
    refine GL.one rfl .no (S1.mv (v := (.int _ _)) rfl) ?_
    refine GL.opN rfl .no (SN.bs el31 ez31 (.c (v := (.int _ _)) rfl rfl .n) rfl rfl) (fun a25 => ?_)
    refine GL.opN rfl .no (SN.ap0 ap31_31 rfl (.row rfl (.at .z) rfl) (by omega) (by omega)) (fun a28 => ?_)
    refine GL.one rfl .no (S1.nc rfl) ?_
    refine GL.one rfl .no (S1.fa fa36_0 rfl) ?_
    refine GL.one rfl .no (S1.st (u := (.slice _ _ _)) sc31 rfl rfl rfl (by repeat constructor) (.s (.s .z))) ?_
    refine GL.done rfl ?_
    refine GQ.putEnd rfl (PS.rr (ns := [1]) (by simp) (by assumption)) (by simp) (by simp) (.cons (.s (.s .z)) (.cons .z (.cons (.s .z) .nil)))
  · refine GW.toSeq rfl ?_
    refine GW.toReg rfl ?_
    refine GL.one rfl .no (S1.as (v := (.int _ _)) rfl) ?_
    refine GL.done rfl ?_
    refine GQ.on ?_
    refine GW.toSeq rfl ?_
    refine GW.toSeq rfl ?_
    refine GW.toReg rfl ?_
    refine GL.one rfl .no (S1.mv (v := (.bool _)) rfl) ?_
    refine GL.done rfl ?_
    refine GQ.on ?_
    refine GW.toT rfl rfl ?_
    refine GW.toReg rfl ?_
    refine GL.one rfl .no (S1.as (v := (.int _ _)) rfl) ?_
    refine GL.done rfl ?_
    refine GQ.on ?_
    refine GW.toReg rfl ?_
    refine GL.one rfl .no (S1.mv (v := (.pointer _)) rfl) ?_
    refine GL.one rfl .no (S1.mv (v := (.pointer _)) rfl) ?_
    refine GL.one rfl .no (S1.nc rfl) ?_
    refine GL.one rfl .no (S1.fa fa36_0 rfl) ?_
    refine GL.one rfl .no (S1.ld sc31 rfl (.at .z) rfl) ?_
    refine GL.one rfl .no (S1.mv (v := (.int _ _)) rfl) ?_
    refine GL.opN rfl .no (SN.bs el31 ez31 (.c (v := (.int _ _)) rfl rfl .n) rfl rfl) (fun a29 => ?_)
    refine GL.opN rfl .no (SN.apO ap31_31 rfl (.row rfl (.at .z) rfl) (by omega) (by omega) rfl (.s (.s .z)) (by first | rfl | omega | (rw [ints_len]; omega) | (rw [strs_len]; omega))) (fun a32 => ?_)
    refine GL.one rfl .no (S1.nc rfl) ?_
    refine GL.one rfl .no (S1.fa fa36_0 rfl) ?_
    refine GL.one rfl .no (S1.st (u := (.slice _ _ _)) sc31 rfl rfl rfl (by repeat constructor) (.s (.s .z))) ?_
    refine GL.done rfl ?_
    refine GQ.putEnd rfl (PS.rrA (ns := ns) (x := 1) (by assumption) rfl rfl) (by simp) (by simp) (.cons (.s (.s .z)) (.cons .z (.cons (.s .z) .nil)))


/-- A list is put. -/
theorem ct63 {hr : RO} {a : Option Addr} {n c g : Nat} {wn ws : Nat → Nat} (hc : Cell hr (.sl wy3) (.slice a n c)) (hf : fnOk Try.prog g = true) (pc : ∀ k, k < n → PutCt Try.prog hr g [.int .i64 (iv (el hr a (k * 1 + 0)))] (wn k) (ws k)) :
    PutCt Try.prog hr 63 [.slice a n c, .func (.func g) ⟨[]⟩ ⟨[]⟩] (1 + sumTo wn n) (sumTo ws n) := by
  intro h hb vn vs E ns ss H p l1 l2
  have hl := hc.le
  refine Ct.go Try.func63 rfl rfl co63 H ?_
  refine GW.cut (fun _ => [(0, .pointer (some ⟨hb, 0, none⟩)), (1, .slice a n c), (2, .func (.func g) ⟨[]⟩ ⟨[]⟩)]) (fun y : Value × Value × Ents × List Int × List ByteArray => (hb, .cells [y.1, y.2.1] none true) :: y.2.2.1) (fun y => PS y.1 y.2.1 y.2.2.1 y.2.2.2.1 y.2.2.2.2 ∧ y.2.2.2.1.length ≤ ns.length + 1 ∧ y.2.2.2.2.length ≤ ss.length) rfl ?_ ?_
  · cases p
    · refine GW.toReg rfl ?_
      refine GL.one rfl .no (S1.mv (v := (.pointer _)) rfl) ?_
      refine GL.one rfl .no (S1.mv (v := (.pointer _)) rfl) ?_
      refine GL.one rfl .no (S1.nc rfl) ?_
      refine GL.one rfl .no (S1.fa fa36_0 rfl) ?_
      refine GL.one rfl .no (S1.ld sc31 rfl (.at .z) rfl) ?_
      refine GL.one rfl .no (S1.mv (v := (.slice _ _ _)) rfl) ?_
      refine GL.one rfl .no (S1.len el31 rfl) ?_
      refine GL.opN rfl .no (SN.bs el31 ez31 (.c (v := (.int _ _)) rfl rfl .n) rfl rfl) (fun a1 => ?_)
      refine GL.opN rfl .no (SN.ap0 ap31_31 rfl (.row rfl (.at .z) rfl) (by omega) (by omega)) (fun a4 => ?_)
      refine GL.one rfl .no (S1.nc rfl) ?_
      refine GL.one rfl .no (S1.fa fa36_0 rfl) ?_
      refine GL.one rfl .no (S1.st (u := (.slice _ _ _)) sc31 rfl rfl rfl (by repeat constructor) (.s (.s .z))) ?_
      refine GL.done rfl ?_
      refine GQ.cutEnd (_, _, _, _, _) ⟨PS.rn (ns := [(n : Int)]) (by simp), by simp, by simp⟩ (.c rfl (.c rfl (.c rfl .n))) (.cons (.s (.s .z)) (.cons .z .nil))
    · refine GW.toReg rfl ?_
      refine GL.one rfl .no (S1.mv (v := (.pointer _)) rfl) ?_
      refine GL.one rfl .no (S1.mv (v := (.pointer _)) rfl) ?_
      refine GL.one rfl .no (S1.nc rfl) ?_
      refine GL.one rfl .no (S1.fa fa36_0 rfl) ?_
      refine GL.one rfl .no (S1.ld sc31 rfl (.at .z) rfl) ?_
      refine GL.one rfl .no (S1.mv (v := (.slice _ _ _)) rfl) ?_
      refine GL.one rfl .no (S1.len el31 rfl) ?_
      refine GL.opN rfl .no (SN.bs el31 ez31 (.c (v := (.int _ _)) rfl rfl .n) rfl rfl) (fun a5 => ?_)
      refine GL.opN rfl .no (SN.apO ap31_31 rfl (.row rfl (.at .z) rfl) (by omega) (by omega) rfl (.s (.s .z)) (by first | rfl | omega | (rw [ints_len]; omega) | (rw [strs_len]; omega))) (fun a8 => ?_)
      refine GL.one rfl .no (S1.nc rfl) ?_
      refine GL.one rfl .no (S1.fa fa36_0 rfl) ?_
      refine GL.one rfl .no (S1.st (u := (.slice _ _ _)) sc31 rfl rfl rfl (by repeat constructor) (.s (.s .z))) ?_
      refine GL.done rfl ?_
      refine GQ.cutEnd (_, _, _, _, _) ⟨PS.rnA (ns := ns) (x := (n : Int)) rfl, by simp, by simp⟩ (.c rfl (.c rfl (.c rfl .n))) (.cons (.s (.s .z)) (.cons .z .nil))
    · refine GW.toReg rfl ?_
      refine GL.one rfl .no (S1.mv (v := (.pointer _)) rfl) ?_
      refine GL.one rfl .no (S1.mv (v := (.pointer _)) rfl) ?_
      refine GL.one rfl .no (S1.nc rfl) ?_
      refine GL.one rfl .no (S1.fa fa36_0 rfl) ?_
      refine GL.one rfl .no (S1.ld sc31 rfl (.at .z) rfl) ?_
      refine GL.one rfl .no (S1.mv (v := (.slice _ _ _)) rfl) ?_
      refine GL.one rfl .no (S1.len el31 rfl) ?_
      refine GL.opN rfl .no (SN.bs el31 ez31 (.c (v := (.int _ _)) rfl rfl .n) rfl rfl) (fun a9 => ?_)
      refine GL.opN rfl .no (SN.ap0 ap31_31 rfl (.row rfl (.at .z) rfl) (by omega) (by omega)) (fun a12 => ?_)
      refine GL.one rfl .no (S1.nc rfl) ?_
      refine GL.one rfl .no (S1.fa fa36_0 rfl) ?_
      refine GL.one rfl .no (S1.st (u := (.slice _ _ _)) sc31 rfl rfl rfl (by repeat constructor) (.s (.s .z))) ?_
      refine GL.done rfl ?_
      refine GQ.cutEnd (_, _, _, _, _) ⟨PS.rr (ns := [(n : Int)]) (by simp) (by assumption), by simp, by simp⟩ (.c rfl (.c rfl (.c rfl .n))) (.cons (.s (.s .z)) (.cons .z (.cons (.s .z) .nil)))
    · refine GW.toReg rfl ?_
      refine GL.one rfl .no (S1.mv (v := (.pointer _)) rfl) ?_
      refine GL.one rfl .no (S1.mv (v := (.pointer _)) rfl) ?_
      refine GL.one rfl .no (S1.nc rfl) ?_
      refine GL.one rfl .no (S1.fa fa36_0 rfl) ?_
      refine GL.one rfl .no (S1.ld sc31 rfl (.at .z) rfl) ?_
      refine GL.one rfl .no (S1.mv (v := (.slice _ _ _)) rfl) ?_
      refine GL.one rfl .no (S1.len el31 rfl) ?_
      refine GL.opN rfl .no (SN.bs el31 ez31 (.c (v := (.int _ _)) rfl rfl .n) rfl rfl) (fun a13 => ?_)
      refine GL.opN rfl .no (SN.apO ap31_31 rfl (.row rfl (.at .z) rfl) (by omega) (by omega) rfl (.s (.s .z)) (by first | rfl | omega | (rw [ints_len]; omega) | (rw [strs_len]; omega))) (fun a16 => ?_)
      refine GL.one rfl .no (S1.nc rfl) ?_
      refine GL.one rfl .no (S1.fa fa36_0 rfl) ?_
      refine GL.one rfl .no (S1.st (u := (.slice _ _ _)) sc31 rfl rfl rfl (by repeat constructor) (.s (.s .z))) ?_
      refine GL.done rfl ?_
      refine GQ.cutEnd (_, _, _, _, _) ⟨PS.rrA (ns := ns) (x := (n : Int)) (by assumption) rfl rfl, by simp, by simp⟩ (.c rfl (.c rfl (.c rfl .n))) (.cons (.s (.s .z)) (.cons .z (.cons (.s .z) .nil)))
  rintro ⟨vn1, vs1, E1, ns1, ss1⟩ f1 ⟨p1, q1, q2⟩
  refine GW.toSeq rfl ?_
  refine GW.toReg rfl ?_
  refine GL.one rfl .no (S1.as (v := (.int _ _)) rfl) ?_
  refine GL.done rfl ?_
  refine GQ.on ?_
  refine GW.toBlock rfl ?_
  refine GW.toLoop (X := Nat × Value × Value × Ents × List Int × List ByteArray) (fun y => [(0, .pointer (some ⟨hb, 0, none⟩)), (1, .slice a n c), (2, .func (.func g) ⟨[]⟩ ⟨[]⟩), (6, .int .i64 (y.1 : Int))]) (fun y => (hb, .cells [y.2.1, y.2.2.1] none true) :: y.2.2.2.1)
    (fun y => y.1 ≤ n ∧ PS y.2.1 y.2.2.1 y.2.2.2.1 y.2.2.2.2.1 y.2.2.2.2.2 ∧ y.2.2.2.2.1.length ≤ ns.length + 1 + sumTo wn y.1 ∧ y.2.2.2.2.2.length ≤ ss.length + sumTo ws y.1) (fun y => n - y.1) rfl (0, vn1, vs1, E1, ns1, ss1) ⟨Nat.zero_le _, p1, by simpa [sumTo] using q1, by simpa [sumTo] using q2⟩ (.c rfl (.c rfl (.c rfl (.c rfl .n)))) .tz ?_
  rintro ⟨k, vn2, vs2, E2, ns2, ss2⟩ f2 ⟨hk, p2, r1, r2⟩
  simp only at hk p2 r1 r2
  have m1 := sumTo_mono (w := wn) hk
  have m2 := sumTo_mono (w := ws) hk
  refine GW.toSeq rfl ?_
  refine GW.toSeq rfl ?_
  refine GW.toReg rfl ?_
  refine GL.one rfl .no (S1.mv (v := (.int _ _)) rfl) ?_
  refine GL.one rfl .no (S1.mv (v := (.slice _ _ _)) rfl) ?_
  refine GL.one rfl .no (S1.len el31 rfl) ?_
  refine GL.one rfl .no (S1.lss rfl rfl) ?_
  refine GL.done rfl ?_
  refine GQ.on ?_
  refine GW.toD rfl rfl (fun w17 => ?_) (fun w17 => ?_)
  refine GW.toSkip rfl ?_
  refine GQ.on ?_
  refine GW.toSeq rfl ?_
  refine GW.toBlock rfl ?_
  refine GW.toReg rfl ?_
  refine GL.one rfl .no (S1.mv (v := (.func _ _ _)) rfl) ?_
  refine GL.one rfl .no (S1.mv (v := (.pointer _)) rfl) ?_
  refine GL.one rfl .no (S1.mv (v := (.slice _ _ _)) rfl) ?_
  refine GL.one rfl .no (S1.mv (v := (.int _ _)) rfl) ?_
  refine GL.one rfl .no (S1.ixR el31 hc rfl rfl (by omega)) ?_
  refine GL.one rfl .no (S1.ldCI sc3 (z := 1) hc rfl (m := (k, vn2, vs2, E2, ns2, ss2).fst) (by omega) rfl (d := 0) rfl rfl) ?_
  rotate_left
  refine GW.toExit rfl ?_
  refine GQ.onE ?_
  refine GQ.onE ?_
  refine GQ.outH ?_
  refine GQ.putEnd rfl p2 (by omega) (by omega) .tz
  · have m3 := sumTo_mono (w := wn) (show k + 1 ≤ n by omega)
    have m4 := sumTo_mono (w := ws) (show k + 1 ≤ n by omega)
    simp only [sumTo] at m3 m4
    refine GL.put rfl .no hf (pc k (by omega)) p2 (.cons .z .tz) (by omega) (by omega) (.v (fs := []) (cs := []) rfl (.c rfl (.c rfl .n))) (fun vn3 vs3 E3 ns3 ss3 p3 l3 m3 => ?_)
    refine GL.done rfl ?_
    refine GQ.outN ?_
    refine GQ.on ?_
    refine GW.toReg rfl ?_
    refine GL.one rfl .no (S1.mv (v := (.int _ _)) rfl) ?_
    refine GL.one rfl .no (S1.inc rfl rfl (by omega)) ?_
    refine GL.one rfl .no (S1.as (v := (.int _ _)) rfl) ?_
    refine GL.done rfl ?_
    refine GQ.next (k + 1, vn3, vs3, E3, ns3, ss3) ⟨by simp only; omega, p3, by simp only [sumTo]; omega, by simp only [sumTo]; omega⟩ (by simp only; omega) (.c rfl (.c rfl (.c rfl (.c rfl .n)))) (.cons .z .tz)


theorem ct30 {hr : RO} {a : Option Addr} {n c : Nat} (hc : Cell hr (.sl wy3) (.slice a n c)) : PutCt Try.prog hr 30 [.slice a n c] (bk hr (.sl wy3) (.slice a n c)) (bk hr (.sl wy3) (.slice a n c)) := by
  intro h hb vn vs E ns ss H p l1 l2
  refine Ct.go Try.func30 rfl rfl co30 H ?_
  refine GW.toReg rfl ?_
  refine GL.one rfl .no (S1.mv (v := (.pointer _)) rfl) ?_
  refine GL.one rfl .no (S1.mv (v := (.slice _ _ _)) rfl) ?_
  refine GL.put rfl .no fo63 ((ct63 (wn := fun k => bkL hr wy3 a (k * 1) 0) (ws := fun k => bkL hr wy3 a (k * 1) 0) hc fo8 (fun k hk => (ct8 ).le (Nat.le_refl _) (Nat.le_refl _))).le (wN' := bk hr (.sl wy3) (.slice a n c)) (wS' := bk hr (.sl wy3) (.slice a n c)) (Nat.le_refl _) (Nat.le_add_left _ _)) p (.cons .z .tz) (by omega) (by omega) (.d (.c rfl (.c rfl (.c rfl .n)))) (fun vn3 vs3 E3 ns3 ss3 p3 l3 m3 => ?_)
  refine GL.done rfl ?_
  refine GQ.putEnd rfl p3 (by omega) (by omega) (.cons .z .tz)


/-- A list is put. -/
theorem ct92 {hr : RO} {a : Option Addr} {n c g : Nat} {wn ws : Nat → Nat} (hc : Cell hr (.sl wy75) (.slice a n c)) (hf : fnOk Try.prog g = true) (pc : ∀ k, k < n → PutCt Try.prog hr g [.agg ⟨[.string (sv (el hr a (k * 5))), .int .i64 (iv (el hr a (k * 5 + 1))), .int .i64 (iv (el hr a (k * 5 + 2))), .int .i64 (iv (el hr a (k * 5 + 3))), .int .i64 (iv (el hr a (k * 5 + 4)))]⟩] (wn k) (ws k)) :
    PutCt Try.prog hr 92 [.slice a n c, .func (.func g) ⟨[]⟩ ⟨[]⟩] (1 + sumTo wn n) (sumTo ws n) := by
  intro h hb vn vs E ns ss H p l1 l2
  have hl := hc.le
  refine Ct.go Try.func92 rfl rfl co92 H ?_
  refine GW.cut (fun _ => [(0, .pointer (some ⟨hb, 0, none⟩)), (1, .slice a n c), (2, .func (.func g) ⟨[]⟩ ⟨[]⟩)]) (fun y : Value × Value × Ents × List Int × List ByteArray => (hb, .cells [y.1, y.2.1] none true) :: y.2.2.1) (fun y => PS y.1 y.2.1 y.2.2.1 y.2.2.2.1 y.2.2.2.2 ∧ y.2.2.2.1.length ≤ ns.length + 1 ∧ y.2.2.2.2.length ≤ ss.length) rfl ?_ ?_
  · cases p
    · refine GW.toReg rfl ?_
      refine GL.one rfl .no (S1.mv (v := (.pointer _)) rfl) ?_
      refine GL.one rfl .no (S1.mv (v := (.pointer _)) rfl) ?_
      refine GL.one rfl .no (S1.nc rfl) ?_
      refine GL.one rfl .no (S1.fa fa36_0 rfl) ?_
      refine GL.one rfl .no (S1.ld sc31 rfl (.at .z) rfl) ?_
      refine GL.one rfl .no (S1.mv (v := (.slice _ _ _)) rfl) ?_
      refine GL.one rfl .no (S1.len el22 rfl) ?_
      refine GL.opN rfl .no (SN.bs el31 ez31 (.c (v := (.int _ _)) rfl rfl .n) rfl rfl) (fun a1 => ?_)
      refine GL.opN rfl .no (SN.ap0 ap31_31 rfl (.row rfl (.at .z) rfl) (by omega) (by omega)) (fun a4 => ?_)
      refine GL.one rfl .no (S1.nc rfl) ?_
      refine GL.one rfl .no (S1.fa fa36_0 rfl) ?_
      refine GL.one rfl .no (S1.st (u := (.slice _ _ _)) sc31 rfl rfl rfl (by repeat constructor) (.s (.s .z))) ?_
      refine GL.done rfl ?_
      refine GQ.cutEnd (_, _, _, _, _) ⟨PS.rn (ns := [(n : Int)]) (by simp), by simp, by simp⟩ (.c rfl (.c rfl (.c rfl .n))) (.cons (.s (.s .z)) (.cons .z .nil))
    · refine GW.toReg rfl ?_
      refine GL.one rfl .no (S1.mv (v := (.pointer _)) rfl) ?_
      refine GL.one rfl .no (S1.mv (v := (.pointer _)) rfl) ?_
      refine GL.one rfl .no (S1.nc rfl) ?_
      refine GL.one rfl .no (S1.fa fa36_0 rfl) ?_
      refine GL.one rfl .no (S1.ld sc31 rfl (.at .z) rfl) ?_
      refine GL.one rfl .no (S1.mv (v := (.slice _ _ _)) rfl) ?_
      refine GL.one rfl .no (S1.len el22 rfl) ?_
      refine GL.opN rfl .no (SN.bs el31 ez31 (.c (v := (.int _ _)) rfl rfl .n) rfl rfl) (fun a5 => ?_)
      refine GL.opN rfl .no (SN.apO ap31_31 rfl (.row rfl (.at .z) rfl) (by omega) (by omega) rfl (.s (.s .z)) (by first | rfl | omega | (rw [ints_len]; omega) | (rw [strs_len]; omega))) (fun a8 => ?_)
      refine GL.one rfl .no (S1.nc rfl) ?_
      refine GL.one rfl .no (S1.fa fa36_0 rfl) ?_
      refine GL.one rfl .no (S1.st (u := (.slice _ _ _)) sc31 rfl rfl rfl (by repeat constructor) (.s (.s .z))) ?_
      refine GL.done rfl ?_
      refine GQ.cutEnd (_, _, _, _, _) ⟨PS.rnA (ns := ns) (x := (n : Int)) rfl, by simp, by simp⟩ (.c rfl (.c rfl (.c rfl .n))) (.cons (.s (.s .z)) (.cons .z .nil))
    · refine GW.toReg rfl ?_
      refine GL.one rfl .no (S1.mv (v := (.pointer _)) rfl) ?_
      refine GL.one rfl .no (S1.mv (v := (.pointer _)) rfl) ?_
      refine GL.one rfl .no (S1.nc rfl) ?_
      refine GL.one rfl .no (S1.fa fa36_0 rfl) ?_
      refine GL.one rfl .no (S1.ld sc31 rfl (.at .z) rfl) ?_
      refine GL.one rfl .no (S1.mv (v := (.slice _ _ _)) rfl) ?_
      refine GL.one rfl .no (S1.len el22 rfl) ?_
      refine GL.opN rfl .no (SN.bs el31 ez31 (.c (v := (.int _ _)) rfl rfl .n) rfl rfl) (fun a9 => ?_)
      refine GL.opN rfl .no (SN.ap0 ap31_31 rfl (.row rfl (.at .z) rfl) (by omega) (by omega)) (fun a12 => ?_)
      refine GL.one rfl .no (S1.nc rfl) ?_
      refine GL.one rfl .no (S1.fa fa36_0 rfl) ?_
      refine GL.one rfl .no (S1.st (u := (.slice _ _ _)) sc31 rfl rfl rfl (by repeat constructor) (.s (.s .z))) ?_
      refine GL.done rfl ?_
      refine GQ.cutEnd (_, _, _, _, _) ⟨PS.rr (ns := [(n : Int)]) (by simp) (by assumption), by simp, by simp⟩ (.c rfl (.c rfl (.c rfl .n))) (.cons (.s (.s .z)) (.cons .z (.cons (.s .z) .nil)))
    · refine GW.toReg rfl ?_
      refine GL.one rfl .no (S1.mv (v := (.pointer _)) rfl) ?_
      refine GL.one rfl .no (S1.mv (v := (.pointer _)) rfl) ?_
      refine GL.one rfl .no (S1.nc rfl) ?_
      refine GL.one rfl .no (S1.fa fa36_0 rfl) ?_
      refine GL.one rfl .no (S1.ld sc31 rfl (.at .z) rfl) ?_
      refine GL.one rfl .no (S1.mv (v := (.slice _ _ _)) rfl) ?_
      refine GL.one rfl .no (S1.len el22 rfl) ?_
      refine GL.opN rfl .no (SN.bs el31 ez31 (.c (v := (.int _ _)) rfl rfl .n) rfl rfl) (fun a13 => ?_)
      refine GL.opN rfl .no (SN.apO ap31_31 rfl (.row rfl (.at .z) rfl) (by omega) (by omega) rfl (.s (.s .z)) (by first | rfl | omega | (rw [ints_len]; omega) | (rw [strs_len]; omega))) (fun a16 => ?_)
      refine GL.one rfl .no (S1.nc rfl) ?_
      refine GL.one rfl .no (S1.fa fa36_0 rfl) ?_
      refine GL.one rfl .no (S1.st (u := (.slice _ _ _)) sc31 rfl rfl rfl (by repeat constructor) (.s (.s .z))) ?_
      refine GL.done rfl ?_
      refine GQ.cutEnd (_, _, _, _, _) ⟨PS.rrA (ns := ns) (x := (n : Int)) (by assumption) rfl rfl, by simp, by simp⟩ (.c rfl (.c rfl (.c rfl .n))) (.cons (.s (.s .z)) (.cons .z (.cons (.s .z) .nil)))
  rintro ⟨vn1, vs1, E1, ns1, ss1⟩ f1 ⟨p1, q1, q2⟩
  refine GW.toSeq rfl ?_
  refine GW.toReg rfl ?_
  refine GL.one rfl .no (S1.as (v := (.int _ _)) rfl) ?_
  refine GL.done rfl ?_
  refine GQ.on ?_
  refine GW.toBlock rfl ?_
  refine GW.toLoop (X := Nat × Value × Value × Ents × List Int × List ByteArray) (fun y => [(0, .pointer (some ⟨hb, 0, none⟩)), (1, .slice a n c), (2, .func (.func g) ⟨[]⟩ ⟨[]⟩), (6, .int .i64 (y.1 : Int))]) (fun y => (hb, .cells [y.2.1, y.2.2.1] none true) :: y.2.2.2.1)
    (fun y => y.1 ≤ n ∧ PS y.2.1 y.2.2.1 y.2.2.2.1 y.2.2.2.2.1 y.2.2.2.2.2 ∧ y.2.2.2.2.1.length ≤ ns.length + 1 + sumTo wn y.1 ∧ y.2.2.2.2.2.length ≤ ss.length + sumTo ws y.1) (fun y => n - y.1) rfl (0, vn1, vs1, E1, ns1, ss1) ⟨Nat.zero_le _, p1, by simpa [sumTo] using q1, by simpa [sumTo] using q2⟩ (.c rfl (.c rfl (.c rfl (.c rfl .n)))) .tz ?_
  rintro ⟨k, vn2, vs2, E2, ns2, ss2⟩ f2 ⟨hk, p2, r1, r2⟩
  simp only at hk p2 r1 r2
  have m1 := sumTo_mono (w := wn) hk
  have m2 := sumTo_mono (w := ws) hk
  refine GW.toSeq rfl ?_
  refine GW.toSeq rfl ?_
  refine GW.toReg rfl ?_
  refine GL.one rfl .no (S1.mv (v := (.int _ _)) rfl) ?_
  refine GL.one rfl .no (S1.mv (v := (.slice _ _ _)) rfl) ?_
  refine GL.one rfl .no (S1.len el22 rfl) ?_
  refine GL.one rfl .no (S1.lss rfl rfl) ?_
  refine GL.done rfl ?_
  refine GQ.on ?_
  refine GW.toD rfl rfl (fun w17 => ?_) (fun w17 => ?_)
  refine GW.toSkip rfl ?_
  refine GQ.on ?_
  refine GW.toSeq rfl ?_
  refine GW.toBlock rfl ?_
  refine GW.toReg rfl ?_
  refine GL.one rfl .no (S1.mv (v := (.func _ _ _)) rfl) ?_
  refine GL.one rfl .no (S1.mv (v := (.pointer _)) rfl) ?_
  refine GL.one rfl .no (S1.mv (v := (.slice _ _ _)) rfl) ?_
  refine GL.one rfl .no (S1.mv (v := (.int _ _)) rfl) ?_
  refine GL.one rfl .no (S1.ixR el22 hc rfl rfl (by omega)) ?_
  refine GL.one rfl .no (S1.ldE ag75 hc rfl (m := (k, vn2, vs2, E2, ns2, ss2).fst) (by omega) rfl le75) ?_
  rotate_left
  refine GW.toExit rfl ?_
  refine GQ.onE ?_
  refine GQ.onE ?_
  refine GQ.outH ?_
  refine GQ.putEnd rfl p2 (by omega) (by omega) .tz
  · have m3 := sumTo_mono (w := wn) (show k + 1 ≤ n by omega)
    have m4 := sumTo_mono (w := ws) (show k + 1 ≤ n by omega)
    simp only [sumTo] at m3 m4
    refine GL.put rfl .no hf (pc k (by omega)) p2 (.cons .z .tz) (by omega) (by omega) (.v (fs := []) (cs := []) rfl (.c rfl (.c rfl .n))) (fun vn3 vs3 E3 ns3 ss3 p3 l3 m3 => ?_)
    refine GL.done rfl ?_
    refine GQ.outN ?_
    refine GQ.on ?_
    refine GW.toReg rfl ?_
    refine GL.one rfl .no (S1.mv (v := (.int _ _)) rfl) ?_
    refine GL.one rfl .no (S1.inc rfl rfl (by omega)) ?_
    refine GL.one rfl .no (S1.as (v := (.int _ _)) rfl) ?_
    refine GL.done rfl ?_
    refine GQ.next (k + 1, vn3, vs3, E3, ns3, ss3) ⟨by simp only; omega, p3, by simp only [sumTo]; omega, by simp only [sumTo]; omega⟩ (by simp only; omega) (.c rfl (.c rfl (.c rfl (.c rfl .n)))) (.cons .z .tz)

theorem ct100 {hr : RO} {x : ByteArray} : PutCt Try.prog hr 100 [.string x] 1 1 := by
  intro h hb vn vs E ns ss H p l1 l2
  cases p <;> refine Ct.go Try.func100 rfl rfl co100 H ?_
  · refine GW.toReg rfl ?_
    refine GL.one rfl .no (S1.mv (v := (.pointer _)) rfl) ?_
    refine GL.one rfl .no (S1.mv (v := (.pointer _)) rfl) ?_
    refine GL.one rfl .no (S1.nc rfl) ?_
    refine GL.one rfl .no (S1.fa fa36_1 rfl) ?_
    refine GL.one rfl .no (S1.ld sc34 rfl (.at .z) rfl) ?_
    refine GL.one rfl .no (S1.mv (v := (.string _)) rfl) ?_
    refine GL.opN rfl .no (SN.bs el34 ez34 (.c (v := (.string _)) rfl rfl .n) rfl rfl) (fun a1 => ?_)
    refine GL.opN rfl .no (SN.ap0 ap34_34 rfl (.row rfl (.at .z) rfl) (by omega) (by omega)) (fun a4 => ?_)
    refine GL.one rfl .no (S1.nc rfl) ?_
    refine GL.one rfl .no (S1.fa fa36_1 rfl) ?_
    refine GL.one rfl .no (S1.st (u := (.slice _ _ _)) sc34 rfl rfl rfl (by repeat constructor) (.s (.s .z))) ?_
    refine GL.done rfl ?_
    refine GQ.putEnd rfl (PS.nr (ss := [x]) (by simp)) (by simp) (by simp) (.cons (.s (.s .z)) (.cons .z .nil))
  · refine GW.toReg rfl ?_
    refine GL.one rfl .no (S1.mv (v := (.pointer _)) rfl) ?_
    refine GL.one rfl .no (S1.mv (v := (.pointer _)) rfl) ?_
    refine GL.one rfl .no (S1.nc rfl) ?_
    refine GL.one rfl .no (S1.fa fa36_1 rfl) ?_
    refine GL.one rfl .no (S1.ld sc34 rfl (.at .z) rfl) ?_
    refine GL.one rfl .no (S1.mv (v := (.string _)) rfl) ?_
    refine GL.opN rfl .no (SN.bs el34 ez34 (.c (v := (.string _)) rfl rfl .n) rfl rfl) (fun a5 => ?_)
    refine GL.opN rfl .no (SN.ap0 ap34_34 rfl (.row rfl (.at .z) rfl) (by omega) (by omega)) (fun a8 => ?_)
    refine GL.one rfl .no (S1.nc rfl) ?_
    refine GL.one rfl .no (S1.fa fa36_1 rfl) ?_
    refine GL.one rfl .no (S1.st (u := (.slice _ _ _)) sc34 rfl rfl rfl (by repeat constructor) (.s (.s .z))) ?_
    refine GL.done rfl ?_
    refine GQ.putEnd rfl (PS.rr (ss := [x]) (by assumption) (by simp)) (by simp) (by simp) (.cons (.s (.s .z)) (.cons (.s (.s .z)) (.cons .z .nil)))
  · refine GW.toReg rfl ?_
    refine GL.one rfl .no (S1.mv (v := (.pointer _)) rfl) ?_
    refine GL.one rfl .no (S1.mv (v := (.pointer _)) rfl) ?_
    refine GL.one rfl .no (S1.nc rfl) ?_
    refine GL.one rfl .no (S1.fa fa36_1 rfl) ?_
    refine GL.one rfl .no (S1.ld sc34 rfl (.at .z) rfl) ?_
    refine GL.one rfl .no (S1.mv (v := (.string _)) rfl) ?_
    refine GL.opN rfl .no (SN.bs el34 ez34 (.c (v := (.string _)) rfl rfl .n) rfl rfl) (fun a9 => ?_)
    refine GL.opN rfl .no (SN.apO ap34_34 rfl (.row rfl (.at .z) rfl) (by omega) (by omega) rfl (.s (.s .z)) (by first | rfl | omega | (rw [ints_len]; omega) | (rw [strs_len]; omega))) (fun a12 => ?_)
    refine GL.one rfl .no (S1.nc rfl) ?_
    refine GL.one rfl .no (S1.fa fa36_1 rfl) ?_
    refine GL.one rfl .no (S1.st (u := (.slice _ _ _)) sc34 rfl rfl rfl (by repeat constructor) (.s (.s .z))) ?_
    refine GL.done rfl ?_
    refine GQ.putEnd rfl (PS.nrA (ss := ss) (x := x) rfl) (by simp) (by simp) (.cons (.s (.s .z)) (.cons .z .nil))
  · refine GW.toReg rfl ?_
    refine GL.one rfl .no (S1.mv (v := (.pointer _)) rfl) ?_
    refine GL.one rfl .no (S1.mv (v := (.pointer _)) rfl) ?_
    refine GL.one rfl .no (S1.nc rfl) ?_
    refine GL.one rfl .no (S1.fa fa36_1 rfl) ?_
    refine GL.one rfl .no (S1.ld sc34 rfl (.at .z) rfl) ?_
    refine GL.one rfl .no (S1.mv (v := (.string _)) rfl) ?_
    refine GL.opN rfl .no (SN.bs el34 ez34 (.c (v := (.string _)) rfl rfl .n) rfl rfl) (fun a13 => ?_)
    refine GL.opN rfl .no (SN.apO ap34_34 rfl (.row rfl (.at .z) rfl) (by omega) (by omega) rfl (.s (.s (.s .z))) (by first | rfl | omega | (rw [ints_len]; omega) | (rw [strs_len]; omega))) (fun a16 => ?_)
    refine GL.one rfl .no (S1.nc rfl) ?_
    refine GL.one rfl .no (S1.fa fa36_1 rfl) ?_
    refine GL.one rfl .no (S1.st (u := (.slice _ _ _)) sc34 rfl rfl rfl (by repeat constructor) (.s (.s .z))) ?_
    refine GL.done rfl ?_
    refine GQ.putEnd rfl (PS.rrB (ss := ss) (x := x) (by assumption) rfl rfl) (by simp) (by simp) (.cons (.s (.s .z)) (.cons (.s (.s .z)) (.cons .z .nil)))


theorem ct93 {hr : RO} {s0 : ByteArray} {x1 : Int} {x2 : Int} {x3 : Int} {x4 : Int}  : PutCt Try.prog hr 93 [.agg ⟨[.string s0, .int .i64 x1, .int .i64 x2, .int .i64 x3, .int .i64 x4]⟩] (1 + (1 + (1 + (1 + (1 + 0))))) (1 + (1 + (1 + (1 + (1 + 0))))) := by
  intro h hb vn vs E ns ss H p l1 l2
  refine Ct.go Try.func93 rfl rfl co93 H ?_
  refine GW.toSeq rfl ?_
  refine GW.toReg rfl ?_
  refine GL.opN rfl .no (SN.bx (u := .agg ⟨_⟩) rfl .agg) (fun a1 => ?_)
  refine GL.done rfl ?_
  refine GQ.on ?_
  refine GW.toSeq rfl ?_
  refine GW.toReg rfl ?_
  refine GL.one rfl .no (S1.mv (v := (.pointer _)) rfl) ?_
  refine GL.one rfl .no (S1.fa fa75_0 rfl) ?_
  refine GL.one rfl .no (S1.ld sc9 rfl (.at .z) rfl) ?_
  refine GL.put rfl .no fo100 (ct100) p (.cons (.s .z) (.ts .tz)) (by omega) (by omega) (.d (.c (v := (.pointer _)) rfl (.c (v := (.string _)) rfl .n))) (fun vn2 vs2 E2 ns2 ss2 p2 lN2 lS2 => ?_)
  refine GL.done rfl ?_
  refine GQ.on ?_
  refine GW.toSeq rfl ?_
  refine GW.toReg rfl ?_
  refine GL.one rfl .no (S1.mv (v := (.pointer _)) rfl) ?_
  refine GL.one rfl .no (S1.fa fa75_1 rfl) ?_
  refine GL.one rfl .no (S1.ldA ag47 rfl (.at .z) (by repeat constructor)) ?_
  refine GL.put rfl .no fo13 (ct13) p2 (.cons (.s .z) (.ts .tz)) (by omega) (by omega) (.d (.c (v := (.pointer _)) rfl (.c (v := (.agg _)) rfl .n))) (fun vn3 vs3 E3 ns3 ss3 p3 lN3 lS3 => ?_)
  refine GL.done rfl ?_
  refine GQ.on ?_
  refine GW.toReg rfl ?_
  refine GL.one rfl .no (S1.mv (v := (.pointer _)) rfl) ?_
  refine GL.one rfl .no (S1.fa fa75_2 rfl) ?_
  refine GL.one rfl .no (S1.ldA ag47 rfl (.at .z) (by repeat constructor)) ?_
  refine GL.put rfl .no fo13 (ct13) p3 (.cons (.s .z) (.ts .tz)) (by omega) (by omega) (.d (.c (v := (.pointer _)) rfl (.c (v := (.agg _)) rfl .n))) (fun vn4 vs4 E4 ns4 ss4 p4 lN4 lS4 => ?_)
  refine GL.done rfl ?_
  refine GQ.putEnd rfl p4 (by omega) (by omega) (.cons (.s .z) (.ts .tz))


theorem ct73 {hr : RO} {a : Option Addr} {n c : Nat} (hc : Cell hr (.sl wy75) (.slice a n c)) : PutCt Try.prog hr 73 [.slice a n c] (bk hr (.sl wy75) (.slice a n c)) (bk hr (.sl wy75) (.slice a n c)) := by
  intro h hb vn vs E ns ss H p l1 l2
  refine Ct.go Try.func73 rfl rfl co73 H ?_
  refine GW.toReg rfl ?_
  refine GL.one rfl .no (S1.mv (v := (.pointer _)) rfl) ?_
  refine GL.one rfl .no (S1.mv (v := (.slice _ _ _)) rfl) ?_
  refine GL.put rfl .no fo92 ((ct92 (wn := fun k => bkL hr wy75 a (k * 5) 0) (ws := fun k => bkL hr wy75 a (k * 5) 0) hc fo93 (fun k hk => (ct93 ).le (Nat.le_refl _) (Nat.le_refl _))).le (wN' := bk hr (.sl wy75) (.slice a n c)) (wS' := bk hr (.sl wy75) (.slice a n c)) (Nat.le_refl _) (Nat.le_add_left _ _)) p (.cons .z .tz) (by omega) (by omega) (.d (.c rfl (.c rfl (.c rfl .n)))) (fun vn3 vs3 E3 ns3 ss3 p3 l3 m3 => ?_)
  refine GL.done rfl ?_
  refine GQ.putEnd rfl p3 (by omega) (by omega) (.cons .z .tz)


/-- A list is put. -/
theorem ct94 {hr : RO} {a : Option Addr} {n c g : Nat} {wn ws : Nat → Nat} (hc : Cell hr (.sl wy80) (.slice a n c)) (hf : fnOk Try.prog g = true) (pc : ∀ k, k < n → PutCt Try.prog hr g [.agg ⟨[.string (sv (el hr a (k * 3))), .int .i64 (iv (el hr a (k * 3 + 1))), .int .i64 (iv (el hr a (k * 3 + 2)))]⟩] (wn k) (ws k)) :
    PutCt Try.prog hr 94 [.slice a n c, .func (.func g) ⟨[]⟩ ⟨[]⟩] (1 + sumTo wn n) (sumTo ws n) := by
  intro h hb vn vs E ns ss H p l1 l2
  have hl := hc.le
  refine Ct.go Try.func94 rfl rfl co94 H ?_
  refine GW.cut (fun _ => [(0, .pointer (some ⟨hb, 0, none⟩)), (1, .slice a n c), (2, .func (.func g) ⟨[]⟩ ⟨[]⟩)]) (fun y : Value × Value × Ents × List Int × List ByteArray => (hb, .cells [y.1, y.2.1] none true) :: y.2.2.1) (fun y => PS y.1 y.2.1 y.2.2.1 y.2.2.2.1 y.2.2.2.2 ∧ y.2.2.2.1.length ≤ ns.length + 1 ∧ y.2.2.2.2.length ≤ ss.length) rfl ?_ ?_
  · cases p
    · refine GW.toReg rfl ?_
      refine GL.one rfl .no (S1.mv (v := (.pointer _)) rfl) ?_
      refine GL.one rfl .no (S1.mv (v := (.pointer _)) rfl) ?_
      refine GL.one rfl .no (S1.nc rfl) ?_
      refine GL.one rfl .no (S1.fa fa36_0 rfl) ?_
      refine GL.one rfl .no (S1.ld sc31 rfl (.at .z) rfl) ?_
      refine GL.one rfl .no (S1.mv (v := (.slice _ _ _)) rfl) ?_
      refine GL.one rfl .no (S1.len el23 rfl) ?_
      refine GL.opN rfl .no (SN.bs el31 ez31 (.c (v := (.int _ _)) rfl rfl .n) rfl rfl) (fun a1 => ?_)
      refine GL.opN rfl .no (SN.ap0 ap31_31 rfl (.row rfl (.at .z) rfl) (by omega) (by omega)) (fun a4 => ?_)
      refine GL.one rfl .no (S1.nc rfl) ?_
      refine GL.one rfl .no (S1.fa fa36_0 rfl) ?_
      refine GL.one rfl .no (S1.st (u := (.slice _ _ _)) sc31 rfl rfl rfl (by repeat constructor) (.s (.s .z))) ?_
      refine GL.done rfl ?_
      refine GQ.cutEnd (_, _, _, _, _) ⟨PS.rn (ns := [(n : Int)]) (by simp), by simp, by simp⟩ (.c rfl (.c rfl (.c rfl .n))) (.cons (.s (.s .z)) (.cons .z .nil))
    · refine GW.toReg rfl ?_
      refine GL.one rfl .no (S1.mv (v := (.pointer _)) rfl) ?_
      refine GL.one rfl .no (S1.mv (v := (.pointer _)) rfl) ?_
      refine GL.one rfl .no (S1.nc rfl) ?_
      refine GL.one rfl .no (S1.fa fa36_0 rfl) ?_
      refine GL.one rfl .no (S1.ld sc31 rfl (.at .z) rfl) ?_
      refine GL.one rfl .no (S1.mv (v := (.slice _ _ _)) rfl) ?_
      refine GL.one rfl .no (S1.len el23 rfl) ?_
      refine GL.opN rfl .no (SN.bs el31 ez31 (.c (v := (.int _ _)) rfl rfl .n) rfl rfl) (fun a5 => ?_)
      refine GL.opN rfl .no (SN.apO ap31_31 rfl (.row rfl (.at .z) rfl) (by omega) (by omega) rfl (.s (.s .z)) (by first | rfl | omega | (rw [ints_len]; omega) | (rw [strs_len]; omega))) (fun a8 => ?_)
      refine GL.one rfl .no (S1.nc rfl) ?_
      refine GL.one rfl .no (S1.fa fa36_0 rfl) ?_
      refine GL.one rfl .no (S1.st (u := (.slice _ _ _)) sc31 rfl rfl rfl (by repeat constructor) (.s (.s .z))) ?_
      refine GL.done rfl ?_
      refine GQ.cutEnd (_, _, _, _, _) ⟨PS.rnA (ns := ns) (x := (n : Int)) rfl, by simp, by simp⟩ (.c rfl (.c rfl (.c rfl .n))) (.cons (.s (.s .z)) (.cons .z .nil))
    · refine GW.toReg rfl ?_
      refine GL.one rfl .no (S1.mv (v := (.pointer _)) rfl) ?_
      refine GL.one rfl .no (S1.mv (v := (.pointer _)) rfl) ?_
      refine GL.one rfl .no (S1.nc rfl) ?_
      refine GL.one rfl .no (S1.fa fa36_0 rfl) ?_
      refine GL.one rfl .no (S1.ld sc31 rfl (.at .z) rfl) ?_
      refine GL.one rfl .no (S1.mv (v := (.slice _ _ _)) rfl) ?_
      refine GL.one rfl .no (S1.len el23 rfl) ?_
      refine GL.opN rfl .no (SN.bs el31 ez31 (.c (v := (.int _ _)) rfl rfl .n) rfl rfl) (fun a9 => ?_)
      refine GL.opN rfl .no (SN.ap0 ap31_31 rfl (.row rfl (.at .z) rfl) (by omega) (by omega)) (fun a12 => ?_)
      refine GL.one rfl .no (S1.nc rfl) ?_
      refine GL.one rfl .no (S1.fa fa36_0 rfl) ?_
      refine GL.one rfl .no (S1.st (u := (.slice _ _ _)) sc31 rfl rfl rfl (by repeat constructor) (.s (.s .z))) ?_
      refine GL.done rfl ?_
      refine GQ.cutEnd (_, _, _, _, _) ⟨PS.rr (ns := [(n : Int)]) (by simp) (by assumption), by simp, by simp⟩ (.c rfl (.c rfl (.c rfl .n))) (.cons (.s (.s .z)) (.cons .z (.cons (.s .z) .nil)))
    · refine GW.toReg rfl ?_
      refine GL.one rfl .no (S1.mv (v := (.pointer _)) rfl) ?_
      refine GL.one rfl .no (S1.mv (v := (.pointer _)) rfl) ?_
      refine GL.one rfl .no (S1.nc rfl) ?_
      refine GL.one rfl .no (S1.fa fa36_0 rfl) ?_
      refine GL.one rfl .no (S1.ld sc31 rfl (.at .z) rfl) ?_
      refine GL.one rfl .no (S1.mv (v := (.slice _ _ _)) rfl) ?_
      refine GL.one rfl .no (S1.len el23 rfl) ?_
      refine GL.opN rfl .no (SN.bs el31 ez31 (.c (v := (.int _ _)) rfl rfl .n) rfl rfl) (fun a13 => ?_)
      refine GL.opN rfl .no (SN.apO ap31_31 rfl (.row rfl (.at .z) rfl) (by omega) (by omega) rfl (.s (.s .z)) (by first | rfl | omega | (rw [ints_len]; omega) | (rw [strs_len]; omega))) (fun a16 => ?_)
      refine GL.one rfl .no (S1.nc rfl) ?_
      refine GL.one rfl .no (S1.fa fa36_0 rfl) ?_
      refine GL.one rfl .no (S1.st (u := (.slice _ _ _)) sc31 rfl rfl rfl (by repeat constructor) (.s (.s .z))) ?_
      refine GL.done rfl ?_
      refine GQ.cutEnd (_, _, _, _, _) ⟨PS.rrA (ns := ns) (x := (n : Int)) (by assumption) rfl rfl, by simp, by simp⟩ (.c rfl (.c rfl (.c rfl .n))) (.cons (.s (.s .z)) (.cons .z (.cons (.s .z) .nil)))
  rintro ⟨vn1, vs1, E1, ns1, ss1⟩ f1 ⟨p1, q1, q2⟩
  refine GW.toSeq rfl ?_
  refine GW.toReg rfl ?_
  refine GL.one rfl .no (S1.as (v := (.int _ _)) rfl) ?_
  refine GL.done rfl ?_
  refine GQ.on ?_
  refine GW.toBlock rfl ?_
  refine GW.toLoop (X := Nat × Value × Value × Ents × List Int × List ByteArray) (fun y => [(0, .pointer (some ⟨hb, 0, none⟩)), (1, .slice a n c), (2, .func (.func g) ⟨[]⟩ ⟨[]⟩), (6, .int .i64 (y.1 : Int))]) (fun y => (hb, .cells [y.2.1, y.2.2.1] none true) :: y.2.2.2.1)
    (fun y => y.1 ≤ n ∧ PS y.2.1 y.2.2.1 y.2.2.2.1 y.2.2.2.2.1 y.2.2.2.2.2 ∧ y.2.2.2.2.1.length ≤ ns.length + 1 + sumTo wn y.1 ∧ y.2.2.2.2.2.length ≤ ss.length + sumTo ws y.1) (fun y => n - y.1) rfl (0, vn1, vs1, E1, ns1, ss1) ⟨Nat.zero_le _, p1, by simpa [sumTo] using q1, by simpa [sumTo] using q2⟩ (.c rfl (.c rfl (.c rfl (.c rfl .n)))) .tz ?_
  rintro ⟨k, vn2, vs2, E2, ns2, ss2⟩ f2 ⟨hk, p2, r1, r2⟩
  simp only at hk p2 r1 r2
  have m1 := sumTo_mono (w := wn) hk
  have m2 := sumTo_mono (w := ws) hk
  refine GW.toSeq rfl ?_
  refine GW.toSeq rfl ?_
  refine GW.toReg rfl ?_
  refine GL.one rfl .no (S1.mv (v := (.int _ _)) rfl) ?_
  refine GL.one rfl .no (S1.mv (v := (.slice _ _ _)) rfl) ?_
  refine GL.one rfl .no (S1.len el23 rfl) ?_
  refine GL.one rfl .no (S1.lss rfl rfl) ?_
  refine GL.done rfl ?_
  refine GQ.on ?_
  refine GW.toD rfl rfl (fun w17 => ?_) (fun w17 => ?_)
  refine GW.toSkip rfl ?_
  refine GQ.on ?_
  refine GW.toSeq rfl ?_
  refine GW.toBlock rfl ?_
  refine GW.toReg rfl ?_
  refine GL.one rfl .no (S1.mv (v := (.func _ _ _)) rfl) ?_
  refine GL.one rfl .no (S1.mv (v := (.pointer _)) rfl) ?_
  refine GL.one rfl .no (S1.mv (v := (.slice _ _ _)) rfl) ?_
  refine GL.one rfl .no (S1.mv (v := (.int _ _)) rfl) ?_
  refine GL.one rfl .no (S1.ixR el23 hc rfl rfl (by omega)) ?_
  refine GL.one rfl .no (S1.ldE ag80 hc rfl (m := (k, vn2, vs2, E2, ns2, ss2).fst) (by omega) rfl le80) ?_
  rotate_left
  refine GW.toExit rfl ?_
  refine GQ.onE ?_
  refine GQ.onE ?_
  refine GQ.outH ?_
  refine GQ.putEnd rfl p2 (by omega) (by omega) .tz
  · have m3 := sumTo_mono (w := wn) (show k + 1 ≤ n by omega)
    have m4 := sumTo_mono (w := ws) (show k + 1 ≤ n by omega)
    simp only [sumTo] at m3 m4
    refine GL.put rfl .no hf (pc k (by omega)) p2 (.cons .z .tz) (by omega) (by omega) (.v (fs := []) (cs := []) rfl (.c rfl (.c rfl .n))) (fun vn3 vs3 E3 ns3 ss3 p3 l3 m3 => ?_)
    refine GL.done rfl ?_
    refine GQ.outN ?_
    refine GQ.on ?_
    refine GW.toReg rfl ?_
    refine GL.one rfl .no (S1.mv (v := (.int _ _)) rfl) ?_
    refine GL.one rfl .no (S1.inc rfl rfl (by omega)) ?_
    refine GL.one rfl .no (S1.as (v := (.int _ _)) rfl) ?_
    refine GL.done rfl ?_
    refine GQ.next (k + 1, vn3, vs3, E3, ns3, ss3) ⟨by simp only; omega, p3, by simp only [sumTo]; omega, by simp only [sumTo]; omega⟩ (by simp only; omega) (.c rfl (.c rfl (.c rfl (.c rfl .n)))) (.cons .z .tz)


theorem ct95 {hr : RO} {s0 : ByteArray} {x1 : Int} {x2 : Int}  : PutCt Try.prog hr 95 [.agg ⟨[.string s0, .int .i64 x1, .int .i64 x2]⟩] (1 + (1 + (1 + 0))) (1 + (1 + (1 + 0))) := by
  intro h hb vn vs E ns ss H p l1 l2
  refine Ct.go Try.func95 rfl rfl co95 H ?_
  refine GW.toSeq rfl ?_
  refine GW.toReg rfl ?_
  refine GL.opN rfl .no (SN.bx (u := .agg ⟨_⟩) rfl .agg) (fun a1 => ?_)
  refine GL.done rfl ?_
  refine GQ.on ?_
  refine GW.toSeq rfl ?_
  refine GW.toReg rfl ?_
  refine GL.one rfl .no (S1.mv (v := (.pointer _)) rfl) ?_
  refine GL.one rfl .no (S1.fa fa80_0 rfl) ?_
  refine GL.one rfl .no (S1.ld sc9 rfl (.at .z) rfl) ?_
  refine GL.put rfl .no fo100 (ct100) p (.cons (.s .z) (.ts .tz)) (by omega) (by omega) (.d (.c (v := (.pointer _)) rfl (.c (v := (.string _)) rfl .n))) (fun vn2 vs2 E2 ns2 ss2 p2 lN2 lS2 => ?_)
  refine GL.done rfl ?_
  refine GQ.on ?_
  refine GW.toReg rfl ?_
  refine GL.one rfl .no (S1.mv (v := (.pointer _)) rfl) ?_
  refine GL.one rfl .no (S1.fa fa80_1 rfl) ?_
  refine GL.one rfl .no (S1.ldA ag47 rfl (.at .z) (by repeat constructor)) ?_
  refine GL.put rfl .no fo13 (ct13) p2 (.cons (.s .z) (.ts .tz)) (by omega) (by omega) (.d (.c (v := (.pointer _)) rfl (.c (v := (.agg _)) rfl .n))) (fun vn3 vs3 E3 ns3 ss3 p3 lN3 lS3 => ?_)
  refine GL.done rfl ?_
  refine GQ.putEnd rfl p3 (by omega) (by omega) (.cons (.s .z) (.ts .tz))


theorem ct74 {hr : RO} {a : Option Addr} {n c : Nat} (hc : Cell hr (.sl wy80) (.slice a n c)) : PutCt Try.prog hr 74 [.slice a n c] (bk hr (.sl wy80) (.slice a n c)) (bk hr (.sl wy80) (.slice a n c)) := by
  intro h hb vn vs E ns ss H p l1 l2
  refine Ct.go Try.func74 rfl rfl co74 H ?_
  refine GW.toReg rfl ?_
  refine GL.one rfl .no (S1.mv (v := (.pointer _)) rfl) ?_
  refine GL.one rfl .no (S1.mv (v := (.slice _ _ _)) rfl) ?_
  refine GL.put rfl .no fo94 ((ct94 (wn := fun k => bkL hr wy80 a (k * 3) 0) (ws := fun k => bkL hr wy80 a (k * 3) 0) hc fo95 (fun k hk => (ct95 ).le (Nat.le_refl _) (Nat.le_refl _))).le (wN' := bk hr (.sl wy80) (.slice a n c)) (wS' := bk hr (.sl wy80) (.slice a n c)) (Nat.le_refl _) (Nat.le_add_left _ _)) p (.cons .z .tz) (by omega) (by omega) (.d (.c rfl (.c rfl (.c rfl .n)))) (fun vn3 vs3 E3 ns3 ss3 p3 l3 m3 => ?_)
  refine GL.done rfl ?_
  refine GQ.putEnd rfl p3 (by omega) (by omega) (.cons .z .tz)


theorem ct35 {hr : RO} {a0 : Option Addr} {n0 c0 : Nat} {a1 : Option Addr} {n1 c1 : Nat} (h0 : Cell hr (.sl wy75) (.slice a0 n0 c0)) (h1 : Cell hr (.sl wy80) (.slice a1 n1 c1)) : PutCt Try.prog hr 35 [.agg ⟨[.slice a0 n0 c0, .slice a1 n1 c1]⟩] (bk hr (.sl wy75) (.slice a0 n0 c0) + (bk hr (.sl wy80) (.slice a1 n1 c1) + 0)) (bk hr (.sl wy75) (.slice a0 n0 c0) + (bk hr (.sl wy80) (.slice a1 n1 c1) + 0)) := by
  intro h hb vn vs E ns ss H p l1 l2
  refine Ct.go Try.func35 rfl rfl co35 H ?_
  refine GW.toSeq rfl ?_
  refine GW.toReg rfl ?_
  refine GL.opN rfl .no (SN.bx (u := .agg ⟨_⟩) rfl .agg) (fun a1 => ?_)
  refine GL.done rfl ?_
  refine GQ.on ?_
  refine GW.toSeq rfl ?_
  refine GW.toReg rfl ?_
  refine GL.one rfl .no (S1.mv (v := (.pointer _)) rfl) ?_
  refine GL.one rfl .no (S1.fa fa25_0 rfl) ?_
  refine GL.one rfl .no (S1.ld sc22 rfl (.at .z) rfl) ?_
  refine GL.put rfl .no fo73 (ct73 (by assumption)) p (.cons (.s .z) (.ts .tz)) (by omega) (by omega) (.d (.c (v := (.pointer _)) rfl (.c (v := (.slice _ _ _)) rfl .n))) (fun vn2 vs2 E2 ns2 ss2 p2 lN2 lS2 => ?_)
  refine GL.done rfl ?_
  refine GQ.on ?_
  refine GW.toReg rfl ?_
  refine GL.one rfl .no (S1.mv (v := (.pointer _)) rfl) ?_
  refine GL.one rfl .no (S1.fa fa25_1 rfl) ?_
  refine GL.one rfl .no (S1.ld sc23 rfl (.at .z) rfl) ?_
  refine GL.put rfl .no fo74 (ct74 (by assumption)) p2 (.cons (.s .z) (.ts .tz)) (by omega) (by omega) (.d (.c (v := (.pointer _)) rfl (.c (v := (.slice _ _ _)) rfl .n))) (fun vn3 vs3 E3 ns3 ss3 p3 lN3 lS3 => ?_)
  refine GL.done rfl ?_
  refine GQ.putEnd rfl p3 (by omega) (by omega) (.cons (.s .z) (.ts .tz))


/-- A list is put. -/
theorem ct75 {hr : RO} {a : Option Addr} {n c g : Nat} {wn ws : Nat → Nat} (hc : Cell hr (.sl wy89) (.slice a n c)) (hf : fnOk Try.prog g = true) (pc : ∀ k, k < n → PutCt Try.prog hr g [.agg ⟨[.int .i64 (iv (el hr a (k * 5))), .int .i64 (iv (el hr a (k * 5 + 1))), .int .i64 (iv (el hr a (k * 5 + 2))), .int .i64 (iv (el hr a (k * 5 + 3))), .int .i64 (iv (el hr a (k * 5 + 4)))]⟩] (wn k) (ws k)) :
    PutCt Try.prog hr 75 [.slice a n c, .func (.func g) ⟨[]⟩ ⟨[]⟩] (1 + sumTo wn n) (sumTo ws n) := by
  intro h hb vn vs E ns ss H p l1 l2
  have hl := hc.le
  refine Ct.go Try.func75 rfl rfl co75 H ?_
  refine GW.cut (fun _ => [(0, .pointer (some ⟨hb, 0, none⟩)), (1, .slice a n c), (2, .func (.func g) ⟨[]⟩ ⟨[]⟩)]) (fun y : Value × Value × Ents × List Int × List ByteArray => (hb, .cells [y.1, y.2.1] none true) :: y.2.2.1) (fun y => PS y.1 y.2.1 y.2.2.1 y.2.2.2.1 y.2.2.2.2 ∧ y.2.2.2.1.length ≤ ns.length + 1 ∧ y.2.2.2.2.length ≤ ss.length) rfl ?_ ?_
  · cases p
    · refine GW.toReg rfl ?_
      refine GL.one rfl .no (S1.mv (v := (.pointer _)) rfl) ?_
      refine GL.one rfl .no (S1.mv (v := (.pointer _)) rfl) ?_
      refine GL.one rfl .no (S1.nc rfl) ?_
      refine GL.one rfl .no (S1.fa fa36_0 rfl) ?_
      refine GL.one rfl .no (S1.ld sc31 rfl (.at .z) rfl) ?_
      refine GL.one rfl .no (S1.mv (v := (.slice _ _ _)) rfl) ?_
      refine GL.one rfl .no (S1.len el27 rfl) ?_
      refine GL.opN rfl .no (SN.bs el31 ez31 (.c (v := (.int _ _)) rfl rfl .n) rfl rfl) (fun a1 => ?_)
      refine GL.opN rfl .no (SN.ap0 ap31_31 rfl (.row rfl (.at .z) rfl) (by omega) (by omega)) (fun a4 => ?_)
      refine GL.one rfl .no (S1.nc rfl) ?_
      refine GL.one rfl .no (S1.fa fa36_0 rfl) ?_
      refine GL.one rfl .no (S1.st (u := (.slice _ _ _)) sc31 rfl rfl rfl (by repeat constructor) (.s (.s .z))) ?_
      refine GL.done rfl ?_
      refine GQ.cutEnd (_, _, _, _, _) ⟨PS.rn (ns := [(n : Int)]) (by simp), by simp, by simp⟩ (.c rfl (.c rfl (.c rfl .n))) (.cons (.s (.s .z)) (.cons .z .nil))
    · refine GW.toReg rfl ?_
      refine GL.one rfl .no (S1.mv (v := (.pointer _)) rfl) ?_
      refine GL.one rfl .no (S1.mv (v := (.pointer _)) rfl) ?_
      refine GL.one rfl .no (S1.nc rfl) ?_
      refine GL.one rfl .no (S1.fa fa36_0 rfl) ?_
      refine GL.one rfl .no (S1.ld sc31 rfl (.at .z) rfl) ?_
      refine GL.one rfl .no (S1.mv (v := (.slice _ _ _)) rfl) ?_
      refine GL.one rfl .no (S1.len el27 rfl) ?_
      refine GL.opN rfl .no (SN.bs el31 ez31 (.c (v := (.int _ _)) rfl rfl .n) rfl rfl) (fun a5 => ?_)
      refine GL.opN rfl .no (SN.apO ap31_31 rfl (.row rfl (.at .z) rfl) (by omega) (by omega) rfl (.s (.s .z)) (by first | rfl | omega | (rw [ints_len]; omega) | (rw [strs_len]; omega))) (fun a8 => ?_)
      refine GL.one rfl .no (S1.nc rfl) ?_
      refine GL.one rfl .no (S1.fa fa36_0 rfl) ?_
      refine GL.one rfl .no (S1.st (u := (.slice _ _ _)) sc31 rfl rfl rfl (by repeat constructor) (.s (.s .z))) ?_
      refine GL.done rfl ?_
      refine GQ.cutEnd (_, _, _, _, _) ⟨PS.rnA (ns := ns) (x := (n : Int)) rfl, by simp, by simp⟩ (.c rfl (.c rfl (.c rfl .n))) (.cons (.s (.s .z)) (.cons .z .nil))
    · refine GW.toReg rfl ?_
      refine GL.one rfl .no (S1.mv (v := (.pointer _)) rfl) ?_
      refine GL.one rfl .no (S1.mv (v := (.pointer _)) rfl) ?_
      refine GL.one rfl .no (S1.nc rfl) ?_
      refine GL.one rfl .no (S1.fa fa36_0 rfl) ?_
      refine GL.one rfl .no (S1.ld sc31 rfl (.at .z) rfl) ?_
      refine GL.one rfl .no (S1.mv (v := (.slice _ _ _)) rfl) ?_
      refine GL.one rfl .no (S1.len el27 rfl) ?_
      refine GL.opN rfl .no (SN.bs el31 ez31 (.c (v := (.int _ _)) rfl rfl .n) rfl rfl) (fun a9 => ?_)
      refine GL.opN rfl .no (SN.ap0 ap31_31 rfl (.row rfl (.at .z) rfl) (by omega) (by omega)) (fun a12 => ?_)
      refine GL.one rfl .no (S1.nc rfl) ?_
      refine GL.one rfl .no (S1.fa fa36_0 rfl) ?_
      refine GL.one rfl .no (S1.st (u := (.slice _ _ _)) sc31 rfl rfl rfl (by repeat constructor) (.s (.s .z))) ?_
      refine GL.done rfl ?_
      refine GQ.cutEnd (_, _, _, _, _) ⟨PS.rr (ns := [(n : Int)]) (by simp) (by assumption), by simp, by simp⟩ (.c rfl (.c rfl (.c rfl .n))) (.cons (.s (.s .z)) (.cons .z (.cons (.s .z) .nil)))
    · refine GW.toReg rfl ?_
      refine GL.one rfl .no (S1.mv (v := (.pointer _)) rfl) ?_
      refine GL.one rfl .no (S1.mv (v := (.pointer _)) rfl) ?_
      refine GL.one rfl .no (S1.nc rfl) ?_
      refine GL.one rfl .no (S1.fa fa36_0 rfl) ?_
      refine GL.one rfl .no (S1.ld sc31 rfl (.at .z) rfl) ?_
      refine GL.one rfl .no (S1.mv (v := (.slice _ _ _)) rfl) ?_
      refine GL.one rfl .no (S1.len el27 rfl) ?_
      refine GL.opN rfl .no (SN.bs el31 ez31 (.c (v := (.int _ _)) rfl rfl .n) rfl rfl) (fun a13 => ?_)
      refine GL.opN rfl .no (SN.apO ap31_31 rfl (.row rfl (.at .z) rfl) (by omega) (by omega) rfl (.s (.s .z)) (by first | rfl | omega | (rw [ints_len]; omega) | (rw [strs_len]; omega))) (fun a16 => ?_)
      refine GL.one rfl .no (S1.nc rfl) ?_
      refine GL.one rfl .no (S1.fa fa36_0 rfl) ?_
      refine GL.one rfl .no (S1.st (u := (.slice _ _ _)) sc31 rfl rfl rfl (by repeat constructor) (.s (.s .z))) ?_
      refine GL.done rfl ?_
      refine GQ.cutEnd (_, _, _, _, _) ⟨PS.rrA (ns := ns) (x := (n : Int)) (by assumption) rfl rfl, by simp, by simp⟩ (.c rfl (.c rfl (.c rfl .n))) (.cons (.s (.s .z)) (.cons .z (.cons (.s .z) .nil)))
  rintro ⟨vn1, vs1, E1, ns1, ss1⟩ f1 ⟨p1, q1, q2⟩
  refine GW.toSeq rfl ?_
  refine GW.toReg rfl ?_
  refine GL.one rfl .no (S1.as (v := (.int _ _)) rfl) ?_
  refine GL.done rfl ?_
  refine GQ.on ?_
  refine GW.toBlock rfl ?_
  refine GW.toLoop (X := Nat × Value × Value × Ents × List Int × List ByteArray) (fun y => [(0, .pointer (some ⟨hb, 0, none⟩)), (1, .slice a n c), (2, .func (.func g) ⟨[]⟩ ⟨[]⟩), (6, .int .i64 (y.1 : Int))]) (fun y => (hb, .cells [y.2.1, y.2.2.1] none true) :: y.2.2.2.1)
    (fun y => y.1 ≤ n ∧ PS y.2.1 y.2.2.1 y.2.2.2.1 y.2.2.2.2.1 y.2.2.2.2.2 ∧ y.2.2.2.2.1.length ≤ ns.length + 1 + sumTo wn y.1 ∧ y.2.2.2.2.2.length ≤ ss.length + sumTo ws y.1) (fun y => n - y.1) rfl (0, vn1, vs1, E1, ns1, ss1) ⟨Nat.zero_le _, p1, by simpa [sumTo] using q1, by simpa [sumTo] using q2⟩ (.c rfl (.c rfl (.c rfl (.c rfl .n)))) .tz ?_
  rintro ⟨k, vn2, vs2, E2, ns2, ss2⟩ f2 ⟨hk, p2, r1, r2⟩
  simp only at hk p2 r1 r2
  have m1 := sumTo_mono (w := wn) hk
  have m2 := sumTo_mono (w := ws) hk
  refine GW.toSeq rfl ?_
  refine GW.toSeq rfl ?_
  refine GW.toReg rfl ?_
  refine GL.one rfl .no (S1.mv (v := (.int _ _)) rfl) ?_
  refine GL.one rfl .no (S1.mv (v := (.slice _ _ _)) rfl) ?_
  refine GL.one rfl .no (S1.len el27 rfl) ?_
  refine GL.one rfl .no (S1.lss rfl rfl) ?_
  refine GL.done rfl ?_
  refine GQ.on ?_
  refine GW.toD rfl rfl (fun w17 => ?_) (fun w17 => ?_)
  refine GW.toSkip rfl ?_
  refine GQ.on ?_
  refine GW.toSeq rfl ?_
  refine GW.toBlock rfl ?_
  refine GW.toReg rfl ?_
  refine GL.one rfl .no (S1.mv (v := (.func _ _ _)) rfl) ?_
  refine GL.one rfl .no (S1.mv (v := (.pointer _)) rfl) ?_
  refine GL.one rfl .no (S1.mv (v := (.slice _ _ _)) rfl) ?_
  refine GL.one rfl .no (S1.mv (v := (.int _ _)) rfl) ?_
  refine GL.one rfl .no (S1.ixR el27 hc rfl rfl (by omega)) ?_
  refine GL.one rfl .no (S1.ldE ag89 hc rfl (m := (k, vn2, vs2, E2, ns2, ss2).fst) (by omega) rfl le89) ?_
  rotate_left
  refine GW.toExit rfl ?_
  refine GQ.onE ?_
  refine GQ.onE ?_
  refine GQ.outH ?_
  refine GQ.putEnd rfl p2 (by omega) (by omega) .tz
  · have m3 := sumTo_mono (w := wn) (show k + 1 ≤ n by omega)
    have m4 := sumTo_mono (w := ws) (show k + 1 ≤ n by omega)
    simp only [sumTo] at m3 m4
    refine GL.put rfl .no hf (pc k (by omega)) p2 (.cons .z .tz) (by omega) (by omega) (.v (fs := []) (cs := []) rfl (.c rfl (.c rfl .n))) (fun vn3 vs3 E3 ns3 ss3 p3 l3 m3 => ?_)
    refine GL.done rfl ?_
    refine GQ.outN ?_
    refine GQ.on ?_
    refine GW.toReg rfl ?_
    refine GL.one rfl .no (S1.mv (v := (.int _ _)) rfl) ?_
    refine GL.one rfl .no (S1.inc rfl rfl (by omega)) ?_
    refine GL.one rfl .no (S1.as (v := (.int _ _)) rfl) ?_
    refine GL.done rfl ?_
    refine GQ.next (k + 1, vn3, vs3, E3, ns3, ss3) ⟨by simp only; omega, p3, by simp only [sumTo]; omega, by simp only [sumTo]; omega⟩ (by simp only; omega) (.c rfl (.c rfl (.c rfl (.c rfl .n)))) (.cons .z .tz)


theorem ct76 {hr : RO} {x0 : Int} {x1 : Int} {x2 : Int} {x3 : Int} {x4 : Int}  : PutCt Try.prog hr 76 [.agg ⟨[.int .i64 x0, .int .i64 x1, .int .i64 x2, .int .i64 x3, .int .i64 x4]⟩] (1 + (1 + (1 + (1 + (1 + 0))))) (1 + (1 + (1 + (1 + (1 + 0))))) := by
  intro h hb vn vs E ns ss H p l1 l2
  refine Ct.go Try.func76 rfl rfl co76 H ?_
  refine GW.toSeq rfl ?_
  refine GW.toReg rfl ?_
  refine GL.opN rfl .no (SN.bx (u := .agg ⟨_⟩) rfl .agg) (fun a1 => ?_)
  refine GL.done rfl ?_
  refine GQ.on ?_
  refine GW.toSeq rfl ?_
  refine GW.toReg rfl ?_
  refine GL.one rfl .no (S1.mv (v := (.pointer _)) rfl) ?_
  refine GL.one rfl .no (S1.fa fa89_0 rfl) ?_
  refine GL.one rfl .no (S1.ld sc3 rfl (.at .z) rfl) ?_
  refine GL.put rfl .no fo8 (ct8) p (.cons (.s .z) (.ts .tz)) (by omega) (by omega) (.d (.c (v := (.pointer _)) rfl (.c (v := (.int _ _)) rfl .n))) (fun vn2 vs2 E2 ns2 ss2 p2 lN2 lS2 => ?_)
  refine GL.done rfl ?_
  refine GQ.on ?_
  refine GW.toSeq rfl ?_
  refine GW.toReg rfl ?_
  refine GL.one rfl .no (S1.mv (v := (.pointer _)) rfl) ?_
  refine GL.one rfl .no (S1.fa fa89_1 rfl) ?_
  refine GL.one rfl .no (S1.ld sc3 rfl (.at .z) rfl) ?_
  refine GL.put rfl .no fo8 (ct8) p2 (.cons (.s .z) (.ts .tz)) (by omega) (by omega) (.d (.c (v := (.pointer _)) rfl (.c (v := (.int _ _)) rfl .n))) (fun vn3 vs3 E3 ns3 ss3 p3 lN3 lS3 => ?_)
  refine GL.done rfl ?_
  refine GQ.on ?_
  refine GW.toSeq rfl ?_
  refine GW.toReg rfl ?_
  refine GL.one rfl .no (S1.mv (v := (.pointer _)) rfl) ?_
  refine GL.one rfl .no (S1.fa fa89_2 rfl) ?_
  refine GL.one rfl .no (S1.ld sc3 rfl (.at .z) rfl) ?_
  refine GL.put rfl .no fo8 (ct8) p3 (.cons (.s .z) (.ts .tz)) (by omega) (by omega) (.d (.c (v := (.pointer _)) rfl (.c (v := (.int _ _)) rfl .n))) (fun vn4 vs4 E4 ns4 ss4 p4 lN4 lS4 => ?_)
  refine GL.done rfl ?_
  refine GQ.on ?_
  refine GW.toSeq rfl ?_
  refine GW.toReg rfl ?_
  refine GL.one rfl .no (S1.mv (v := (.pointer _)) rfl) ?_
  refine GL.one rfl .no (S1.fa fa89_3 rfl) ?_
  refine GL.one rfl .no (S1.ld sc3 rfl (.at .z) rfl) ?_
  refine GL.put rfl .no fo8 (ct8) p4 (.cons (.s .z) (.ts .tz)) (by omega) (by omega) (.d (.c (v := (.pointer _)) rfl (.c (v := (.int _ _)) rfl .n))) (fun vn5 vs5 E5 ns5 ss5 p5 lN5 lS5 => ?_)
  refine GL.done rfl ?_
  refine GQ.on ?_
  refine GW.toReg rfl ?_
  refine GL.one rfl .no (S1.mv (v := (.pointer _)) rfl) ?_
  refine GL.one rfl .no (S1.fa fa89_4 rfl) ?_
  refine GL.one rfl .no (S1.ld sc3 rfl (.at .z) rfl) ?_
  refine GL.put rfl .no fo8 (ct8) p5 (.cons (.s .z) (.ts .tz)) (by omega) (by omega) (.d (.c (v := (.pointer _)) rfl (.c (v := (.int _ _)) rfl .n))) (fun vn6 vs6 E6 ns6 ss6 p6 lN6 lS6 => ?_)
  refine GL.done rfl ?_
  refine GQ.putEnd rfl p6 (by omega) (by omega) (.cons (.s .z) (.ts .tz))


theorem ct36 {hr : RO} {a : Option Addr} {n c : Nat} (hc : Cell hr (.sl wy89) (.slice a n c)) : PutCt Try.prog hr 36 [.slice a n c] (bk hr (.sl wy89) (.slice a n c)) (bk hr (.sl wy89) (.slice a n c)) := by
  intro h hb vn vs E ns ss H p l1 l2
  refine Ct.go Try.func36 rfl rfl co36 H ?_
  refine GW.toReg rfl ?_
  refine GL.one rfl .no (S1.mv (v := (.pointer _)) rfl) ?_
  refine GL.one rfl .no (S1.mv (v := (.slice _ _ _)) rfl) ?_
  refine GL.put rfl .no fo75 ((ct75 (wn := fun k => bkL hr wy89 a (k * 5) 0) (ws := fun k => bkL hr wy89 a (k * 5) 0) hc fo76 (fun k hk => (ct76 ).le (Nat.le_refl _) (Nat.le_refl _))).le (wN' := bk hr (.sl wy89) (.slice a n c)) (wS' := bk hr (.sl wy89) (.slice a n c)) (Nat.le_refl _) (Nat.le_add_left _ _)) p (.cons .z .tz) (by omega) (by omega) (.d (.c rfl (.c rfl (.c rfl .n)))) (fun vn3 vs3 E3 ns3 ss3 p3 l3 m3 => ?_)
  refine GL.done rfl ?_
  refine GQ.putEnd rfl p3 (by omega) (by omega) (.cons .z .tz)


/-- A list is put. -/
theorem ct96 {hr : RO} {a : Option Addr} {n c g : Nat} {wn ws : Nat → Nat} (hc : Cell hr (.sl wy134) (.slice a n c)) (hf : fnOk Try.prog g = true) (pc : ∀ k, k < n → PutCt Try.prog hr g [.agg ⟨[.int .i64 (iv (el hr a (k * 2))), .int .i64 (iv (el hr a (k * 2 + 1)))]⟩] (wn k) (ws k)) :
    PutCt Try.prog hr 96 [.slice a n c, .func (.func g) ⟨[]⟩ ⟨[]⟩] (1 + sumTo wn n) (sumTo ws n) := by
  intro h hb vn vs E ns ss H p l1 l2
  have hl := hc.le
  refine Ct.go Try.func96 rfl rfl co96 H ?_
  refine GW.cut (fun _ => [(0, .pointer (some ⟨hb, 0, none⟩)), (1, .slice a n c), (2, .func (.func g) ⟨[]⟩ ⟨[]⟩)]) (fun y : Value × Value × Ents × List Int × List ByteArray => (hb, .cells [y.1, y.2.1] none true) :: y.2.2.1) (fun y => PS y.1 y.2.1 y.2.2.1 y.2.2.2.1 y.2.2.2.2 ∧ y.2.2.2.1.length ≤ ns.length + 1 ∧ y.2.2.2.2.length ≤ ss.length) rfl ?_ ?_
  · cases p
    · refine GW.toReg rfl ?_
      refine GL.one rfl .no (S1.mv (v := (.pointer _)) rfl) ?_
      refine GL.one rfl .no (S1.mv (v := (.pointer _)) rfl) ?_
      refine GL.one rfl .no (S1.nc rfl) ?_
      refine GL.one rfl .no (S1.fa fa36_0 rfl) ?_
      refine GL.one rfl .no (S1.ld sc31 rfl (.at .z) rfl) ?_
      refine GL.one rfl .no (S1.mv (v := (.slice _ _ _)) rfl) ?_
      refine GL.one rfl .no (S1.len el28 rfl) ?_
      refine GL.opN rfl .no (SN.bs el31 ez31 (.c (v := (.int _ _)) rfl rfl .n) rfl rfl) (fun a1 => ?_)
      refine GL.opN rfl .no (SN.ap0 ap31_31 rfl (.row rfl (.at .z) rfl) (by omega) (by omega)) (fun a4 => ?_)
      refine GL.one rfl .no (S1.nc rfl) ?_
      refine GL.one rfl .no (S1.fa fa36_0 rfl) ?_
      refine GL.one rfl .no (S1.st (u := (.slice _ _ _)) sc31 rfl rfl rfl (by repeat constructor) (.s (.s .z))) ?_
      refine GL.done rfl ?_
      refine GQ.cutEnd (_, _, _, _, _) ⟨PS.rn (ns := [(n : Int)]) (by simp), by simp, by simp⟩ (.c rfl (.c rfl (.c rfl .n))) (.cons (.s (.s .z)) (.cons .z .nil))
    · refine GW.toReg rfl ?_
      refine GL.one rfl .no (S1.mv (v := (.pointer _)) rfl) ?_
      refine GL.one rfl .no (S1.mv (v := (.pointer _)) rfl) ?_
      refine GL.one rfl .no (S1.nc rfl) ?_
      refine GL.one rfl .no (S1.fa fa36_0 rfl) ?_
      refine GL.one rfl .no (S1.ld sc31 rfl (.at .z) rfl) ?_
      refine GL.one rfl .no (S1.mv (v := (.slice _ _ _)) rfl) ?_
      refine GL.one rfl .no (S1.len el28 rfl) ?_
      refine GL.opN rfl .no (SN.bs el31 ez31 (.c (v := (.int _ _)) rfl rfl .n) rfl rfl) (fun a5 => ?_)
      refine GL.opN rfl .no (SN.apO ap31_31 rfl (.row rfl (.at .z) rfl) (by omega) (by omega) rfl (.s (.s .z)) (by first | rfl | omega | (rw [ints_len]; omega) | (rw [strs_len]; omega))) (fun a8 => ?_)
      refine GL.one rfl .no (S1.nc rfl) ?_
      refine GL.one rfl .no (S1.fa fa36_0 rfl) ?_
      refine GL.one rfl .no (S1.st (u := (.slice _ _ _)) sc31 rfl rfl rfl (by repeat constructor) (.s (.s .z))) ?_
      refine GL.done rfl ?_
      refine GQ.cutEnd (_, _, _, _, _) ⟨PS.rnA (ns := ns) (x := (n : Int)) rfl, by simp, by simp⟩ (.c rfl (.c rfl (.c rfl .n))) (.cons (.s (.s .z)) (.cons .z .nil))
    · refine GW.toReg rfl ?_
      refine GL.one rfl .no (S1.mv (v := (.pointer _)) rfl) ?_
      refine GL.one rfl .no (S1.mv (v := (.pointer _)) rfl) ?_
      refine GL.one rfl .no (S1.nc rfl) ?_
      refine GL.one rfl .no (S1.fa fa36_0 rfl) ?_
      refine GL.one rfl .no (S1.ld sc31 rfl (.at .z) rfl) ?_
      refine GL.one rfl .no (S1.mv (v := (.slice _ _ _)) rfl) ?_
      refine GL.one rfl .no (S1.len el28 rfl) ?_
      refine GL.opN rfl .no (SN.bs el31 ez31 (.c (v := (.int _ _)) rfl rfl .n) rfl rfl) (fun a9 => ?_)
      refine GL.opN rfl .no (SN.ap0 ap31_31 rfl (.row rfl (.at .z) rfl) (by omega) (by omega)) (fun a12 => ?_)
      refine GL.one rfl .no (S1.nc rfl) ?_
      refine GL.one rfl .no (S1.fa fa36_0 rfl) ?_
      refine GL.one rfl .no (S1.st (u := (.slice _ _ _)) sc31 rfl rfl rfl (by repeat constructor) (.s (.s .z))) ?_
      refine GL.done rfl ?_
      refine GQ.cutEnd (_, _, _, _, _) ⟨PS.rr (ns := [(n : Int)]) (by simp) (by assumption), by simp, by simp⟩ (.c rfl (.c rfl (.c rfl .n))) (.cons (.s (.s .z)) (.cons .z (.cons (.s .z) .nil)))
    · refine GW.toReg rfl ?_
      refine GL.one rfl .no (S1.mv (v := (.pointer _)) rfl) ?_
      refine GL.one rfl .no (S1.mv (v := (.pointer _)) rfl) ?_
      refine GL.one rfl .no (S1.nc rfl) ?_
      refine GL.one rfl .no (S1.fa fa36_0 rfl) ?_
      refine GL.one rfl .no (S1.ld sc31 rfl (.at .z) rfl) ?_
      refine GL.one rfl .no (S1.mv (v := (.slice _ _ _)) rfl) ?_
      refine GL.one rfl .no (S1.len el28 rfl) ?_
      refine GL.opN rfl .no (SN.bs el31 ez31 (.c (v := (.int _ _)) rfl rfl .n) rfl rfl) (fun a13 => ?_)
      refine GL.opN rfl .no (SN.apO ap31_31 rfl (.row rfl (.at .z) rfl) (by omega) (by omega) rfl (.s (.s .z)) (by first | rfl | omega | (rw [ints_len]; omega) | (rw [strs_len]; omega))) (fun a16 => ?_)
      refine GL.one rfl .no (S1.nc rfl) ?_
      refine GL.one rfl .no (S1.fa fa36_0 rfl) ?_
      refine GL.one rfl .no (S1.st (u := (.slice _ _ _)) sc31 rfl rfl rfl (by repeat constructor) (.s (.s .z))) ?_
      refine GL.done rfl ?_
      refine GQ.cutEnd (_, _, _, _, _) ⟨PS.rrA (ns := ns) (x := (n : Int)) (by assumption) rfl rfl, by simp, by simp⟩ (.c rfl (.c rfl (.c rfl .n))) (.cons (.s (.s .z)) (.cons .z (.cons (.s .z) .nil)))
  rintro ⟨vn1, vs1, E1, ns1, ss1⟩ f1 ⟨p1, q1, q2⟩
  refine GW.toSeq rfl ?_
  refine GW.toReg rfl ?_
  refine GL.one rfl .no (S1.as (v := (.int _ _)) rfl) ?_
  refine GL.done rfl ?_
  refine GQ.on ?_
  refine GW.toBlock rfl ?_
  refine GW.toLoop (X := Nat × Value × Value × Ents × List Int × List ByteArray) (fun y => [(0, .pointer (some ⟨hb, 0, none⟩)), (1, .slice a n c), (2, .func (.func g) ⟨[]⟩ ⟨[]⟩), (6, .int .i64 (y.1 : Int))]) (fun y => (hb, .cells [y.2.1, y.2.2.1] none true) :: y.2.2.2.1)
    (fun y => y.1 ≤ n ∧ PS y.2.1 y.2.2.1 y.2.2.2.1 y.2.2.2.2.1 y.2.2.2.2.2 ∧ y.2.2.2.2.1.length ≤ ns.length + 1 + sumTo wn y.1 ∧ y.2.2.2.2.2.length ≤ ss.length + sumTo ws y.1) (fun y => n - y.1) rfl (0, vn1, vs1, E1, ns1, ss1) ⟨Nat.zero_le _, p1, by simpa [sumTo] using q1, by simpa [sumTo] using q2⟩ (.c rfl (.c rfl (.c rfl (.c rfl .n)))) .tz ?_
  rintro ⟨k, vn2, vs2, E2, ns2, ss2⟩ f2 ⟨hk, p2, r1, r2⟩
  simp only at hk p2 r1 r2
  have m1 := sumTo_mono (w := wn) hk
  have m2 := sumTo_mono (w := ws) hk
  refine GW.toSeq rfl ?_
  refine GW.toSeq rfl ?_
  refine GW.toReg rfl ?_
  refine GL.one rfl .no (S1.mv (v := (.int _ _)) rfl) ?_
  refine GL.one rfl .no (S1.mv (v := (.slice _ _ _)) rfl) ?_
  refine GL.one rfl .no (S1.len el28 rfl) ?_
  refine GL.one rfl .no (S1.lss rfl rfl) ?_
  refine GL.done rfl ?_
  refine GQ.on ?_
  refine GW.toD rfl rfl (fun w17 => ?_) (fun w17 => ?_)
  refine GW.toSkip rfl ?_
  refine GQ.on ?_
  refine GW.toSeq rfl ?_
  refine GW.toBlock rfl ?_
  refine GW.toReg rfl ?_
  refine GL.one rfl .no (S1.mv (v := (.func _ _ _)) rfl) ?_
  refine GL.one rfl .no (S1.mv (v := (.pointer _)) rfl) ?_
  refine GL.one rfl .no (S1.mv (v := (.slice _ _ _)) rfl) ?_
  refine GL.one rfl .no (S1.mv (v := (.int _ _)) rfl) ?_
  refine GL.one rfl .no (S1.ixR el28 hc rfl rfl (by omega)) ?_
  refine GL.one rfl .no (S1.ldE ag134 hc rfl (m := (k, vn2, vs2, E2, ns2, ss2).fst) (by omega) rfl le134) ?_
  rotate_left
  refine GW.toExit rfl ?_
  refine GQ.onE ?_
  refine GQ.onE ?_
  refine GQ.outH ?_
  refine GQ.putEnd rfl p2 (by omega) (by omega) .tz
  · have m3 := sumTo_mono (w := wn) (show k + 1 ≤ n by omega)
    have m4 := sumTo_mono (w := ws) (show k + 1 ≤ n by omega)
    simp only [sumTo] at m3 m4
    refine GL.put rfl .no hf (pc k (by omega)) p2 (.cons .z .tz) (by omega) (by omega) (.v (fs := []) (cs := []) rfl (.c rfl (.c rfl .n))) (fun vn3 vs3 E3 ns3 ss3 p3 l3 m3 => ?_)
    refine GL.done rfl ?_
    refine GQ.outN ?_
    refine GQ.on ?_
    refine GW.toReg rfl ?_
    refine GL.one rfl .no (S1.mv (v := (.int _ _)) rfl) ?_
    refine GL.one rfl .no (S1.inc rfl rfl (by omega)) ?_
    refine GL.one rfl .no (S1.as (v := (.int _ _)) rfl) ?_
    refine GL.done rfl ?_
    refine GQ.next (k + 1, vn3, vs3, E3, ns3, ss3) ⟨by simp only; omega, p3, by simp only [sumTo]; omega, by simp only [sumTo]; omega⟩ (by simp only; omega) (.c rfl (.c rfl (.c rfl (.c rfl .n)))) (.cons .z .tz)


theorem ct97 {hr : RO} {x0 : Int} {x1 : Int}  : PutCt Try.prog hr 97 [.agg ⟨[.int .i64 x0, .int .i64 x1]⟩] (1 + (1 + 0)) (1 + (1 + 0)) := by
  intro h hb vn vs E ns ss H p l1 l2
  refine Ct.go Try.func97 rfl rfl co97 H ?_
  refine GW.toSeq rfl ?_
  refine GW.toReg rfl ?_
  refine GL.opN rfl .no (SN.bx (u := .agg ⟨_⟩) rfl .agg) (fun a1 => ?_)
  refine GL.done rfl ?_
  refine GQ.on ?_
  refine GW.toSeq rfl ?_
  refine GW.toReg rfl ?_
  refine GL.one rfl .no (S1.mv (v := (.pointer _)) rfl) ?_
  refine GL.one rfl .no (S1.fa fa134_0 rfl) ?_
  refine GL.one rfl .no (S1.ld sc3 rfl (.at .z) rfl) ?_
  refine GL.put rfl .no fo8 (ct8) p (.cons (.s .z) (.ts .tz)) (by omega) (by omega) (.d (.c (v := (.pointer _)) rfl (.c (v := (.int _ _)) rfl .n))) (fun vn2 vs2 E2 ns2 ss2 p2 lN2 lS2 => ?_)
  refine GL.done rfl ?_
  refine GQ.on ?_
  refine GW.toReg rfl ?_
  refine GL.one rfl .no (S1.mv (v := (.pointer _)) rfl) ?_
  refine GL.one rfl .no (S1.fa fa134_1 rfl) ?_
  refine GL.one rfl .no (S1.ld sc3 rfl (.at .z) rfl) ?_
  refine GL.put rfl .no fo8 (ct8) p2 (.cons (.s .z) (.ts .tz)) (by omega) (by omega) (.d (.c (v := (.pointer _)) rfl (.c (v := (.int _ _)) rfl .n))) (fun vn3 vs3 E3 ns3 ss3 p3 lN3 lS3 => ?_)
  refine GL.done rfl ?_
  refine GQ.putEnd rfl p3 (by omega) (by omega) (.cons (.s .z) (.ts .tz))


theorem ct77 {hr : RO} {a : Option Addr} {n c : Nat} (hc : Cell hr (.sl wy134) (.slice a n c)) : PutCt Try.prog hr 77 [.slice a n c] (bk hr (.sl wy134) (.slice a n c)) (bk hr (.sl wy134) (.slice a n c)) := by
  intro h hb vn vs E ns ss H p l1 l2
  refine Ct.go Try.func77 rfl rfl co77 H ?_
  refine GW.toReg rfl ?_
  refine GL.one rfl .no (S1.mv (v := (.pointer _)) rfl) ?_
  refine GL.one rfl .no (S1.mv (v := (.slice _ _ _)) rfl) ?_
  refine GL.put rfl .no fo96 ((ct96 (wn := fun k => bkL hr wy134 a (k * 2) 0) (ws := fun k => bkL hr wy134 a (k * 2) 0) hc fo97 (fun k hk => (ct97 ).le (Nat.le_refl _) (Nat.le_refl _))).le (wN' := bk hr (.sl wy134) (.slice a n c)) (wS' := bk hr (.sl wy134) (.slice a n c)) (Nat.le_refl _) (Nat.le_add_left _ _)) p (.cons .z .tz) (by omega) (by omega) (.d (.c rfl (.c rfl (.c rfl .n)))) (fun vn3 vs3 E3 ns3 ss3 p3 l3 m3 => ?_)
  refine GL.done rfl ?_
  refine GQ.putEnd rfl p3 (by omega) (by omega) (.cons .z .tz)


theorem ct37 {hr : RO} {a0 : Option Addr} {n0 c0 : Nat} {x1 : Int} (h0 : Cell hr (.sl wy134) (.slice a0 n0 c0)) : PutCt Try.prog hr 37 [.agg ⟨[.slice a0 n0 c0, .int .i64 x1]⟩] (bk hr (.sl wy134) (.slice a0 n0 c0) + (1 + 0)) (bk hr (.sl wy134) (.slice a0 n0 c0) + (1 + 0)) := by
  intro h hb vn vs E ns ss H p l1 l2
  refine Ct.go Try.func37 rfl rfl co37 H ?_
  refine GW.toSeq rfl ?_
  refine GW.toReg rfl ?_
  refine GL.opN rfl .no (SN.bx (u := .agg ⟨_⟩) rfl .agg) (fun a1 => ?_)
  refine GL.done rfl ?_
  refine GQ.on ?_
  refine GW.toSeq rfl ?_
  refine GW.toReg rfl ?_
  refine GL.one rfl .no (S1.mv (v := (.pointer _)) rfl) ?_
  refine GL.one rfl .no (S1.fa fa30_0 rfl) ?_
  refine GL.one rfl .no (S1.ld sc28 rfl (.at .z) rfl) ?_
  refine GL.put rfl .no fo77 (ct77 (by assumption)) p (.cons (.s .z) (.ts .tz)) (by omega) (by omega) (.d (.c (v := (.pointer _)) rfl (.c (v := (.slice _ _ _)) rfl .n))) (fun vn2 vs2 E2 ns2 ss2 p2 lN2 lS2 => ?_)
  refine GL.done rfl ?_
  refine GQ.on ?_
  refine GW.toReg rfl ?_
  refine GL.one rfl .no (S1.mv (v := (.pointer _)) rfl) ?_
  refine GL.one rfl .no (S1.fa fa30_1 rfl) ?_
  refine GL.one rfl .no (S1.ld sc3 rfl (.at .z) rfl) ?_
  refine GL.put rfl .no fo8 (ct8) p2 (.cons (.s .z) (.ts .tz)) (by omega) (by omega) (.d (.c (v := (.pointer _)) rfl (.c (v := (.int _ _)) rfl .n))) (fun vn3 vs3 E3 ns3 ss3 p3 lN3 lS3 => ?_)
  refine GL.done rfl ?_
  refine GQ.putEnd rfl p3 (by omega) (by omega) (.cons (.s .z) (.ts .tz))


/-- The arguments' cells. -/
abbrev xsB (a0 : Option Addr) (n0 c0 : Nat) (a1 : Option Addr) (n1 c1 : Nat) (x2 : Int) (x3 : Int) (x4 : Int) (a5 : Option Addr) (n5 c5 : Nat) (a6 : Option Addr) (n6 c6 : Nat) (x7 : Int) (a8 : Option Addr) (n8 c8 : Nat) (x9 : Int) (a10 : Option Addr) (n10 c10 : Nat) (a11 : Option Addr) (n11 c11 : Nat) (x12 : Int) : List Value := [.slice a0 n0 c0, .slice a1 n1 c1, .int .i64 x2, .int .i64 x3, .int .i64 x4, .slice a5 n5 c5, .slice a6 n6 c6, .int .i64 x7, .slice a8 n8 c8, .int .i64 x9, .slice a10 n10 c10, .slice a11 n11 c11, .int .i64 x12]

theorem ctAll {hr : RO} {a0 : Option Addr} {n0 c0 : Nat} {a1 : Option Addr} {n1 c1 : Nat} {x2 : Int} {x3 : Int} {x4 : Int} {a5 : Option Addr} {n5 c5 : Nat} {a6 : Option Addr} {n6 c6 : Nat} {x7 : Int} {a8 : Option Addr} {n8 c8 : Nat} {x9 : Int} {a10 : Option Addr} {n10 c10 : Nat} {a11 : Option Addr} {n11 c11 : Nat} {x12 : Int} (h0 : Cell hr (.sl wy75) (.slice a0 n0 c0)) (h1 : Cell hr (.sl wy80) (.slice a1 n1 c1)) (h5 : Cell hr (.sl wy47) (.slice a5 n5 c5)) (h6 : Cell hr (.sl wy89) (.slice a6 n6 c6)) (h8 : Cell hr (.sl wy134) (.slice a8 n8 c8)) (h10 : Cell hr (.sl wy3) (.slice a10 n10 c10)) (h11 : Cell hr (.sl wy47) (.slice a11 n11 c11)) {h : EH} {hb : Nat} (H : Hp hr h [hb] [(hb, .cells zero2 none true)] h) (l1 : bk hr (.sl wy75) (.slice a0 n0 c0) + (bk hr (.sl wy80) (.slice a1 n1 c1) + (1 + (1 + (1 + (bk hr (.sl wy47) (.slice a5 n5 c5) + (bk hr (.sl wy89) (.slice a6 n6 c6) + (1 + (bk hr (.sl wy134) (.slice a8 n8 c8) + (1 + (bk hr (.sl wy3) (.slice a10 n10 c10) + (bk hr (.sl wy47) (.slice a11 n11 c11) + (1 + 0)))))))))))) ≤ 1073741824) :
    Ct Try.prog 4 ⟨[.agg ⟨xsB a0 n0 c0 a1 n1 c1 x2 x3 x4 a5 n5 c5 a6 n6 c6 x7 a8 n8 c8 x9 a10 n10 c10 a11 n11 c11 x12⟩] ++ [.pointer (some ⟨hb, 0, none⟩)]⟩ h [hb] (fun _ : Value × Value × Ents × List Int × List ByteArray => .tuple #[])
      (fun y => PS y.1 y.2.1 y.2.2.1 y.2.2.2.1 y.2.2.2.2 ∧ y.2.2.2.1.length ≤ ([] : List Int).length + (bk hr (.sl wy75) (.slice a0 n0 c0) + (bk hr (.sl wy80) (.slice a1 n1 c1) + (1 + (1 + (1 + (bk hr (.sl wy47) (.slice a5 n5 c5) + (bk hr (.sl wy89) (.slice a6 n6 c6) + (1 + (bk hr (.sl wy134) (.slice a8 n8 c8) + (1 + (bk hr (.sl wy3) (.slice a10 n10 c10) + (bk hr (.sl wy47) (.slice a11 n11 c11) + (1 + 0))))))))))))) ∧ y.2.2.2.2.length ≤ ([] : List ByteArray).length + (bk hr (.sl wy75) (.slice a0 n0 c0) + (bk hr (.sl wy80) (.slice a1 n1 c1) + (1 + (1 + (1 + (bk hr (.sl wy47) (.slice a5 n5 c5) + (bk hr (.sl wy89) (.slice a6 n6 c6) + (1 + (bk hr (.sl wy134) (.slice a8 n8 c8) + (1 + (bk hr (.sl wy3) (.slice a10 n10 c10) + (bk hr (.sl wy47) (.slice a11 n11 c11) + (1 + 0)))))))))))))) (fun y => (hb, .cells [y.1, y.2.1] none true) :: y.2.2.1) := by
  have p := PS.nn
  have e0 : ([] : List Int).length = 0 := rfl
  have e1 : ([] : List ByteArray).length = 0 := rfl
  refine Ct.go Try.func4 rfl rfl co4 H ?_
  refine GW.toSeq rfl ?_
  refine GW.toReg rfl ?_
  refine GL.opN rfl .no (SN.bx (u := .agg ⟨_⟩) rfl .agg) (fun a1 => ?_)
  refine GL.done rfl ?_
  refine GQ.on ?_
  refine GW.toSeq rfl ?_
  refine GW.toReg rfl ?_
  refine GL.one rfl .no (S1.mv (v := (.pointer _)) rfl) ?_
  refine GL.one rfl .no (S1.fa fa33_0 rfl) ?_
  refine GL.one rfl .no (S1.ldA ag25 rfl (.at .z) (by repeat constructor)) ?_
  refine GL.put rfl .no fo35 (ct35 (by assumption) (by assumption)) p (.cons (.s .z) .nil) (by omega) (by omega) (.d (.c (v := (.pointer _)) rfl (.c (v := (.agg _)) rfl .n))) (fun vn2 vs2 E2 ns2 ss2 p2 lN2 lS2 => ?_)
  refine GL.done rfl ?_
  refine GQ.on ?_
  refine GW.toSeq rfl ?_
  refine GW.toReg rfl ?_
  refine GL.one rfl .no (S1.mv (v := (.pointer _)) rfl) ?_
  refine GL.one rfl .no (S1.fa fa33_1 rfl) ?_
  refine GL.one rfl .no (S1.ld sc3 rfl (.at .z) rfl) ?_
  refine GL.put rfl .no fo8 (ct8) p2 (.cons (.s .z) (.ts .tz)) (by omega) (by omega) (.d (.c (v := (.pointer _)) rfl (.c (v := (.int _ _)) rfl .n))) (fun vn3 vs3 E3 ns3 ss3 p3 lN3 lS3 => ?_)
  refine GL.done rfl ?_
  refine GQ.on ?_
  refine GW.toSeq rfl ?_
  refine GW.toReg rfl ?_
  refine GL.one rfl .no (S1.mv (v := (.pointer _)) rfl) ?_
  refine GL.one rfl .no (S1.fa fa33_2 rfl) ?_
  refine GL.one rfl .no (S1.ld sc3 rfl (.at .z) rfl) ?_
  refine GL.put rfl .no fo8 (ct8) p3 (.cons (.s .z) (.ts .tz)) (by omega) (by omega) (.d (.c (v := (.pointer _)) rfl (.c (v := (.int _ _)) rfl .n))) (fun vn4 vs4 E4 ns4 ss4 p4 lN4 lS4 => ?_)
  refine GL.done rfl ?_
  refine GQ.on ?_
  refine GW.toSeq rfl ?_
  refine GW.toReg rfl ?_
  refine GL.one rfl .no (S1.mv (v := (.pointer _)) rfl) ?_
  refine GL.one rfl .no (S1.fa fa33_3 rfl) ?_
  refine GL.one rfl .no (S1.ld sc3 rfl (.at .z) rfl) ?_
  refine GL.put rfl .no fo8 (ct8) p4 (.cons (.s .z) (.ts .tz)) (by omega) (by omega) (.d (.c (v := (.pointer _)) rfl (.c (v := (.int _ _)) rfl .n))) (fun vn5 vs5 E5 ns5 ss5 p5 lN5 lS5 => ?_)
  refine GL.done rfl ?_
  refine GQ.on ?_
  refine GW.toSeq rfl ?_
  refine GW.toReg rfl ?_
  refine GL.one rfl .no (S1.mv (v := (.pointer _)) rfl) ?_
  refine GL.one rfl .no (S1.fa fa33_4 rfl) ?_
  refine GL.one rfl .no (S1.ld sc26 rfl (.at .z) rfl) ?_
  refine GL.put rfl .no fo18 (ct18 (by assumption)) p5 (.cons (.s .z) (.ts .tz)) (by omega) (by omega) (.d (.c (v := (.pointer _)) rfl (.c (v := (.slice _ _ _)) rfl .n))) (fun vn6 vs6 E6 ns6 ss6 p6 lN6 lS6 => ?_)
  refine GL.done rfl ?_
  refine GQ.on ?_
  refine GW.toSeq rfl ?_
  refine GW.toReg rfl ?_
  refine GL.one rfl .no (S1.mv (v := (.pointer _)) rfl) ?_
  refine GL.one rfl .no (S1.fa fa33_5 rfl) ?_
  refine GL.one rfl .no (S1.ld sc27 rfl (.at .z) rfl) ?_
  refine GL.put rfl .no fo36 (ct36 (by assumption)) p6 (.cons (.s .z) (.ts .tz)) (by omega) (by omega) (.d (.c (v := (.pointer _)) rfl (.c (v := (.slice _ _ _)) rfl .n))) (fun vn7 vs7 E7 ns7 ss7 p7 lN7 lS7 => ?_)
  refine GL.done rfl ?_
  refine GQ.on ?_
  refine GW.toSeq rfl ?_
  refine GW.toReg rfl ?_
  refine GL.one rfl .no (S1.mv (v := (.pointer _)) rfl) ?_
  refine GL.one rfl .no (S1.fa fa33_6 rfl) ?_
  refine GL.one rfl .no (S1.ld sc3 rfl (.at .z) rfl) ?_
  refine GL.put rfl .no fo8 (ct8) p7 (.cons (.s .z) (.ts .tz)) (by omega) (by omega) (.d (.c (v := (.pointer _)) rfl (.c (v := (.int _ _)) rfl .n))) (fun vn8 vs8 E8 ns8 ss8 p8 lN8 lS8 => ?_)
  refine GL.done rfl ?_
  refine GQ.on ?_
  refine GW.toSeq rfl ?_
  refine GW.toReg rfl ?_
  refine GL.one rfl .no (S1.mv (v := (.pointer _)) rfl) ?_
  refine GL.one rfl .no (S1.fa fa33_7 rfl) ?_
  refine GL.one rfl .no (S1.ldA ag30 rfl (.at .z) (by repeat constructor)) ?_
  refine GL.put rfl .no fo37 (ct37 (by assumption)) p8 (.cons (.s .z) (.ts .tz)) (by omega) (by omega) (.d (.c (v := (.pointer _)) rfl (.c (v := (.agg _)) rfl .n))) (fun vn9 vs9 E9 ns9 ss9 p9 lN9 lS9 => ?_)
  refine GL.done rfl ?_
  refine GQ.on ?_
  refine GW.toSeq rfl ?_
  refine GW.toReg rfl ?_
  refine GL.one rfl .no (S1.mv (v := (.pointer _)) rfl) ?_
  refine GL.one rfl .no (S1.fa fa33_8 rfl) ?_
  refine GL.one rfl .no (S1.ld sc31 rfl (.at .z) rfl) ?_
  refine GL.put rfl .no fo30 (ct30 (by assumption)) p9 (.cons (.s .z) (.ts .tz)) (by omega) (by omega) (.d (.c (v := (.pointer _)) rfl (.c (v := (.slice _ _ _)) rfl .n))) (fun vn10 vs10 E10 ns10 ss10 p10 lN10 lS10 => ?_)
  refine GL.done rfl ?_
  refine GQ.on ?_
  refine GW.toSeq rfl ?_
  refine GW.toReg rfl ?_
  refine GL.one rfl .no (S1.mv (v := (.pointer _)) rfl) ?_
  refine GL.one rfl .no (S1.fa fa33_9 rfl) ?_
  refine GL.one rfl .no (S1.ld sc26 rfl (.at .z) rfl) ?_
  refine GL.put rfl .no fo18 (ct18 (by assumption)) p10 (.cons (.s .z) (.ts .tz)) (by omega) (by omega) (.d (.c (v := (.pointer _)) rfl (.c (v := (.slice _ _ _)) rfl .n))) (fun vn11 vs11 E11 ns11 ss11 p11 lN11 lS11 => ?_)
  refine GL.done rfl ?_
  refine GQ.on ?_
  refine GW.toReg rfl ?_
  refine GL.one rfl .no (S1.mv (v := (.pointer _)) rfl) ?_
  refine GL.one rfl .no (S1.fa fa33_10 rfl) ?_
  refine GL.one rfl .no (S1.ld sc3 rfl (.at .z) rfl) ?_
  refine GL.put rfl .no fo8 (ct8) p11 (.cons (.s .z) (.ts .tz)) (by omega) (by omega) (.d (.c (v := (.pointer _)) rfl (.c (v := (.int _ _)) rfl .n))) (fun vn12 vs12 E12 ns12 ss12 p12 lN12 lS12 => ?_)
  refine GL.done rfl ?_
  refine GQ.putEnd rfl p12 (by omega) (by omega) (.cons (.s .z) (.ts .tz))


/-- A row is written over. -/
theorem cw52 : WipR Try.prog 52 wy47 := by
  intro h v E m w hO hf hw H
  refine Ct.go Try.func52 rfl rfl co52 H ?_
  cases hO with
  | nil =>
    refine GW.toSeq rfl ?_
    refine GW.toReg rfl ?_
    refine GL.one rfl .no (S1.as (v := (.int _ _)) rfl) ?_
    refine GL.done rfl ?_
    refine GQ.on ?_
    refine GW.toBlock rfl ?_
    refine GW.toLoop (X := Unit) (fun _ => [(0, nilS), (1, .func (.func w) ⟨[]⟩ ⟨[]⟩), (4, .int .i64 0)]) (fun _ => []) (fun _ => True) (fun _ => 0) rfl () trivial (.c rfl (.c rfl (.c rfl .n))) .nil ?_
    rintro ⟨⟩ f _
    refine GW.toSeq rfl ?_
    refine GW.toSeq rfl ?_
    refine GW.toReg rfl ?_
    refine GL.one rfl .no (S1.mv (v := (.int _ _)) rfl) ?_
    refine GL.one rfl .no (S1.mv (v := (.slice _ _ _)) rfl) ?_
    refine GL.one rfl .no (S1.len el26 rfl) ?_
    refine GL.one rfl .no (S1.lss rfl rfl) ?_
    refine GL.done rfl ?_
    refine GQ.on ?_
    refine GW.toF rfl rfl ?_
    refine GW.toExit rfl ?_
    refine GQ.onE ?_
    refine GQ.onE ?_
    refine GQ.outH ?_
    refine GQ.retN [] .nil .z rfl ?_ .nil
    exact .nil
  | @row r m vs opn hl hm ho ht =>
    refine GW.toSeq rfl ?_
    refine GW.toReg rfl ?_
    refine GL.one rfl .no (S1.as (v := (.int _ _)) rfl) ?_
    refine GL.done rfl ?_
    refine GQ.on ?_
    refine GW.toBlock rfl ?_
    refine GW.toLoop (X := Nat × List Value) (fun x => [(0, rowS r m), (1, .func (.func w) ⟨[]⟩ ⟨[]⟩), (4, .int .i64 x.1)]) (fun x => [(r, .cells x.2 opn true)]) (fun x => x.1 ≤ m ∧ x.2.length = m * 2 ∧ RowT wy47 x.2) (fun x => m - x.1) rfl (0, vs) ⟨Nat.zero_le _, hl, ht⟩ (.c rfl (.c rfl (.c rfl .n))) .tz ?_
    rintro ⟨k, us⟩ f ⟨hk, hl2, ht2⟩
    simp only at hk hl2 ht2
    refine GW.toSeq rfl ?_
    refine GW.toSeq rfl ?_
    refine GW.toReg rfl ?_
    refine GL.one rfl .no (S1.mv (v := (.int _ _)) rfl) ?_
    refine GL.one rfl .no (S1.mv (v := (.slice _ _ _)) rfl) ?_
    refine GL.one rfl .no (S1.len el26 rfl) ?_
    refine GL.one rfl .no (S1.lss rfl rfl) ?_
    refine GL.done rfl ?_
    refine GQ.on ?_
    refine GW.toD rfl rfl (fun w1 => ?_) (fun w1 => ?_)
    refine GW.toSkip rfl ?_
    refine GQ.on ?_
    refine GW.toSeq rfl ?_
    refine GW.toBlock rfl ?_
    refine GW.toReg rfl ?_
    refine GL.one rfl .no (S1.mv (v := (.func _ _ _)) rfl) ?_
    refine GL.one rfl .no (S1.mv (v := (.slice _ _ _)) rfl) ?_
    refine GL.one rfl .no (S1.mv (v := (.int _ _)) rfl) ?_
    refine GL.one rfl .no (S1.ixN el26 rfl rfl (by omega)) ?_
    rotate_left
    refine GW.toExit rfl ?_
    refine GQ.onE ?_
    refine GQ.onE ?_
    refine GQ.outH ?_
    refine GQ.retN [(r, .cells us opn true)] .nil .z rfl ?_ .tz
    exact .row hl2 hm ho ht2
    refine GL.call rfl .no hf (ps := [(r, .cells us opn true)]) .tz (fun h' H' => hw h' r m k _ us opn hl2 (by omega) ht2 (Nat.zero_add _) (H'.give (ps := [(r, .cells us opn true)]) .tz)) (.v (fs := []) (cs := []) rfl (.c (v := .pointer _) rfl .n)) (fun us' ⟨q1, q2⟩ => ?_)
    refine GL.done rfl ?_
    refine GQ.outN ?_
    refine GQ.on ?_
    refine GW.toReg rfl ?_
    refine GL.one rfl .no (S1.mv (v := (.int _ _)) rfl) ?_
    refine GL.one rfl .no (S1.inc rfl rfl (by omega)) ?_
    refine GL.one rfl .no (S1.as (v := (.int _ _)) rfl) ?_
    refine GL.done rfl ?_
    refine GQ.next (k + 1, us') ⟨by simp only; omega, by simp only; omega, q2⟩ (by simp only; omega) (.c rfl (.c rfl (.c rfl .n))) (.cons .z .nil)


theorem cw65 {h : EH} {r o : Nat} {vs : List Value} {opn : Option Nat} (ho : o < vs.length) (H : Hp (fun _ => none) h [r] [(r, .cells vs opn true)] h) :
    Ct Try.prog 65 ⟨[.pointer (some ⟨r, o, none⟩)]⟩ h [r] (fun _ : Unit => .tuple #[]) (fun _ => True) (fun _ => [(r, .cells (vs.set o (.int .i64 (-77))) opn true)]) := by
  refine Ct.go Try.func65 rfl rfl co65 H ?_
  refine GW.toReg rfl ?_
  refine GL.one rfl .no (S1.mv (v := (.pointer _)) rfl) ?_
  refine GL.one rfl .no (S1.nc rfl) ?_
  refine GL.one rfl .no (S1.stV (u := (.int _ _)) sc3 rfl rfl rfl (by omega) .z) ?_
  refine GL.done rfl ?_
  refine GQ.retN () .nil .z ?_ ?_ .tz
  rfl
  exact trivial

theorem we65 : WipE Try.prog 65 wy3 := by
  intro h r m i o vs opn hl hi ht ho H
  have hl' : vs.length = m * 1 := hl
  subst ho
  refine (cw65 (o := i * wy3.length) (by show i * 1 < _; omega) H).mono fun _ _ => ⟨_, rfl, ⟨List.length_set .., RowT.set0 rfl (.int (by simp)) ht⟩, rfl⟩


theorem we53 : WipE Try.prog 53 wy47 := by
  intro h r m i o vs opn hl hi ht ho H
  have hl' : vs.length = m * 2 := hl
  have hq : o = i * 2 := ho
  have hk : o + 2 ≤ vs.length := by
    have : i * 2 + 2 ≤ m * 2 := by omega
    omega
  refine Ct.go Try.func53 rfl rfl co53 H ?_
  subst ho
  refine GW.toSeq rfl ?_
  refine GW.toReg rfl ?_
  refine GL.one rfl .no (S1.mv (v := (.pointer _)) rfl) ?_
  refine GL.one rfl .no (S1.nc rfl) ?_
  refine GL.one rfl .no (S1.fa fa47_0 rfl) ?_
  refine GL.call rfl .no fo65 (show Take _ [(r, _)] _ from .tz) (fun h H => cw65 (by first | omega | (simp only [List.length_set]; omega)) (H.give (show Take _ [(r, _)] _ from .tz))) (.d (.c (v := (.pointer _)) rfl .n)) (fun _ _ => ?_)
  refine GL.done rfl ?_
  refine GQ.on ?_
  refine GW.toReg rfl ?_
  refine GL.one rfl .no (S1.mv (v := (.pointer _)) rfl) ?_
  refine GL.one rfl .no (S1.nc rfl) ?_
  refine GL.one rfl .no (S1.fa fa47_1 rfl) ?_
  refine GL.call rfl .no fo65 (show Take _ [(r, _)] _ from (.cons .z .nil)) (fun h H => cw65 (by first | omega | (simp only [List.length_set]; omega)) (H.give (show Take _ [(r, _)] _ from (.cons .z .nil)))) (.d (.c (v := (.pointer _)) rfl .n)) (fun _ _ => ?_)
  refine GL.done rfl ?_
  refine GQ.retN ((vs.set (i * wy47.length) (.int .i64 (-77))).set (i * wy47.length + 1) (.int .i64 (-77))) .nil .z rfl ?_ (.cons .z .nil)
  exact ⟨by simp only [List.length_set], (.set (d := 1) rfl (.int (by simp)) (.set0 rfl (.int (by simp)) ht))⟩


/-- A list in a box is written over. -/
theorem cw20 : WipL Try.prog 20 wy47 := by
  intro h b o bs v E m hv hO H
  obtain ⟨a, rfl⟩ := hO.eta
  refine Ct.go Try.func20 rfl rfl co20 H ?_
  refine GW.toReg rfl ?_
  refine GL.one rfl .no (S1.mv (v := (.pointer _)) rfl) ?_
  refine GL.one rfl .no (S1.nc rfl) ?_
  refine GL.one rfl .no (S1.ld sc26 rfl (.at .z) (hv)) ?_
  refine GL.call rfl .no fo52 (ps := E) (.ts .tz) (fun h' H' => cw52 h' _ E m _ hO fo53 we53 (H'.give (ps := E) (.ts .tz))) (.d (.c rfl (.c rfl .n))) (fun E' q => ?_)
  refine GL.done rfl ?_
  refine GQ.retN _ .nil .z rfl ?_ (.cons (.sA .z) .tz)
  (simp [*]; done)


/-- A row is written over. -/
theorem cw64 : WipR Try.prog 64 wy3 := by
  intro h v E m w hO hf hw H
  refine Ct.go Try.func64 rfl rfl co64 H ?_
  cases hO with
  | nil =>
    refine GW.toSeq rfl ?_
    refine GW.toReg rfl ?_
    refine GL.one rfl .no (S1.as (v := (.int _ _)) rfl) ?_
    refine GL.done rfl ?_
    refine GQ.on ?_
    refine GW.toBlock rfl ?_
    refine GW.toLoop (X := Unit) (fun _ => [(0, nilS), (1, .func (.func w) ⟨[]⟩ ⟨[]⟩), (4, .int .i64 0)]) (fun _ => []) (fun _ => True) (fun _ => 0) rfl () trivial (.c rfl (.c rfl (.c rfl .n))) .nil ?_
    rintro ⟨⟩ f _
    refine GW.toSeq rfl ?_
    refine GW.toSeq rfl ?_
    refine GW.toReg rfl ?_
    refine GL.one rfl .no (S1.mv (v := (.int _ _)) rfl) ?_
    refine GL.one rfl .no (S1.mv (v := (.slice _ _ _)) rfl) ?_
    refine GL.one rfl .no (S1.len el31 rfl) ?_
    refine GL.one rfl .no (S1.lss rfl rfl) ?_
    refine GL.done rfl ?_
    refine GQ.on ?_
    refine GW.toF rfl rfl ?_
    refine GW.toExit rfl ?_
    refine GQ.onE ?_
    refine GQ.onE ?_
    refine GQ.outH ?_
    refine GQ.retN [] .nil .z rfl ?_ .nil
    exact .nil
  | @row r m vs opn hl hm ho ht =>
    refine GW.toSeq rfl ?_
    refine GW.toReg rfl ?_
    refine GL.one rfl .no (S1.as (v := (.int _ _)) rfl) ?_
    refine GL.done rfl ?_
    refine GQ.on ?_
    refine GW.toBlock rfl ?_
    refine GW.toLoop (X := Nat × List Value) (fun x => [(0, rowS r m), (1, .func (.func w) ⟨[]⟩ ⟨[]⟩), (4, .int .i64 x.1)]) (fun x => [(r, .cells x.2 opn true)]) (fun x => x.1 ≤ m ∧ x.2.length = m * 1 ∧ RowT wy3 x.2) (fun x => m - x.1) rfl (0, vs) ⟨Nat.zero_le _, hl, ht⟩ (.c rfl (.c rfl (.c rfl .n))) .tz ?_
    rintro ⟨k, us⟩ f ⟨hk, hl2, ht2⟩
    simp only at hk hl2 ht2
    refine GW.toSeq rfl ?_
    refine GW.toSeq rfl ?_
    refine GW.toReg rfl ?_
    refine GL.one rfl .no (S1.mv (v := (.int _ _)) rfl) ?_
    refine GL.one rfl .no (S1.mv (v := (.slice _ _ _)) rfl) ?_
    refine GL.one rfl .no (S1.len el31 rfl) ?_
    refine GL.one rfl .no (S1.lss rfl rfl) ?_
    refine GL.done rfl ?_
    refine GQ.on ?_
    refine GW.toD rfl rfl (fun w1 => ?_) (fun w1 => ?_)
    refine GW.toSkip rfl ?_
    refine GQ.on ?_
    refine GW.toSeq rfl ?_
    refine GW.toBlock rfl ?_
    refine GW.toReg rfl ?_
    refine GL.one rfl .no (S1.mv (v := (.func _ _ _)) rfl) ?_
    refine GL.one rfl .no (S1.mv (v := (.slice _ _ _)) rfl) ?_
    refine GL.one rfl .no (S1.mv (v := (.int _ _)) rfl) ?_
    refine GL.one rfl .no (S1.ixN el31 rfl rfl (by omega)) ?_
    rotate_left
    refine GW.toExit rfl ?_
    refine GQ.onE ?_
    refine GQ.onE ?_
    refine GQ.outH ?_
    refine GQ.retN [(r, .cells us opn true)] .nil .z rfl ?_ .tz
    exact .row hl2 hm ho ht2
    refine GL.call rfl .no hf (ps := [(r, .cells us opn true)]) .tz (fun h' H' => hw h' r m k _ us opn hl2 (by omega) ht2 (Nat.zero_add _) (H'.give (ps := [(r, .cells us opn true)]) .tz)) (.v (fs := []) (cs := []) rfl (.c (v := .pointer _) rfl .n)) (fun us' ⟨q1, q2⟩ => ?_)
    refine GL.done rfl ?_
    refine GQ.outN ?_
    refine GQ.on ?_
    refine GW.toReg rfl ?_
    refine GL.one rfl .no (S1.mv (v := (.int _ _)) rfl) ?_
    refine GL.one rfl .no (S1.inc rfl rfl (by omega)) ?_
    refine GL.one rfl .no (S1.as (v := (.int _ _)) rfl) ?_
    refine GL.done rfl ?_
    refine GQ.next (k + 1, us') ⟨by simp only; omega, by simp only; omega, q2⟩ (by simp only; omega) (.c rfl (.c rfl (.c rfl .n))) (.cons .z .nil)


/-- A list in a box is written over. -/
theorem cw32 : WipL Try.prog 32 wy3 := by
  intro h b o bs v E m hv hO H
  obtain ⟨a, rfl⟩ := hO.eta
  refine Ct.go Try.func32 rfl rfl co32 H ?_
  refine GW.toReg rfl ?_
  refine GL.one rfl .no (S1.mv (v := (.pointer _)) rfl) ?_
  refine GL.one rfl .no (S1.nc rfl) ?_
  refine GL.one rfl .no (S1.ld sc31 rfl (.at .z) (hv)) ?_
  refine GL.call rfl .no fo64 (ps := E) (.ts .tz) (fun h' H' => cw64 h' _ E m _ hO fo65 we65 (H'.give (ps := E) (.ts .tz))) (.d (.c rfl (.c rfl .n))) (fun E' q => ?_)
  refine GL.done rfl ?_
  refine GQ.retN _ .nil .z rfl ?_ (.cons (.sA .z) .tz)
  (simp [*]; done)

end Go.Proofs.Ytmlknglgijeepaa
