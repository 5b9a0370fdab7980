/- P1: contracts: what is put, what is written over (printed by wip/tools/pw.py). -/
import Derived.Test.YtkpbpfnmgnpfaaaGreatBA
set_option linter.all false
set_option linter.constructorNameAsVariable false
set_option linter.unusedSimpArgs false
set_option linter.unusedVariables false
set_option linter.unusedSectionVars false
set_option linter.unnecessarySimpa false
namespace Go.Proofs.YtkpbpfnmgnpfaaaGreat
open Go Go.E
set_option maxRecDepth 100000

theorem ct8 {hr : RO} {x : Int} : PutCt Tryz.prog hr 8 [.int .i64 x] 1 1 := by
  intro h hb vn vs E ns ss H p l1 l2
  cases p <;> refine Ct.go Tryz.func8 rfl rfl co8 H ?_
  · refine GW.toReg rfl ?_
    refine GL.one rfl .no (S1.mv (v := (.pointer _)) rfl) ?_
    refine GL.one rfl .no (S1.mv (v := (.pointer _)) rfl) ?_
    refine GL.one rfl .no (S1.nc rfl) ?_
    refine GL.one rfl .no (S1.fa fa34_0 rfl) ?_
    refine GL.one rfl .no (S1.ld sc32 rfl (.at .z) rfl) ?_
    refine GL.one rfl .no (S1.mv (v := (.int _ _)) rfl) ?_
    refine GL.opN rfl .no (SN.bs el32 ez32 (.c (v := (.int _ _)) rfl rfl .n) rfl rfl) (fun a1 => ?_)
    refine GL.opN rfl .no (SN.ap0 ap32_32 rfl (.row rfl (.at .z) rfl) (by omega) (by omega)) (fun a4 => ?_)
    refine GL.one rfl .no (S1.nc rfl) ?_
    refine GL.one rfl .no (S1.fa fa34_0 rfl) ?_
    refine GL.one rfl .no (S1.st (u := (.slice _ _ _)) sc32 rfl rfl rfl (by repeat constructor) (.s (.s .z))) ?_
    refine GL.done rfl ?_
    refine GQ.putEnd rfl (PS.rn (ns := [x]) (by simp)) (by simp) (by simp) (.cons (.s (.s .z)) (.cons .z .nil))
  · refine GW.toReg rfl ?_
    refine GL.one rfl .no (S1.mv (v := (.pointer _)) rfl) ?_
    refine GL.one rfl .no (S1.mv (v := (.pointer _)) rfl) ?_
    refine GL.one rfl .no (S1.nc rfl) ?_
    refine GL.one rfl .no (S1.fa fa34_0 rfl) ?_
    refine GL.one rfl .no (S1.ld sc32 rfl (.at .z) rfl) ?_
    refine GL.one rfl .no (S1.mv (v := (.int _ _)) rfl) ?_
    refine GL.opN rfl .no (SN.bs el32 ez32 (.c (v := (.int _ _)) rfl rfl .n) rfl rfl) (fun a5 => ?_)
    refine GL.opN rfl .no (SN.apO ap32_32 rfl (.row rfl (.at .z) rfl) (by omega) (by omega) rfl (.s (.s .z)) (by first | rfl | omega | (rw [ints_len]; omega) | (rw [strs_len]; omega))) (fun a8 => ?_)
    refine GL.one rfl .no (S1.nc rfl) ?_
    refine GL.one rfl .no (S1.fa fa34_0 rfl) ?_
    refine GL.one rfl .no (S1.st (u := (.slice _ _ _)) sc32 rfl rfl rfl (by repeat constructor) (.s (.s .z))) ?_
    refine GL.done rfl ?_
    refine GQ.putEnd rfl (PS.rnA (ns := ns) (x := x) rfl) (by simp) (by simp) (.cons (.s (.s .z)) (.cons .z .nil))
  · refine GW.toReg rfl ?_
    refine GL.one rfl .no (S1.mv (v := (.pointer _)) rfl) ?_
    refine GL.one rfl .no (S1.mv (v := (.pointer _)) rfl) ?_
    refine GL.one rfl .no (S1.nc rfl) ?_
    refine GL.one rfl .no (S1.fa fa34_0 rfl) ?_
    refine GL.one rfl .no (S1.ld sc32 rfl (.at .z) rfl) ?_
    refine GL.one rfl .no (S1.mv (v := (.int _ _)) rfl) ?_
    refine GL.opN rfl .no (SN.bs el32 ez32 (.c (v := (.int _ _)) rfl rfl .n) rfl rfl) (fun a9 => ?_)
    refine GL.opN rfl .no (SN.ap0 ap32_32 rfl (.row rfl (.at .z) rfl) (by omega) (by omega)) (fun a12 => ?_)
    refine GL.one rfl .no (S1.nc rfl) ?_
    refine GL.one rfl .no (S1.fa fa34_0 rfl) ?_
    refine GL.one rfl .no (S1.st (u := (.slice _ _ _)) sc32 rfl rfl rfl (by repeat constructor) (.s (.s .z))) ?_
    refine GL.done rfl ?_
    refine GQ.putEnd rfl (PS.rr (ns := [x]) (by simp) (by assumption)) (by simp) (by simp) (.cons (.s (.s .z)) (.cons .z (.cons (.s .z) .nil)))
  · refine GW.toReg rfl ?_
    refine GL.one rfl .no (S1.mv (v := (.pointer _)) rfl) ?_
    refine GL.one rfl .no (S1.mv (v := (.pointer _)) rfl) ?_
    refine GL.one rfl .no (S1.nc rfl) ?_
    refine GL.one rfl .no (S1.fa fa34_0 rfl) ?_
    refine GL.one rfl .no (S1.ld sc32 rfl (.at .z) rfl) ?_
    refine GL.one rfl .no (S1.mv (v := (.int _ _)) rfl) ?_
    refine GL.opN rfl .no (SN.bs el32 ez32 (.c (v := (.int _ _)) rfl rfl .n) rfl rfl) (fun a13 => ?_)
    refine GL.opN rfl .no (SN.apO ap32_32 rfl (.row rfl (.at .z) rfl) (by omega) (by omega) rfl (.s (.s .z)) (by first | rfl | omega | (rw [ints_len]; omega) | (rw [strs_len]; omega))) (fun a16 => ?_)
    refine GL.one rfl .no (S1.nc rfl) ?_
    refine GL.one rfl .no (S1.fa fa34_0 rfl) ?_
    refine GL.one rfl .no (S1.st (u := (.slice _ _ _)) sc32 rfl rfl rfl (by repeat constructor) (.s (.s .z))) ?_
    refine GL.done rfl ?_
    refine GQ.putEnd rfl (PS.rrA (ns := ns) (x := x) (by assumption) rfl rfl) (by simp) (by simp) (.cons (.s (.s .z)) (.cons .z (.cons (.s .z) .nil)))

theorem ct9 {hr : RO} {x : Int} : PutCt Tryz.prog hr 9 [.int .i64 x] 1 1 := by
  intro h hb vn vs E ns ss H p l1 l2
  cases p <;> refine Ct.go Tryz.func9 rfl rfl co9 H ?_
  · refine GW.toReg rfl ?_
    refine GL.one rfl .no (S1.mv (v := (.pointer _)) rfl) ?_
    refine GL.one rfl .no (S1.mv (v := (.pointer _)) rfl) ?_
    refine GL.one rfl .no (S1.nc rfl) ?_
    refine GL.one rfl .no (S1.fa fa34_0 rfl) ?_
    refine GL.one rfl .no (S1.ld sc32 rfl (.at .z) rfl) ?_
    refine GL.one rfl .no (S1.mv (v := (.int _ _)) rfl) ?_
    refine GL.opN rfl .no (SN.bs el32 ez32 (.c (v := (.int _ _)) rfl rfl .n) rfl rfl) (fun a1 => ?_)
    refine GL.opN rfl .no (SN.ap0 ap32_32 rfl (.row rfl (.at .z) rfl) (by omega) (by omega)) (fun a4 => ?_)
    refine GL.one rfl .no (S1.nc rfl) ?_
    refine GL.one rfl .no (S1.fa fa34_0 rfl) ?_
    refine GL.one rfl .no (S1.st (u := (.slice _ _ _)) sc32 rfl rfl rfl (by repeat constructor) (.s (.s .z))) ?_
    refine GL.done rfl ?_
    refine GQ.putEnd rfl (PS.rn (ns := [x]) (by simp)) (by simp) (by simp) (.cons (.s (.s .z)) (.cons .z .nil))
  · refine GW.toReg rfl ?_
    refine GL.one rfl .no (S1.mv (v := (.pointer _)) rfl) ?_
    refine GL.one rfl .no (S1.mv (v := (.pointer _)) rfl) ?_
    refine GL.one rfl .no (S1.nc rfl) ?_
    refine GL.one rfl .no (S1.fa fa34_0 rfl) ?_
    refine GL.one rfl .no (S1.ld sc32 rfl (.at .z) rfl) ?_
    refine GL.one rfl .no (S1.mv (v := (.int _ _)) rfl) ?_
    refine GL.opN rfl .no (SN.bs el32 ez32 (.c (v := (.int _ _)) rfl rfl .n) rfl rfl) (fun a5 => ?_)
    refine GL.opN rfl .no (SN.apO ap32_32 rfl (.row rfl (.at .z) rfl) (by omega) (by omega) rfl (.s (.s .z)) (by first | rfl | omega | (rw [ints_len]; omega) | (rw [strs_len]; omega))) (fun a8 => ?_)
    refine GL.one rfl .no (S1.nc rfl) ?_
    refine GL.one rfl .no (S1.fa fa34_0 rfl) ?_
    refine GL.one rfl .no (S1.st (u := (.slice _ _ _)) sc32 rfl rfl rfl (by repeat constructor) (.s (.s .z))) ?_
    refine GL.done rfl ?_
    refine GQ.putEnd rfl (PS.rnA (ns := ns) (x := x) rfl) (by simp) (by simp) (.cons (.s (.s .z)) (.cons .z .nil))
  · refine GW.toReg rfl ?_
    refine GL.one rfl .no (S1.mv (v := (.pointer _)) rfl) ?_
    refine GL.one rfl .no (S1.mv (v := (.pointer _)) rfl) ?_
    refine GL.one rfl .no (S1.nc rfl) ?_
    refine GL.one rfl .no (S1.fa fa34_0 rfl) ?_
    refine GL.one rfl .no (S1.ld sc32 rfl (.at .z) rfl) ?_
    refine GL.one rfl .no (S1.mv (v := (.int _ _)) rfl) ?_
    refine GL.opN rfl .no (SN.bs el32 ez32 (.c (v := (.int _ _)) rfl rfl .n) rfl rfl) (fun a9 => ?_)
    refine GL.opN rfl .no (SN.ap0 ap32_32 rfl (.row rfl (.at .z) rfl) (by omega) (by omega)) (fun a12 => ?_)
    refine GL.one rfl .no (S1.nc rfl) ?_
    refine GL.one rfl .no (S1.fa fa34_0 rfl) ?_
    refine GL.one rfl .no (S1.st (u := (.slice _ _ _)) sc32 rfl rfl rfl (by repeat constructor) (.s (.s .z))) ?_
    refine GL.done rfl ?_
    refine GQ.putEnd rfl (PS.rr (ns := [x]) (by simp) (by assumption)) (by simp) (by simp) (.cons (.s (.s .z)) (.cons .z (.cons (.s .z) .nil)))
  · refine GW.toReg rfl ?_
    refine GL.one rfl .no (S1.mv (v := (.pointer _)) rfl) ?_
    refine GL.one rfl .no (S1.mv (v := (.pointer _)) rfl) ?_
    refine GL.one rfl .no (S1.nc rfl) ?_
    refine GL.one rfl .no (S1.fa fa34_0 rfl) ?_
    refine GL.one rfl .no (S1.ld sc32 rfl (.at .z) rfl) ?_
    refine GL.one rfl .no (S1.mv (v := (.int _ _)) rfl) ?_
    refine GL.opN rfl .no (SN.bs el32 ez32 (.c (v := (.int _ _)) rfl rfl .n) rfl rfl) (fun a13 => ?_)
    refine GL.opN rfl .no (SN.apO ap32_32 rfl (.row rfl (.at .z) rfl) (by omega) (by omega) rfl (.s (.s .z)) (by first | rfl | omega | (rw [ints_len]; omega) | (rw [strs_len]; omega))) (fun a16 => ?_)
    refine GL.one rfl .no (S1.nc rfl) ?_
    refine GL.one rfl .no (S1.fa fa34_0 rfl) ?_
    refine GL.one rfl .no (S1.st (u := (.slice _ _ _)) sc32 rfl rfl rfl (by repeat constructor) (.s (.s .z))) ?_
    refine GL.done rfl ?_
    refine GQ.putEnd rfl (PS.rrA (ns := ns) (x := x) (by assumption) rfl rfl) (by simp) (by simp) (.cons (.s (.s .z)) (.cons .z (.cons (.s .z) .nil)))


/-- A list is put. -/
theorem ct38 {hr : RO} {a : Option Addr} {n c g : Nat} {wn ws : Nat → Nat} (hc : Cell hr (.sl wy38) (.slice a n c)) (hf : fnOk Tryz.prog g = true) (pc : ∀ k, k < n → PutCt Tryz.prog hr g [.int .i64 (iv (el hr a (k * 1 + 0)))] (wn k) (ws k)) :
    PutCt Tryz.prog hr 38 [.slice a n c, .func (.func g) ⟨[]⟩ ⟨[]⟩] (1 + sumTo wn n) (sumTo ws n) := by
  intro h hb vn vs E ns ss H p l1 l2
  have hl := hc.le
  refine Ct.go Tryz.func38 rfl rfl co38 H ?_
  refine GW.cut (fun _ => [(0, .pointer (some ⟨hb, 0, none⟩)), (1, .slice a n c), (2, .func (.func g) ⟨[]⟩ ⟨[]⟩)]) (fun y : Value × Value × Ents × List Int × List ByteArray => (hb, .cells [y.1, y.2.1] none true) :: y.2.2.1) (fun y => PS y.1 y.2.1 y.2.2.1 y.2.2.2.1 y.2.2.2.2 ∧ y.2.2.2.1.length ≤ ns.length + 1 ∧ y.2.2.2.2.length ≤ ss.length) rfl ?_ ?_
  · cases p
    · refine GW.toReg rfl ?_
      refine GL.one rfl .no (S1.mv (v := (.pointer _)) rfl) ?_
      refine GL.one rfl .no (S1.mv (v := (.pointer _)) rfl) ?_
      refine GL.one rfl .no (S1.nc rfl) ?_
      refine GL.one rfl .no (S1.fa fa34_0 rfl) ?_
      refine GL.one rfl .no (S1.ld sc32 rfl (.at .z) rfl) ?_
      refine GL.one rfl .no (S1.mv (v := (.slice _ _ _)) rfl) ?_
      refine GL.one rfl .no (S1.len el46 rfl) ?_
      refine GL.opN rfl .no (SN.bs el32 ez32 (.c (v := (.int _ _)) rfl rfl .n) rfl rfl) (fun a1 => ?_)
      refine GL.opN rfl .no (SN.ap0 ap32_32 rfl (.row rfl (.at .z) rfl) (by omega) (by omega)) (fun a4 => ?_)
      refine GL.one rfl .no (S1.nc rfl) ?_
      refine GL.one rfl .no (S1.fa fa34_0 rfl) ?_
      refine GL.one rfl .no (S1.st (u := (.slice _ _ _)) sc32 rfl rfl rfl (by repeat constructor) (.s (.s .z))) ?_
      refine GL.done rfl ?_
      refine GQ.cutEnd (_, _, _, _, _) ⟨PS.rn (ns := [(n : Int)]) (by simp), by simp, by simp⟩ (.c rfl (.c rfl (.c rfl .n))) (.cons (.s (.s .z)) (.cons .z .nil))
    · refine GW.toReg rfl ?_
      refine GL.one rfl .no (S1.mv (v := (.pointer _)) rfl) ?_
      refine GL.one rfl .no (S1.mv (v := (.pointer _)) rfl) ?_
      refine GL.one rfl .no (S1.nc rfl) ?_
      refine GL.one rfl .no (S1.fa fa34_0 rfl) ?_
      refine GL.one rfl .no (S1.ld sc32 rfl (.at .z) rfl) ?_
      refine GL.one rfl .no (S1.mv (v := (.slice _ _ _)) rfl) ?_
      refine GL.one rfl .no (S1.len el46 rfl) ?_
      refine GL.opN rfl .no (SN.bs el32 ez32 (.c (v := (.int _ _)) rfl rfl .n) rfl rfl) (fun a5 => ?_)
      refine GL.opN rfl .no (SN.apO ap32_32 rfl (.row rfl (.at .z) rfl) (by omega) (by omega) rfl (.s (.s .z)) (by first | rfl | omega | (rw [ints_len]; omega) | (rw [strs_len]; omega))) (fun a8 => ?_)
      refine GL.one rfl .no (S1.nc rfl) ?_
      refine GL.one rfl .no (S1.fa fa34_0 rfl) ?_
      refine GL.one rfl .no (S1.st (u := (.slice _ _ _)) sc32 rfl rfl rfl (by repeat constructor) (.s (.s .z))) ?_
      refine GL.done rfl ?_
      refine GQ.cutEnd (_, _, _, _, _) ⟨PS.rnA (ns := ns) (x := (n : Int)) rfl, by simp, by simp⟩ (.c rfl (.c rfl (.c rfl .n))) (.cons (.s (.s .z)) (.cons .z .nil))
    · refine GW.toReg rfl ?_
      refine GL.one rfl .no (S1.mv (v := (.pointer _)) rfl) ?_
      refine GL.one rfl .no (S1.mv (v := (.pointer _)) rfl) ?_
      refine GL.one rfl .no (S1.nc rfl) ?_
      refine GL.one rfl .no (S1.fa fa34_0 rfl) ?_
      refine GL.one rfl .no (S1.ld sc32 rfl (.at .z) rfl) ?_
      refine GL.one rfl .no (S1.mv (v := (.slice _ _ _)) rfl) ?_
      refine GL.one rfl .no (S1.len el46 rfl) ?_
      refine GL.opN rfl .no (SN.bs el32 ez32 (.c (v := (.int _ _)) rfl rfl .n) rfl rfl) (fun a9 => ?_)
      refine GL.opN rfl .no (SN.ap0 ap32_32 rfl (.row rfl (.at .z) rfl) (by omega) (by omega)) (fun a12 => ?_)
      refine GL.one rfl .no (S1.nc rfl) ?_
      refine GL.one rfl .no (S1.fa fa34_0 rfl) ?_
      refine GL.one rfl .no (S1.st (u := (.slice _ _ _)) sc32 rfl rfl rfl (by repeat constructor) (.s (.s .z))) ?_
      refine GL.done rfl ?_
      refine GQ.cutEnd (_, _, _, _, _) ⟨PS.rr (ns := [(n : Int)]) (by simp) (by assumption), by simp, by simp⟩ (.c rfl (.c rfl (.c rfl .n))) (.cons (.s (.s .z)) (.cons .z (.cons (.s .z) .nil)))
    · refine GW.toReg rfl ?_
      refine GL.one rfl .no (S1.mv (v := (.pointer _)) rfl) ?_
      refine GL.one rfl .no (S1.mv (v := (.pointer _)) rfl) ?_
      refine GL.one rfl .no (S1.nc rfl) ?_
      refine GL.one rfl .no (S1.fa fa34_0 rfl) ?_
      refine GL.one rfl .no (S1.ld sc32 rfl (.at .z) rfl) ?_
      refine GL.one rfl .no (S1.mv (v := (.slice _ _ _)) rfl) ?_
      refine GL.one rfl .no (S1.len el46 rfl) ?_
      refine GL.opN rfl .no (SN.bs el32 ez32 (.c (v := (.int _ _)) rfl rfl .n) rfl rfl) (fun a13 => ?_)
      refine GL.opN rfl .no (SN.apO ap32_32 rfl (.row rfl (.at .z) rfl) (by omega) (by omega) rfl (.s (.s .z)) (by first | rfl | omega | (rw [ints_len]; omega) | (rw [strs_len]; omega))) (fun a16 => ?_)
      refine GL.one rfl .no (S1.nc rfl) ?_
      refine GL.one rfl .no (S1.fa fa34_0 rfl) ?_
      refine GL.one rfl .no (S1.st (u := (.slice _ _ _)) sc32 rfl rfl rfl (by repeat constructor) (.s (.s .z))) ?_
      refine GL.done rfl ?_
      refine GQ.cutEnd (_, _, _, _, _) ⟨PS.rrA (ns := ns) (x := (n : Int)) (by assumption) rfl rfl, by simp, by simp⟩ (.c rfl (.c rfl (.c rfl .n))) (.cons (.s (.s .z)) (.cons .z (.cons (.s .z) .nil)))
  rintro ⟨vn1, vs1, E1, ns1, ss1⟩ f1 ⟨p1, q1, q2⟩
  refine GW.toSeq rfl ?_
  refine GW.toReg rfl ?_
  refine GL.one rfl .no (S1.as (v := (.int _ _)) rfl) ?_
  refine GL.done rfl ?_
  refine GQ.on ?_
  refine GW.toBlock rfl ?_
  refine GW.toLoop (X := Nat × Value × Value × Ents × List Int × List ByteArray) (fun y => [(0, .pointer (some ⟨hb, 0, none⟩)), (1, .slice a n c), (2, .func (.func g) ⟨[]⟩ ⟨[]⟩), (6, .int .i64 (y.1 : Int))]) (fun y => (hb, .cells [y.2.1, y.2.2.1] none true) :: y.2.2.2.1)
    (fun y => y.1 ≤ n ∧ PS y.2.1 y.2.2.1 y.2.2.2.1 y.2.2.2.2.1 y.2.2.2.2.2 ∧ y.2.2.2.2.1.length ≤ ns.length + 1 + sumTo wn y.1 ∧ y.2.2.2.2.2.length ≤ ss.length + sumTo ws y.1) (fun y => n - y.1) rfl (0, vn1, vs1, E1, ns1, ss1) ⟨Nat.zero_le _, p1, by simpa [sumTo] using q1, by simpa [sumTo] using q2⟩ (.c rfl (.c rfl (.c rfl (.c rfl .n)))) .tz ?_
  rintro ⟨k, vn2, vs2, E2, ns2, ss2⟩ f2 ⟨hk, p2, r1, r2⟩
  simp only at hk p2 r1 r2
  have m1 := sumTo_mono (w := wn) hk
  have m2 := sumTo_mono (w := ws) hk
  refine GW.toSeq rfl ?_
  refine GW.toSeq rfl ?_
  refine GW.toReg rfl ?_
  refine GL.one rfl .no (S1.mv (v := (.int _ _)) rfl) ?_
  refine GL.one rfl .no (S1.mv (v := (.slice _ _ _)) rfl) ?_
  refine GL.one rfl .no (S1.len el46 rfl) ?_
  refine GL.one rfl .no (S1.lss rfl rfl) ?_
  refine GL.done rfl ?_
  refine GQ.on ?_
  refine GW.toD rfl rfl (fun w17 => ?_) (fun w17 => ?_)
  refine GW.toSkip rfl ?_
  refine GQ.on ?_
  refine GW.toSeq rfl ?_
  refine GW.toBlock rfl ?_
  refine GW.toReg rfl ?_
  refine GL.one rfl .no (S1.mv (v := (.func _ _ _)) rfl) ?_
  refine GL.one rfl .no (S1.mv (v := (.pointer _)) rfl) ?_
  refine GL.one rfl .no (S1.mv (v := (.slice _ _ _)) rfl) ?_
  refine GL.one rfl .no (S1.mv (v := (.int _ _)) rfl) ?_
  refine GL.one rfl .no (S1.ixR el46 hc rfl rfl (by omega)) ?_
  refine GL.one rfl .no (S1.ldCI sc38 (z := 1) hc rfl (m := (k, vn2, vs2, E2, ns2, ss2).fst) (by omega) rfl (d := 0) rfl rfl) ?_
  rotate_left
  refine GW.toExit rfl ?_
  refine GQ.onE ?_
  refine GQ.onE ?_
  refine GQ.outH ?_
  refine GQ.putEnd rfl p2 (by omega) (by omega) .tz
  · have m3 := sumTo_mono (w := wn) (show k + 1 ≤ n by omega)
    have m4 := sumTo_mono (w := ws) (show k + 1 ≤ n by omega)
    simp only [sumTo] at m3 m4
    refine GL.put rfl .no hf (pc k (by omega)) p2 (.cons .z .tz) (by omega) (by omega) (.v (fs := []) (cs := []) rfl (.c rfl (.c rfl .n))) (fun vn3 vs3 E3 ns3 ss3 p3 l3 m3 => ?_)
    refine GL.done rfl ?_
    refine GQ.outN ?_
    refine GQ.on ?_
    refine GW.toReg rfl ?_
    refine GL.one rfl .no (S1.mv (v := (.int _ _)) rfl) ?_
    refine GL.one rfl .no (S1.inc rfl rfl (by omega)) ?_
    refine GL.one rfl .no (S1.as (v := (.int _ _)) rfl) ?_
    refine GL.done rfl ?_
    refine GQ.next (k + 1, vn3, vs3, E3, ns3, ss3) ⟨by simp only; omega, p3, by simp only [sumTo]; omega, by simp only [sumTo]; omega⟩ (by simp only; omega) (.c rfl (.c rfl (.c rfl (.c rfl .n)))) (.cons .z .tz)


theorem ct15 {hr : RO} {a : Option Addr} {n c : Nat} (hc : Cell hr (.sl wy38) (.slice a n c)) : PutCt Tryz.prog hr 15 [.slice a n c] (bk hr (.sl wy38) (.slice a n c)) (bk hr (.sl wy38) (.slice a n c)) := by
  intro h hb vn vs E ns ss H p l1 l2
  refine Ct.go Tryz.func15 rfl rfl co15 H ?_
  refine GW.toReg rfl ?_
  refine GL.one rfl .no (S1.mv (v := (.pointer _)) rfl) ?_
  refine GL.one rfl .no (S1.mv (v := (.slice _ _ _)) rfl) ?_
  refine GL.put rfl .no fo38 ((ct38 (wn := fun k => bkL hr wy38 a (k * 1) 0) (ws := fun k => bkL hr wy38 a (k * 1) 0) hc fo9 (fun k hk => (ct9 ).le (Nat.le_refl _) (Nat.le_refl _))).le (wN' := bk hr (.sl wy38) (.slice a n c)) (wS' := bk hr (.sl wy38) (.slice a n c)) (Nat.le_refl _) (Nat.le_add_left _ _)) p (.cons .z .tz) (by omega) (by omega) (.d (.c rfl (.c rfl (.c rfl .n)))) (fun vn3 vs3 E3 ns3 ss3 p3 l3 m3 => ?_)
  refine GL.done rfl ?_
  refine GQ.putEnd rfl p3 (by omega) (by omega) (.cons .z .tz)


/-- A list is put. -/
theorem ct77 {hr : RO} {a : Option Addr} {n c g : Nat} {wn ws : Nat → Nat} (hc : Cell hr (.sl wy102) (.slice a n c)) (hf : fnOk Tryz.prog g = true) (pc : ∀ k, k < n → PutCt Tryz.prog hr g [.agg ⟨[.int .i64 (iv (el hr a (k * 5))), .int .i64 (iv (el hr a (k * 5 + 1))), .int .i64 (iv (el hr a (k * 5 + 2))), .int .i64 (iv (el hr a (k * 5 + 3))), .int .i64 (iv (el hr a (k * 5 + 4)))]⟩] (wn k) (ws k)) :
    PutCt Tryz.prog hr 77 [.slice a n c, .func (.func g) ⟨[]⟩ ⟨[]⟩] (1 + sumTo wn n) (sumTo ws n) := by
  intro h hb vn vs E ns ss H p l1 l2
  have hl := hc.le
  refine Ct.go Tryz.func77 rfl rfl co77 H ?_
  refine GW.cut (fun _ => [(0, .pointer (some ⟨hb, 0, none⟩)), (1, .slice a n c), (2, .func (.func g) ⟨[]⟩ ⟨[]⟩)]) (fun y : Value × Value × Ents × List Int × List ByteArray => (hb, .cells [y.1, y.2.1] none true) :: y.2.2.1) (fun y => PS y.1 y.2.1 y.2.2.1 y.2.2.2.1 y.2.2.2.2 ∧ y.2.2.2.1.length ≤ ns.length + 1 ∧ y.2.2.2.2.length ≤ ss.length) rfl ?_ ?_
  · cases p
    · refine GW.toReg rfl ?_
      refine GL.one rfl .no (S1.mv (v := (.pointer _)) rfl) ?_
      refine GL.one rfl .no (S1.mv (v := (.pointer _)) rfl) ?_
      refine GL.one rfl .no (S1.nc rfl) ?_
      refine GL.one rfl .no (S1.fa fa34_0 rfl) ?_
      refine GL.one rfl .no (S1.ld sc32 rfl (.at .z) rfl) ?_
      refine GL.one rfl .no (S1.mv (v := (.slice _ _ _)) rfl) ?_
      refine GL.one rfl .no (S1.len el47 rfl) ?_
      refine GL.opN rfl .no (SN.bs el32 ez32 (.c (v := (.int _ _)) rfl rfl .n) rfl rfl) (fun a1 => ?_)
      refine GL.opN rfl .no (SN.ap0 ap32_32 rfl (.row rfl (.at .z) rfl) (by omega) (by omega)) (fun a4 => ?_)
      refine GL.one rfl .no (S1.nc rfl) ?_
      refine GL.one rfl .no (S1.fa fa34_0 rfl) ?_
      refine GL.one rfl .no (S1.st (u := (.slice _ _ _)) sc32 rfl rfl rfl (by repeat constructor) (.s (.s .z))) ?_
      refine GL.done rfl ?_
      refine GQ.cutEnd (_, _, _, _, _) ⟨PS.rn (ns := [(n : Int)]) (by simp), by simp, by simp⟩ (.c rfl (.c rfl (.c rfl .n))) (.cons (.s (.s .z)) (.cons .z .nil))
    · refine GW.toReg rfl ?_
      refine GL.one rfl .no (S1.mv (v := (.pointer _)) rfl) ?_
      refine GL.one rfl .no (S1.mv (v := (.pointer _)) rfl) ?_
      refine GL.one rfl .no (S1.nc rfl) ?_
      refine GL.one rfl .no (S1.fa fa34_0 rfl) ?_
      refine GL.one rfl .no (S1.ld sc32 rfl (.at .z) rfl) ?_
      refine GL.one rfl .no (S1.mv (v := (.slice _ _ _)) rfl) ?_
      refine GL.one rfl .no (S1.len el47 rfl) ?_
      refine GL.opN rfl .no (SN.bs el32 ez32 (.c (v := (.int _ _)) rfl rfl .n) rfl rfl) (fun a5 => ?_)
      refine GL.opN rfl .no (SN.apO ap32_32 rfl (.row rfl (.at .z) rfl) (by omega) (by omega) rfl (.s (.s .z)) (by first | rfl | omega | (rw [ints_len]; omega) | (rw [strs_len]; omega))) (fun a8 => ?_)
      refine GL.one rfl .no (S1.nc rfl) ?_
      refine GL.one rfl .no (S1.fa fa34_0 rfl) ?_
      refine GL.one rfl .no (S1.st (u := (.slice _ _ _)) sc32 rfl rfl rfl (by repeat constructor) (.s (.s .z))) ?_
      refine GL.done rfl ?_
      refine GQ.cutEnd (_, _, _, _, _) ⟨PS.rnA (ns := ns) (x := (n : Int)) rfl, by simp, by simp⟩ (.c rfl (.c rfl (.c rfl .n))) (.cons (.s (.s .z)) (.cons .z .nil))
    · refine GW.toReg rfl ?_
      refine GL.one rfl .no (S1.mv (v := (.pointer _)) rfl) ?_
      refine GL.one rfl .no (S1.mv (v := (.pointer _)) rfl) ?_
      refine GL.one rfl .no (S1.nc rfl) ?_
      refine GL.one rfl .no (S1.fa fa34_0 rfl) ?_
      refine GL.one rfl .no (S1.ld sc32 rfl (.at .z) rfl) ?_
      refine GL.one rfl .no (S1.mv (v := (.slice _ _ _)) rfl) ?_
      refine GL.one rfl .no (S1.len el47 rfl) ?_
      refine GL.opN rfl .no (SN.bs el32 ez32 (.c (v := (.int _ _)) rfl rfl .n) rfl rfl) (fun a9 => ?_)
      refine GL.opN rfl .no (SN.ap0 ap32_32 rfl (.row rfl (.at .z) rfl) (by omega) (by omega)) (fun a12 => ?_)
      refine GL.one rfl .no (S1.nc rfl) ?_
      refine GL.one rfl .no (S1.fa fa34_0 rfl) ?_
      refine GL.one rfl .no (S1.st (u := (.slice _ _ _)) sc32 rfl rfl rfl (by repeat constructor) (.s (.s .z))) ?_
      refine GL.done rfl ?_
      refine GQ.cutEnd (_, _, _, _, _) ⟨PS.rr (ns := [(n : Int)]) (by simp) (by assumption), by simp, by simp⟩ (.c rfl (.c rfl (.c rfl .n))) (.cons (.s (.s .z)) (.cons .z (.cons (.s .z) .nil)))
    · refine GW.toReg rfl ?_
      refine GL.one rfl .no (S1.mv (v := (.pointer _)) rfl) ?_
      refine GL.one rfl .no (S1.mv (v := (.pointer _)) rfl) ?_
      refine GL.one rfl .no (S1.nc rfl) ?_
      refine GL.one rfl .no (S1.fa fa34_0 rfl) ?_
      refine GL.one rfl .no (S1.ld sc32 rfl (.at .z) rfl) ?_
      refine GL.one rfl .no (S1.mv (v := (.slice _ _ _)) rfl) ?_
      refine GL.one rfl .no (S1.len el47 rfl) ?_
      refine GL.opN rfl .no (SN.bs el32 ez32 (.c (v := (.int _ _)) rfl rfl .n) rfl rfl) (fun a13 => ?_)
      refine GL.opN rfl .no (SN.apO ap32_32 rfl (.row rfl (.at .z) rfl) (by omega) (by omega) rfl (.s (.s .z)) (by first | rfl | omega | (rw [ints_len]; omega) | (rw [strs_len]; omega))) (fun a16 => ?_)
      refine GL.one rfl .no (S1.nc rfl) ?_
      refine GL.one rfl .no (S1.fa fa34_0 rfl) ?_
      refine GL.one rfl .no (S1.st (u := (.slice _ _ _)) sc32 rfl rfl rfl (by repeat constructor) (.s (.s .z))) ?_
      refine GL.done rfl ?_
      refine GQ.cutEnd (_, _, _, _, _) ⟨PS.rrA (ns := ns) (x := (n : Int)) (by assumption) rfl rfl, by simp, by simp⟩ (.c rfl (.c rfl (.c rfl .n))) (.cons (.s (.s .z)) (.cons .z (.cons (.s .z) .nil)))
  rintro ⟨vn1, vs1, E1, ns1, ss1⟩ f1 ⟨p1, q1, q2⟩
  refine GW.toSeq rfl ?_
  refine GW.toReg rfl ?_
  refine GL.one rfl .no (S1.as (v := (.int _ _)) rfl) ?_
  refine GL.done rfl ?_
  refine GQ.on ?_
  refine GW.toBlock rfl ?_
  refine GW.toLoop (X := Nat × Value × Value × Ents × List Int × List ByteArray) (fun y => [(0, .pointer (some ⟨hb, 0, none⟩)), (1, .slice a n c), (2, .func (.func g) ⟨[]⟩ ⟨[]⟩), (6, .int .i64 (y.1 : Int))]) (fun y => (hb, .cells [y.2.1, y.2.2.1] none true) :: y.2.2.2.1)
    (fun y => y.1 ≤ n ∧ PS y.2.1 y.2.2.1 y.2.2.2.1 y.2.2.2.2.1 y.2.2.2.2.2 ∧ y.2.2.2.2.1.length ≤ ns.length + 1 + sumTo wn y.1 ∧ y.2.2.2.2.2.length ≤ ss.length + sumTo ws y.1) (fun y => n - y.1) rfl (0, vn1, vs1, E1, ns1, ss1) ⟨Nat.zero_le _, p1, by simpa [sumTo] using q1, by simpa [sumTo] using q2⟩ (.c rfl (.c rfl (.c rfl (.c rfl .n)))) .tz ?_
  rintro ⟨k, vn2, vs2, E2, ns2, ss2⟩ f2 ⟨hk, p2, r1, r2⟩
  simp only at hk p2 r1 r2
  have m1 := sumTo_mono (w := wn) hk
  have m2 := sumTo_mono (w := ws) hk
  refine GW.toSeq rfl ?_
  refine GW.toSeq rfl ?_
  refine GW.toReg rfl ?_
  refine GL.one rfl .no (S1.mv (v := (.int _ _)) rfl) ?_
  refine GL.one rfl .no (S1.mv (v := (.slice _ _ _)) rfl) ?_
  refine GL.one rfl .no (S1.len el47 rfl) ?_
  refine GL.one rfl .no (S1.lss rfl rfl) ?_
  refine GL.done rfl ?_
  refine GQ.on ?_
  refine GW.toD rfl rfl (fun w17 => ?_) (fun w17 => ?_)
  refine GW.toSkip rfl ?_
  refine GQ.on ?_
  refine GW.toSeq rfl ?_
  refine GW.toBlock rfl ?_
  refine GW.toReg rfl ?_
  refine GL.one rfl .no (S1.mv (v := (.func _ _ _)) rfl) ?_
  refine GL.one rfl .no (S1.mv (v := (.pointer _)) rfl) ?_
  refine GL.one rfl .no (S1.mv (v := (.slice _ _ _)) rfl) ?_
  refine GL.one rfl .no (S1.mv (v := (.int _ _)) rfl) ?_
  refine GL.one rfl .no (S1.ixR el47 hc rfl rfl (by omega)) ?_
  refine GL.one rfl .no (S1.ldE ag102 hc rfl (m := (k, vn2, vs2, E2, ns2, ss2).fst) (by omega) rfl le102) ?_
  rotate_left
  refine GW.toExit rfl ?_
  refine GQ.onE ?_
  refine GQ.onE ?_
  refine GQ.outH ?_
  refine GQ.putEnd rfl p2 (by omega) (by omega) .tz
  · have m3 := sumTo_mono (w := wn) (show k + 1 ≤ n by omega)
    have m4 := sumTo_mono (w := ws) (show k + 1 ≤ n by omega)
    simp only [sumTo] at m3 m4
    refine GL.put rfl .no hf (pc k (by omega)) p2 (.cons .z .tz) (by omega) (by omega) (.v (fs := []) (cs := []) rfl (.c rfl (.c rfl .n))) (fun vn3 vs3 E3 ns3 ss3 p3 l3 m3 => ?_)
    refine GL.done rfl ?_
    refine GQ.outN ?_
    refine GQ.on ?_
    refine GW.toReg rfl ?_
    refine GL.one rfl .no (S1.mv (v := (.int _ _)) rfl) ?_
    refine GL.one rfl .no (S1.inc rfl rfl (by omega)) ?_
    refine GL.one rfl .no (S1.as (v := (.int _ _)) rfl) ?_
    refine GL.done rfl ?_
    refine GQ.next (k + 1, vn3, vs3, E3, ns3, ss3) ⟨by simp only; omega, p3, by simp only [sumTo]; omega, by simp only [sumTo]; omega⟩ (by simp only; omega) (.c rfl (.c rfl (.c rfl (.c rfl .n)))) (.cons .z .tz)


theorem ct78 {hr : RO} {x0 : Int} {x1 : Int} {x2 : Int} {x3 : Int} {x4 : Int}  : PutCt Tryz.prog hr 78 [.agg ⟨[.int .i64 x0, .int .i64 x1, .int .i64 x2, .int .i64 x3, .int .i64 x4]⟩] (1 + (1 + (1 + (1 + (1 + 0))))) (1 + (1 + (1 + (1 + (1 + 0))))) := by
  intro h hb vn vs E ns ss H p l1 l2
  refine Ct.go Tryz.func78 rfl rfl co78 H ?_
  refine GW.toSeq rfl ?_
  refine GW.toReg rfl ?_
  refine GL.opN rfl .no (SN.bx (u := .agg ⟨_⟩) rfl .agg) (fun a1 => ?_)
  refine GL.done rfl ?_
  refine GQ.on ?_
  refine GW.toSeq rfl ?_
  refine GW.toReg rfl ?_
  refine GL.one rfl .no (S1.mv (v := (.pointer _)) rfl) ?_
  refine GL.one rfl .no (S1.fa fa102_0 rfl) ?_
  refine GL.one rfl .no (S1.ld sc3 rfl (.at .z) rfl) ?_
  refine GL.put rfl .no fo8 (ct8) p (.cons (.s .z) (.ts .tz)) (by omega) (by omega) (.d (.c (v := (.pointer _)) rfl (.c (v := (.int _ _)) rfl .n))) (fun vn2 vs2 E2 ns2 ss2 p2 lN2 lS2 => ?_)
  refine GL.done rfl ?_
  refine GQ.on ?_
  refine GW.toSeq rfl ?_
  refine GW.toReg rfl ?_
  refine GL.one rfl .no (S1.mv (v := (.pointer _)) rfl) ?_
  refine GL.one rfl .no (S1.fa fa102_1 rfl) ?_
  refine GL.one rfl .no (S1.ld sc3 rfl (.at .z) rfl) ?_
  refine GL.put rfl .no fo8 (ct8) p2 (.cons (.s .z) (.ts .tz)) (by omega) (by omega) (.d (.c (v := (.pointer _)) rfl (.c (v := (.int _ _)) rfl .n))) (fun vn3 vs3 E3 ns3 ss3 p3 lN3 lS3 => ?_)
  refine GL.done rfl ?_
  refine GQ.on ?_
  refine GW.toSeq rfl ?_
  refine GW.toReg rfl ?_
  refine GL.one rfl .no (S1.mv (v := (.pointer _)) rfl) ?_
  refine GL.one rfl .no (S1.fa fa102_2 rfl) ?_
  refine GL.one rfl .no (S1.ld sc3 rfl (.at .z) rfl) ?_
  refine GL.put rfl .no fo8 (ct8) p3 (.cons (.s .z) (.ts .tz)) (by omega) (by omega) (.d (.c (v := (.pointer _)) rfl (.c (v := (.int _ _)) rfl .n))) (fun vn4 vs4 E4 ns4 ss4 p4 lN4 lS4 => ?_)
  refine GL.done rfl ?_
  refine GQ.on ?_
  refine GW.toSeq rfl ?_
  refine GW.toReg rfl ?_
  refine GL.one rfl .no (S1.mv (v := (.pointer _)) rfl) ?_
  refine GL.one rfl .no (S1.fa fa102_3 rfl) ?_
  refine GL.one rfl .no (S1.ld sc3 rfl (.at .z) rfl) ?_
  refine GL.put rfl .no fo8 (ct8) p4 (.cons (.s .z) (.ts .tz)) (by omega) (by omega) (.d (.c (v := (.pointer _)) rfl (.c (v := (.int _ _)) rfl .n))) (fun vn5 vs5 E5 ns5 ss5 p5 lN5 lS5 => ?_)
  refine GL.done rfl ?_
  refine GQ.on ?_
  refine GW.toReg rfl ?_
  refine GL.one rfl .no (S1.mv (v := (.pointer _)) rfl) ?_
  refine GL.one rfl .no (S1.fa fa102_4 rfl) ?_
  refine GL.one rfl .no (S1.ld sc3 rfl (.at .z) rfl) ?_
  refine GL.put rfl .no fo8 (ct8) p5 (.cons (.s .z) (.ts .tz)) (by omega) (by omega) (.d (.c (v := (.pointer _)) rfl (.c (v := (.int _ _)) rfl .n))) (fun vn6 vs6 E6 ns6 ss6 p6 lN6 lS6 => ?_)
  refine GL.done rfl ?_
  refine GQ.putEnd rfl p6 (by omega) (by omega) (.cons (.s .z) (.ts .tz))


theorem ct39 {hr : RO} {a : Option Addr} {n c : Nat} (hc : Cell hr (.sl wy102) (.slice a n c)) : PutCt Tryz.prog hr 39 [.slice a n c] (bk hr (.sl wy102) (.slice a n c)) (bk hr (.sl wy102) (.slice a n c)) := by
  intro h hb vn vs E ns ss H p l1 l2
  refine Ct.go Tryz.func39 rfl rfl co39 H ?_
  refine GW.toReg rfl ?_
  refine GL.one rfl .no (S1.mv (v := (.pointer _)) rfl) ?_
  refine GL.one rfl .no (S1.mv (v := (.slice _ _ _)) rfl) ?_
  refine GL.put rfl .no fo77 ((ct77 (wn := fun k => bkL hr wy102 a (k * 5) 0) (ws := fun k => bkL hr wy102 a (k * 5) 0) hc fo78 (fun k hk => (ct78 ).le (Nat.le_refl _) (Nat.le_refl _))).le (wN' := bk hr (.sl wy102) (.slice a n c)) (wS' := bk hr (.sl wy102) (.slice a n c)) (Nat.le_refl _) (Nat.le_add_left _ _)) p (.cons .z .tz) (by omega) (by omega) (.d (.c rfl (.c rfl (.c rfl .n)))) (fun vn3 vs3 E3 ns3 ss3 p3 l3 m3 => ?_)
  refine GL.done rfl ?_
  refine GQ.putEnd rfl p3 (by omega) (by omega) (.cons .z .tz)


/-- A list is put. -/
theorem ct79 {hr : RO} {a : Option Addr} {n c g : Nat} {wn ws : Nat → Nat} (hc : Cell hr (.sl wy3) (.slice a n c)) (hf : fnOk Tryz.prog g = true) (pc : ∀ k, k < n → PutCt Tryz.prog hr g [.int .i64 (iv (el hr a (k * 1 + 0)))] (wn k) (ws k)) :
    PutCt Tryz.prog hr 79 [.slice a n c, .func (.func g) ⟨[]⟩ ⟨[]⟩] (1 + sumTo wn n) (sumTo ws n) := by
  intro h hb vn vs E ns ss H p l1 l2
  have hl := hc.le
  refine Ct.go Tryz.func79 rfl rfl co79 H ?_
  refine GW.cut (fun _ => [(0, .pointer (some ⟨hb, 0, none⟩)), (1, .slice a n c), (2, .func (.func g) ⟨[]⟩ ⟨[]⟩)]) (fun y : Value × Value × Ents × List Int × List ByteArray => (hb, .cells [y.1, y.2.1] none true) :: y.2.2.1) (fun y => PS y.1 y.2.1 y.2.2.1 y.2.2.2.1 y.2.2.2.2 ∧ y.2.2.2.1.length ≤ ns.length + 1 ∧ y.2.2.2.2.length ≤ ss.length) rfl ?_ ?_
  · cases p
    · refine GW.toReg rfl ?_
      refine GL.one rfl .no (S1.mv (v := (.pointer _)) rfl) ?_
      refine GL.one rfl .no (S1.mv (v := (.pointer _)) rfl) ?_
      refine GL.one rfl .no (S1.nc rfl) ?_
      refine GL.one rfl .no (S1.fa fa34_0 rfl) ?_
      refine GL.one rfl .no (S1.ld sc32 rfl (.at .z) rfl) ?_
      refine GL.one rfl .no (S1.mv (v := (.slice _ _ _)) rfl) ?_
      refine GL.one rfl .no (S1.len el32 rfl) ?_
      refine GL.opN rfl .no (SN.bs el32 ez32 (.c (v := (.int _ _)) rfl rfl .n) rfl rfl) (fun a1 => ?_)
      refine GL.opN rfl .no (SN.ap0 ap32_32 rfl (.row rfl (.at .z) rfl) (by omega) (by omega)) (fun a4 => ?_)
      refine GL.one rfl .no (S1.nc rfl) ?_
      refine GL.one rfl .no (S1.fa fa34_0 rfl) ?_
      refine GL.one rfl .no (S1.st (u := (.slice _ _ _)) sc32 rfl rfl rfl (by repeat constructor) (.s (.s .z))) ?_
      refine GL.done rfl ?_
      refine GQ.cutEnd (_, _, _, _, _) ⟨PS.rn (ns := [(n : Int)]) (by simp), by simp, by simp⟩ (.c rfl (.c rfl (.c rfl .n))) (.cons (.s (.s .z)) (.cons .z .nil))
    · refine GW.toReg rfl ?_
      refine GL.one rfl .no (S1.mv (v := (.pointer _)) rfl) ?_
      refine GL.one rfl .no (S1.mv (v := (.pointer _)) rfl) ?_
      refine GL.one rfl .no (S1.nc rfl) ?_
      refine GL.one rfl .no (S1.fa fa34_0 rfl) ?_
      refine GL.one rfl .no (S1.ld sc32 rfl (.at .z) rfl) ?_
      refine GL.one rfl .no (S1.mv (v := (.slice _ _ _)) rfl) ?_
      refine GL.one rfl .no (S1.len el32 rfl) ?_
      refine GL.opN rfl .no (SN.bs el32 ez32 (.c (v := (.int _ _)) rfl rfl .n) rfl rfl) (fun a5 => ?_)
      refine GL.opN rfl .no (SN.apO ap32_32 rfl (.row rfl (.at .z) rfl) (by omega) (by omega) rfl (.s (.s .z)) (by first | rfl | omega | (rw [ints_len]; omega) | (rw [strs_len]; omega))) (fun a8 => ?_)
      refine GL.one rfl .no (S1.nc rfl) ?_
      refine GL.one rfl .no (S1.fa fa34_0 rfl) ?_
      refine GL.one rfl .no (S1.st (u := (.slice _ _ _)) sc32 rfl rfl rfl (by repeat constructor) (.s (.s .z))) ?_
      refine GL.done rfl ?_
      refine GQ.cutEnd (_, _, _, _, _) ⟨PS.rnA (ns := ns) (x := (n : Int)) rfl, by simp, by simp⟩ (.c rfl (.c rfl (.c rfl .n))) (.cons (.s (.s .z)) (.cons .z .nil))
    · refine GW.toReg rfl ?_
      refine GL.one rfl .no (S1.mv (v := (.pointer _)) rfl) ?_
      refine GL.one rfl .no (S1.mv (v := (.pointer _)) rfl) ?_
      refine GL.one rfl .no (S1.nc rfl) ?_
      refine GL.one rfl .no (S1.fa fa34_0 rfl) ?_
      refine GL.one rfl .no (S1.ld sc32 rfl (.at .z) rfl) ?_
      refine GL.one rfl .no (S1.mv (v := (.slice _ _ _)) rfl) ?_
      refine GL.one rfl .no (S1.len el32 rfl) ?_
      refine GL.opN rfl .no (SN.bs el32 ez32 (.c (v := (.int _ _)) rfl rfl .n) rfl rfl) (fun a9 => ?_)
      refine GL.opN rfl .no (SN.ap0 ap32_32 rfl (.row rfl (.at .z) rfl) (by omega) (by omega)) (fun a12 => ?_)
      refine GL.one rfl .no (S1.nc rfl) ?_
      refine GL.one rfl .no (S1.fa fa34_0 rfl) ?_
      refine GL.one rfl .no (S1.st (u := (.slice _ _ _)) sc32 rfl rfl rfl (by repeat constructor) (.s (.s .z))) ?_
      refine GL.done rfl ?_
      refine GQ.cutEnd (_, _, _, _, _) ⟨PS.rr (ns := [(n : Int)]) (by simp) (by assumption), by simp, by simp⟩ (.c rfl (.c rfl (.c rfl .n))) (.cons (.s (.s .z)) (.cons .z (.cons (.s .z) .nil)))
    · refine GW.toReg rfl ?_
      refine GL.one rfl .no (S1.mv (v := (.pointer _)) rfl) ?_
      refine GL.one rfl .no (S1.mv (v := (.pointer _)) rfl) ?_
      refine GL.one rfl .no (S1.nc rfl) ?_
      refine GL.one rfl .no (S1.fa fa34_0 rfl) ?_
      refine GL.one rfl .no (S1.ld sc32 rfl (.at .z) rfl) ?_
      refine GL.one rfl .no (S1.mv (v := (.slice _ _ _)) rfl) ?_
      refine GL.one rfl .no (S1.len el32 rfl) ?_
      refine GL.opN rfl .no (SN.bs el32 ez32 (.c (v := (.int _ _)) rfl rfl .n) rfl rfl) (fun a13 => ?_)
      refine GL.opN rfl .no (SN.apO ap32_32 rfl (.row rfl (.at .z) rfl) (by omega) (by omega) rfl (.s (.s .z)) (by first | rfl | omega | (rw [ints_len]; omega) | (rw [strs_len]; omega))) (fun a16 => ?_)
      refine GL.one rfl .no (S1.nc rfl) ?_
      refine GL.one rfl .no (S1.fa fa34_0 rfl) ?_
      refine GL.one rfl .no (S1.st (u := (.slice _ _ _)) sc32 rfl rfl rfl (by repeat constructor) (.s (.s .z))) ?_
      refine GL.done rfl ?_
      refine GQ.cutEnd (_, _, _, _, _) ⟨PS.rrA (ns := ns) (x := (n : Int)) (by assumption) rfl rfl, by simp, by simp⟩ (.c rfl (.c rfl (.c rfl .n))) (.cons (.s (.s .z)) (.cons .z (.cons (.s .z) .nil)))
  rintro ⟨vn1, vs1, E1, ns1, ss1⟩ f1 ⟨p1, q1, q2⟩
  refine GW.toSeq rfl ?_
  refine GW.toReg rfl ?_
  refine GL.one rfl .no (S1.as (v := (.int _ _)) rfl) ?_
  refine GL.done rfl ?_
  refine GQ.on ?_
  refine GW.toBlock rfl ?_
  refine GW.toLoop (X := Nat × Value × Value × Ents × List Int × List ByteArray) (fun y => [(0, .pointer (some ⟨hb, 0, none⟩)), (1, .slice a n c), (2, .func (.func g) ⟨[]⟩ ⟨[]⟩), (6, .int .i64 (y.1 : Int))]) (fun y => (hb, .cells [y.2.1, y.2.2.1] none true) :: y.2.2.2.1)
    (fun y => y.1 ≤ n ∧ PS y.2.1 y.2.2.1 y.2.2.2.1 y.2.2.2.2.1 y.2.2.2.2.2 ∧ y.2.2.2.2.1.length ≤ ns.length + 1 + sumTo wn y.1 ∧ y.2.2.2.2.2.length ≤ ss.length + sumTo ws y.1) (fun y => n - y.1) rfl (0, vn1, vs1, E1, ns1, ss1) ⟨Nat.zero_le _, p1, by simpa [sumTo] using q1, by simpa [sumTo] using q2⟩ (.c rfl (.c rfl (.c rfl (.c rfl .n)))) .tz ?_
  rintro ⟨k, vn2, vs2, E2, ns2, ss2⟩ f2 ⟨hk, p2, r1, r2⟩
  simp only at hk p2 r1 r2
  have m1 := sumTo_mono (w := wn) hk
  have m2 := sumTo_mono (w := ws) hk
  refine GW.toSeq rfl ?_
  refine GW.toSeq rfl ?_
  refine GW.toReg rfl ?_
  refine GL.one rfl .no (S1.mv (v := (.int _ _)) rfl) ?_
  refine GL.one rfl .no (S1.mv (v := (.slice _ _ _)) rfl) ?_
  refine GL.one rfl .no (S1.len el32 rfl) ?_
  refine GL.one rfl .no (S1.lss rfl rfl) ?_
  refine GL.done rfl ?_
  refine GQ.on ?_
  refine GW.toD rfl rfl (fun w17 => ?_) (fun w17 => ?_)
  refine GW.toSkip rfl ?_
  refine GQ.on ?_
  refine GW.toSeq rfl ?_
  refine GW.toBlock rfl ?_
  refine GW.toReg rfl ?_
  refine GL.one rfl .no (S1.mv (v := (.func _ _ _)) rfl) ?_
  refine GL.one rfl .no (S1.mv (v := (.pointer _)) rfl) ?_
  refine GL.one rfl .no (S1.mv (v := (.slice _ _ _)) rfl) ?_
  refine GL.one rfl .no (S1.mv (v := (.int _ _)) rfl) ?_
  refine GL.one rfl .no (S1.ixR el32 hc rfl rfl (by omega)) ?_
  refine GL.one rfl .no (S1.ldCI sc3 (z := 1) hc rfl (m := (k, vn2, vs2, E2, ns2, ss2).fst) (by omega) rfl (d := 0) rfl rfl) ?_
  rotate_left
  refine GW.toExit rfl ?_
  refine GQ.onE ?_
  refine GQ.onE ?_
  refine GQ.outH ?_
  refine GQ.putEnd rfl p2 (by omega) (by omega) .tz
  · have m3 := sumTo_mono (w := wn) (show k + 1 ≤ n by omega)
    have m4 := sumTo_mono (w := ws) (show k + 1 ≤ n by omega)
    simp only [sumTo] at m3 m4
    refine GL.put rfl .no hf (pc k (by omega)) p2 (.cons .z .tz) (by omega) (by omega) (.v (fs := []) (cs := []) rfl (.c rfl (.c rfl .n))) (fun vn3 vs3 E3 ns3 ss3 p3 l3 m3 => ?_)
    refine GL.done rfl ?_
    refine GQ.outN ?_
    refine GQ.on ?_
    refine GW.toReg rfl ?_
    refine GL.one rfl .no (S1.mv (v := (.int _ _)) rfl) ?_
    refine GL.one rfl .no (S1.inc rfl rfl (by omega)) ?_
    refine GL.one rfl .no (S1.as (v := (.int _ _)) rfl) ?_
    refine GL.done rfl ?_
    refine GQ.next (k + 1, vn3, vs3, E3, ns3, ss3) ⟨by simp only; omega, p3, by simp only [sumTo]; omega, by simp only [sumTo]; omega⟩ (by simp only; omega) (.c rfl (.c rfl (.c rfl (.c rfl .n)))) (.cons .z .tz)


theorem ct40 {hr : RO} {a : Option Addr} {n c : Nat} (hc : Cell hr (.sl wy3) (.slice a n c)) : PutCt Tryz.prog hr 40 [.slice a n c] (bk hr (.sl wy3) (.slice a n c)) (bk hr (.sl wy3) (.slice a n c)) := by
  intro h hb vn vs E ns ss H p l1 l2
  refine Ct.go Tryz.func40 rfl rfl co40 H ?_
  refine GW.toReg rfl ?_
  refine GL.one rfl .no (S1.mv (v := (.pointer _)) rfl) ?_
  refine GL.one rfl .no (S1.mv (v := (.slice _ _ _)) rfl) ?_
  refine GL.put rfl .no fo79 ((ct79 (wn := fun k => bkL hr wy3 a (k * 1) 0) (ws := fun k => bkL hr wy3 a (k * 1) 0) hc fo8 (fun k hk => (ct8 ).le (Nat.le_refl _) (Nat.le_refl _))).le (wN' := bk hr (.sl wy3) (.slice a n c)) (wS' := bk hr (.sl wy3) (.slice a n c)) (Nat.le_refl _) (Nat.le_add_left _ _)) p (.cons .z .tz) (by omega) (by omega) (.d (.c rfl (.c rfl (.c rfl .n)))) (fun vn3 vs3 E3 ns3 ss3 p3 l3 m3 => ?_)
  refine GL.done rfl ?_
  refine GQ.putEnd rfl p3 (by omega) (by omega) (.cons .z .tz)


theorem ct16 {hr : RO} {a0 : Option Addr} {n0 c0 : Nat} {a1 : Option Addr} {n1 c1 : Nat} {a2 : Option Addr} {n2 c2 : Nat} {a3 : Option Addr} {n3 c3 : Nat} (h0 : Cell hr (.sl wy102) (.slice a0 n0 c0)) (h1 : Cell hr (.sl wy3) (.slice a1 n1 c1)) (h2 : Cell hr (.sl wy3) (.slice a2 n2 c2)) (h3 : Cell hr (.sl wy3) (.slice a3 n3 c3)) : PutCt Tryz.prog hr 16 [.agg ⟨[.slice a0 n0 c0, .slice a1 n1 c1, .slice a2 n2 c2, .slice a3 n3 c3]⟩] (bk hr (.sl wy102) (.slice a0 n0 c0) + (bk hr (.sl wy3) (.slice a1 n1 c1) + (bk hr (.sl wy3) (.slice a2 n2 c2) + (bk hr (.sl wy3) (.slice a3 n3 c3) + 0)))) (bk hr (.sl wy102) (.slice a0 n0 c0) + (bk hr (.sl wy3) (.slice a1 n1 c1) + (bk hr (.sl wy3) (.slice a2 n2 c2) + (bk hr (.sl wy3) (.slice a3 n3 c3) + 0)))) := by
  intro h hb vn vs E ns ss H p l1 l2
  refine Ct.go Tryz.func16 rfl rfl co16 H ?_
  refine GW.toSeq rfl ?_
  refine GW.toReg rfl ?_
  refine GL.opN rfl .no (SN.bx (u := .agg ⟨_⟩) rfl .agg) (fun a1 => ?_)
  refine GL.done rfl ?_
  refine GQ.on ?_
  refine GW.toSeq rfl ?_
  refine GW.toReg rfl ?_
  refine GL.one rfl .no (S1.mv (v := (.pointer _)) rfl) ?_
  refine GL.one rfl .no (S1.fa fa49_0 rfl) ?_
  refine GL.one rfl .no (S1.ld sc47 rfl (.at .z) rfl) ?_
  refine GL.put rfl .no fo39 (ct39 (by assumption)) p (.cons (.s .z) (.ts .tz)) (by omega) (by omega) (.d (.c (v := (.pointer _)) rfl (.c (v := (.slice _ _ _)) rfl .n))) (fun vn2 vs2 E2 ns2 ss2 p2 lN2 lS2 => ?_)
  refine GL.done rfl ?_
  refine GQ.on ?_
  refine GW.toSeq rfl ?_
  refine GW.toReg rfl ?_
  refine GL.one rfl .no (S1.mv (v := (.pointer _)) rfl) ?_
  refine GL.one rfl .no (S1.fa fa49_1 rfl) ?_
  refine GL.one rfl .no (S1.ld sc32 rfl (.at .z) rfl) ?_
  refine GL.put rfl .no fo40 (ct40 (by assumption)) p2 (.cons (.s .z) (.ts .tz)) (by omega) (by omega) (.d (.c (v := (.pointer _)) rfl (.c (v := (.slice _ _ _)) rfl .n))) (fun vn3 vs3 E3 ns3 ss3 p3 lN3 lS3 => ?_)
  refine GL.done rfl ?_
  refine GQ.on ?_
  refine GW.toSeq rfl ?_
  refine GW.toReg rfl ?_
  refine GL.one rfl .no (S1.mv (v := (.pointer _)) rfl) ?_
  refine GL.one rfl .no (S1.fa fa49_2 rfl) ?_
  refine GL.one rfl .no (S1.ld sc32 rfl (.at .z) rfl) ?_
  refine GL.put rfl .no fo40 (ct40 (by assumption)) p3 (.cons (.s .z) (.ts .tz)) (by omega) (by omega) (.d (.c (v := (.pointer _)) rfl (.c (v := (.slice _ _ _)) rfl .n))) (fun vn4 vs4 E4 ns4 ss4 p4 lN4 lS4 => ?_)
  refine GL.done rfl ?_
  refine GQ.on ?_
  refine GW.toReg rfl ?_
  refine GL.one rfl .no (S1.mv (v := (.pointer _)) rfl) ?_
  refine GL.one rfl .no (S1.fa fa49_3 rfl) ?_
  refine GL.one rfl .no (S1.ld sc32 rfl (.at .z) rfl) ?_
  refine GL.put rfl .no fo40 (ct40 (by assumption)) p4 (.cons (.s .z) (.ts .tz)) (by omega) (by omega) (.d (.c (v := (.pointer _)) rfl (.c (v := (.slice _ _ _)) rfl .n))) (fun vn5 vs5 E5 ns5 ss5 p5 lN5 lS5 => ?_)
  refine GL.done rfl ?_
  refine GQ.putEnd rfl p5 (by omega) (by omega) (.cons (.s .z) (.ts .tz))


/-- A list is put. -/
theorem ct45 {hr : RO} {a : Option Addr} {n c g : Nat} {wn ws : Nat → Nat} (hc : Cell hr (.sl wy97) (.slice a n c)) (hf : fnOk Tryz.prog g = true) (pc : ∀ k, k < n → PutCt Tryz.prog hr g [.agg ⟨[.int .i64 (iv (el hr a (k * 4))), .int .i64 (iv (el hr a (k * 4 + 1))), .int .i64 (iv (el hr a (k * 4 + 2))), .int .i64 (iv (el hr a (k * 4 + 3)))]⟩] (wn k) (ws k)) :
    PutCt Tryz.prog hr 45 [.slice a n c, .func (.func g) ⟨[]⟩ ⟨[]⟩] (1 + sumTo wn n) (sumTo ws n) := by
  intro h hb vn vs E ns ss H p l1 l2
  have hl := hc.le
  refine Ct.go Tryz.func45 rfl rfl co45 H ?_
  refine GW.cut (fun _ => [(0, .pointer (some ⟨hb, 0, none⟩)), (1, .slice a n c), (2, .func (.func g) ⟨[]⟩ ⟨[]⟩)]) (fun y : Value × Value × Ents × List Int × List ByteArray => (hb, .cells [y.1, y.2.1] none true) :: y.2.2.1) (fun y => PS y.1 y.2.1 y.2.2.1 y.2.2.2.1 y.2.2.2.2 ∧ y.2.2.2.1.length ≤ ns.length + 1 ∧ y.2.2.2.2.length ≤ ss.length) rfl ?_ ?_
  · cases p
    · refine GW.toReg rfl ?_
      refine GL.one rfl .no (S1.mv (v := (.pointer _)) rfl) ?_
      refine GL.one rfl .no (S1.mv (v := (.pointer _)) rfl) ?_
      refine GL.one rfl .no (S1.nc rfl) ?_
      refine GL.one rfl .no (S1.fa fa34_0 rfl) ?_
      refine GL.one rfl .no (S1.ld sc32 rfl (.at .z) rfl) ?_
      refine GL.one rfl .no (S1.mv (v := (.slice _ _ _)) rfl) ?_
      refine GL.one rfl .no (S1.len el58 rfl) ?_
      refine GL.opN rfl .no (SN.bs el32 ez32 (.c (v := (.int _ _)) rfl rfl .n) rfl rfl) (fun a1 => ?_)
      refine GL.opN rfl .no (SN.ap0 ap32_32 rfl (.row rfl (.at .z) rfl) (by omega) (by omega)) (fun a4 => ?_)
      refine GL.one rfl .no (S1.nc rfl) ?_
      refine GL.one rfl .no (S1.fa fa34_0 rfl) ?_
      refine GL.one rfl .no (S1.st (u := (.slice _ _ _)) sc32 rfl rfl rfl (by repeat constructor) (.s (.s .z))) ?_
      refine GL.done rfl ?_
      refine GQ.cutEnd (_, _, _, _, _) ⟨PS.rn (ns := [(n : Int)]) (by simp), by simp, by simp⟩ (.c rfl (.c rfl (.c rfl .n))) (.cons (.s (.s .z)) (.cons .z .nil))
    · refine GW.toReg rfl ?_
      refine GL.one rfl .no (S1.mv (v := (.pointer _)) rfl) ?_
      refine GL.one rfl .no (S1.mv (v := (.pointer _)) rfl) ?_
      refine GL.one rfl .no (S1.nc rfl) ?_
      refine GL.one rfl .no (S1.fa fa34_0 rfl) ?_
      refine GL.one rfl .no (S1.ld sc32 rfl (.at .z) rfl) ?_
      refine GL.one rfl .no (S1.mv (v := (.slice _ _ _)) rfl) ?_
      refine GL.one rfl .no (S1.len el58 rfl) ?_
      refine GL.opN rfl .no (SN.bs el32 ez32 (.c (v := (.int _ _)) rfl rfl .n) rfl rfl) (fun a5 => ?_)
      refine GL.opN rfl .no (SN.apO ap32_32 rfl (.row rfl (.at .z) rfl) (by omega) (by omega) rfl (.s (.s .z)) (by first | rfl | omega | (rw [ints_len]; omega) | (rw [strs_len]; omega))) (fun a8 => ?_)
      refine GL.one rfl .no (S1.nc rfl) ?_
      refine GL.one rfl .no (S1.fa fa34_0 rfl) ?_
      refine GL.one rfl .no (S1.st (u := (.slice _ _ _)) sc32 rfl rfl rfl (by repeat constructor) (.s (.s .z))) ?_
      refine GL.done rfl ?_
      refine GQ.cutEnd (_, _, _, _, _) ⟨PS.rnA (ns := ns) (x := (n : Int)) rfl, by simp, by simp⟩ (.c rfl (.c rfl (.c rfl .n))) (.cons (.s (.s .z)) (.cons .z .nil))
    · refine GW.toReg rfl ?_
      refine GL.one rfl .no (S1.mv (v := (.pointer _)) rfl) ?_
      refine GL.one rfl .no (S1.mv (v := (.pointer _)) rfl) ?_
      refine GL.one rfl .no (S1.nc rfl) ?_
      refine GL.one rfl .no (S1.fa fa34_0 rfl) ?_
      refine GL.one rfl .no (S1.ld sc32 rfl (.at .z) rfl) ?_
      refine GL.one rfl .no (S1.mv (v := (.slice _ _ _)) rfl) ?_
      refine GL.one rfl .no (S1.len el58 rfl) ?_
      refine GL.opN rfl .no (SN.bs el32 ez32 (.c (v := (.int _ _)) rfl rfl .n) rfl rfl) (fun a9 => ?_)
      refine GL.opN rfl .no (SN.ap0 ap32_32 rfl (.row rfl (.at .z) rfl) (by omega) (by omega)) (fun a12 => ?_)
      refine GL.one rfl .no (S1.nc rfl) ?_
      refine GL.one rfl .no (S1.fa fa34_0 rfl) ?_
      refine GL.one rfl .no (S1.st (u := (.slice _ _ _)) sc32 rfl rfl rfl (by repeat constructor) (.s (.s .z))) ?_
      refine GL.done rfl ?_
      refine GQ.cutEnd (_, _, _, _, _) ⟨PS.rr (ns := [(n : Int)]) (by simp) (by assumption), by simp, by simp⟩ (.c rfl (.c rfl (.c rfl .n))) (.cons (.s (.s .z)) (.cons .z (.cons (.s .z) .nil)))
    · refine GW.toReg rfl ?_
      refine GL.one rfl .no (S1.mv (v := (.pointer _)) rfl) ?_
      refine GL.one rfl .no (S1.mv (v := (.pointer _)) rfl) ?_
      refine GL.one rfl .no (S1.nc rfl) ?_
      refine GL.one rfl .no (S1.fa fa34_0 rfl) ?_
      refine GL.one rfl .no (S1.ld sc32 rfl (.at .z) rfl) ?_
      refine GL.one rfl .no (S1.mv (v := (.slice _ _ _)) rfl) ?_
      refine GL.one rfl .no (S1.len el58 rfl) ?_
      refine GL.opN rfl .no (SN.bs el32 ez32 (.c (v := (.int _ _)) rfl rfl .n) rfl rfl) (fun a13 => ?_)
      refine GL.opN rfl .no (SN.apO ap32_32 rfl (.row rfl (.at .z) rfl) (by omega) (by omega) rfl (.s (.s .z)) (by first | rfl | omega | (rw [ints_len]; omega) | (rw [strs_len]; omega))) (fun a16 => ?_)
      refine GL.one rfl .no (S1.nc rfl) ?_
      refine GL.one rfl .no (S1.fa fa34_0 rfl) ?_
      refine GL.one rfl .no (S1.st (u := (.slice _ _ _)) sc32 rfl rfl rfl (by repeat constructor) (.s (.s .z))) ?_
      refine GL.done rfl ?_
      refine GQ.cutEnd (_, _, _, _, _) ⟨PS.rrA (ns := ns) (x := (n : Int)) (by assumption) rfl rfl, by simp, by simp⟩ (.c rfl (.c rfl (.c rfl .n))) (.cons (.s (.s .z)) (.cons .z (.cons (.s .z) .nil)))
  rintro ⟨vn1, vs1, E1, ns1, ss1⟩ f1 ⟨p1, q1, q2⟩
  refine GW.toSeq rfl ?_
  refine GW.toReg rfl ?_
  refine GL.one rfl .no (S1.as (v := (.int _ _)) rfl) ?_
  refine GL.done rfl ?_
  refine GQ.on ?_
  refine GW.toBlock rfl ?_
  refine GW.toLoop (X := Nat × Value × Value × Ents × List Int × List ByteArray) (fun y => [(0, .pointer (some ⟨hb, 0, none⟩)), (1, .slice a n c), (2, .func (.func g) ⟨[]⟩ ⟨[]⟩), (6, .int .i64 (y.1 : Int))]) (fun y => (hb, .cells [y.2.1, y.2.2.1] none true) :: y.2.2.2.1)
    (fun y => y.1 ≤ n ∧ PS y.2.1 y.2.2.1 y.2.2.2.1 y.2.2.2.2.1 y.2.2.2.2.2 ∧ y.2.2.2.2.1.length ≤ ns.length + 1 + sumTo wn y.1 ∧ y.2.2.2.2.2.length ≤ ss.length + sumTo ws y.1) (fun y => n - y.1) rfl (0, vn1, vs1, E1, ns1, ss1) ⟨Nat.zero_le _, p1, by simpa [sumTo] using q1, by simpa [sumTo] using q2⟩ (.c rfl (.c rfl (.c rfl (.c rfl .n)))) .tz ?_
  rintro ⟨k, vn2, vs2, E2, ns2, ss2⟩ f2 ⟨hk, p2, r1, r2⟩
  simp only at hk p2 r1 r2
  have m1 := sumTo_mono (w := wn) hk
  have m2 := sumTo_mono (w := ws) hk
  refine GW.toSeq rfl ?_
  refine GW.toSeq rfl ?_
  refine GW.toReg rfl ?_
  refine GL.one rfl .no (S1.mv (v := (.int _ _)) rfl) ?_
  refine GL.one rfl .no (S1.mv (v := (.slice _ _ _)) rfl) ?_
  refine GL.one rfl .no (S1.len el58 rfl) ?_
  refine GL.one rfl .no (S1.lss rfl rfl) ?_
  refine GL.done rfl ?_
  refine GQ.on ?_
  refine GW.toD rfl rfl (fun w17 => ?_) (fun w17 => ?_)
  refine GW.toSkip rfl ?_
  refine GQ.on ?_
  refine GW.toSeq rfl ?_
  refine GW.toBlock rfl ?_
  refine GW.toReg rfl ?_
  refine GL.one rfl .no (S1.mv (v := (.func _ _ _)) rfl) ?_
  refine GL.one rfl .no (S1.mv (v := (.pointer _)) rfl) ?_
  refine GL.one rfl .no (S1.mv (v := (.slice _ _ _)) rfl) ?_
  refine GL.one rfl .no (S1.mv (v := (.int _ _)) rfl) ?_
  refine GL.one rfl .no (S1.ixR el58 hc rfl rfl (by omega)) ?_
  refine GL.one rfl .no (S1.ldE ag97 hc rfl (m := (k, vn2, vs2, E2, ns2, ss2).fst) (by omega) rfl le97) ?_
  rotate_left
  refine GW.toExit rfl ?_
  refine GQ.onE ?_
  refine GQ.onE ?_
  refine GQ.outH ?_
  refine GQ.putEnd rfl p2 (by omega) (by omega) .tz
  · have m3 := sumTo_mono (w := wn) (show k + 1 ≤ n by omega)
    have m4 := sumTo_mono (w := ws) (show k + 1 ≤ n by omega)
    simp only [sumTo] at m3 m4
    refine GL.put rfl .no hf (pc k (by omega)) p2 (.cons .z .tz) (by omega) (by omega) (.v (fs := []) (cs := []) rfl (.c rfl (.c rfl .n))) (fun vn3 vs3 E3 ns3 ss3 p3 l3 m3 => ?_)
    refine GL.done rfl ?_
    refine GQ.outN ?_
    refine GQ.on ?_
    refine GW.toReg rfl ?_
    refine GL.one rfl .no (S1.mv (v := (.int _ _)) rfl) ?_
    refine GL.one rfl .no (S1.inc rfl rfl (by omega)) ?_
    refine GL.one rfl .no (S1.as (v := (.int _ _)) rfl) ?_
    refine GL.done rfl ?_
    refine GQ.next (k + 1, vn3, vs3, E3, ns3, ss3) ⟨by simp only; omega, p3, by simp only [sumTo]; omega, by simp only [sumTo]; omega⟩ (by simp only; omega) (.c rfl (.c rfl (.c rfl (.c rfl .n)))) (.cons .z .tz)


theorem ct46 {hr : RO} {x0 : Int} {x1 : Int} {x2 : Int} {x3 : Int}  : PutCt Tryz.prog hr 46 [.agg ⟨[.int .i64 x0, .int .i64 x1, .int .i64 x2, .int .i64 x3]⟩] (1 + (1 + (1 + (1 + 0)))) (1 + (1 + (1 + (1 + 0)))) := by
  intro h hb vn vs E ns ss H p l1 l2
  refine Ct.go Tryz.func46 rfl rfl co46 H ?_
  refine GW.toSeq rfl ?_
  refine GW.toReg rfl ?_
  refine GL.opN rfl .no (SN.bx (u := .agg ⟨_⟩) rfl .agg) (fun a1 => ?_)
  refine GL.done rfl ?_
  refine GQ.on ?_
  refine GW.toSeq rfl ?_
  refine GW.toReg rfl ?_
  refine GL.one rfl .no (S1.mv (v := (.pointer _)) rfl) ?_
  refine GL.one rfl .no (S1.fa fa97_0 rfl) ?_
  refine GL.one rfl .no (S1.ld sc3 rfl (.at .z) rfl) ?_
  refine GL.put rfl .no fo8 (ct8) p (.cons (.s .z) (.ts .tz)) (by omega) (by omega) (.d (.c (v := (.pointer _)) rfl (.c (v := (.int _ _)) rfl .n))) (fun vn2 vs2 E2 ns2 ss2 p2 lN2 lS2 => ?_)
  refine GL.done rfl ?_
  refine GQ.on ?_
  refine GW.toSeq rfl ?_
  refine GW.toReg rfl ?_
  refine GL.one rfl .no (S1.mv (v := (.pointer _)) rfl) ?_
  refine GL.one rfl .no (S1.fa fa97_1 rfl) ?_
  refine GL.one rfl .no (S1.ld sc3 rfl (.at .z) rfl) ?_
  refine GL.put rfl .no fo8 (ct8) p2 (.cons (.s .z) (.ts .tz)) (by omega) (by omega) (.d (.c (v := (.pointer _)) rfl (.c (v := (.int _ _)) rfl .n))) (fun vn3 vs3 E3 ns3 ss3 p3 lN3 lS3 => ?_)
  refine GL.done rfl ?_
  refine GQ.on ?_
  refine GW.toSeq rfl ?_
  refine GW.toReg rfl ?_
  refine GL.one rfl .no (S1.mv (v := (.pointer _)) rfl) ?_
  refine GL.one rfl .no (S1.fa fa97_2 rfl) ?_
  refine GL.one rfl .no (S1.ld sc3 rfl (.at .z) rfl) ?_
  refine GL.put rfl .no fo8 (ct8) p3 (.cons (.s .z) (.ts .tz)) (by omega) (by omega) (.d (.c (v := (.pointer _)) rfl (.c (v := (.int _ _)) rfl .n))) (fun vn4 vs4 E4 ns4 ss4 p4 lN4 lS4 => ?_)
  refine GL.done rfl ?_
  refine GQ.on ?_
  refine GW.toReg rfl ?_
  refine GL.one rfl .no (S1.mv (v := (.pointer _)) rfl) ?_
  refine GL.one rfl .no (S1.fa fa97_3 rfl) ?_
  refine GL.one rfl .no (S1.ld sc3 rfl (.at .z) rfl) ?_
  refine GL.put rfl .no fo8 (ct8) p4 (.cons (.s .z) (.ts .tz)) (by omega) (by omega) (.d (.c (v := (.pointer _)) rfl (.c (v := (.int _ _)) rfl .n))) (fun vn5 vs5 E5 ns5 ss5 p5 lN5 lS5 => ?_)
  refine GL.done rfl ?_
  refine GQ.putEnd rfl p5 (by omega) (by omega) (.cons (.s .z) (.ts .tz))


theorem ct22 {hr : RO} {a : Option Addr} {n c : Nat} (hc : Cell hr (.sl wy97) (.slice a n c)) : PutCt Tryz.prog hr 22 [.slice a n c] (bk hr (.sl wy97) (.slice a n c)) (bk hr (.sl wy97) (.slice a n c)) := by
  intro h hb vn vs E ns ss H p l1 l2
  refine Ct.go Tryz.func22 rfl rfl co22 H ?_
  refine GW.toReg rfl ?_
  refine GL.one rfl .no (S1.mv (v := (.pointer _)) rfl) ?_
  refine GL.one rfl .no (S1.mv (v := (.slice _ _ _)) rfl) ?_
  refine GL.put rfl .no fo45 ((ct45 (wn := fun k => bkL hr wy97 a (k * 4) 0) (ws := fun k => bkL hr wy97 a (k * 4) 0) hc fo46 (fun k hk => (ct46 ).le (Nat.le_refl _) (Nat.le_refl _))).le (wN' := bk hr (.sl wy97) (.slice a n c)) (wS' := bk hr (.sl wy97) (.slice a n c)) (Nat.le_refl _) (Nat.le_add_left _ _)) p (.cons .z .tz) (by omega) (by omega) (.d (.c rfl (.c rfl (.c rfl .n)))) (fun vn3 vs3 E3 ns3 ss3 p3 l3 m3 => ?_)
  refine GL.done rfl ?_
  refine GQ.putEnd rfl p3 (by omega) (by omega) (.cons .z .tz)


/-- A list is put. -/
theorem ct89 {hr : RO} {a : Option Addr} {n c g : Nat} {wn ws : Nat → Nat} (hc : Cell hr (.sl wy9) (.slice a n c)) (hf : fnOk Tryz.prog g = true) (pc : ∀ k, k < n → PutCt Tryz.prog hr g [.string (sv (el hr a (k * 1 + 0)))] (wn k) (ws k)) :
    PutCt Tryz.prog hr 89 [.slice a n c, .func (.func g) ⟨[]⟩ ⟨[]⟩] (1 + sumTo wn n) (sumTo ws n) := by
  intro h hb vn vs E ns ss H p l1 l2
  have hl := hc.le
  refine Ct.go Tryz.func89 rfl rfl co89 H ?_
  refine GW.cut (fun _ => [(0, .pointer (some ⟨hb, 0, none⟩)), (1, .slice a n c), (2, .func (.func g) ⟨[]⟩ ⟨[]⟩)]) (fun y : Value × Value × Ents × List Int × List ByteArray => (hb, .cells [y.1, y.2.1] none true) :: y.2.2.1) (fun y => PS y.1 y.2.1 y.2.2.1 y.2.2.2.1 y.2.2.2.2 ∧ y.2.2.2.1.length ≤ ns.length + 1 ∧ y.2.2.2.2.length ≤ ss.length) rfl ?_ ?_
  · cases p
    · refine GW.toReg rfl ?_
      refine GL.one rfl .no (S1.mv (v := (.pointer _)) rfl) ?_
      refine GL.one rfl .no (S1.mv (v := (.pointer _)) rfl) ?_
      refine GL.one rfl .no (S1.nc rfl) ?_
      refine GL.one rfl .no (S1.fa fa34_0 rfl) ?_
      refine GL.one rfl .no (S1.ld sc32 rfl (.at .z) rfl) ?_
      refine GL.one rfl .no (S1.mv (v := (.slice _ _ _)) rfl) ?_
      refine GL.one rfl .no (S1.len el22 rfl) ?_
      refine GL.opN rfl .no (SN.bs el32 ez32 (.c (v := (.int _ _)) rfl rfl .n) rfl rfl) (fun a1 => ?_)
      refine GL.opN rfl .no (SN.ap0 ap32_32 rfl (.row rfl (.at .z) rfl) (by omega) (by omega)) (fun a4 => ?_)
      refine GL.one rfl .no (S1.nc rfl) ?_
      refine GL.one rfl .no (S1.fa fa34_0 rfl) ?_
      refine GL.one rfl .no (S1.st (u := (.slice _ _ _)) sc32 rfl rfl rfl (by repeat constructor) (.s (.s .z))) ?_
      refine GL.done rfl ?_
      refine GQ.cutEnd (_, _, _, _, _) ⟨PS.rn (ns := [(n : Int)]) (by simp), by simp, by simp⟩ (.c rfl (.c rfl (.c rfl .n))) (.cons (.s (.s .z)) (.cons .z .nil))
    · refine GW.toReg rfl ?_
      refine GL.one rfl .no (S1.mv (v := (.pointer _)) rfl) ?_
      refine GL.one rfl .no (S1.mv (v := (.pointer _)) rfl) ?_
      refine GL.one rfl .no (S1.nc rfl) ?_
      refine GL.one rfl .no (S1.fa fa34_0 rfl) ?_
      refine GL.one rfl .no (S1.ld sc32 rfl (.at .z) rfl) ?_
      refine GL.one rfl .no (S1.mv (v := (.slice _ _ _)) rfl) ?_
      refine GL.one rfl .no (S1.len el22 rfl) ?_
      refine GL.opN rfl .no (SN.bs el32 ez32 (.c (v := (.int _ _)) rfl rfl .n) rfl rfl) (fun a5 => ?_)
      refine GL.opN rfl .no (SN.apO ap32_32 rfl (.row rfl (.at .z) rfl) (by omega) (by omega) rfl (.s (.s .z)) (by first | rfl | omega | (rw [ints_len]; omega) | (rw [strs_len]; omega))) (fun a8 => ?_)
      refine GL.one rfl .no (S1.nc rfl) ?_
      refine GL.one rfl .no (S1.fa fa34_0 rfl) ?_
      refine GL.one rfl .no (S1.st (u := (.slice _ _ _)) sc32 rfl rfl rfl (by repeat constructor) (.s (.s .z))) ?_
      refine GL.done rfl ?_
      refine GQ.cutEnd (_, _, _, _, _) ⟨PS.rnA (ns := ns) (x := (n : Int)) rfl, by simp, by simp⟩ (.c rfl (.c rfl (.c rfl .n))) (.cons (.s (.s .z)) (.cons .z .nil))
    · refine GW.toReg rfl ?_
      refine GL.one rfl .no (S1.mv (v := (.pointer _)) rfl) ?_
      refine GL.one rfl .no (S1.mv (v := (.pointer _)) rfl) ?_
      refine GL.one rfl .no (S1.nc rfl) ?_
      refine GL.one rfl .no (S1.fa fa34_0 rfl) ?_
      refine GL.one rfl .no (S1.ld sc32 rfl (.at .z) rfl) ?_
      refine GL.one rfl .no (S1.mv (v := (.slice _ _ _)) rfl) ?_
      refine GL.one rfl .no (S1.len el22 rfl) ?_
      refine GL.opN rfl .no (SN.bs el32 ez32 (.c (v := (.int _ _)) rfl rfl .n) rfl rfl) (fun a9 => ?_)
      refine GL.opN rfl .no (SN.ap0 ap32_32 rfl (.row rfl (.at .z) rfl) (by omega) (by omega)) (fun a12 => ?_)
      refine GL.one rfl .no (S1.nc rfl) ?_
      refine GL.one rfl .no (S1.fa fa34_0 rfl) ?_
      refine GL.one rfl .no (S1.st (u := (.slice _ _ _)) sc32 rfl rfl rfl (by repeat constructor) (.s (.s .z))) ?_
      refine GL.done rfl ?_
      refine GQ.cutEnd (_, _, _, _, _) ⟨PS.rr (ns := [(n : Int)]) (by simp) (by assumption), by simp, by simp⟩ (.c rfl (.c rfl (.c rfl .n))) (.cons (.s (.s .z)) (.cons .z (.cons (.s .z) .nil)))
    · refine GW.toReg rfl ?_
      refine GL.one rfl .no (S1.mv (v := (.pointer _)) rfl) ?_
      refine GL.one rfl .no (S1.mv (v := (.pointer _)) rfl) ?_
      refine GL.one rfl .no (S1.nc rfl) ?_
      refine GL.one rfl .no (S1.fa fa34_0 rfl) ?_
      refine GL.one rfl .no (S1.ld sc32 rfl (.at .z) rfl) ?_
      refine GL.one rfl .no (S1.mv (v := (.slice _ _ _)) rfl) ?_
      refine GL.one rfl .no (S1.len el22 rfl) ?_
      refine GL.opN rfl .no (SN.bs el32 ez32 (.c (v := (.int _ _)) rfl rfl .n) rfl rfl) (fun a13 => ?_)
      refine GL.opN rfl .no (SN.apO ap32_32 rfl (.row rfl (.at .z) rfl) (by omega) (by omega) rfl (.s (.s .z)) (by first | rfl | omega | (rw [ints_len]; omega) | (rw [strs_len]; omega))) (fun a16 => ?_)
      refine GL.one rfl .no (S1.nc rfl) ?_
      refine GL.one rfl .no (S1.fa fa34_0 rfl) ?_
      refine GL.one rfl .no (S1.st (u := (.slice _ _ _)) sc32 rfl rfl rfl (by repeat constructor) (.s (.s .z))) ?_
      refine GL.done rfl ?_
      refine GQ.cutEnd (_, _, _, _, _) ⟨PS.rrA (ns := ns) (x := (n : Int)) (by assumption) rfl rfl, by simp, by simp⟩ (.c rfl (.c rfl (.c rfl .n))) (.cons (.s (.s .z)) (.cons .z (.cons (.s .z) .nil)))
  rintro ⟨vn1, vs1, E1, ns1, ss1⟩ f1 ⟨p1, q1, q2⟩
  refine GW.toSeq rfl ?_
  refine GW.toReg rfl ?_
  refine GL.one rfl .no (S1.as (v := (.int _ _)) rfl) ?_
  refine GL.done rfl ?_
  refine GQ.on ?_
  refine GW.toBlock rfl ?_
  refine GW.toLoop (X := Nat × Value × Value × Ents × List Int × List ByteArray) (fun y => [(0, .pointer (some ⟨hb, 0, none⟩)), (1, .slice a n c), (2, .func (.func g) ⟨[]⟩ ⟨[]⟩), (6, .int .i64 (y.1 : Int))]) (fun y => (hb, .cells [y.2.1, y.2.2.1] none true) :: y.2.2.2.1)
    (fun y => y.1 ≤ n ∧ PS y.2.1 y.2.2.1 y.2.2.2.1 y.2.2.2.2.1 y.2.2.2.2.2 ∧ y.2.2.2.2.1.length ≤ ns.length + 1 + sumTo wn y.1 ∧ y.2.2.2.2.2.length ≤ ss.length + sumTo ws y.1) (fun y => n - y.1) rfl (0, vn1, vs1, E1, ns1, ss1) ⟨Nat.zero_le _, p1, by simpa [sumTo] using q1, by simpa [sumTo] using q2⟩ (.c rfl (.c rfl (.c rfl (.c rfl .n)))) .tz ?_
  rintro ⟨k, vn2, vs2, E2, ns2, ss2⟩ f2 ⟨hk, p2, r1, r2⟩
  simp only at hk p2 r1 r2
  have m1 := sumTo_mono (w := wn) hk
  have m2 := sumTo_mono (w := ws) hk
  refine GW.toSeq rfl ?_
  refine GW.toSeq rfl ?_
  refine GW.toReg rfl ?_
  refine GL.one rfl .no (S1.mv (v := (.int _ _)) rfl) ?_
  refine GL.one rfl .no (S1.mv (v := (.slice _ _ _)) rfl) ?_
  refine GL.one rfl .no (S1.len el22 rfl) ?_
  refine GL.one rfl .no (S1.lss rfl rfl) ?_
  refine GL.done rfl ?_
  refine GQ.on ?_
  refine GW.toD rfl rfl (fun w17 => ?_) (fun w17 => ?_)
  refine GW.toSkip rfl ?_
  refine GQ.on ?_
  refine GW.toSeq rfl ?_
  refine GW.toBlock rfl ?_
  refine GW.toReg rfl ?_
  refine GL.one rfl .no (S1.mv (v := (.func _ _ _)) rfl) ?_
  refine GL.one rfl .no (S1.mv (v := (.pointer _)) rfl) ?_
  refine GL.one rfl .no (S1.mv (v := (.slice _ _ _)) rfl) ?_
  refine GL.one rfl .no (S1.mv (v := (.int _ _)) rfl) ?_
  refine GL.one rfl .no (S1.ixR el22 hc rfl rfl (by omega)) ?_
  refine GL.one rfl .no (S1.ldCS sc9 (z := 1) hc rfl (m := (k, vn2, vs2, E2, ns2, ss2).fst) (by omega) rfl (d := 0) rfl rfl) ?_
  rotate_left
  refine GW.toExit rfl ?_
  refine GQ.onE ?_
  refine GQ.onE ?_
  refine GQ.outH ?_
  refine GQ.putEnd rfl p2 (by omega) (by omega) .tz
  · have m3 := sumTo_mono (w := wn) (show k + 1 ≤ n by omega)
    have m4 := sumTo_mono (w := ws) (show k + 1 ≤ n by omega)
    simp only [sumTo] at m3 m4
    refine GL.put rfl .no hf (pc k (by omega)) p2 (.cons .z .tz) (by omega) (by omega) (.v (fs := []) (cs := []) rfl (.c rfl (.c rfl .n))) (fun vn3 vs3 E3 ns3 ss3 p3 l3 m3 => ?_)
    refine GL.done rfl ?_
    refine GQ.outN ?_
    refine GQ.on ?_
    refine GW.toReg rfl ?_
    refine GL.one rfl .no (S1.mv (v := (.int _ _)) rfl) ?_
    refine GL.one rfl .no (S1.inc rfl rfl (by omega)) ?_
    refine GL.one rfl .no (S1.as (v := (.int _ _)) rfl) ?_
    refine GL.done rfl ?_
    refine GQ.next (k + 1, vn3, vs3, E3, ns3, ss3) ⟨by simp only; omega, p3, by simp only [sumTo]; omega, by simp only [sumTo]; omega⟩ (by simp only; omega) (.c rfl (.c rfl (.c rfl (.c rfl .n)))) (.cons .z .tz)

theorem ct90 {hr : RO} {x : ByteArray} : PutCt Tryz.prog hr 90 [.string x] 1 1 := by
  intro h hb vn vs E ns ss H p l1 l2
  cases p <;> refine Ct.go Tryz.func90 rfl rfl co90 H ?_
  · refine GW.toReg rfl ?_
    refine GL.one rfl .no (S1.mv (v := (.pointer _)) rfl) ?_
    refine GL.one rfl .no (S1.mv (v := (.pointer _)) rfl) ?_
    refine GL.one rfl .no (S1.nc rfl) ?_
    refine GL.one rfl .no (S1.fa fa34_1 rfl) ?_
    refine GL.one rfl .no (S1.ld sc22 rfl (.at .z) rfl) ?_
    refine GL.one rfl .no (S1.mv (v := (.string _)) rfl) ?_
    refine GL.opN rfl .no (SN.bs el22 ez22 (.c (v := (.string _)) rfl rfl .n) rfl rfl) (fun a1 => ?_)
    refine GL.opN rfl .no (SN.ap0 ap22_22 rfl (.row rfl (.at .z) rfl) (by omega) (by omega)) (fun a4 => ?_)
    refine GL.one rfl .no (S1.nc rfl) ?_
    refine GL.one rfl .no (S1.fa fa34_1 rfl) ?_
    refine GL.one rfl .no (S1.st (u := (.slice _ _ _)) sc22 rfl rfl rfl (by repeat constructor) (.s (.s .z))) ?_
    refine GL.done rfl ?_
    refine GQ.putEnd rfl (PS.nr (ss := [x]) (by simp)) (by simp) (by simp) (.cons (.s (.s .z)) (.cons .z .nil))
  · refine GW.toReg rfl ?_
    refine GL.one rfl .no (S1.mv (v := (.pointer _)) rfl) ?_
    refine GL.one rfl .no (S1.mv (v := (.pointer _)) rfl) ?_
    refine GL.one rfl .no (S1.nc rfl) ?_
    refine GL.one rfl .no (S1.fa fa34_1 rfl) ?_
    refine GL.one rfl .no (S1.ld sc22 rfl (.at .z) rfl) ?_
    refine GL.one rfl .no (S1.mv (v := (.string _)) rfl) ?_
    refine GL.opN rfl .no (SN.bs el22 ez22 (.c (v := (.string _)) rfl rfl .n) rfl rfl) (fun a5 => ?_)
    refine GL.opN rfl .no (SN.ap0 ap22_22 rfl (.row rfl (.at .z) rfl) (by omega) (by omega)) (fun a8 => ?_)
    refine GL.one rfl .no (S1.nc rfl) ?_
    refine GL.one rfl .no (S1.fa fa34_1 rfl) ?_
    refine GL.one rfl .no (S1.st (u := (.slice _ _ _)) sc22 rfl rfl rfl (by repeat constructor) (.s (.s .z))) ?_
    refine GL.done rfl ?_
    refine GQ.putEnd rfl (PS.rr (ss := [x]) (by assumption) (by simp)) (by simp) (by simp) (.cons (.s (.s .z)) (.cons (.s (.s .z)) (.cons .z .nil)))
  · refine GW.toReg rfl ?_
    refine GL.one rfl .no (S1.mv (v := (.pointer _)) rfl) ?_
    refine GL.one rfl .no (S1.mv (v := (.pointer _)) rfl) ?_
    refine GL.one rfl .no (S1.nc rfl) ?_
    refine GL.one rfl .no (S1.fa fa34_1 rfl) ?_
    refine GL.one rfl .no (S1.ld sc22 rfl (.at .z) rfl) ?_
    refine GL.one rfl .no (S1.mv (v := (.string _)) rfl) ?_
    refine GL.opN rfl .no (SN.bs el22 ez22 (.c (v := (.string _)) rfl rfl .n) rfl rfl) (fun a9 => ?_)
    refine GL.opN rfl .no (SN.apO ap22_22 rfl (.row rfl (.at .z) rfl) (by omega) (by omega) rfl (.s (.s .z)) (by first | rfl | omega | (rw [ints_len]; omega) | (rw [strs_len]; omega))) (fun a12 => ?_)
    refine GL.one rfl .no (S1.nc rfl) ?_
    refine GL.one rfl .no (S1.fa fa34_1 rfl) ?_
    refine GL.one rfl .no (S1.st (u := (.slice _ _ _)) sc22 rfl rfl rfl (by repeat constructor) (.s (.s .z))) ?_
    refine GL.done rfl ?_
    refine GQ.putEnd rfl (PS.nrA (ss := ss) (x := x) rfl) (by simp) (by simp) (.cons (.s (.s .z)) (.cons .z .nil))
  · refine GW.toReg rfl ?_
    refine GL.one rfl .no (S1.mv (v := (.pointer _)) rfl) ?_
    refine GL.one rfl .no (S1.mv (v := (.pointer _)) rfl) ?_
    refine GL.one rfl .no (S1.nc rfl) ?_
    refine GL.one rfl .no (S1.fa fa34_1 rfl) ?_
    refine GL.one rfl .no (S1.ld sc22 rfl (.at .z) rfl) ?_
    refine GL.one rfl .no (S1.mv (v := (.string _)) rfl) ?_
    refine GL.opN rfl .no (SN.bs el22 ez22 (.c (v := (.string _)) rfl rfl .n) rfl rfl) (fun a13 => ?_)
    refine GL.opN rfl .no (SN.apO ap22_22 rfl (.row rfl (.at .z) rfl) (by omega) (by omega) rfl (.s (.s (.s .z))) (by first | rfl | omega | (rw [ints_len]; omega) | (rw [strs_len]; omega))) (fun a16 => ?_)
    refine GL.one rfl .no (S1.nc rfl) ?_
    refine GL.one rfl .no (S1.fa fa34_1 rfl) ?_
    refine GL.one rfl .no (S1.st (u := (.slice _ _ _)) sc22 rfl rfl rfl (by repeat constructor) (.s (.s .z))) ?_
    refine GL.done rfl ?_
    refine GQ.putEnd rfl (PS.rrB (ss := ss) (x := x) (by assumption) rfl rfl) (by simp) (by simp) (.cons (.s (.s .z)) (.cons (.s (.s .z)) (.cons .z .nil)))


theorem ct60 {hr : RO} {a : Option Addr} {n c : Nat} (hc : Cell hr (.sl wy9) (.slice a n c)) : PutCt Tryz.prog hr 60 [.slice a n c] (bk hr (.sl wy9) (.slice a n c)) (bk hr (.sl wy9) (.slice a n c)) := by
  intro h hb vn vs E ns ss H p l1 l2
  refine Ct.go Tryz.func60 rfl rfl co60 H ?_
  refine GW.toReg rfl ?_
  refine GL.one rfl .no (S1.mv (v := (.pointer _)) rfl) ?_
  refine GL.one rfl .no (S1.mv (v := (.slice _ _ _)) rfl) ?_
  refine GL.put rfl .no fo89 ((ct89 (wn := fun k => bkL hr wy9 a (k * 1) 0) (ws := fun k => bkL hr wy9 a (k * 1) 0) hc fo90 (fun k hk => (ct90 ).le (Nat.le_refl _) (Nat.le_refl _))).le (wN' := bk hr (.sl wy9) (.slice a n c)) (wS' := bk hr (.sl wy9) (.slice a n c)) (Nat.le_refl _) (Nat.le_add_left _ _)) p (.cons .z .tz) (by omega) (by omega) (.d (.c rfl (.c rfl (.c rfl .n)))) (fun vn3 vs3 E3 ns3 ss3 p3 l3 m3 => ?_)
  refine GL.done rfl ?_
  refine GQ.putEnd rfl p3 (by omega) (by omega) (.cons .z .tz)


/-- A list is put. -/
theorem ct91 {hr : RO} {a : Option Addr} {n c g : Nat} {wn ws : Nat → Nat} (hc : Cell hr (.sl wy74) (.slice a n c)) (hf : fnOk Tryz.prog g = true) (pc : ∀ k, k < n → PutCt Tryz.prog hr g [.agg ⟨[.string (sv (el hr a (k * 4))), .int .i64 (iv (el hr a (k * 4 + 1))), .int .i64 (iv (el hr a (k * 4 + 2))), .int .i64 (iv (el hr a (k * 4 + 3)))]⟩] (wn k) (ws k)) :
    PutCt Tryz.prog hr 91 [.slice a n c, .func (.func g) ⟨[]⟩ ⟨[]⟩] (1 + sumTo wn n) (sumTo ws n) := by
  intro h hb vn vs E ns ss H p l1 l2
  have hl := hc.le
  refine Ct.go Tryz.func91 rfl rfl co91 H ?_
  refine GW.cut (fun _ => [(0, .pointer (some ⟨hb, 0, none⟩)), (1, .slice a n c), (2, .func (.func g) ⟨[]⟩ ⟨[]⟩)]) (fun y : Value × Value × Ents × List Int × List ByteArray => (hb, .cells [y.1, y.2.1] none true) :: y.2.2.1) (fun y => PS y.1 y.2.1 y.2.2.1 y.2.2.2.1 y.2.2.2.2 ∧ y.2.2.2.1.length ≤ ns.length + 1 ∧ y.2.2.2.2.length ≤ ss.length) rfl ?_ ?_
  · cases p
    · refine GW.toReg rfl ?_
      refine GL.one rfl .no (S1.mv (v := (.pointer _)) rfl) ?_
      refine GL.one rfl .no (S1.mv (v := (.pointer _)) rfl) ?_
      refine GL.one rfl .no (S1.nc rfl) ?_
      refine GL.one rfl .no (S1.fa fa34_0 rfl) ?_
      refine GL.one rfl .no (S1.ld sc32 rfl (.at .z) rfl) ?_
      refine GL.one rfl .no (S1.mv (v := (.slice _ _ _)) rfl) ?_
      refine GL.one rfl .no (S1.len el23 rfl) ?_
      refine GL.opN rfl .no (SN.bs el32 ez32 (.c (v := (.int _ _)) rfl rfl .n) rfl rfl) (fun a1 => ?_)
      refine GL.opN rfl .no (SN.ap0 ap32_32 rfl (.row rfl (.at .z) rfl) (by omega) (by omega)) (fun a4 => ?_)
      refine GL.one rfl .no (S1.nc rfl) ?_
      refine GL.one rfl .no (S1.fa fa34_0 rfl) ?_
      refine GL.one rfl .no (S1.st (u := (.slice _ _ _)) sc32 rfl rfl rfl (by repeat constructor) (.s (.s .z))) ?_
      refine GL.done rfl ?_
      refine GQ.cutEnd (_, _, _, _, _) ⟨PS.rn (ns := [(n : Int)]) (by simp), by simp, by simp⟩ (.c rfl (.c rfl (.c rfl .n))) (.cons (.s (.s .z)) (.cons .z .nil))
    · refine GW.toReg rfl ?_
      refine GL.one rfl .no (S1.mv (v := (.pointer _)) rfl) ?_
      refine GL.one rfl .no (S1.mv (v := (.pointer _)) rfl) ?_
      refine GL.one rfl .no (S1.nc rfl) ?_
      refine GL.one rfl .no (S1.fa fa34_0 rfl) ?_
      refine GL.one rfl .no (S1.ld sc32 rfl (.at .z) rfl) ?_
      refine GL.one rfl .no (S1.mv (v := (.slice _ _ _)) rfl) ?_
      refine GL.one rfl .no (S1.len el23 rfl) ?_
      refine GL.opN rfl .no (SN.bs el32 ez32 (.c (v := (.int _ _)) rfl rfl .n) rfl rfl) (fun a5 => ?_)
      refine GL.opN rfl .no (SN.apO ap32_32 rfl (.row rfl (.at .z) rfl) (by omega) (by omega) rfl (.s (.s .z)) (by first | rfl | omega | (rw [ints_len]; omega) | (rw [strs_len]; omega))) (fun a8 => ?_)
      refine GL.one rfl .no (S1.nc rfl) ?_
      refine GL.one rfl .no (S1.fa fa34_0 rfl) ?_
      refine GL.one rfl .no (S1.st (u := (.slice _ _ _)) sc32 rfl rfl rfl (by repeat constructor) (.s (.s .z))) ?_
      refine GL.done rfl ?_
      refine GQ.cutEnd (_, _, _, _, _) ⟨PS.rnA (ns := ns) (x := (n : Int)) rfl, by simp, by simp⟩ (.c rfl (.c rfl (.c rfl .n))) (.cons (.s (.s .z)) (.cons .z .nil))
    · refine GW.toReg rfl ?_
      refine GL.one rfl .no (S1.mv (v := (.pointer _)) rfl) ?_
      refine GL.one rfl .no (S1.mv (v := (.pointer _)) rfl) ?_
      refine GL.one rfl .no (S1.nc rfl) ?_
      refine GL.one rfl .no (S1.fa fa34_0 rfl) ?_
      refine GL.one rfl .no (S1.ld sc32 rfl (.at .z) rfl) ?_
      refine GL.one rfl .no (S1.mv (v := (.slice _ _ _)) rfl) ?_
      refine GL.one rfl .no (S1.len el23 rfl) ?_
      refine GL.opN rfl .no (SN.bs el32 ez32 (.c (v := (.int _ _)) rfl rfl .n) rfl rfl) (fun a9 => ?_)
      refine GL.opN rfl .no (SN.ap0 ap32_32 rfl (.row rfl (.at .z) rfl) (by omega) (by omega)) (fun a12 => ?_)
      refine GL.one rfl .no (S1.nc rfl) ?_
      refine GL.one rfl .no (S1.fa fa34_0 rfl) ?_
      refine GL.one rfl .no (S1.st (u := (.slice _ _ _)) sc32 rfl rfl rfl (by repeat constructor) (.s (.s .z))) ?_
      refine GL.done rfl ?_
      refine GQ.cutEnd (_, _, _, _, _) ⟨PS.rr (ns := [(n : Int)]) (by simp) (by assumption), by simp, by simp⟩ (.c rfl (.c rfl (.c rfl .n))) (.cons (.s (.s .z)) (.cons .z (.cons (.s .z) .nil)))
    · refine GW.toReg rfl ?_
      refine GL.one rfl .no (S1.mv (v := (.pointer _)) rfl) ?_
      refine GL.one rfl .no (S1.mv (v := (.pointer _)) rfl) ?_
      refine GL.one rfl .no (S1.nc rfl) ?_
      refine GL.one rfl .no (S1.fa fa34_0 rfl) ?_
      refine GL.one rfl .no (S1.ld sc32 rfl (.at .z) rfl) ?_
      refine GL.one rfl .no (S1.mv (v := (.slice _ _ _)) rfl) ?_
      refine GL.one rfl .no (S1.len el23 rfl) ?_
      refine GL.opN rfl .no (SN.bs el32 ez32 (.c (v := (.int _ _)) rfl rfl .n) rfl rfl) (fun a13 => ?_)
      refine GL.opN rfl .no (SN.apO ap32_32 rfl (.row rfl (.at .z) rfl) (by omega) (by omega) rfl (.s (.s .z)) (by first | rfl | omega | (rw [ints_len]; omega) | (rw [strs_len]; omega))) (fun a16 => ?_)
      refine GL.one rfl .no (S1.nc rfl) ?_
      refine GL.one rfl .no (S1.fa fa34_0 rfl) ?_
      refine GL.one rfl .no (S1.st (u := (.slice _ _ _)) sc32 rfl rfl rfl (by repeat constructor) (.s (.s .z))) ?_
      refine GL.done rfl ?_
      refine GQ.cutEnd (_, _, _, _, _) ⟨PS.rrA (ns := ns) (x := (n : Int)) (by assumption) rfl rfl, by simp, by simp⟩ (.c rfl (.c rfl (.c rfl .n))) (.cons (.s (.s .z)) (.cons .z (.cons (.s .z) .nil)))
  rintro ⟨vn1, vs1, E1, ns1, ss1⟩ f1 ⟨p1, q1, q2⟩
  refine GW.toSeq rfl ?_
  refine GW.toReg rfl ?_
  refine GL.one rfl .no (S1.as (v := (.int _ _)) rfl) ?_
  refine GL.done rfl ?_
  refine GQ.on ?_
  refine GW.toBlock rfl ?_
  refine GW.toLoop (X := Nat × Value × Value × Ents × List Int × List ByteArray) (fun y => [(0, .pointer (some ⟨hb, 0, none⟩)), (1, .slice a n c), (2, .func (.func g) ⟨[]⟩ ⟨[]⟩), (6, .int .i64 (y.1 : Int))]) (fun y => (hb, .cells [y.2.1, y.2.2.1] none true) :: y.2.2.2.1)
    (fun y => y.1 ≤ n ∧ PS y.2.1 y.2.2.1 y.2.2.2.1 y.2.2.2.2.1 y.2.2.2.2.2 ∧ y.2.2.2.2.1.length ≤ ns.length + 1 + sumTo wn y.1 ∧ y.2.2.2.2.2.length ≤ ss.length + sumTo ws y.1) (fun y => n - y.1) rfl (0, vn1, vs1, E1, ns1, ss1) ⟨Nat.zero_le _, p1, by simpa [sumTo] using q1, by simpa [sumTo] using q2⟩ (.c rfl (.c rfl (.c rfl (.c rfl .n)))) .tz ?_
  rintro ⟨k, vn2, vs2, E2, ns2, ss2⟩ f2 ⟨hk, p2, r1, r2⟩
  simp only at hk p2 r1 r2
  have m1 := sumTo_mono (w := wn) hk
  have m2 := sumTo_mono (w := ws) hk
  refine GW.toSeq rfl ?_
  refine GW.toSeq rfl ?_
  refine GW.toReg rfl ?_
  refine GL.one rfl .no (S1.mv (v := (.int _ _)) rfl) ?_
  refine GL.one rfl .no (S1.mv (v := (.slice _ _ _)) rfl) ?_
  refine GL.one rfl .no (S1.len el23 rfl) ?_
  refine GL.one rfl .no (S1.lss rfl rfl) ?_
  refine GL.done rfl ?_
  refine GQ.on ?_
  refine GW.toD rfl rfl (fun w17 => ?_) (fun w17 => ?_)
  refine GW.toSkip rfl ?_
  refine GQ.on ?_
  refine GW.toSeq rfl ?_
  refine GW.toBlock rfl ?_
  refine GW.toReg rfl ?_
  refine GL.one rfl .no (S1.mv (v := (.func _ _ _)) rfl) ?_
  refine GL.one rfl .no (S1.mv (v := (.pointer _)) rfl) ?_
  refine GL.one rfl .no (S1.mv (v := (.slice _ _ _)) rfl) ?_
  refine GL.one rfl .no (S1.mv (v := (.int _ _)) rfl) ?_
  refine GL.one rfl .no (S1.ixR el23 hc rfl rfl (by omega)) ?_
  refine GL.one rfl .no (S1.ldE ag74 hc rfl (m := (k, vn2, vs2, E2, ns2, ss2).fst) (by omega) rfl le74) ?_
  rotate_left
  refine GW.toExit rfl ?_
  refine GQ.onE ?_
  refine GQ.onE ?_
  refine GQ.outH ?_
  refine GQ.putEnd rfl p2 (by omega) (by omega) .tz
  · have m3 := sumTo_mono (w := wn) (show k + 1 ≤ n by omega)
    have m4 := sumTo_mono (w := ws) (show k + 1 ≤ n by omega)
    simp only [sumTo] at m3 m4
    refine GL.put rfl .no hf (pc k (by omega)) p2 (.cons .z .tz) (by omega) (by omega) (.v (fs := []) (cs := []) rfl (.c rfl (.c rfl .n))) (fun vn3 vs3 E3 ns3 ss3 p3 l3 m3 => ?_)
    refine GL.done rfl ?_
    refine GQ.outN ?_
    refine GQ.on ?_
    refine GW.toReg rfl ?_
    refine GL.one rfl .no (S1.mv (v := (.int _ _)) rfl) ?_
    refine GL.one rfl .no (S1.inc rfl rfl (by omega)) ?_
    refine GL.one rfl .no (S1.as (v := (.int _ _)) rfl) ?_
    refine GL.done rfl ?_
    refine GQ.next (k + 1, vn3, vs3, E3, ns3, ss3) ⟨by simp only; omega, p3, by simp only [sumTo]; omega, by simp only [sumTo]; omega⟩ (by simp only; omega) (.c rfl (.c rfl (.c rfl (.c rfl .n)))) (.cons .z .tz)


theorem ct92 {hr : RO} {s0 : ByteArray} {x1 : Int} {x2 : Int} {x3 : Int}  : PutCt Tryz.prog hr 92 [.agg ⟨[.string s0, .int .i64 x1, .int .i64 x2, .int .i64 x3]⟩] (1 + (1 + (1 + (1 + 0)))) (1 + (1 + (1 + (1 + 0)))) := by
  intro h hb vn vs E ns ss H p l1 l2
  refine Ct.go Tryz.func92 rfl rfl co92 H ?_
  refine GW.toSeq rfl ?_
  refine GW.toReg rfl ?_
  refine GL.opN rfl .no (SN.bx (u := .agg ⟨_⟩) rfl .agg) (fun a1 => ?_)
  refine GL.done rfl ?_
  refine GQ.on ?_
  refine GW.toSeq rfl ?_
  refine GW.toReg rfl ?_
  refine GL.one rfl .no (S1.mv (v := (.pointer _)) rfl) ?_
  refine GL.one rfl .no (S1.fa fa74_0 rfl) ?_
  refine GL.one rfl .no (S1.ld sc9 rfl (.at .z) rfl) ?_
  refine GL.put rfl .no fo90 (ct90) p (.cons (.s .z) (.ts .tz)) (by omega) (by omega) (.d (.c (v := (.pointer _)) rfl (.c (v := (.string _)) rfl .n))) (fun vn2 vs2 E2 ns2 ss2 p2 lN2 lS2 => ?_)
  refine GL.done rfl ?_
  refine GQ.on ?_
  refine GW.toSeq rfl ?_
  refine GW.toReg rfl ?_
  refine GL.one rfl .no (S1.mv (v := (.pointer _)) rfl) ?_
  refine GL.one rfl .no (S1.fa fa74_1 rfl) ?_
  refine GL.one rfl .no (S1.ld sc3 rfl (.at .z) rfl) ?_
  refine GL.put rfl .no fo8 (ct8) p2 (.cons (.s .z) (.ts .tz)) (by omega) (by omega) (.d (.c (v := (.pointer _)) rfl (.c (v := (.int _ _)) rfl .n))) (fun vn3 vs3 E3 ns3 ss3 p3 lN3 lS3 => ?_)
  refine GL.done rfl ?_
  refine GQ.on ?_
  refine GW.toSeq rfl ?_
  refine GW.toReg rfl ?_
  refine GL.one rfl .no (S1.mv (v := (.pointer _)) rfl) ?_
  refine GL.one rfl .no (S1.fa fa74_2 rfl) ?_
  refine GL.one rfl .no (S1.ld sc3 rfl (.at .z) rfl) ?_
  refine GL.put rfl .no fo8 (ct8) p3 (.cons (.s .z) (.ts .tz)) (by omega) (by omega) (.d (.c (v := (.pointer _)) rfl (.c (v := (.int _ _)) rfl .n))) (fun vn4 vs4 E4 ns4 ss4 p4 lN4 lS4 => ?_)
  refine GL.done rfl ?_
  refine GQ.on ?_
  refine GW.toReg rfl ?_
  refine GL.one rfl .no (S1.mv (v := (.pointer _)) rfl) ?_
  refine GL.one rfl .no (S1.fa fa74_3 rfl) ?_
  refine GL.one rfl .no (S1.ld sc3 rfl (.at .z) rfl) ?_
  refine GL.put rfl .no fo8 (ct8) p4 (.cons (.s .z) (.ts .tz)) (by omega) (by omega) (.d (.c (v := (.pointer _)) rfl (.c (v := (.int _ _)) rfl .n))) (fun vn5 vs5 E5 ns5 ss5 p5 lN5 lS5 => ?_)
  refine GL.done rfl ?_
  refine GQ.putEnd rfl p5 (by omega) (by omega) (.cons (.s .z) (.ts .tz))


theorem ct61 {hr : RO} {a : Option Addr} {n c : Nat} (hc : Cell hr (.sl wy74) (.slice a n c)) : PutCt Tryz.prog hr 61 [.slice a n c] (bk hr (.sl wy74) (.slice a n c)) (bk hr (.sl wy74) (.slice a n c)) := by
  intro h hb vn vs E ns ss H p l1 l2
  refine Ct.go Tryz.func61 rfl rfl co61 H ?_
  refine GW.toReg rfl ?_
  refine GL.one rfl .no (S1.mv (v := (.pointer _)) rfl) ?_
  refine GL.one rfl .no (S1.mv (v := (.slice _ _ _)) rfl) ?_
  refine GL.put rfl .no fo91 ((ct91 (wn := fun k => bkL hr wy74 a (k * 4) 0) (ws := fun k => bkL hr wy74 a (k * 4) 0) hc fo92 (fun k hk => (ct92 ).le (Nat.le_refl _) (Nat.le_refl _))).le (wN' := bk hr (.sl wy74) (.slice a n c)) (wS' := bk hr (.sl wy74) (.slice a n c)) (Nat.le_refl _) (Nat.le_add_left _ _)) p (.cons .z .tz) (by omega) (by omega) (.d (.c rfl (.c rfl (.c rfl .n)))) (fun vn3 vs3 E3 ns3 ss3 p3 l3 m3 => ?_)
  refine GL.done rfl ?_
  refine GQ.putEnd rfl p3 (by omega) (by omega) (.cons .z .tz)


theorem ct62 {hr : RO} {x0 : Int} {x1 : Int}  : PutCt Tryz.prog hr 62 [.agg ⟨[.int .i64 x0, .int .i64 x1]⟩] (1 + (1 + 0)) (1 + (1 + 0)) := by
  intro h hb vn vs E ns ss H p l1 l2
  refine Ct.go Tryz.func62 rfl rfl co62 H ?_
  refine GW.toSeq rfl ?_
  refine GW.toReg rfl ?_
  refine GL.opN rfl .no (SN.bx (u := .agg ⟨_⟩) rfl .agg) (fun a1 => ?_)
  refine GL.done rfl ?_
  refine GQ.on ?_
  refine GW.toSeq rfl ?_
  refine GW.toReg rfl ?_
  refine GL.one rfl .no (S1.mv (v := (.pointer _)) rfl) ?_
  refine GL.one rfl .no (S1.fa fa25_0 rfl) ?_
  refine GL.one rfl .no (S1.ld sc3 rfl (.at .z) rfl) ?_
  refine GL.put rfl .no fo8 (ct8) p (.cons (.s .z) (.ts .tz)) (by omega) (by omega) (.d (.c (v := (.pointer _)) rfl (.c (v := (.int _ _)) rfl .n))) (fun vn2 vs2 E2 ns2 ss2 p2 lN2 lS2 => ?_)
  refine GL.done rfl ?_
  refine GQ.on ?_
  refine GW.toReg rfl ?_
  refine GL.one rfl .no (S1.mv (v := (.pointer _)) rfl) ?_
  refine GL.one rfl .no (S1.fa fa25_1 rfl) ?_
  refine GL.one rfl .no (S1.ld sc3 rfl (.at .z) rfl) ?_
  refine GL.put rfl .no fo8 (ct8) p2 (.cons (.s .z) (.ts .tz)) (by omega) (by omega) (.d (.c (v := (.pointer _)) rfl (.c (v := (.int _ _)) rfl .n))) (fun vn3 vs3 E3 ns3 ss3 p3 lN3 lS3 => ?_)
  refine GL.done rfl ?_
  refine GQ.putEnd rfl p3 (by omega) (by omega) (.cons (.s .z) (.ts .tz))


/-- A list is put. -/
theorem ct93 {hr : RO} {a : Option Addr} {n c g : Nat} {wn ws : Nat → Nat} (hc : Cell hr (.sl wy78) (.slice a n c)) (hf : fnOk Tryz.prog g = true) (pc : ∀ k, k < n → PutCt Tryz.prog hr g [.agg ⟨[.int .i64 (iv (el hr a (k * 2))), .int .i64 (iv (el hr a (k * 2 + 1)))]⟩] (wn k) (ws k)) :
    PutCt Tryz.prog hr 93 [.slice a n c, .func (.func g) ⟨[]⟩ ⟨[]⟩] (1 + sumTo wn n) (sumTo ws n) := by
  intro h hb vn vs E ns ss H p l1 l2
  have hl := hc.le
  refine Ct.go Tryz.func93 rfl rfl co93 H ?_
  refine GW.cut (fun _ => [(0, .pointer (some ⟨hb, 0, none⟩)), (1, .slice a n c), (2, .func (.func g) ⟨[]⟩ ⟨[]⟩)]) (fun y : Value × Value × Ents × List Int × List ByteArray => (hb, .cells [y.1, y.2.1] none true) :: y.2.2.1) (fun y => PS y.1 y.2.1 y.2.2.1 y.2.2.2.1 y.2.2.2.2 ∧ y.2.2.2.1.length ≤ ns.length + 1 ∧ y.2.2.2.2.length ≤ ss.length) rfl ?_ ?_
  · cases p
    · refine GW.toReg rfl ?_
      refine GL.one rfl .no (S1.mv (v := (.pointer _)) rfl) ?_
      refine GL.one rfl .no (S1.mv (v := (.pointer _)) rfl) ?_
      refine GL.one rfl .no (S1.nc rfl) ?_
      refine GL.one rfl .no (S1.fa fa34_0 rfl) ?_
      refine GL.one rfl .no (S1.ld sc32 rfl (.at .z) rfl) ?_
      refine GL.one rfl .no (S1.mv (v := (.slice _ _ _)) rfl) ?_
      refine GL.one rfl .no (S1.len el26 rfl) ?_
      refine GL.opN rfl .no (SN.bs el32 ez32 (.c (v := (.int _ _)) rfl rfl .n) rfl rfl) (fun a1 => ?_)
      refine GL.opN rfl .no (SN.ap0 ap32_32 rfl (.row rfl (.at .z) rfl) (by omega) (by omega)) (fun a4 => ?_)
      refine GL.one rfl .no (S1.nc rfl) ?_
      refine GL.one rfl .no (S1.fa fa34_0 rfl) ?_
      refine GL.one rfl .no (S1.st (u := (.slice _ _ _)) sc32 rfl rfl rfl (by repeat constructor) (.s (.s .z))) ?_
      refine GL.done rfl ?_
      refine GQ.cutEnd (_, _, _, _, _) ⟨PS.rn (ns := [(n : Int)]) (by simp), by simp, by simp⟩ (.c rfl (.c rfl (.c rfl .n))) (.cons (.s (.s .z)) (.cons .z .nil))
    · refine GW.toReg rfl ?_
      refine GL.one rfl .no (S1.mv (v := (.pointer _)) rfl) ?_
      refine GL.one rfl .no (S1.mv (v := (.pointer _)) rfl) ?_
      refine GL.one rfl .no (S1.nc rfl) ?_
      refine GL.one rfl .no (S1.fa fa34_0 rfl) ?_
      refine GL.one rfl .no (S1.ld sc32 rfl (.at .z) rfl) ?_
      refine GL.one rfl .no (S1.mv (v := (.slice _ _ _)) rfl) ?_
      refine GL.one rfl .no (S1.len el26 rfl) ?_
      refine GL.opN rfl .no (SN.bs el32 ez32 (.c (v := (.int _ _)) rfl rfl .n) rfl rfl) (fun a5 => ?_)
      refine GL.opN rfl .no (SN.apO ap32_32 rfl (.row rfl (.at .z) rfl) (by omega) (by omega) rfl (.s (.s .z)) (by first | rfl | omega | (rw [ints_len]; omega) | (rw [strs_len]; omega))) (fun a8 => ?_)
      refine GL.one rfl .no (S1.nc rfl) ?_
      refine GL.one rfl .no (S1.fa fa34_0 rfl) ?_
      refine GL.one rfl .no (S1.st (u := (.slice _ _ _)) sc32 rfl rfl rfl (by repeat constructor) (.s (.s .z))) ?_
      refine GL.done rfl ?_
      refine GQ.cutEnd (_, _, _, _, _) ⟨PS.rnA (ns := ns) (x := (n : Int)) rfl, by simp, by simp⟩ (.c rfl (.c rfl (.c rfl .n))) (.cons (.s (.s .z)) (.cons .z .nil))
    · refine GW.toReg rfl ?_
      refine GL.one rfl .no (S1.mv (v := (.pointer _)) rfl) ?_
      refine GL.one rfl .no (S1.mv (v := (.pointer _)) rfl) ?_
      refine GL.one rfl .no (S1.nc rfl) ?_
      refine GL.one rfl .no (S1.fa fa34_0 rfl) ?_
      refine GL.one rfl .no (S1.ld sc32 rfl (.at .z) rfl) ?_
      refine GL.one rfl .no (S1.mv (v := (.slice _ _ _)) rfl) ?_
      refine GL.one rfl .no (S1.len el26 rfl) ?_
      refine GL.opN rfl .no (SN.bs el32 ez32 (.c (v := (.int _ _)) rfl rfl .n) rfl rfl) (fun a9 => ?_)
      refine GL.opN rfl .no (SN.ap0 ap32_32 rfl (.row rfl (.at .z) rfl) (by omega) (by omega)) (fun a12 => ?_)
      refine GL.one rfl .no (S1.nc rfl) ?_
      refine GL.one rfl .no (S1.fa fa34_0 rfl) ?_
      refine GL.one rfl .no (S1.st (u := (.slice _ _ _)) sc32 rfl rfl rfl (by repeat constructor) (.s (.s .z))) ?_
      refine GL.done rfl ?_
      refine GQ.cutEnd (_, _, _, _, _) ⟨PS.rr (ns := [(n : Int)]) (by simp) (by assumption), by simp, by simp⟩ (.c rfl (.c rfl (.c rfl .n))) (.cons (.s (.s .z)) (.cons .z (.cons (.s .z) .nil)))
    · refine GW.toReg rfl ?_
      refine GL.one rfl .no (S1.mv (v := (.pointer _)) rfl) ?_
      refine GL.one rfl .no (S1.mv (v := (.pointer _)) rfl) ?_
      refine GL.one rfl .no (S1.nc rfl) ?_
      refine GL.one rfl .no (S1.fa fa34_0 rfl) ?_
      refine GL.one rfl .no (S1.ld sc32 rfl (.at .z) rfl) ?_
      refine GL.one rfl .no (S1.mv (v := (.slice _ _ _)) rfl) ?_
      refine GL.one rfl .no (S1.len el26 rfl) ?_
      refine GL.opN rfl .no (SN.bs el32 ez32 (.c (v := (.int _ _)) rfl rfl .n) rfl rfl) (fun a13 => ?_)
      refine GL.opN rfl .no (SN.apO ap32_32 rfl (.row rfl (.at .z) rfl) (by omega) (by omega) rfl (.s (.s .z)) (by first | rfl | omega | (rw [ints_len]; omega) | (rw [strs_len]; omega))) (fun a16 => ?_)
      refine GL.one rfl .no (S1.nc rfl) ?_
      refine GL.one rfl .no (S1.fa fa34_0 rfl) ?_
      refine GL.one rfl .no (S1.st (u := (.slice _ _ _)) sc32 rfl rfl rfl (by repeat constructor) (.s (.s .z))) ?_
      refine GL.done rfl ?_
      refine GQ.cutEnd (_, _, _, _, _) ⟨PS.rrA (ns := ns) (x := (n : Int)) (by assumption) rfl rfl, by simp, by simp⟩ (.c rfl (.c rfl (.c rfl .n))) (.cons (.s (.s .z)) (.cons .z (.cons (.s .z) .nil)))
  rintro ⟨vn1, vs1, E1, ns1, ss1⟩ f1 ⟨p1, q1, q2⟩
  refine GW.toSeq rfl ?_
  refine GW.toReg rfl ?_
  refine GL.one rfl .no (S1.as (v := (.int _ _)) rfl) ?_
  refine GL.done rfl ?_
  refine GQ.on ?_
  refine GW.toBlock rfl ?_
  refine GW.toLoop (X := Nat × Value × Value × Ents × List Int × List ByteArray) (fun y => [(0, .pointer (some ⟨hb, 0, none⟩)), (1, .slice a n c), (2, .func (.func g) ⟨[]⟩ ⟨[]⟩), (6, .int .i64 (y.1 : Int))]) (fun y => (hb, .cells [y.2.1, y.2.2.1] none true) :: y.2.2.2.1)
    (fun y => y.1 ≤ n ∧ PS y.2.1 y.2.2.1 y.2.2.2.1 y.2.2.2.2.1 y.2.2.2.2.2 ∧ y.2.2.2.2.1.length ≤ ns.length + 1 + sumTo wn y.1 ∧ y.2.2.2.2.2.length ≤ ss.length + sumTo ws y.1) (fun y => n - y.1) rfl (0, vn1, vs1, E1, ns1, ss1) ⟨Nat.zero_le _, p1, by simpa [sumTo] using q1, by simpa [sumTo] using q2⟩ (.c rfl (.c rfl (.c rfl (.c rfl .n)))) .tz ?_
  rintro ⟨k, vn2, vs2, E2, ns2, ss2⟩ f2 ⟨hk, p2, r1, r2⟩
  simp only at hk p2 r1 r2
  have m1 := sumTo_mono (w := wn) hk
  have m2 := sumTo_mono (w := ws) hk
  refine GW.toSeq rfl ?_
  refine GW.toSeq rfl ?_
  refine GW.toReg rfl ?_
  refine GL.one rfl .no (S1.mv (v := (.int _ _)) rfl) ?_
  refine GL.one rfl .no (S1.mv (v := (.slice _ _ _)) rfl) ?_
  refine GL.one rfl .no (S1.len el26 rfl) ?_
  refine GL.one rfl .no (S1.lss rfl rfl) ?_
  refine GL.done rfl ?_
  refine GQ.on ?_
  refine GW.toD rfl rfl (fun w17 => ?_) (fun w17 => ?_)
  refine GW.toSkip rfl ?_
  refine GQ.on ?_
  refine GW.toSeq rfl ?_
  refine GW.toBlock rfl ?_
  refine GW.toReg rfl ?_
  refine GL.one rfl .no (S1.mv (v := (.func _ _ _)) rfl) ?_
  refine GL.one rfl .no (S1.mv (v := (.pointer _)) rfl) ?_
  refine GL.one rfl .no (S1.mv (v := (.slice _ _ _)) rfl) ?_
  refine GL.one rfl .no (S1.mv (v := (.int _ _)) rfl) ?_
  refine GL.one rfl .no (S1.ixR el26 hc rfl rfl (by omega)) ?_
  refine GL.one rfl .no (S1.ldE ag78 hc rfl (m := (k, vn2, vs2, E2, ns2, ss2).fst) (by omega) rfl le78) ?_
  rotate_left
  refine GW.toExit rfl ?_
  refine GQ.onE ?_
  refine GQ.onE ?_
  refine GQ.outH ?_
  refine GQ.putEnd rfl p2 (by omega) (by omega) .tz
  · have m3 := sumTo_mono (w := wn) (show k + 1 ≤ n by omega)
    have m4 := sumTo_mono (w := ws) (show k + 1 ≤ n by omega)
    simp only [sumTo] at m3 m4
    refine GL.put rfl .no hf (pc k (by omega)) p2 (.cons .z .tz) (by omega) (by omega) (.v (fs := []) (cs := []) rfl (.c rfl (.c rfl .n))) (fun vn3 vs3 E3 ns3 ss3 p3 l3 m3 => ?_)
    refine GL.done rfl ?_
    refine GQ.outN ?_
    refine GQ.on ?_
    refine GW.toReg rfl ?_
    refine GL.one rfl .no (S1.mv (v := (.int _ _)) rfl) ?_
    refine GL.one rfl .no (S1.inc rfl rfl (by omega)) ?_
    refine GL.one rfl .no (S1.as (v := (.int _ _)) rfl) ?_
    refine GL.done rfl ?_
    refine GQ.next (k + 1, vn3, vs3, E3, ns3, ss3) ⟨by simp only; omega, p3, by simp only [sumTo]; omega, by simp only [sumTo]; omega⟩ (by simp only; omega) (.c rfl (.c rfl (.c rfl (.c rfl .n)))) (.cons .z .tz)


theorem ct94 {hr : RO} {x0 : Int} {x1 : Int}  : PutCt Tryz.prog hr 94 [.agg ⟨[.int .i64 x0, .int .i64 x1]⟩] (1 + (1 + 0)) (1 + (1 + 0)) := by
  intro h hb vn vs E ns ss H p l1 l2
  refine Ct.go Tryz.func94 rfl rfl co94 H ?_
  refine GW.toSeq rfl ?_
  refine GW.toReg rfl ?_
  refine GL.opN rfl .no (SN.bx (u := .agg ⟨_⟩) rfl .agg) (fun a1 => ?_)
  refine GL.done rfl ?_
  refine GQ.on ?_
  refine GW.toSeq rfl ?_
  refine GW.toReg rfl ?_
  refine GL.one rfl .no (S1.mv (v := (.pointer _)) rfl) ?_
  refine GL.one rfl .no (S1.fa fa78_0 rfl) ?_
  refine GL.one rfl .no (S1.ld sc3 rfl (.at .z) rfl) ?_
  refine GL.put rfl .no fo8 (ct8) p (.cons (.s .z) (.ts .tz)) (by omega) (by omega) (.d (.c (v := (.pointer _)) rfl (.c (v := (.int _ _)) rfl .n))) (fun vn2 vs2 E2 ns2 ss2 p2 lN2 lS2 => ?_)
  refine GL.done rfl ?_
  refine GQ.on ?_
  refine GW.toReg rfl ?_
  refine GL.one rfl .no (S1.mv (v := (.pointer _)) rfl) ?_
  refine GL.one rfl .no (S1.fa fa78_1 rfl) ?_
  refine GL.one rfl .no (S1.ld sc3 rfl (.at .z) rfl) ?_
  refine GL.put rfl .no fo8 (ct8) p2 (.cons (.s .z) (.ts .tz)) (by omega) (by omega) (.d (.c (v := (.pointer _)) rfl (.c (v := (.int _ _)) rfl .n))) (fun vn3 vs3 E3 ns3 ss3 p3 lN3 lS3 => ?_)
  refine GL.done rfl ?_
  refine GQ.putEnd rfl p3 (by omega) (by omega) (.cons (.s .z) (.ts .tz))


theorem ct63 {hr : RO} {a : Option Addr} {n c : Nat} (hc : Cell hr (.sl wy78) (.slice a n c)) : PutCt Tryz.prog hr 63 [.slice a n c] (bk hr (.sl wy78) (.slice a n c)) (bk hr (.sl wy78) (.slice a n c)) := by
  intro h hb vn vs E ns ss H p l1 l2
  refine Ct.go Tryz.func63 rfl rfl co63 H ?_
  refine GW.toReg rfl ?_
  refine GL.one rfl .no (S1.mv (v := (.pointer _)) rfl) ?_
  refine GL.one rfl .no (S1.mv (v := (.slice _ _ _)) rfl) ?_
  refine GL.put rfl .no fo93 ((ct93 (wn := fun k => bkL hr wy78 a (k * 2) 0) (ws := fun k => bkL hr wy78 a (k * 2) 0) hc fo94 (fun k hk => (ct94 ).le (Nat.le_refl _) (Nat.le_refl _))).le (wN' := bk hr (.sl wy78) (.slice a n c)) (wS' := bk hr (.sl wy78) (.slice a n c)) (Nat.le_refl _) (Nat.le_add_left _ _)) p (.cons .z .tz) (by omega) (by omega) (.d (.c rfl (.c rfl (.c rfl .n)))) (fun vn3 vs3 E3 ns3 ss3 p3 l3 m3 => ?_)
  refine GL.done rfl ?_
  refine GQ.putEnd rfl p3 (by omega) (by omega) (.cons .z .tz)


theorem ct29 {hr : RO} {a0 : Option Addr} {n0 c0 : Nat} {a1 : Option Addr} {n1 c1 : Nat} {x2 : Int} {x3 : Int} {x4 : Int} {x5 : Int} {a6 : Option Addr} {n6 c6 : Nat} (h0 : Cell hr (.sl wy9) (.slice a0 n0 c0)) (h1 : Cell hr (.sl wy74) (.slice a1 n1 c1)) (h6 : Cell hr (.sl wy78) (.slice a6 n6 c6)) : PutCt Tryz.prog hr 29 [.agg ⟨[.slice a0 n0 c0, .slice a1 n1 c1, .int .i64 x2, .int .i64 x3, .int .i64 x4, .int .i64 x5, .slice a6 n6 c6]⟩] (bk hr (.sl wy9) (.slice a0 n0 c0) + (bk hr (.sl wy74) (.slice a1 n1 c1) + (1 + (1 + (1 + (1 + (bk hr (.sl wy78) (.slice a6 n6 c6) + 0))))))) (bk hr (.sl wy9) (.slice a0 n0 c0) + (bk hr (.sl wy74) (.slice a1 n1 c1) + (1 + (1 + (1 + (1 + (bk hr (.sl wy78) (.slice a6 n6 c6) + 0))))))) := by
  intro h hb vn vs E ns ss H p l1 l2
  refine Ct.go Tryz.func29 rfl rfl co29 H ?_
  refine GW.toSeq rfl ?_
  refine GW.toReg rfl ?_
  refine GL.opN rfl .no (SN.bx (u := .agg ⟨_⟩) rfl .agg) (fun a1 => ?_)
  refine GL.done rfl ?_
  refine GQ.on ?_
  refine GW.toSeq rfl ?_
  refine GW.toReg rfl ?_
  refine GL.one rfl .no (S1.mv (v := (.pointer _)) rfl) ?_
  refine GL.one rfl .no (S1.fa fa28_0 rfl) ?_
  refine GL.one rfl .no (S1.ld sc22 rfl (.at .z) rfl) ?_
  refine GL.put rfl .no fo60 (ct60 (by assumption)) p (.cons (.s .z) (.ts .tz)) (by omega) (by omega) (.d (.c (v := (.pointer _)) rfl (.c (v := (.slice _ _ _)) rfl .n))) (fun vn2 vs2 E2 ns2 ss2 p2 lN2 lS2 => ?_)
  refine GL.done rfl ?_
  refine GQ.on ?_
  refine GW.toSeq rfl ?_
  refine GW.toReg rfl ?_
  refine GL.one rfl .no (S1.mv (v := (.pointer _)) rfl) ?_
  refine GL.one rfl .no (S1.fa fa28_1 rfl) ?_
  refine GL.one rfl .no (S1.ld sc23 rfl (.at .z) rfl) ?_
  refine GL.put rfl .no fo61 (ct61 (by assumption)) p2 (.cons (.s .z) (.ts .tz)) (by omega) (by omega) (.d (.c (v := (.pointer _)) rfl (.c (v := (.slice _ _ _)) rfl .n))) (fun vn3 vs3 E3 ns3 ss3 p3 lN3 lS3 => ?_)
  refine GL.done rfl ?_
  refine GQ.on ?_
  refine GW.toSeq rfl ?_
  refine GW.toReg rfl ?_
  refine GL.one rfl .no (S1.mv (v := (.pointer _)) rfl) ?_
  refine GL.one rfl .no (S1.fa fa28_2 rfl) ?_
  refine GL.one rfl .no (S1.ld sc3 rfl (.at .z) rfl) ?_
  refine GL.put rfl .no fo8 (ct8) p3 (.cons (.s .z) (.ts .tz)) (by omega) (by omega) (.d (.c (v := (.pointer _)) rfl (.c (v := (.int _ _)) rfl .n))) (fun vn4 vs4 E4 ns4 ss4 p4 lN4 lS4 => ?_)
  refine GL.done rfl ?_
  refine GQ.on ?_
  refine GW.toSeq rfl ?_
  refine GW.toReg rfl ?_
  refine GL.one rfl .no (S1.mv (v := (.pointer _)) rfl) ?_
  refine GL.one rfl .no (S1.fa fa28_3 rfl) ?_
  refine GL.one rfl .no (S1.ld sc3 rfl (.at .z) rfl) ?_
  refine GL.put rfl .no fo8 (ct8) p4 (.cons (.s .z) (.ts .tz)) (by omega) (by omega) (.d (.c (v := (.pointer _)) rfl (.c (v := (.int _ _)) rfl .n))) (fun vn5 vs5 E5 ns5 ss5 p5 lN5 lS5 => ?_)
  refine GL.done rfl ?_
  refine GQ.on ?_
  refine GW.toSeq rfl ?_
  refine GW.toReg rfl ?_
  refine GL.one rfl .no (S1.mv (v := (.pointer _)) rfl) ?_
  refine GL.one rfl .no (S1.fa fa28_4 rfl) ?_
  refine GL.one rfl .no (S1.ldA ag25 rfl (.at .z) (by repeat constructor)) ?_
  refine GL.put rfl .no fo62 (ct62) p5 (.cons (.s .z) (.ts .tz)) (by omega) (by omega) (.d (.c (v := (.pointer _)) rfl (.c (v := (.agg _)) rfl .n))) (fun vn6 vs6 E6 ns6 ss6 p6 lN6 lS6 => ?_)
  refine GL.done rfl ?_
  refine GQ.on ?_
  refine GW.toReg rfl ?_
  refine GL.one rfl .no (S1.mv (v := (.pointer _)) rfl) ?_
  refine GL.one rfl .no (S1.fa fa28_5 rfl) ?_
  refine GL.one rfl .no (S1.ld sc26 rfl (.at .z) rfl) ?_
  refine GL.put rfl .no fo63 (ct63 (by assumption)) p6 (.cons (.s .z) (.ts .tz)) (by omega) (by omega) (.d (.c (v := (.pointer _)) rfl (.c (v := (.slice _ _ _)) rfl .n))) (fun vn7 vs7 E7 ns7 ss7 p7 lN7 lS7 => ?_)
  refine GL.done rfl ?_
  refine GQ.putEnd rfl p7 (by omega) (by omega) (.cons (.s .z) (.ts .tz))


/-- A list is put. -/
theorem ct64 {hr : RO} {a : Option Addr} {n c g : Nat} {wn ws : Nat → Nat} (hc : Cell hr (.sl wy117) (.slice a n c)) (hf : fnOk Tryz.prog g = true) (pc : ∀ k, k < n → PutCt Tryz.prog hr g [.agg ⟨[.int .i64 (iv (el hr a (k * 11))), .int .i64 (iv (el hr a (k * 11 + 1))), .int .i64 (iv (el hr a (k * 11 + 2))), .int .i64 (iv (el hr a (k * 11 + 3))), .int .i64 (iv (el hr a (k * 11 + 4))), .int .i64 (iv (el hr a (k * 11 + 5))), .int .i64 (iv (el hr a (k * 11 + 6))), .int .i64 (iv (el hr a (k * 11 + 7))), .int .i64 (iv (el hr a (k * 11 + 8))), .int .i64 (iv (el hr a (k * 11 + 9))), .int .i64 (iv (el hr a (k * 11 + 10)))]⟩] (wn k) (ws k)) :
    PutCt Tryz.prog hr 64 [.slice a n c, .func (.func g) ⟨[]⟩ ⟨[]⟩] (1 + sumTo wn n) (sumTo ws n) := by
  intro h hb vn vs E ns ss H p l1 l2
  have hl := hc.le
  refine Ct.go Tryz.func64 rfl rfl co64 H ?_
  refine GW.cut (fun _ => [(0, .pointer (some ⟨hb, 0, none⟩)), (1, .slice a n c), (2, .func (.func g) ⟨[]⟩ ⟨[]⟩)]) (fun y : Value × Value × Ents × List Int × List ByteArray => (hb, .cells [y.1, y.2.1] none true) :: y.2.2.1) (fun y => PS y.1 y.2.1 y.2.2.1 y.2.2.2.1 y.2.2.2.2 ∧ y.2.2.2.1.length ≤ ns.length + 1 ∧ y.2.2.2.2.length ≤ ss.length) rfl ?_ ?_
  · cases p
    · refine GW.toReg rfl ?_
      refine GL.one rfl .no (S1.mv (v := (.pointer _)) rfl) ?_
      refine GL.one rfl .no (S1.mv (v := (.pointer _)) rfl) ?_
      refine GL.one rfl .no (S1.nc rfl) ?_
      refine GL.one rfl .no (S1.fa fa34_0 rfl) ?_
      refine GL.one rfl .no (S1.ld sc32 rfl (.at .z) rfl) ?_
      refine GL.one rfl .no (S1.mv (v := (.slice _ _ _)) rfl) ?_
      refine GL.one rfl .no (S1.len el29 rfl) ?_
      refine GL.opN rfl .no (SN.bs el32 ez32 (.c (v := (.int _ _)) rfl rfl .n) rfl rfl) (fun a1 => ?_)
      refine GL.opN rfl .no (SN.ap0 ap32_32 rfl (.row rfl (.at .z) rfl) (by omega) (by omega)) (fun a4 => ?_)
      refine GL.one rfl .no (S1.nc rfl) ?_
      refine GL.one rfl .no (S1.fa fa34_0 rfl) ?_
      refine GL.one rfl .no (S1.st (u := (.slice _ _ _)) sc32 rfl rfl rfl (by repeat constructor) (.s (.s .z))) ?_
      refine GL.done rfl ?_
      refine GQ.cutEnd (_, _, _, _, _) ⟨PS.rn (ns := [(n : Int)]) (by simp), by simp, by simp⟩ (.c rfl (.c rfl (.c rfl .n))) (.cons (.s (.s .z)) (.cons .z .nil))
    · refine GW.toReg rfl ?_
      refine GL.one rfl .no (S1.mv (v := (.pointer _)) rfl) ?_
      refine GL.one rfl .no (S1.mv (v := (.pointer _)) rfl) ?_
      refine GL.one rfl .no (S1.nc rfl) ?_
      refine GL.one rfl .no (S1.fa fa34_0 rfl) ?_
      refine GL.one rfl .no (S1.ld sc32 rfl (.at .z) rfl) ?_
      refine GL.one rfl .no (S1.mv (v := (.slice _ _ _)) rfl) ?_
      refine GL.one rfl .no (S1.len el29 rfl) ?_
      refine GL.opN rfl .no (SN.bs el32 ez32 (.c (v := (.int _ _)) rfl rfl .n) rfl rfl) (fun a5 => ?_)
      refine GL.opN rfl .no (SN.apO ap32_32 rfl (.row rfl (.at .z) rfl) (by omega) (by omega) rfl (.s (.s .z)) (by first | rfl | omega | (rw [ints_len]; omega) | (rw [strs_len]; omega))) (fun a8 => ?_)
      refine GL.one rfl .no (S1.nc rfl) ?_
      refine GL.one rfl .no (S1.fa fa34_0 rfl) ?_
      refine GL.one rfl .no (S1.st (u := (.slice _ _ _)) sc32 rfl rfl rfl (by repeat constructor) (.s (.s .z))) ?_
      refine GL.done rfl ?_
      refine GQ.cutEnd (_, _, _, _, _) ⟨PS.rnA (ns := ns) (x := (n : Int)) rfl, by simp, by simp⟩ (.c rfl (.c rfl (.c rfl .n))) (.cons (.s (.s .z)) (.cons .z .nil))
    · refine GW.toReg rfl ?_
      refine GL.one rfl .no (S1.mv (v := (.pointer _)) rfl) ?_
      refine GL.one rfl .no (S1.mv (v := (.pointer _)) rfl) ?_
      refine GL.one rfl .no (S1.nc rfl) ?_
      refine GL.one rfl .no (S1.fa fa34_0 rfl) ?_
      refine GL.one rfl .no (S1.ld sc32 rfl (.at .z) rfl) ?_
      refine GL.one rfl .no (S1.mv (v := (.slice _ _ _)) rfl) ?_
      refine GL.one rfl .no (S1.len el29 rfl) ?_
      refine GL.opN rfl .no (SN.bs el32 ez32 (.c (v := (.int _ _)) rfl rfl .n) rfl rfl) (fun a9 => ?_)
      refine GL.opN rfl .no (SN.ap0 ap32_32 rfl (.row rfl (.at .z) rfl) (by omega) (by omega)) (fun a12 => ?_)
      refine GL.one rfl .no (S1.nc rfl) ?_
      refine GL.one rfl .no (S1.fa fa34_0 rfl) ?_
      refine GL.one rfl .no (S1.st (u := (.slice _ _ _)) sc32 rfl rfl rfl (by repeat constructor) (.s (.s .z))) ?_
      refine GL.done rfl ?_
      refine GQ.cutEnd (_, _, _, _, _) ⟨PS.rr (ns := [(n : Int)]) (by simp) (by assumption), by simp, by simp⟩ (.c rfl (.c rfl (.c rfl .n))) (.cons (.s (.s .z)) (.cons .z (.cons (.s .z) .nil)))
    · refine GW.toReg rfl ?_
      refine GL.one rfl .no (S1.mv (v := (.pointer _)) rfl) ?_
      refine GL.one rfl .no (S1.mv (v := (.pointer _)) rfl) ?_
      refine GL.one rfl .no (S1.nc rfl) ?_
      refine GL.one rfl .no (S1.fa fa34_0 rfl) ?_
      refine GL.one rfl .no (S1.ld sc32 rfl (.at .z) rfl) ?_
      refine GL.one rfl .no (S1.mv (v := (.slice _ _ _)) rfl) ?_
      refine GL.one rfl .no (S1.len el29 rfl) ?_
      refine GL.opN rfl .no (SN.bs el32 ez32 (.c (v := (.int _ _)) rfl rfl .n) rfl rfl) (fun a13 => ?_)
      refine GL.opN rfl .no (SN.apO ap32_32 rfl (.row rfl (.at .z) rfl) (by omega) (by omega) rfl (.s (.s .z)) (by first | rfl | omega | (rw [ints_len]; omega) | (rw [strs_len]; omega))) (fun a16 => ?_)
      refine GL.one rfl .no (S1.nc rfl) ?_
      refine GL.one rfl .no (S1.fa fa34_0 rfl) ?_
      refine GL.one rfl .no (S1.st (u := (.slice _ _ _)) sc32 rfl rfl rfl (by repeat constructor) (.s (.s .z))) ?_
      refine GL.done rfl ?_
      refine GQ.cutEnd (_, _, _, _, _) ⟨PS.rrA (ns := ns) (x := (n : Int)) (by assumption) rfl rfl, by simp, by simp⟩ (.c rfl (.c rfl (.c rfl .n))) (.cons (.s (.s .z)) (.cons .z (.cons (.s .z) .nil)))
  rintro ⟨vn1, vs1, E1, ns1, ss1⟩ f1 ⟨p1, q1, q2⟩
  refine GW.toSeq rfl ?_
  refine GW.toReg rfl ?_
  refine GL.one rfl .no (S1.as (v := (.int _ _)) rfl) ?_
  refine GL.done rfl ?_
  refine GQ.on ?_
  refine GW.toBlock rfl ?_
  refine GW.toLoop (X := Nat × Value × Value × Ents × List Int × List ByteArray) (fun y => [(0, .pointer (some ⟨hb, 0, none⟩)), (1, .slice a n c), (2, .func (.func g) ⟨[]⟩ ⟨[]⟩), (6, .int .i64 (y.1 : Int))]) (fun y => (hb, .cells [y.2.1, y.2.2.1] none true) :: y.2.2.2.1)
    (fun y => y.1 ≤ n ∧ PS y.2.1 y.2.2.1 y.2.2.2.1 y.2.2.2.2.1 y.2.2.2.2.2 ∧ y.2.2.2.2.1.length ≤ ns.length + 1 + sumTo wn y.1 ∧ y.2.2.2.2.2.length ≤ ss.length + sumTo ws y.1) (fun y => n - y.1) rfl (0, vn1, vs1, E1, ns1, ss1) ⟨Nat.zero_le _, p1, by simpa [sumTo] using q1, by simpa [sumTo] using q2⟩ (.c rfl (.c rfl (.c rfl (.c rfl .n)))) .tz ?_
  rintro ⟨k, vn2, vs2, E2, ns2, ss2⟩ f2 ⟨hk, p2, r1, r2⟩
  simp only at hk p2 r1 r2
  have m1 := sumTo_mono (w := wn) hk
  have m2 := sumTo_mono (w := ws) hk
  refine GW.toSeq rfl ?_
  refine GW.toSeq rfl ?_
  refine GW.toReg rfl ?_
  refine GL.one rfl .no (S1.mv (v := (.int _ _)) rfl) ?_
  refine GL.one rfl .no (S1.mv (v := (.slice _ _ _)) rfl) ?_
  refine GL.one rfl .no (S1.len el29 rfl) ?_
  refine GL.one rfl .no (S1.lss rfl rfl) ?_
  refine GL.done rfl ?_
  refine GQ.on ?_
  refine GW.toD rfl rfl (fun w17 => ?_) (fun w17 => ?_)
  refine GW.toSkip rfl ?_
  refine GQ.on ?_
  refine GW.toSeq rfl ?_
  refine GW.toBlock rfl ?_
  refine GW.toReg rfl ?_
  refine GL.one rfl .no (S1.mv (v := (.func _ _ _)) rfl) ?_
  refine GL.one rfl .no (S1.mv (v := (.pointer _)) rfl) ?_
  refine GL.one rfl .no (S1.mv (v := (.slice _ _ _)) rfl) ?_
  refine GL.one rfl .no (S1.mv (v := (.int _ _)) rfl) ?_
  refine GL.one rfl .no (S1.ixR el29 hc rfl rfl (by omega)) ?_
  refine GL.one rfl .no (S1.ldE ag117 hc rfl (m := (k, vn2, vs2, E2, ns2, ss2).fst) (by omega) rfl le117) ?_
  rotate_left
  refine GW.toExit rfl ?_
  refine GQ.onE ?_
  refine GQ.onE ?_
  refine GQ.outH ?_
  refine GQ.putEnd rfl p2 (by omega) (by omega) .tz
  · have m3 := sumTo_mono (w := wn) (show k + 1 ≤ n by omega)
    have m4 := sumTo_mono (w := ws) (show k + 1 ≤ n by omega)
    simp only [sumTo] at m3 m4
    refine GL.put rfl .no hf (pc k (by omega)) p2 (.cons .z .tz) (by omega) (by omega) (.v (fs := []) (cs := []) rfl (.c rfl (.c rfl .n))) (fun vn3 vs3 E3 ns3 ss3 p3 l3 m3 => ?_)
    refine GL.done rfl ?_
    refine GQ.outN ?_
    refine GQ.on ?_
    refine GW.toReg rfl ?_
    refine GL.one rfl .no (S1.mv (v := (.int _ _)) rfl) ?_
    refine GL.one rfl .no (S1.inc rfl rfl (by omega)) ?_
    refine GL.one rfl .no (S1.as (v := (.int _ _)) rfl) ?_
    refine GL.done rfl ?_
    refine GQ.next (k + 1, vn3, vs3, E3, ns3, ss3) ⟨by simp only; omega, p3, by simp only [sumTo]; omega, by simp only [sumTo]; omega⟩ (by simp only; omega) (.c rfl (.c rfl (.c rfl (.c rfl .n)))) (.cons .z .tz)


theorem ct65 {hr : RO} {x0 : Int} {x1 : Int} {x2 : Int} {x3 : Int} {x4 : Int} {x5 : Int} {x6 : Int} {x7 : Int} {x8 : Int} {x9 : Int} {x10 : Int}  : PutCt Tryz.prog hr 65 [.agg ⟨[.int .i64 x0, .int .i64 x1, .int .i64 x2, .int .i64 x3, .int .i64 x4, .int .i64 x5, .int .i64 x6, .int .i64 x7, .int .i64 x8, .int .i64 x9, .int .i64 x10]⟩] (1 + (1 + (1 + (1 + (1 + (1 + (1 + (1 + (1 + (1 + (1 + 0))))))))))) (1 + (1 + (1 + (1 + (1 + (1 + (1 + (1 + (1 + (1 + (1 + 0))))))))))) := by
  intro h hb vn vs E ns ss H p l1 l2
  refine Ct.go Tryz.func65 rfl rfl co65 H ?_
  refine GW.toSeq rfl ?_
  refine GW.toReg rfl ?_
  refine GL.opN rfl .no (SN.bx (u := .agg ⟨_⟩) rfl .agg) (fun a1 => ?_)
  refine GL.done rfl ?_
  refine GQ.on ?_
  refine GW.toSeq rfl ?_
  refine GW.toReg rfl ?_
  refine GL.one rfl .no (S1.mv (v := (.pointer _)) rfl) ?_
  refine GL.one rfl .no (S1.fa fa117_0 rfl) ?_
  refine GL.one rfl .no (S1.ld sc3 rfl (.at .z) rfl) ?_
  refine GL.put rfl .no fo8 (ct8) p (.cons (.s .z) (.ts .tz)) (by omega) (by omega) (.d (.c (v := (.pointer _)) rfl (.c (v := (.int _ _)) rfl .n))) (fun vn2 vs2 E2 ns2 ss2 p2 lN2 lS2 => ?_)
  refine GL.done rfl ?_
  refine GQ.on ?_
  refine GW.toSeq rfl ?_
  refine GW.toReg rfl ?_
  refine GL.one rfl .no (S1.mv (v := (.pointer _)) rfl) ?_
  refine GL.one rfl .no (S1.fa fa117_1 rfl) ?_
  refine GL.one rfl .no (S1.ld sc3 rfl (.at .z) rfl) ?_
  refine GL.put rfl .no fo8 (ct8) p2 (.cons (.s .z) (.ts .tz)) (by omega) (by omega) (.d (.c (v := (.pointer _)) rfl (.c (v := (.int _ _)) rfl .n))) (fun vn3 vs3 E3 ns3 ss3 p3 lN3 lS3 => ?_)
  refine GL.done rfl ?_
  refine GQ.on ?_
  refine GW.toSeq rfl ?_
  refine GW.toReg rfl ?_
  refine GL.one rfl .no (S1.mv (v := (.pointer _)) rfl) ?_
  refine GL.one rfl .no (S1.fa fa117_2 rfl) ?_
  refine GL.one rfl .no (S1.ld sc3 rfl (.at .z) rfl) ?_
  refine GL.put rfl .no fo8 (ct8) p3 (.cons (.s .z) (.ts .tz)) (by omega) (by omega) (.d (.c (v := (.pointer _)) rfl (.c (v := (.int _ _)) rfl .n))) (fun vn4 vs4 E4 ns4 ss4 p4 lN4 lS4 => ?_)
  refine GL.done rfl ?_
  refine GQ.on ?_
  refine GW.toSeq rfl ?_
  refine GW.toReg rfl ?_
  refine GL.one rfl .no (S1.mv (v := (.pointer _)) rfl) ?_
  refine GL.one rfl .no (S1.fa fa117_3 rfl) ?_
  refine GL.one rfl .no (S1.ld sc3 rfl (.at .z) rfl) ?_
  refine GL.put rfl .no fo8 (ct8) p4 (.cons (.s .z) (.ts .tz)) (by omega) (by omega) (.d (.c (v := (.pointer _)) rfl (.c (v := (.int _ _)) rfl .n))) (fun vn5 vs5 E5 ns5 ss5 p5 lN5 lS5 => ?_)
  refine GL.done rfl ?_
  refine GQ.on ?_
  refine GW.toSeq rfl ?_
  refine GW.toReg rfl ?_
  refine GL.one rfl .no (S1.mv (v := (.pointer _)) rfl) ?_
  refine GL.one rfl .no (S1.fa fa117_4 rfl) ?_
  refine GL.one rfl .no (S1.ld sc3 rfl (.at .z) rfl) ?_
  refine GL.put rfl .no fo8 (ct8) p5 (.cons (.s .z) (.ts .tz)) (by omega) (by omega) (.d (.c (v := (.pointer _)) rfl (.c (v := (.int _ _)) rfl .n))) (fun vn6 vs6 E6 ns6 ss6 p6 lN6 lS6 => ?_)
  refine GL.done rfl ?_
  refine GQ.on ?_
  refine GW.toSeq rfl ?_
  refine GW.toReg rfl ?_
  refine GL.one rfl .no (S1.mv (v := (.pointer _)) rfl) ?_
  refine GL.one rfl .no (S1.fa fa117_5 rfl) ?_
  refine GL.one rfl .no (S1.ld sc3 rfl (.at .z) rfl) ?_
  refine GL.put rfl .no fo8 (ct8) p6 (.cons (.s .z) (.ts .tz)) (by omega) (by omega) (.d (.c (v := (.pointer _)) rfl (.c (v := (.int _ _)) rfl .n))) (fun vn7 vs7 E7 ns7 ss7 p7 lN7 lS7 => ?_)
  refine GL.done rfl ?_
  refine GQ.on ?_
  refine GW.toSeq rfl ?_
  refine GW.toReg rfl ?_
  refine GL.one rfl .no (S1.mv (v := (.pointer _)) rfl) ?_
  refine GL.one rfl .no (S1.fa fa117_6 rfl) ?_
  refine GL.one rfl .no (S1.ld sc3 rfl (.at .z) rfl) ?_
  refine GL.put rfl .no fo8 (ct8) p7 (.cons (.s .z) (.ts .tz)) (by omega) (by omega) (.d (.c (v := (.pointer _)) rfl (.c (v := (.int _ _)) rfl .n))) (fun vn8 vs8 E8 ns8 ss8 p8 lN8 lS8 => ?_)
  refine GL.done rfl ?_
  refine GQ.on ?_
  refine GW.toSeq rfl ?_
  refine GW.toReg rfl ?_
  refine GL.one rfl .no (S1.mv (v := (.pointer _)) rfl) ?_
  refine GL.one rfl .no (S1.fa fa117_7 rfl) ?_
  refine GL.one rfl .no (S1.ld sc3 rfl (.at .z) rfl) ?_
  refine GL.put rfl .no fo8 (ct8) p8 (.cons (.s .z) (.ts .tz)) (by omega) (by omega) (.d (.c (v := (.pointer _)) rfl (.c (v := (.int _ _)) rfl .n))) (fun vn9 vs9 E9 ns9 ss9 p9 lN9 lS9 => ?_)
  refine GL.done rfl ?_
  refine GQ.on ?_
  refine GW.toSeq rfl ?_
  refine GW.toReg rfl ?_
  refine GL.one rfl .no (S1.mv (v := (.pointer _)) rfl) ?_
  refine GL.one rfl .no (S1.fa fa117_8 rfl) ?_
  refine GL.one rfl .no (S1.ld sc3 rfl (.at .z) rfl) ?_
  refine GL.put rfl .no fo8 (ct8) p9 (.cons (.s .z) (.ts .tz)) (by omega) (by omega) (.d (.c (v := (.pointer _)) rfl (.c (v := (.int _ _)) rfl .n))) (fun vn10 vs10 E10 ns10 ss10 p10 lN10 lS10 => ?_)
  refine GL.done rfl ?_
  refine GQ.on ?_
  refine GW.toSeq rfl ?_
  refine GW.toReg rfl ?_
  refine GL.one rfl .no (S1.mv (v := (.pointer _)) rfl) ?_
  refine GL.one rfl .no (S1.fa fa117_9 rfl) ?_
  refine GL.one rfl .no (S1.ld sc3 rfl (.at .z) rfl) ?_
  refine GL.put rfl .no fo8 (ct8) p10 (.cons (.s .z) (.ts .tz)) (by omega) (by omega) (.d (.c (v := (.pointer _)) rfl (.c (v := (.int _ _)) rfl .n))) (fun vn11 vs11 E11 ns11 ss11 p11 lN11 lS11 => ?_)
  refine GL.done rfl ?_
  refine GQ.on ?_
  refine GW.toReg rfl ?_
  refine GL.one rfl .no (S1.mv (v := (.pointer _)) rfl) ?_
  refine GL.one rfl .no (S1.fa fa117_10 rfl) ?_
  refine GL.one rfl .no (S1.ld sc3 rfl (.at .z) rfl) ?_
  refine GL.put rfl .no fo8 (ct8) p11 (.cons (.s .z) (.ts .tz)) (by omega) (by omega) (.d (.c (v := (.pointer _)) rfl (.c (v := (.int _ _)) rfl .n))) (fun vn12 vs12 E12 ns12 ss12 p12 lN12 lS12 => ?_)
  refine GL.done rfl ?_
  refine GQ.putEnd rfl p12 (by omega) (by omega) (.cons (.s .z) (.ts .tz))


theorem ct30 {hr : RO} {a : Option Addr} {n c : Nat} (hc : Cell hr (.sl wy117) (.slice a n c)) : PutCt Tryz.prog hr 30 [.slice a n c] (bk hr (.sl wy117) (.slice a n c)) (bk hr (.sl wy117) (.slice a n c)) := by
  intro h hb vn vs E ns ss H p l1 l2
  refine Ct.go Tryz.func30 rfl rfl co30 H ?_
  refine GW.toReg rfl ?_
  refine GL.one rfl .no (S1.mv (v := (.pointer _)) rfl) ?_
  refine GL.one rfl .no (S1.mv (v := (.slice _ _ _)) rfl) ?_
  refine GL.put rfl .no fo64 ((ct64 (wn := fun k => bkL hr wy117 a (k * 11) 0) (ws := fun k => bkL hr wy117 a (k * 11) 0) hc fo65 (fun k hk => (ct65 ).le (Nat.le_refl _) (Nat.le_refl _))).le (wN' := bk hr (.sl wy117) (.slice a n c)) (wS' := bk hr (.sl wy117) (.slice a n c)) (Nat.le_refl _) (Nat.le_add_left _ _)) p (.cons .z .tz) (by omega) (by omega) (.d (.c rfl (.c rfl (.c rfl .n)))) (fun vn3 vs3 E3 ns3 ss3 p3 l3 m3 => ?_)
  refine GL.done rfl ?_
  refine GQ.putEnd rfl p3 (by omega) (by omega) (.cons .z .tz)


/-- The arguments' cells. -/
abbrev xsB (a0 : Option Addr) (n0 c0 : Nat) (a1 : Option Addr) (n1 c1 : Nat) (x2 : Int) (x3 : Int) (x4 : Int) (x5 : Int) (a6 : Option Addr) (n6 c6 : Nat) (x7 : Int) (x8 : Int) (a9 : Option Addr) (n9 c9 : Nat) (x10 : Int) (x11 : Int) (x12 : Int) : List Value := [.slice a0 n0 c0, .slice a1 n1 c1, .int .i64 x2, .int .i64 x3, .int .i64 x4, .int .i64 x5, .slice a6 n6 c6, .int .i64 x7, .int .i64 x8, .slice a9 n9 c9, .int .i64 x10, .int .i64 x11, .int .i64 x12]

theorem ctAll {hr : RO} {a0 : Option Addr} {n0 c0 : Nat} {a1 : Option Addr} {n1 c1 : Nat} {x2 : Int} {x3 : Int} {x4 : Int} {x5 : Int} {a6 : Option Addr} {n6 c6 : Nat} {x7 : Int} {x8 : Int} {a9 : Option Addr} {n9 c9 : Nat} {x10 : Int} {x11 : Int} {x12 : Int} (h0 : Cell hr (.sl wy9) (.slice a0 n0 c0)) (h1 : Cell hr (.sl wy74) (.slice a1 n1 c1)) (h6 : Cell hr (.sl wy78) (.slice a6 n6 c6)) (h9 : Cell hr (.sl wy117) (.slice a9 n9 c9)) {h : EH} {hb : Nat} (H : Hp hr h [hb] [(hb, .cells zero2 none true)] h) (l1 : bk hr (.sl wy9) (.slice a0 n0 c0) + (bk hr (.sl wy74) (.slice a1 n1 c1) + (1 + (1 + (1 + (1 + (bk hr (.sl wy78) (.slice a6 n6 c6) + (1 + (1 + (bk hr (.sl wy117) (.slice a9 n9 c9) + (1 + (1 + (1 + 0)))))))))))) ≤ 1073741824) :
    Ct Tryz.prog 4 ⟨[.agg ⟨xsB a0 n0 c0 a1 n1 c1 x2 x3 x4 x5 a6 n6 c6 x7 x8 a9 n9 c9 x10 x11 x12⟩] ++ [.pointer (some ⟨hb, 0, none⟩)]⟩ h [hb] (fun _ : Value × Value × Ents × List Int × List ByteArray => .tuple #[])
      (fun y => PS y.1 y.2.1 y.2.2.1 y.2.2.2.1 y.2.2.2.2 ∧ y.2.2.2.1.length ≤ ([] : List Int).length + (bk hr (.sl wy9) (.slice a0 n0 c0) + (bk hr (.sl wy74) (.slice a1 n1 c1) + (1 + (1 + (1 + (1 + (bk hr (.sl wy78) (.slice a6 n6 c6) + (1 + (1 + (bk hr (.sl wy117) (.slice a9 n9 c9) + (1 + (1 + (1 + 0))))))))))))) ∧ y.2.2.2.2.length ≤ ([] : List ByteArray).length + (bk hr (.sl wy9) (.slice a0 n0 c0) + (bk hr (.sl wy74) (.slice a1 n1 c1) + (1 + (1 + (1 + (1 + (bk hr (.sl wy78) (.slice a6 n6 c6) + (1 + (1 + (bk hr (.sl wy117) (.slice a9 n9 c9) + (1 + (1 + (1 + 0)))))))))))))) (fun y => (hb, .cells [y.1, y.2.1] none true) :: y.2.2.1) := by
  have p := PS.nn
  have e0 : ([] : List Int).length = 0 := rfl
  have e1 : ([] : List ByteArray).length = 0 := rfl
  refine Ct.go Tryz.func4 rfl rfl co4 H ?_
  refine GW.toSeq rfl ?_
  refine GW.toReg rfl ?_
  refine GL.opN rfl .no (SN.bx (u := .agg ⟨_⟩) rfl .agg) (fun a1 => ?_)
  refine GL.done rfl ?_
  refine GQ.on ?_
  refine GW.toSeq rfl ?_
  refine GW.toReg rfl ?_
  refine GL.one rfl .no (S1.mv (v := (.pointer _)) rfl) ?_
  refine GL.one rfl .no (S1.fa fa31_0 rfl) ?_
  refine GL.one rfl .no (S1.ldA ag28 rfl (.at .z) (by repeat constructor)) ?_
  refine GL.put rfl .no fo29 (ct29 (by assumption) (by assumption) (by assumption)) p (.cons (.s .z) .nil) (by omega) (by omega) (.d (.c (v := (.pointer _)) rfl (.c (v := (.agg _)) rfl .n))) (fun vn2 vs2 E2 ns2 ss2 p2 lN2 lS2 => ?_)
  refine GL.done rfl ?_
  refine GQ.on ?_
  refine GW.toSeq rfl ?_
  refine GW.toReg rfl ?_
  refine GL.one rfl .no (S1.mv (v := (.pointer _)) rfl) ?_
  refine GL.one rfl .no (S1.fa fa31_1 rfl) ?_
  refine GL.one rfl .no (S1.ld sc3 rfl (.at .z) rfl) ?_
  refine GL.put rfl .no fo8 (ct8) p2 (.cons (.s .z) (.ts .tz)) (by omega) (by omega) (.d (.c (v := (.pointer _)) rfl (.c (v := (.int _ _)) rfl .n))) (fun vn3 vs3 E3 ns3 ss3 p3 lN3 lS3 => ?_)
  refine GL.done rfl ?_
  refine GQ.on ?_
  refine GW.toSeq rfl ?_
  refine GW.toReg rfl ?_
  refine GL.one rfl .no (S1.mv (v := (.pointer _)) rfl) ?_
  refine GL.one rfl .no (S1.fa fa31_2 rfl) ?_
  refine GL.one rfl .no (S1.ld sc3 rfl (.at .z) rfl) ?_
  refine GL.put rfl .no fo8 (ct8) p3 (.cons (.s .z) (.ts .tz)) (by omega) (by omega) (.d (.c (v := (.pointer _)) rfl (.c (v := (.int _ _)) rfl .n))) (fun vn4 vs4 E4 ns4 ss4 p4 lN4 lS4 => ?_)
  refine GL.done rfl ?_
  refine GQ.on ?_
  refine GW.toSeq rfl ?_
  refine GW.toReg rfl ?_
  refine GL.one rfl .no (S1.mv (v := (.pointer _)) rfl) ?_
  refine GL.one rfl .no (S1.fa fa31_3 rfl) ?_
  refine GL.one rfl .no (S1.ld sc29 rfl (.at .z) rfl) ?_
  refine GL.put rfl .no fo30 (ct30 (by assumption)) p4 (.cons (.s .z) (.ts .tz)) (by omega) (by omega) (.d (.c (v := (.pointer _)) rfl (.c (v := (.slice _ _ _)) rfl .n))) (fun vn5 vs5 E5 ns5 ss5 p5 lN5 lS5 => ?_)
  refine GL.done rfl ?_
  refine GQ.on ?_
  refine GW.toSeq rfl ?_
  refine GW.toReg rfl ?_
  refine GL.one rfl .no (S1.mv (v := (.pointer _)) rfl) ?_
  refine GL.one rfl .no (S1.fa fa31_4 rfl) ?_
  refine GL.one rfl .no (S1.ld sc3 rfl (.at .z) rfl) ?_
  refine GL.put rfl .no fo8 (ct8) p5 (.cons (.s .z) (.ts .tz)) (by omega) (by omega) (.d (.c (v := (.pointer _)) rfl (.c (v := (.int _ _)) rfl .n))) (fun vn6 vs6 E6 ns6 ss6 p6 lN6 lS6 => ?_)
  refine GL.done rfl ?_
  refine GQ.on ?_
  refine GW.toSeq rfl ?_
  refine GW.toReg rfl ?_
  refine GL.one rfl .no (S1.mv (v := (.pointer _)) rfl) ?_
  refine GL.one rfl .no (S1.fa fa31_5 rfl) ?_
  refine GL.one rfl .no (S1.ld sc3 rfl (.at .z) rfl) ?_
  refine GL.put rfl .no fo8 (ct8) p6 (.cons (.s .z) (.ts .tz)) (by omega) (by omega) (.d (.c (v := (.pointer _)) rfl (.c (v := (.int _ _)) rfl .n))) (fun vn7 vs7 E7 ns7 ss7 p7 lN7 lS7 => ?_)
  refine GL.done rfl ?_
  refine GQ.on ?_
  refine GW.toReg rfl ?_
  refine GL.one rfl .no (S1.mv (v := (.pointer _)) rfl) ?_
  refine GL.one rfl .no (S1.fa fa31_6 rfl) ?_
  refine GL.one rfl .no (S1.ld sc3 rfl (.at .z) rfl) ?_
  refine GL.put rfl .no fo8 (ct8) p7 (.cons (.s .z) (.ts .tz)) (by omega) (by omega) (.d (.c (v := (.pointer _)) rfl (.c (v := (.int _ _)) rfl .n))) (fun vn8 vs8 E8 ns8 ss8 p8 lN8 lS8 => ?_)
  refine GL.done rfl ?_
  refine GQ.putEnd rfl p8 (by omega) (by omega) (.cons (.s .z) (.ts .tz))


/-- A row is written over. -/
theorem cw41 : WipR Tryz.prog 41 wy38 := by
  intro h v E m w hO hf hw H
  refine Ct.go Tryz.func41 rfl rfl co41 H ?_
  cases hO with
  | nil =>
    refine GW.toSeq rfl ?_
    refine GW.toReg rfl ?_
    refine GL.one rfl .no (S1.as (v := (.int _ _)) rfl) ?_
    refine GL.done rfl ?_
    refine GQ.on ?_
    refine GW.toBlock rfl ?_
    refine GW.toLoop (X := Unit) (fun _ => [(0, nilS), (1, .func (.func w) ⟨[]⟩ ⟨[]⟩), (4, .int .i64 0)]) (fun _ => []) (fun _ => True) (fun _ => 0) rfl () trivial (.c rfl (.c rfl (.c rfl .n))) .nil ?_
    rintro ⟨⟩ f _
    refine GW.toSeq rfl ?_
    refine GW.toSeq rfl ?_
    refine GW.toReg rfl ?_
    refine GL.one rfl .no (S1.mv (v := (.int _ _)) rfl) ?_
    refine GL.one rfl .no (S1.mv (v := (.slice _ _ _)) rfl) ?_
    refine GL.one rfl .no (S1.len el46 rfl) ?_
    refine GL.one rfl .no (S1.lss rfl rfl) ?_
    refine GL.done rfl ?_
    refine GQ.on ?_
    refine GW.toF rfl rfl ?_
    refine GW.toExit rfl ?_
    refine GQ.onE ?_
    refine GQ.onE ?_
    refine GQ.outH ?_
    refine GQ.retN [] .nil .z rfl ?_ .nil
    exact .nil
  | @row r m vs opn hl hm ho ht =>
    refine GW.toSeq rfl ?_
    refine GW.toReg rfl ?_
    refine GL.one rfl .no (S1.as (v := (.int _ _)) rfl) ?_
    refine GL.done rfl ?_
    refine GQ.on ?_
    refine GW.toBlock rfl ?_
    refine GW.toLoop (X := Nat × List Value) (fun x => [(0, rowS r m), (1, .func (.func w) ⟨[]⟩ ⟨[]⟩), (4, .int .i64 x.1)]) (fun x => [(r, .cells x.2 opn true)]) (fun x => x.1 ≤ m ∧ x.2.length = m * 1 ∧ RowT wy38 x.2) (fun x => m - x.1) rfl (0, vs) ⟨Nat.zero_le _, hl, ht⟩ (.c rfl (.c rfl (.c rfl .n))) .tz ?_
    rintro ⟨k, us⟩ f ⟨hk, hl2, ht2⟩
    simp only at hk hl2 ht2
    refine GW.toSeq rfl ?_
    refine GW.toSeq rfl ?_
    refine GW.toReg rfl ?_
    refine GL.one rfl .no (S1.mv (v := (.int _ _)) rfl) ?_
    refine GL.one rfl .no (S1.mv (v := (.slice _ _ _)) rfl) ?_
    refine GL.one rfl .no (S1.len el46 rfl) ?_
    refine GL.one rfl .no (S1.lss rfl rfl) ?_
    refine GL.done rfl ?_
    refine GQ.on ?_
    refine GW.toD rfl rfl (fun w1 => ?_) (fun w1 => ?_)
    refine GW.toSkip rfl ?_
    refine GQ.on ?_
    refine GW.toSeq rfl ?_
    refine GW.toBlock rfl ?_
    refine GW.toReg rfl ?_
    refine GL.one rfl .no (S1.mv (v := (.func _ _ _)) rfl) ?_
    refine GL.one rfl .no (S1.mv (v := (.slice _ _ _)) rfl) ?_
    refine GL.one rfl .no (S1.mv (v := (.int _ _)) rfl) ?_
    refine GL.one rfl .no (S1.ixN el46 rfl rfl (by omega)) ?_
    rotate_left
    refine GW.toExit rfl ?_
    refine GQ.onE ?_
    refine GQ.onE ?_
    refine GQ.outH ?_
    refine GQ.retN [(r, .cells us opn true)] .nil .z rfl ?_ .tz
    exact .row hl2 hm ho ht2
    refine GL.call rfl .no hf (ps := [(r, .cells us opn true)]) .tz (fun h' H' => hw h' r m k _ us opn hl2 (by omega) ht2 (Nat.zero_add _) (H'.give (ps := [(r, .cells us opn true)]) .tz)) (.v (fs := []) (cs := []) rfl (.c (v := .pointer _) rfl .n)) (fun us' ⟨q1, q2⟩ => ?_)
    refine GL.done rfl ?_
    refine GQ.outN ?_
    refine GQ.on ?_
    refine GW.toReg rfl ?_
    refine GL.one rfl .no (S1.mv (v := (.int _ _)) rfl) ?_
    refine GL.one rfl .no (S1.inc rfl rfl (by omega)) ?_
    refine GL.one rfl .no (S1.as (v := (.int _ _)) rfl) ?_
    refine GL.done rfl ?_
    refine GQ.next (k + 1, us') ⟨by simp only; omega, by simp only; omega, q2⟩ (by simp only; omega) (.c rfl (.c rfl (.c rfl .n))) (.cons .z .nil)


theorem cw42 {h : EH} {r o : Nat} {vs : List Value} {opn : Option Nat} (ho : o < vs.length) (H : Hp (fun _ => none) h [r] [(r, .cells vs opn true)] h) :
    Ct Tryz.prog 42 ⟨[.pointer (some ⟨r, o, none⟩)]⟩ h [r] (fun _ : Unit => .tuple #[]) (fun _ => True) (fun _ => [(r, .cells (vs.set o (.int .i64 77)) opn true)]) := by
  refine Ct.go Tryz.func42 rfl rfl co42 H ?_
  refine GW.toReg rfl ?_
  refine GL.one rfl .no (S1.mv (v := (.pointer _)) rfl) ?_
  refine GL.one rfl .no (S1.nc rfl) ?_
  refine GL.one rfl .no (S1.stV sc38 rfl rfl rfl (by omega) .z) ?_
  refine GL.done rfl ?_
  refine GQ.retN () .nil .z ?_ ?_ (.cons .z .nil)
  rfl
  exact trivial

theorem we42 : WipE Tryz.prog 42 wy38 := by
  intro h r m i o vs opn hl hi ht ho H
  have hl' : vs.length = m * 1 := hl
  subst ho
  refine (cw42 (o := i * wy38.length) (by show i * 1 < _; omega) H).mono fun _ _ => ⟨_, rfl, ⟨List.length_set .., RowT.set0 rfl (.int (by simp)) ht⟩, rfl⟩


/-- A list in a box is written over. -/
theorem cw18 : WipL Tryz.prog 18 wy38 := by
  intro h b o bs v E m hv hO H
  obtain ⟨a, rfl⟩ := hO.eta
  refine Ct.go Tryz.func18 rfl rfl co18 H ?_
  refine GW.toReg rfl ?_
  refine GL.one rfl .no (S1.mv (v := (.pointer _)) rfl) ?_
  refine GL.one rfl .no (S1.nc rfl) ?_
  refine GL.one rfl .no (S1.ld sc46 rfl (.at .z) (hv)) ?_
  refine GL.call rfl .no fo41 (ps := E) (.ts .tz) (fun h' H' => cw41 h' _ E m _ hO fo42 we42 (H'.give (ps := E) (.ts .tz))) (.d (.c rfl (.c rfl .n))) (fun E' q => ?_)
  refine GL.done rfl ?_
  refine GQ.retN _ .nil .z rfl ?_ (.cons (.sA .z) .tz)
  (simp [*]; done)


/-- A row is written over. -/
theorem cw80 : WipR Tryz.prog 80 wy102 := by
  intro h v E m w hO hf hw H
  refine Ct.go Tryz.func80 rfl rfl co80 H ?_
  cases hO with
  | nil =>
    refine GW.toSeq rfl ?_
    refine GW.toReg rfl ?_
    refine GL.one rfl .no (S1.as (v := (.int _ _)) rfl) ?_
    refine GL.done rfl ?_
    refine GQ.on ?_
    refine GW.toBlock rfl ?_
    refine GW.toLoop (X := Unit) (fun _ => [(0, nilS), (1, .func (.func w) ⟨[]⟩ ⟨[]⟩), (4, .int .i64 0)]) (fun _ => []) (fun _ => True) (fun _ => 0) rfl () trivial (.c rfl (.c rfl (.c rfl .n))) .nil ?_
    rintro ⟨⟩ f _
    refine GW.toSeq rfl ?_
    refine GW.toSeq rfl ?_
    refine GW.toReg rfl ?_
    refine GL.one rfl .no (S1.mv (v := (.int _ _)) rfl) ?_
    refine GL.one rfl .no (S1.mv (v := (.slice _ _ _)) rfl) ?_
    refine GL.one rfl .no (S1.len el47 rfl) ?_
    refine GL.one rfl .no (S1.lss rfl rfl) ?_
    refine GL.done rfl ?_
    refine GQ.on ?_
    refine GW.toF rfl rfl ?_
    refine GW.toExit rfl ?_
    refine GQ.onE ?_
    refine GQ.onE ?_
    refine GQ.outH ?_
    refine GQ.retN [] .nil .z rfl ?_ .nil
    exact .nil
  | @row r m vs opn hl hm ho ht =>
    refine GW.toSeq rfl ?_
    refine GW.toReg rfl ?_
    refine GL.one rfl .no (S1.as (v := (.int _ _)) rfl) ?_
    refine GL.done rfl ?_
    refine GQ.on ?_
    refine GW.toBlock rfl ?_
    refine GW.toLoop (X := Nat × List Value) (fun x => [(0, rowS r m), (1, .func (.func w) ⟨[]⟩ ⟨[]⟩), (4, .int .i64 x.1)]) (fun x => [(r, .cells x.2 opn true)]) (fun x => x.1 ≤ m ∧ x.2.length = m * 5 ∧ RowT wy102 x.2) (fun x => m - x.1) rfl (0, vs) ⟨Nat.zero_le _, hl, ht⟩ (.c rfl (.c rfl (.c rfl .n))) .tz ?_
    rintro ⟨k, us⟩ f ⟨hk, hl2, ht2⟩
    simp only at hk hl2 ht2
    refine GW.toSeq rfl ?_
    refine GW.toSeq rfl ?_
    refine GW.toReg rfl ?_
    refine GL.one rfl .no (S1.mv (v := (.int _ _)) rfl) ?_
    refine GL.one rfl .no (S1.mv (v := (.slice _ _ _)) rfl) ?_
    refine GL.one rfl .no (S1.len el47 rfl) ?_
    refine GL.one rfl .no (S1.lss rfl rfl) ?_
    refine GL.done rfl ?_
    refine GQ.on ?_
    refine GW.toD rfl rfl (fun w1 => ?_) (fun w1 => ?_)
    refine GW.toSkip rfl ?_
    refine GQ.on ?_
    refine GW.toSeq rfl ?_
    refine GW.toBlock rfl ?_
    refine GW.toReg rfl ?_
    refine GL.one rfl .no (S1.mv (v := (.func _ _ _)) rfl) ?_
    refine GL.one rfl .no (S1.mv (v := (.slice _ _ _)) rfl) ?_
    refine GL.one rfl .no (S1.mv (v := (.int _ _)) rfl) ?_
    refine GL.one rfl .no (S1.ixN el47 rfl rfl (by omega)) ?_
    rotate_left
    refine GW.toExit rfl ?_
    refine GQ.onE ?_
    refine GQ.onE ?_
    refine GQ.outH ?_
    refine GQ.retN [(r, .cells us opn true)] .nil .z rfl ?_ .tz
    exact .row hl2 hm ho ht2
    refine GL.call rfl .no hf (ps := [(r, .cells us opn true)]) .tz (fun h' H' => hw h' r m k _ us opn hl2 (by omega) ht2 (Nat.zero_add _) (H'.give (ps := [(r, .cells us opn true)]) .tz)) (.v (fs := []) (cs := []) rfl (.c (v := .pointer _) rfl .n)) (fun us' ⟨q1, q2⟩ => ?_)
    refine GL.done rfl ?_
    refine GQ.outN ?_
    refine GQ.on ?_
    refine GW.toReg rfl ?_
    refine GL.one rfl .no (S1.mv (v := (.int _ _)) rfl) ?_
    refine GL.one rfl .no (S1.inc rfl rfl (by omega)) ?_
    refine GL.one rfl .no (S1.as (v := (.int _ _)) rfl) ?_
    refine GL.done rfl ?_
    refine GQ.next (k + 1, us') ⟨by simp only; omega, by simp only; omega, q2⟩ (by simp only; omega) (.c rfl (.c rfl (.c rfl .n))) (.cons .z .nil)


theorem cw83 {h : EH} {r o : Nat} {vs : List Value} {opn : Option Nat} (ho : o < vs.length) (H : Hp (fun _ => none) h [r] [(r, .cells vs opn true)] h) :
    Ct Tryz.prog 83 ⟨[.pointer (some ⟨r, o, none⟩)]⟩ h [r] (fun _ : Unit => .tuple #[]) (fun _ => True) (fun _ => [(r, .cells (vs.set o (.int .i64 (-77))) opn true)]) := by
  refine Ct.go Tryz.func83 rfl rfl co83 H ?_
  refine GW.toReg rfl ?_
  refine GL.one rfl .no (S1.mv (v := (.pointer _)) rfl) ?_
  refine GL.one rfl .no (S1.nc rfl) ?_
  refine GL.one rfl .no (S1.stV sc3 rfl rfl rfl (by omega) .z) ?_
  refine GL.done rfl ?_
  refine GQ.retN () .nil .z ?_ ?_ (.cons .z .nil)
  rfl
  exact trivial

theorem we83 : WipE Tryz.prog 83 wy3 := by
  intro h r m i o vs opn hl hi ht ho H
  have hl' : vs.length = m * 1 := hl
  subst ho
  refine (cw83 (o := i * wy3.length) (by show i * 1 < _; omega) H).mono fun _ _ => ⟨_, rfl, ⟨List.length_set .., RowT.set0 rfl (.int (by simp)) ht⟩, rfl⟩


theorem we81 : WipE Tryz.prog 81 wy102 := by
  intro h r m i o vs opn hl hi ht ho H
  have hl' : vs.length = m * 5 := hl
  have hq : o = i * 5 := ho
  have hk : o + 5 ≤ vs.length := by
    have : i * 5 + 5 ≤ m * 5 := by omega
    omega
  refine Ct.go Tryz.func81 rfl rfl co81 H ?_
  subst ho
  refine GW.toSeq rfl ?_
  refine GW.toReg rfl ?_
  refine GL.one rfl .no (S1.mv (v := (.pointer _)) rfl) ?_
  refine GL.one rfl .no (S1.nc rfl) ?_
  refine GL.one rfl .no (S1.fa fa102_0 rfl) ?_
  refine GL.call rfl .no fo83 (show Take _ [(r, _)] _ from .tz) (fun h H => cw83 (by first | omega | (simp only [List.length_set]; omega)) (H.give (show Take _ [(r, _)] _ from .tz))) (.d (.c (v := (.pointer _)) rfl .n)) (fun _ _ => ?_)
  refine GL.done rfl ?_
  refine GQ.on ?_
  refine GW.toSeq rfl ?_
  refine GW.toReg rfl ?_
  refine GL.one rfl .no (S1.mv (v := (.pointer _)) rfl) ?_
  refine GL.one rfl .no (S1.nc rfl) ?_
  refine GL.one rfl .no (S1.fa fa102_1 rfl) ?_
  refine GL.call rfl .no fo83 (show Take _ [(r, _)] _ from (.cons .z .nil)) (fun h H => cw83 (by first | omega | (simp only [List.length_set]; omega)) (H.give (show Take _ [(r, _)] _ from (.cons .z .nil)))) (.d (.c (v := (.pointer _)) rfl .n)) (fun _ _ => ?_)
  refine GL.done rfl ?_
  refine GQ.on ?_
  refine GW.toSeq rfl ?_
  refine GW.toReg rfl ?_
  refine GL.one rfl .no (S1.mv (v := (.pointer _)) rfl) ?_
  refine GL.one rfl .no (S1.nc rfl) ?_
  refine GL.one rfl .no (S1.fa fa102_2 rfl) ?_
  refine GL.call rfl .no fo83 (show Take _ [(r, _)] _ from (.cons .z .nil)) (fun h H => cw83 (by first | omega | (simp only [List.length_set]; omega)) (H.give (show Take _ [(r, _)] _ from (.cons .z .nil)))) (.d (.c (v := (.pointer _)) rfl .n)) (fun _ _ => ?_)
  refine GL.done rfl ?_
  refine GQ.on ?_
  refine GW.toSeq rfl ?_
  refine GW.toReg rfl ?_
  refine GL.one rfl .no (S1.mv (v := (.pointer _)) rfl) ?_
  refine GL.one rfl .no (S1.nc rfl) ?_
  refine GL.one rfl .no (S1.fa fa102_3 rfl) ?_
  refine GL.call rfl .no fo83 (show Take _ [(r, _)] _ from (.cons .z .nil)) (fun h H => cw83 (by first | omega | (simp only [List.length_set]; omega)) (H.give (show Take _ [(r, _)] _ from (.cons .z .nil)))) (.d (.c (v := (.pointer _)) rfl .n)) (fun _ _ => ?_)
  refine GL.done rfl ?_
  refine GQ.on ?_
  refine GW.toReg rfl ?_
  refine GL.one rfl .no (S1.mv (v := (.pointer _)) rfl) ?_
  refine GL.one rfl .no (S1.nc rfl) ?_
  refine GL.one rfl .no (S1.fa fa102_4 rfl) ?_
  refine GL.call rfl .no fo83 (show Take _ [(r, _)] _ from (.cons .z .nil)) (fun h H => cw83 (by first | omega | (simp only [List.length_set]; omega)) (H.give (show Take _ [(r, _)] _ from (.cons .z .nil)))) (.d (.c (v := (.pointer _)) rfl .n)) (fun _ _ => ?_)
  refine GL.done rfl ?_
  refine GQ.retN (((((vs.set (i * wy102.length) (.int .i64 (-77))).set (i * wy102.length + 1) (.int .i64 (-77))).set (i * wy102.length + 2) (.int .i64 (-77))).set (i * wy102.length + 3) (.int .i64 (-77))).set (i * wy102.length + 4) (.int .i64 (-77))) .nil .z rfl ?_ (.cons .z .nil)
  exact ⟨by simp only [List.length_set], (.set (d := 4) rfl (.int (by simp)) (.set (d := 3) rfl (.int (by simp)) (.set (d := 2) rfl (.int (by simp)) (.set (d := 1) rfl (.int (by simp)) (.set0 rfl (.int (by simp)) ht)))))⟩


/-- A list in a box is written over. -/
theorem cw43 : WipL Tryz.prog 43 wy102 := by
  intro h b o bs v E m hv hO H
  obtain ⟨a, rfl⟩ := hO.eta
  refine Ct.go Tryz.func43 rfl rfl co43 H ?_
  refine GW.toReg rfl ?_
  refine GL.one rfl .no (S1.mv (v := (.pointer _)) rfl) ?_
  refine GL.one rfl .no (S1.nc rfl) ?_
  refine GL.one rfl .no (S1.ld sc47 rfl (.at .z) (hv)) ?_
  refine GL.call rfl .no fo80 (ps := E) (.ts .tz) (fun h' H' => cw80 h' _ E m _ hO fo81 we81 (H'.give (ps := E) (.ts .tz))) (.d (.c rfl (.c rfl .n))) (fun E' q => ?_)
  refine GL.done rfl ?_
  refine GQ.retN _ .nil .z rfl ?_ (.cons (.sA .z) .tz)
  (simp [*]; done)


/-- A row is written over. -/
theorem cw82 : WipR Tryz.prog 82 wy3 := by
  intro h v E m w hO hf hw H
  refine Ct.go Tryz.func82 rfl rfl co82 H ?_
  cases hO with
  | nil =>
    refine GW.toSeq rfl ?_
    refine GW.toReg rfl ?_
    refine GL.one rfl .no (S1.as (v := (.int _ _)) rfl) ?_
    refine GL.done rfl ?_
    refine GQ.on ?_
    refine GW.toBlock rfl ?_
    refine GW.toLoop (X := Unit) (fun _ => [(0, nilS), (1, .func (.func w) ⟨[]⟩ ⟨[]⟩), (4, .int .i64 0)]) (fun _ => []) (fun _ => True) (fun _ => 0) rfl () trivial (.c rfl (.c rfl (.c rfl .n))) .nil ?_
    rintro ⟨⟩ f _
    refine GW.toSeq rfl ?_
    refine GW.toSeq rfl ?_
    refine GW.toReg rfl ?_
    refine GL.one rfl .no (S1.mv (v := (.int _ _)) rfl) ?_
    refine GL.one rfl .no (S1.mv (v := (.slice _ _ _)) rfl) ?_
    refine GL.one rfl .no (S1.len el32 rfl) ?_
    refine GL.one rfl .no (S1.lss rfl rfl) ?_
    refine GL.done rfl ?_
    refine GQ.on ?_
    refine GW.toF rfl rfl ?_
    refine GW.toExit rfl ?_
    refine GQ.onE ?_
    refine GQ.onE ?_
    refine GQ.outH ?_
    refine GQ.retN [] .nil .z rfl ?_ .nil
    exact .nil
  | @row r m vs opn hl hm ho ht =>
    refine GW.toSeq rfl ?_
    refine GW.toReg rfl ?_
    refine GL.one rfl .no (S1.as (v := (.int _ _)) rfl) ?_
    refine GL.done rfl ?_
    refine GQ.on ?_
    refine GW.toBlock rfl ?_
    refine GW.toLoop (X := Nat × List Value) (fun x => [(0, rowS r m), (1, .func (.func w) ⟨[]⟩ ⟨[]⟩), (4, .int .i64 x.1)]) (fun x => [(r, .cells x.2 opn true)]) (fun x => x.1 ≤ m ∧ x.2.length = m * 1 ∧ RowT wy3 x.2) (fun x => m - x.1) rfl (0, vs) ⟨Nat.zero_le _, hl, ht⟩ (.c rfl (.c rfl (.c rfl .n))) .tz ?_
    rintro ⟨k, us⟩ f ⟨hk, hl2, ht2⟩
    simp only at hk hl2 ht2
    refine GW.toSeq rfl ?_
    refine GW.toSeq rfl ?_
    refine GW.toReg rfl ?_
    refine GL.one rfl .no (S1.mv (v := (.int _ _)) rfl) ?_
    refine GL.one rfl .no (S1.mv (v := (.slice _ _ _)) rfl) ?_
    refine GL.one rfl .no (S1.len el32 rfl) ?_
    refine GL.one rfl .no (S1.lss rfl rfl) ?_
    refine GL.done rfl ?_
    refine GQ.on ?_
    refine GW.toD rfl rfl (fun w1 => ?_) (fun w1 => ?_)
    refine GW.toSkip rfl ?_
    refine GQ.on ?_
    refine GW.toSeq rfl ?_
    refine GW.toBlock rfl ?_
    refine GW.toReg rfl ?_
    refine GL.one rfl .no (S1.mv (v := (.func _ _ _)) rfl) ?_
    refine GL.one rfl .no (S1.mv (v := (.slice _ _ _)) rfl) ?_
    refine GL.one rfl .no (S1.mv (v := (.int _ _)) rfl) ?_
    refine GL.one rfl .no (S1.ixN el32 rfl rfl (by omega)) ?_
    rotate_left
    refine GW.toExit rfl ?_
    refine GQ.onE ?_
    refine GQ.onE ?_
    refine GQ.outH ?_
    refine GQ.retN [(r, .cells us opn true)] .nil .z rfl ?_ .tz
    exact .row hl2 hm ho ht2
    refine GL.call rfl .no hf (ps := [(r, .cells us opn true)]) .tz (fun h' H' => hw h' r m k _ us opn hl2 (by omega) ht2 (Nat.zero_add _) (H'.give (ps := [(r, .cells us opn true)]) .tz)) (.v (fs := []) (cs := []) rfl (.c (v := .pointer _) rfl .n)) (fun us' ⟨q1, q2⟩ => ?_)
    refine GL.done rfl ?_
    refine GQ.outN ?_
    refine GQ.on ?_
    refine GW.toReg rfl ?_
    refine GL.one rfl .no (S1.mv (v := (.int _ _)) rfl) ?_
    refine GL.one rfl .no (S1.inc rfl rfl (by omega)) ?_
    refine GL.one rfl .no (S1.as (v := (.int _ _)) rfl) ?_
    refine GL.done rfl ?_
    refine GQ.next (k + 1, us') ⟨by simp only; omega, by simp only; omega, q2⟩ (by simp only; omega) (.c rfl (.c rfl (.c rfl .n))) (.cons .z .nil)


/-- A list in a box is written over. -/
theorem cw44 : WipL Tryz.prog 44 wy3 := by
  intro h b o bs v E m hv hO H
  obtain ⟨a, rfl⟩ := hO.eta
  refine Ct.go Tryz.func44 rfl rfl co44 H ?_
  refine GW.toReg rfl ?_
  refine GL.one rfl .no (S1.mv (v := (.pointer _)) rfl) ?_
  refine GL.one rfl .no (S1.nc rfl) ?_
  refine GL.one rfl .no (S1.ld sc32 rfl (.at .z) (hv)) ?_
  refine GL.call rfl .no fo82 (ps := E) (.ts .tz) (fun h' H' => cw82 h' _ E m _ hO fo83 we83 (H'.give (ps := E) (.ts .tz))) (.d (.c rfl (.c rfl .n))) (fun E' q => ?_)
  refine GL.done rfl ?_
  refine GQ.retN _ .nil .z rfl ?_ (.cons (.sA .z) .tz)
  (simp [*]; done)

-- 19 wipeBkState [('l', 102), ('l', 3), ('l', 3), ('l', 3)]: by hand

/-- A row is written over. -/
theorem cw47 : WipR Tryz.prog 47 wy97 := by
  intro h v E m w hO hf hw H
  refine Ct.go Tryz.func47 rfl rfl co47 H ?_
  cases hO with
  | nil =>
    refine GW.toSeq rfl ?_
    refine GW.toReg rfl ?_
    refine GL.one rfl .no (S1.as (v := (.int _ _)) rfl) ?_
    refine GL.done rfl ?_
    refine GQ.on ?_
    refine GW.toBlock rfl ?_
    refine GW.toLoop (X := Unit) (fun _ => [(0, nilS), (1, .func (.func w) ⟨[]⟩ ⟨[]⟩), (4, .int .i64 0)]) (fun _ => []) (fun _ => True) (fun _ => 0) rfl () trivial (.c rfl (.c rfl (.c rfl .n))) .nil ?_
    rintro ⟨⟩ f _
    refine GW.toSeq rfl ?_
    refine GW.toSeq rfl ?_
    refine GW.toReg rfl ?_
    refine GL.one rfl .no (S1.mv (v := (.int _ _)) rfl) ?_
    refine GL.one rfl .no (S1.mv (v := (.slice _ _ _)) rfl) ?_
    refine GL.one rfl .no (S1.len el58 rfl) ?_
    refine GL.one rfl .no (S1.lss rfl rfl) ?_
    refine GL.done rfl ?_
    refine GQ.on ?_
    refine GW.toF rfl rfl ?_
    refine GW.toExit rfl ?_
    refine GQ.onE ?_
    refine GQ.onE ?_
    refine GQ.outH ?_
    refine GQ.retN [] .nil .z rfl ?_ .nil
    exact .nil
  | @row r m vs opn hl hm ho ht =>
    refine GW.toSeq rfl ?_
    refine GW.toReg rfl ?_
    refine GL.one rfl .no (S1.as (v := (.int _ _)) rfl) ?_
    refine GL.done rfl ?_
    refine GQ.on ?_
    refine GW.toBlock rfl ?_
    refine GW.toLoop (X := Nat × List Value) (fun x => [(0, rowS r m), (1, .func (.func w) ⟨[]⟩ ⟨[]⟩), (4, .int .i64 x.1)]) (fun x => [(r, .cells x.2 opn true)]) (fun x => x.1 ≤ m ∧ x.2.length = m * 4 ∧ RowT wy97 x.2) (fun x => m - x.1) rfl (0, vs) ⟨Nat.zero_le _, hl, ht⟩ (.c rfl (.c rfl (.c rfl .n))) .tz ?_
    rintro ⟨k, us⟩ f ⟨hk, hl2, ht2⟩
    simp only at hk hl2 ht2
    refine GW.toSeq rfl ?_
    refine GW.toSeq rfl ?_
    refine GW.toReg rfl ?_
    refine GL.one rfl .no (S1.mv (v := (.int _ _)) rfl) ?_
    refine GL.one rfl .no (S1.mv (v := (.slice _ _ _)) rfl) ?_
    refine GL.one rfl .no (S1.len el58 rfl) ?_
    refine GL.one rfl .no (S1.lss rfl rfl) ?_
    refine GL.done rfl ?_
    refine GQ.on ?_
    refine GW.toD rfl rfl (fun w1 => ?_) (fun w1 => ?_)
    refine GW.toSkip rfl ?_
    refine GQ.on ?_
    refine GW.toSeq rfl ?_
    refine GW.toBlock rfl ?_
    refine GW.toReg rfl ?_
    refine GL.one rfl .no (S1.mv (v := (.func _ _ _)) rfl) ?_
    refine GL.one rfl .no (S1.mv (v := (.slice _ _ _)) rfl) ?_
    refine GL.one rfl .no (S1.mv (v := (.int _ _)) rfl) ?_
    refine GL.one rfl .no (S1.ixN el58 rfl rfl (by omega)) ?_
    rotate_left
    refine GW.toExit rfl ?_
    refine GQ.onE ?_
    refine GQ.onE ?_
    refine GQ.outH ?_
    refine GQ.retN [(r, .cells us opn true)] .nil .z rfl ?_ .tz
    exact .row hl2 hm ho ht2
    refine GL.call rfl .no hf (ps := [(r, .cells us opn true)]) .tz (fun h' H' => hw h' r m k _ us opn hl2 (by omega) ht2 (Nat.zero_add _) (H'.give (ps := [(r, .cells us opn true)]) .tz)) (.v (fs := []) (cs := []) rfl (.c (v := .pointer _) rfl .n)) (fun us' ⟨q1, q2⟩ => ?_)
    refine GL.done rfl ?_
    refine GQ.outN ?_
    refine GQ.on ?_
    refine GW.toReg rfl ?_
    refine GL.one rfl .no (S1.mv (v := (.int _ _)) rfl) ?_
    refine GL.one rfl .no (S1.inc rfl rfl (by omega)) ?_
    refine GL.one rfl .no (S1.as (v := (.int _ _)) rfl) ?_
    refine GL.done rfl ?_
    refine GQ.next (k + 1, us') ⟨by simp only; omega, by simp only; omega, q2⟩ (by simp only; omega) (.c rfl (.c rfl (.c rfl .n))) (.cons .z .nil)


theorem we48 : WipE Tryz.prog 48 wy97 := by
  intro h r m i o vs opn hl hi ht ho H
  have hl' : vs.length = m * 4 := hl
  have hq : o = i * 4 := ho
  have hk : o + 4 ≤ vs.length := by
    have : i * 4 + 4 ≤ m * 4 := by omega
    omega
  refine Ct.go Tryz.func48 rfl rfl co48 H ?_
  subst ho
  refine GW.toSeq rfl ?_
  refine GW.toReg rfl ?_
  refine GL.one rfl .no (S1.mv (v := (.pointer _)) rfl) ?_
  refine GL.one rfl .no (S1.nc rfl) ?_
  refine GL.one rfl .no (S1.fa fa97_0 rfl) ?_
  refine GL.call rfl .no fo83 (show Take _ [(r, _)] _ from .tz) (fun h H => cw83 (by first | omega | (simp only [List.length_set]; omega)) (H.give (show Take _ [(r, _)] _ from .tz))) (.d (.c (v := (.pointer _)) rfl .n)) (fun _ _ => ?_)
  refine GL.done rfl ?_
  refine GQ.on ?_
  refine GW.toSeq rfl ?_
  refine GW.toReg rfl ?_
  refine GL.one rfl .no (S1.mv (v := (.pointer _)) rfl) ?_
  refine GL.one rfl .no (S1.nc rfl) ?_
  refine GL.one rfl .no (S1.fa fa97_1 rfl) ?_
  refine GL.call rfl .no fo83 (show Take _ [(r, _)] _ from (.cons .z .nil)) (fun h H => cw83 (by first | omega | (simp only [List.length_set]; omega)) (H.give (show Take _ [(r, _)] _ from (.cons .z .nil)))) (.d (.c (v := (.pointer _)) rfl .n)) (fun _ _ => ?_)
  refine GL.done rfl ?_
  refine GQ.on ?_
  refine GW.toSeq rfl ?_
  refine GW.toReg rfl ?_
  refine GL.one rfl .no (S1.mv (v := (.pointer _)) rfl) ?_
  refine GL.one rfl .no (S1.nc rfl) ?_
  refine GL.one rfl .no (S1.fa fa97_2 rfl) ?_
  refine GL.call rfl .no fo83 (show Take _ [(r, _)] _ from (.cons .z .nil)) (fun h H => cw83 (by first | omega | (simp only [List.length_set]; omega)) (H.give (show Take _ [(r, _)] _ from (.cons .z .nil)))) (.d (.c (v := (.pointer _)) rfl .n)) (fun _ _ => ?_)
  refine GL.done rfl ?_
  refine GQ.on ?_
  refine GW.toReg rfl ?_
  refine GL.one rfl .no (S1.mv (v := (.pointer _)) rfl) ?_
  refine GL.one rfl .no (S1.nc rfl) ?_
  refine GL.one rfl .no (S1.fa fa97_3 rfl) ?_
  refine GL.call rfl .no fo83 (show Take _ [(r, _)] _ from (.cons .z .nil)) (fun h H => cw83 (by first | omega | (simp only [List.length_set]; omega)) (H.give (show Take _ [(r, _)] _ from (.cons .z .nil)))) (.d (.c (v := (.pointer _)) rfl .n)) (fun _ _ => ?_)
  refine GL.done rfl ?_
  refine GQ.retN ((((vs.set (i * wy97.length) (.int .i64 (-77))).set (i * wy97.length + 1) (.int .i64 (-77))).set (i * wy97.length + 2) (.int .i64 (-77))).set (i * wy97.length + 3) (.int .i64 (-77))) .nil .z rfl ?_ (.cons .z .nil)
  exact ⟨by simp only [List.length_set], (.set (d := 3) rfl (.int (by simp)) (.set (d := 2) rfl (.int (by simp)) (.set (d := 1) rfl (.int (by simp)) (.set0 rfl (.int (by simp)) ht))))⟩


/-- A list in a box is written over. -/
theorem cw24 : WipL Tryz.prog 24 wy97 := by
  intro h b o bs v E m hv hO H
  obtain ⟨a, rfl⟩ := hO.eta
  refine Ct.go Tryz.func24 rfl rfl co24 H ?_
  refine GW.toReg rfl ?_
  refine GL.one rfl .no (S1.mv (v := (.pointer _)) rfl) ?_
  refine GL.one rfl .no (S1.nc rfl) ?_
  refine GL.one rfl .no (S1.ld sc58 rfl (.at .z) (hv)) ?_
  refine GL.call rfl .no fo47 (ps := E) (.ts .tz) (fun h' H' => cw47 h' _ E m _ hO fo48 we48 (H'.give (ps := E) (.ts .tz))) (.d (.c rfl (.c rfl .n))) (fun E' q => ?_)
  refine GL.done rfl ?_
  refine GQ.retN _ .nil .z rfl ?_ (.cons (.sA .z) .tz)
  (simp [*]; done)

end Go.Proofs.YtkpbpfnmgnpfaaaGreat
namespace Go.Proofs.YtkpbpfnmgnpfaaaGreat
open Go Go.E
set_option maxRecDepth 100000


theorem ct74 {h : EH} {x y b : Int} {q : Nat} (hb : h[q]? = some (.cells [.int .i64 b] none true)) : Ct Tryz.prog 74 ⟨[.agg ⟨[.int .i64 x, .int .i64 y]⟩, .pointer (some ⟨q, 0, none⟩)]⟩ h [] (fun r : Bool => .bool r) (fun _ => True) (fun _ => []) := by
  refine Ct.go Tryz.func74 rfl rfl co74 (Hp.start (hr := fun _ => none) (by simp)) ?_
  refine GW.toSeq rfl ?_
  refine GW.toReg rfl ?_
  refine GL.opN rfl .no (SN.bx (u := .agg ⟨_⟩) rfl .agg) (fun a1 => ?_)
  refine GL.one rfl .no (S1.as (v := (.bool _)) rfl) ?_
  refine GL.done rfl ?_
  refine GQ.on ?_
  refine GW.toSeq rfl ?_
  refine GW.toReg rfl ?_
  refine GL.one rfl .no (S1.fa fa78_0 rfl) ?_
  refine GL.one rfl .no (S1.ld sc3 rfl (.at .z) rfl) ?_
  refine GL.one rfl .no (S1.ld sc3 rfl (.old0 hb) rfl) ?_
  refine GL.one rfl .no (S1.leq rfl rfl) ?_
  refine GL.one rfl .no (S1.as (v := (.bool _)) rfl) ?_
  refine GL.done rfl ?_
  refine GQ.on ?_
  refine GW.toRet rfl ?_
  refine GQ.ret _ (.tmp (v := (.bool _)) rfl rfl .nil) .one rfl ?_ .nil
  exact trivial

theorem ct36 {h : EH} {hr : RO} {la ca ta : Option Addr} {ln lc cn cc tn tc : Nat} {price excess lo hi hours before : Int} (hR : ∀ b o, hr b = some o → h[b]? = some o) (h1 : Cell hr (.sl ly9) (.slice la ln lc)) (h2 : Cell hr (.sl ly74) (.slice ca cn cc)) (h3 : Cell hr (.sl ly78) (.slice ta tn tc)) :
    Ct Tryz.prog 36 ⟨[.agg ⟨[.slice la ln lc, .slice ca cn cc, .int .i64 price, .int .i64 excess, .int .i64 lo, .int .i64 hi, .slice ta tn tc]⟩, .int .i64 hours, .int .i64 before]⟩ h [] (fun x : Int => .int .i64 x) (fun _ => True) (fun _ => []) := by
  have hl3 := h3.le
  refine Ct.go Tryz.func36 rfl rfl co36 (Hp.start hR) ?_
  refine GW.toSeq rfl ?_
  refine GW.toReg rfl ?_
  refine GL.opN rfl .no (SN.bx (u := .agg ⟨_⟩) rfl .agg) (fun a1 => ?_)
  refine GL.opN rfl .no (SN.bx (u := (.int _ _)) rfl (.one rfl)) (fun a2 => ?_)
  refine GL.one rfl .no (S1.as (v := (.int _ _)) rfl) ?_
  refine GL.done rfl ?_
  refine GQ.on ?_
  refine GW.toSeq rfl ?_
  refine GW.toReg rfl ?_
  refine GL.one rfl .no (S1.as (v := (.int _ _)) rfl) ?_
  refine GL.done rfl ?_
  refine GQ.on ?_
  refine GW.toSeq rfl ?_
  refine GW.toSeq rfl ?_
  refine GW.toReg rfl ?_
  refine GL.one rfl .no (S1.fa fa28_5 rfl) ?_
  refine GL.one rfl .no (S1.ld sc26 rfl (.at (.s .z)) rfl) ?_
  refine GL.one rfl .no (S1.mf .n (.c (v := (.pointer _)) rfl .n)) ?_
  refine GL.call rfl .no fo73 .nil (fun h H => ct73 (R := fun _ _ => True) H.rom h3 fo74 (fun h' k hk e => ct74 (e _ _ (H.get .z)))) (.d (.c rfl (.c (v := .func _ ⟨[]⟩ ⟨[_]⟩) rfl .n))) (fun r q => ?_)
  rcases q with ⟨rfl, _⟩ | ⟨k, hk, rfl, _⟩
  · refine GL.one rfl .no (S1.as (v := (.int _ _)) rfl) ?_
    refine GL.done rfl ?_
    refine GQ.on ?_
    refine GW.toSeq rfl ?_
    refine GW.toReg rfl ?_
    refine GL.one rfl .no (S1.mv (v := (.int _ _)) rfl) ?_
    refine GL.one rfl .no (S1.geq rfl rfl) ?_
    refine GL.done rfl ?_
    refine GQ.on ?_
    refine GW.toF rfl rfl ?_
    refine GW.toSkip rfl ?_
    refine GQ.on ?_
    refine GW.toSeq rfl ?_
    refine GW.toReg rfl ?_
    refine GL.one rfl .no (S1.mv (v := (.int _ _)) rfl) ?_
    refine GL.one rfl .no (S1.fa fa28_2 rfl) ?_
    refine GL.one rfl .no (S1.ld sc3 rfl (.at (.s .z)) rfl) ?_
    refine GL.one rfl .no (S1.mul rfl rfl) ?_
    refine GL.one rfl .no (S1.mv (v := (.int _ _)) rfl) ?_
    refine GL.one rfl .no (S1.mul rfl rfl) ?_
    refine GL.one rfl .no (S1.add rfl rfl) ?_
    refine GL.one rfl .no (S1.sub rfl rfl) ?_
    refine GL.one rfl .no (S1.quo rfl rfl (by omega)) ?_
    refine GL.one rfl .no (S1.as (v := (.int _ _)) rfl) ?_
    refine GL.done rfl ?_
    refine GQ.on ?_
    refine GW.toRet rfl ?_
    refine GQ.ret _ (.tmp (v := (.int _ _)) rfl rfl .nil) .one rfl ?_ .nil
    exact trivial
  · refine GL.one rfl .no (S1.as (v := (.int _ _)) rfl) ?_
    refine GL.done rfl ?_
    refine GQ.on ?_
    refine GW.toSeq rfl ?_
    refine GW.toReg rfl ?_
    refine GL.one rfl .no (S1.mv (v := (.int _ _)) rfl) ?_
    refine GL.one rfl .no (S1.geq rfl rfl) ?_
    refine GL.done rfl ?_
    refine GQ.on ?_
    refine GW.toT rfl rfl ?_
    refine GW.toReg rfl ?_
    refine GL.one rfl .no (S1.fa fa28_5 rfl) ?_
    refine GL.one rfl .no (S1.ld sc26 rfl (.at (.s .z)) rfl) ?_
    refine GL.one rfl .no (S1.mv (v := (.int _ _)) rfl) ?_
    refine GL.one rfl .no (S1.ixR el26 h3 rfl rfl (by omega)) ?_
    refine GL.one rfl .no (S1.fa fa78_1 rfl) ?_
    refine GL.one rfl .no (S1.ldCI sc3 (z := 2) h3 rfl (m := k) (by omega) rfl (d := 1) rfl rfl) ?_
    refine GL.one rfl .no (S1.as (v := (.int _ _)) rfl) ?_
    refine GL.done rfl ?_
    refine GQ.on ?_
    refine GW.toSeq rfl ?_
    refine GW.toReg rfl ?_
    refine GL.one rfl .no (S1.mv (v := (.int _ _)) rfl) ?_
    refine GL.one rfl .no (S1.fa fa28_2 rfl) ?_
    refine GL.one rfl .no (S1.ld sc3 rfl (.at (.s .z)) rfl) ?_
    refine GL.one rfl .no (S1.mul rfl rfl) ?_
    refine GL.one rfl .no (S1.mv (v := (.int _ _)) rfl) ?_
    refine GL.one rfl .no (S1.mul rfl rfl) ?_
    refine GL.one rfl .no (S1.add rfl rfl) ?_
    refine GL.one rfl .no (S1.sub rfl rfl) ?_
    refine GL.one rfl .no (S1.quo rfl rfl (by omega)) ?_
    refine GL.one rfl .no (S1.as (v := (.int _ _)) rfl) ?_
    refine GL.done rfl ?_
    refine GQ.on ?_
    refine GW.toRet rfl ?_
    refine GQ.ret _ (.tmp (v := (.int _ _)) rfl rfl .nil) .one rfl ?_ .nil
    exact trivial

theorem ct12 {h : EH} {hr : RO} {la ca ta : Option Addr} {ln lc cn cc tn tc : Nat} {price excess lo hi hours before : Int} (hR : ∀ b o, hr b = some o → h[b]? = some o) (h1 : Cell hr (.sl ly9) (.slice la ln lc)) (h2 : Cell hr (.sl ly74) (.slice ca cn cc)) (h3 : Cell hr (.sl ly78) (.slice ta tn tc)) :
    Ct Tryz.prog 12 ⟨[.agg ⟨[.slice la ln lc, .slice ca cn cc, .int .i64 price, .int .i64 excess, .int .i64 lo, .int .i64 hi, .slice ta tn tc]⟩, .int .i64 hours, .int .i64 before]⟩ h [] (fun x : Int × Int => .tuple ⟨[.int .i64 x.1, .int .i64 x.2]⟩) (fun _ => True) (fun _ => []) := by
  refine Ct.go Tryz.func12 rfl rfl co12 (Hp.start hR) ?_
  refine GW.toSeq rfl ?_
  refine GW.toReg rfl ?_
  refine GL.opN rfl .no (SN.bx (u := .agg ⟨_⟩) rfl .agg) (fun a1 => ?_)
  refine GL.one rfl .no (S1.as (v := (.int _ _)) rfl) ?_
  refine GL.one rfl .no (S1.as (v := (.int _ _)) rfl) ?_
  refine GL.done rfl ?_
  refine GQ.on ?_
  refine GW.toSeq rfl ?_
  refine GW.toSeq rfl ?_
  refine GW.toReg rfl ?_
  refine GL.one rfl .no (S1.ldW ag28 rfl (.at .z) rfl) ?_
  refine GL.call rfl .no fo7 .nil (fun h H => ct7 H.rom h1 h2 h3) (.d (.c (v := (.agg _)) rfl .n)) (fun ⟨u2, v2, e2⟩ r2 => ?_)
  refine GL.one rfl .no (S1.mv (v := (.tuple _)) rfl) ?_
  refine GL.one rfl .no (S1.ext (v := (.int _ _)) rfl rfl) ?_
  refine GL.one rfl .no (S1.ext (v := (.int _ _)) rfl rfl) ?_
  refine GL.one rfl .no (S1.ext (v := (.int _ _)) rfl rfl) ?_
  refine GL.one rfl .no (S1.as (v := (.int _ _)) rfl) ?_
  refine GL.one rfl .no (S1.as (v := (.int _ _)) rfl) ?_
  refine GL.one rfl .no (S1.as (v := (.int _ _)) rfl) ?_
  refine GL.done rfl ?_
  refine GQ.on ?_
  refine GW.toSeq rfl ?_
  refine GW.toReg rfl ?_
  refine GL.one rfl .no (S1.mv (v := (.int _ _)) rfl) ?_
  refine GL.one rfl .no (S1.neq rfl rfl) ?_
  refine GL.done rfl ?_
  refine GQ.on ?_
  refine GW.toD rfl rfl (fun w3 => ?_) (fun w3 => ?_)
  refine GW.toSeq rfl ?_
  refine GW.toReg rfl ?_
  refine GL.one rfl .no (S1.mv (v := (.int _ _)) rfl) ?_
  refine GL.one rfl .no (S1.as (v := (.int _ _)) rfl) ?_
  refine GL.one rfl .no (S1.as (v := (.int _ _)) rfl) ?_
  refine GL.done rfl ?_
  refine GQ.on ?_
  refine GW.toRet rfl ?_
  refine GQ.onR ?_
  refine GQ.ret (_, _) (.tmp (v := (.int _ _)) rfl rfl (.tmp (v := (.int _ _)) rfl rfl .nil)) .more rfl ?_ .nil
  exact trivial
  refine GW.toSkip rfl ?_
  refine GQ.on ?_
  refine GW.toSeq rfl ?_
  refine GW.toSeq rfl ?_
  refine GW.toReg rfl ?_
  refine GL.one rfl .no (S1.mv (v := (.int _ _)) rfl) ?_
  refine GL.opN rfl .no (SN.bs el32 ez32 (.c (v := (.int _ _)) rfl rfl .n) rfl rfl) (fun a4 => ?_)
  refine GL.call rfl .no fo31 .nil (fun h H => ct31_1 (H.get .z)) (.d (.c (v := (.int _ _)) rfl (.c (v := (.int _ _)) rfl (.c (v := (.slice _ _ _)) rfl .n)))) (fun _ _ => ?_)
  refine GL.one rfl .no (S1.mv (v := (.bool _)) rfl) ?_
  refine GL.split 23 rfl (fun w7 => ?_) (fun w7 => ?_)
  refine GL.skip rfl (.not rfl rfl rfl) ?_
  refine GL.skip rfl (.not rfl rfl rfl) ?_
  refine GL.skip rfl (.not rfl rfl rfl) ?_
  refine GL.one rfl .no (S1.pickT (v := (.bool _)) rfl rfl) ?_
  refine GL.done rfl ?_
  refine GQ.on ?_
  refine GW.toT rfl rfl ?_
  refine GW.toSeq rfl ?_
  refine GW.toReg rfl ?_
  refine GL.one rfl .no (S1.as (v := (.int _ _)) rfl) ?_
  refine GL.one rfl .no (S1.as (v := (.int _ _)) rfl) ?_
  refine GL.done rfl ?_
  refine GQ.on ?_
  refine GW.toRet rfl ?_
  refine GQ.onR ?_
  refine GQ.ret (_, _) (.tmp (v := (.int _ _)) rfl rfl (.tmp (v := (.int _ _)) rfl rfl .nil)) .more rfl ?_ .nil
  exact trivial
  refine GL.one rfl (.yes rfl rfl rfl) (S1.mv (v := (.int _ _)) rfl) ?_
  refine GL.opN rfl (.yes rfl rfl rfl) (SN.bs el32 ez32 (.c (v := (.int _ _)) rfl rfl .n) rfl rfl) (fun a8 => ?_)
  refine GL.call rfl (.yes rfl rfl rfl) fo31 .nil (fun h H => ct31_1 (H.get .z)) (.d (.c (v := (.int _ _)) rfl (.c (v := (.int _ _)) rfl (.c (v := (.slice _ _ _)) rfl .n)))) (fun _ _ => ?_)
  refine GL.one rfl .no (S1.pickF (v := (.bool _)) rfl rfl) ?_
  refine GL.done rfl ?_
  refine GQ.on ?_
  refine GW.toC rfl rfl (fun w11 => ?_) (fun w11 => ?_)
  refine GW.toSeq rfl ?_
  refine GW.toReg rfl ?_
  refine GL.one rfl .no (S1.as (v := (.int _ _)) rfl) ?_
  refine GL.one rfl .no (S1.as (v := (.int _ _)) rfl) ?_
  refine GL.done rfl ?_
  refine GQ.on ?_
  refine GW.toRet rfl ?_
  refine GQ.onR ?_
  refine GQ.ret (_, _) (.tmp (v := (.int _ _)) rfl rfl (.tmp (v := (.int _ _)) rfl rfl .nil)) .more rfl ?_ .nil
  exact trivial
  refine GW.toSkip rfl ?_
  refine GQ.on ?_
  refine GW.toSeq rfl ?_
  refine GW.toReg rfl ?_
  refine GL.one rfl .no (S1.ldW ag28 rfl (.at (.s (.s .z))) rfl) ?_
  refine GL.one rfl .no (S1.mv (v := (.int _ _)) rfl) ?_
  refine GL.one rfl .no (S1.mv (v := (.int _ _)) rfl) ?_
  refine GL.call rfl .no fo36 .nil (fun h H => ct36 H.rom h1 h2 h3) (.d (.c (v := (.agg _)) rfl (.c (v := (.int _ _)) rfl (.c (v := (.int _ _)) rfl .n)))) (fun r12 _ => ?_)
  refine GL.one rfl .no (S1.as (v := (.int _ _)) rfl) ?_
  refine GL.one rfl .no (S1.as (v := (.int _ _)) rfl) ?_
  refine GL.done rfl ?_
  refine GQ.on ?_
  refine GW.toRet rfl ?_
  refine GQ.ret (_, _) (.tmp (v := (.int _ _)) rfl rfl (.tmp (v := (.int _ _)) rfl rfl .nil)) .more rfl ?_ .nil
  exact trivial

theorem ct10 {h : EH} : Ct Tryz.prog 10 ⟨[]⟩ h [] (fun _ : Unit => .tuple #[]) (fun _ => True) (fun _ => []) := by
  refine Ct.go Tryz.func10 rfl rfl co10 (Hp.start (hr := fun _ => none) (by simp)) ?_
  refine GW.toSkip rfl ?_
  refine GQ.retN () .nil .z ?_ ?_ .nil
  rfl
  exact trivial

theorem ct6 {h : EH} {hr : RO} {xb hb : Nat} {la ca ta ea : Option Addr} {ln lc cn cc tn tc en ec : Nat} {x1 x2 x3 x4 x5 x6 x7 x8 x9 : Int} (h1 : Cell hr (.sl ly9) (.slice la ln lc)) (h2 : Cell hr (.sl ly74) (.slice ca cn cc)) (h3 : Cell hr (.sl ly78) (.slice ta tn tc))
    (G : GoodA hr (xsB la ln lc ca cn cc x1 x2 x3 x4 ta tn tc x5 x6 ea en ec x7 x8 x9) zero2 xb hb h) : ClN Tryz.prog 6 10 1000 hb xb h := by
  have p := PS.nn
  have hx := G.x
  have hne : xb ∉ [hb] := by simpa using G.ne
  have e0 : ([] : List Int).length = 0 := rfl
  have e1 : ([] : List ByteArray).length = 0 := rfl
  refine Ct.go Tryz.func6 rfl rfl co6 (Hp.start1 G.rom G.z G.zo) ?_
  refine GW.toSeq rfl ?_
  refine GW.toReg rfl ?_
  refine GL.one rfl .no (S1.as (v := .nilFunc) rfl) ?_
  refine GL.done rfl ?_
  refine GQ.on ?_
  refine GW.toSeq rfl ?_
  refine GW.toReg rfl ?_
  refine GL.one rfl .no (S1.fa fa31_0 rfl) ?_
  refine GL.one rfl .no (S1.ldA ag28 rfl (.old hx (by simp_all)) (by repeat constructor)) ?_
  refine GL.call rfl .no fo7 .nil (fun h H => ct7 H.rom h1 h2 h3) (.d (.c (v := (.agg _)) rfl .n)) (fun ⟨u1, v1, e1⟩ r1 => ?_)
  refine GL.one rfl .no (S1.mv (v := (.tuple _)) rfl) ?_
  refine GL.one rfl .no (S1.ext (v := (.int _ _)) rfl rfl) ?_
  refine GL.one rfl .no (S1.ext (v := (.int _ _)) rfl rfl) ?_
  refine GL.one rfl .no (S1.ext (v := (.int _ _)) rfl rfl) ?_
  refine GL.one rfl .no (S1.as (v := (.int _ _)) rfl) ?_
  refine GL.one rfl .no (S1.as (v := (.int _ _)) rfl) ?_
  refine GL.one rfl .no (S1.as (v := (.int _ _)) rfl) ?_
  refine GL.done rfl ?_
  refine GQ.on ?_
  refine GW.toSeq rfl ?_
  refine GW.toReg rfl ?_
  refine GL.one rfl .no (S1.mv (v := (.pointer _)) rfl) ?_
  refine GL.one rfl .no (S1.mv (v := (.int _ _)) rfl) ?_
  refine GL.put rfl .no fo8 (ct8) p (.cons .z .nil) (by omega) (by omega) (.d (.c (v := (.pointer _)) rfl (.c (v := (.int _ _)) rfl .n))) (fun vn2 vs2 E2 ns2 ss2 p2 lN2 lS2 => ?_)
  refine GL.done rfl ?_
  refine GQ.on ?_
  refine GW.toSeq rfl ?_
  refine GW.toReg rfl ?_
  refine GL.one rfl .no (S1.mv (v := (.pointer _)) rfl) ?_
  refine GL.one rfl .no (S1.mv (v := (.int _ _)) rfl) ?_
  refine GL.put rfl .no fo8 (ct8) p2 (.cons .z .tz) (by omega) (by omega) (.d (.c (v := (.pointer _)) rfl (.c (v := (.int _ _)) rfl .n))) (fun vn3 vs3 E3 ns3 ss3 p3 lN3 lS3 => ?_)
  refine GL.done rfl ?_
  refine GQ.on ?_
  refine GW.toSeq rfl ?_
  refine GW.toReg rfl ?_
  refine GL.one rfl .no (S1.mv (v := (.pointer _)) rfl) ?_
  refine GL.one rfl .no (S1.mv (v := (.int _ _)) rfl) ?_
  refine GL.put rfl .no fo9 (ct9) p3 (.cons .z .tz) (by omega) (by omega) (.d (.c (v := (.pointer _)) rfl (.c (v := (.int _ _)) rfl .n))) (fun vn4 vs4 E4 ns4 ss4 p4 lN4 lS4 => ?_)
  refine GL.done rfl ?_
  refine GQ.on ?_
  refine GW.toSeq rfl ?_
  refine GW.toReg rfl ?_
  refine GL.one rfl .no (S1.as (v := (.func _ _ _)) rfl) ?_
  refine GL.done rfl ?_
  refine GQ.on ?_
  refine GW.toRet rfl ?_
  refine GQ.ret (vn4, vs4, E4, ns4, ss4) (.tmp (v := .func _ _ _) rfl rfl .nil) .one rfl ⟨p4, by dsimp only; omega, by dsimp only; omega⟩ (by rw [List.append_nil]; exact .tz)

theorem ct11 {h : EH} {hr : RO} {xb hb : Nat} {la ca ta ea : Option Addr} {ln lc cn cc tn tc en ec : Nat} {x1 x2 x3 x4 x5 x6 x7 x8 x9 : Int} (h1 : Cell hr (.sl ly9) (.slice la ln lc)) (h2 : Cell hr (.sl ly74) (.slice ca cn cc)) (h3 : Cell hr (.sl ly78) (.slice ta tn tc))
    (G : GoodA hr (xsB la ln lc ca cn cc x1 x2 x3 x4 ta tn tc x5 x6 ea en ec x7 x8 x9) zero2 xb hb h) : ClN Tryz.prog 11 10 1000 hb xb h := by
  have p := PS.nn
  have hx := G.x
  have hne : xb ∉ [hb] := by simpa using G.ne
  have e0 : ([] : List Int).length = 0 := rfl
  have e1 : ([] : List ByteArray).length = 0 := rfl
  refine Ct.go Tryz.func11 rfl rfl co11 (Hp.start1 G.rom G.z G.zo) ?_
  refine GW.toSeq rfl ?_
  refine GW.toReg rfl ?_
  refine GL.one rfl .no (S1.as (v := .nilFunc) rfl) ?_
  refine GL.done rfl ?_
  refine GQ.on ?_
  refine GW.toSeq rfl ?_
  refine GW.toReg rfl ?_
  refine GL.one rfl .no (S1.fa fa31_0 rfl) ?_
  refine GL.one rfl .no (S1.ldA ag28 rfl (.old hx (by simp_all)) (by repeat constructor)) ?_
  refine GL.one rfl .no (S1.fa fa31_1 rfl) ?_
  refine GL.one rfl .no (S1.ld sc3 rfl (.old hx (by simp_all)) rfl) ?_
  refine GL.one rfl .no (S1.fa fa31_2 rfl) ?_
  refine GL.one rfl .no (S1.ld sc3 rfl (.old hx (by simp_all)) rfl) ?_
  refine GL.call rfl .no fo12 .nil (fun h H => ct12 H.rom h1 h2 h3) (.d (.c (v := (.agg _)) rfl (.c (v := (.int _ _)) rfl (.c (v := (.int _ _)) rfl .n)))) (fun ⟨u1, v1⟩ _ => ?_)
  refine GL.one rfl .no (S1.mv (v := (.tuple _)) rfl) ?_
  refine GL.one rfl .no (S1.ext (v := (.int _ _)) rfl rfl) ?_
  refine GL.one rfl .no (S1.ext (v := (.int _ _)) rfl rfl) ?_
  refine GL.one rfl .no (S1.as (v := (.int _ _)) rfl) ?_
  refine GL.one rfl .no (S1.as (v := (.int _ _)) rfl) ?_
  refine GL.done rfl ?_
  refine GQ.on ?_
  refine GW.toSeq rfl ?_
  refine GW.toReg rfl ?_
  refine GL.one rfl .no (S1.mv (v := (.pointer _)) rfl) ?_
  refine GL.one rfl .no (S1.mv (v := (.int _ _)) rfl) ?_
  refine GL.put rfl .no fo8 (ct8) p (.cons .z .nil) (by omega) (by omega) (.d (.c (v := (.pointer _)) rfl (.c (v := (.int _ _)) rfl .n))) (fun vn2 vs2 E2 ns2 ss2 p2 lN2 lS2 => ?_)
  refine GL.done rfl ?_
  refine GQ.on ?_
  refine GW.toSeq rfl ?_
  refine GW.toReg rfl ?_
  refine GL.one rfl .no (S1.mv (v := (.pointer _)) rfl) ?_
  refine GL.one rfl .no (S1.mv (v := (.int _ _)) rfl) ?_
  refine GL.put rfl .no fo9 (ct9) p2 (.cons .z .tz) (by omega) (by omega) (.d (.c (v := (.pointer _)) rfl (.c (v := (.int _ _)) rfl .n))) (fun vn3 vs3 E3 ns3 ss3 p3 lN3 lS3 => ?_)
  refine GL.done rfl ?_
  refine GQ.on ?_
  refine GW.toSeq rfl ?_
  refine GW.toReg rfl ?_
  refine GL.one rfl .no (S1.as (v := (.func _ _ _)) rfl) ?_
  refine GL.done rfl ?_
  refine GQ.on ?_
  refine GW.toRet rfl ?_
  refine GQ.ret (vn3, vs3, E3, ns3, ss3) (.tmp (v := .func _ _ _) rfl rfl .nil) .one rfl ⟨p3, by dsimp only; omega, by dsimp only; omega⟩ (by rw [List.append_nil]; exact .tz)
end Go.Proofs.YtkpbpfnmgnpfaaaGreat
