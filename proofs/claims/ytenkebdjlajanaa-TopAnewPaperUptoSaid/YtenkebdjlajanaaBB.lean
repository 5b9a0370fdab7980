/- P1: contracts: what is put, what is written over (printed by wip/tools/pw.py). -/
import Derived.Test.YtenkebdjlajanaaBA
set_option linter.all false
set_option linter.constructorNameAsVariable false
set_option linter.unusedSimpArgs false
set_option linter.unusedVariables false
set_option linter.unusedSectionVars false
set_option linter.unnecessarySimpa false
namespace Go.Proofs.Ytenkebdjlajanaa
open Go Go.E
set_option maxRecDepth 100000

theorem ct8 {hr : RO} {x : Int} : PutCt Try.prog hr 8 [.int .i64 x] 1 1 := by
  intro h hb vn vs E ns ss H p l1 l2
  cases p <;> refine Ct.go Try.func8 rfl rfl co8 H ?_
  · refine GW.toReg rfl ?_
    refine GL.o rfl (S1.mvP rfl) ?_
    refine GL.o rfl (S1.mvP rfl) ?_
    refine GL.o rfl (S1.nc rfl) ?_
    refine GL.o rfl (S1.fa fa35_0 rfl) ?_
    refine GL.o rfl (S1.ld sc23 rfl (.at .z) rfl) ?_
    refine GL.o rfl (S1.mvI rfl) ?_
    refine GL.opN rfl .no (SN.bs el23 ez23 (.c (v := (.int _ _)) rfl rfl .n) rfl rfl) (fun a1 => ?_)
    refine GL.opN rfl .no (SN.ap0 ap23_23 rfl (.row rfl (.at .z) rfl) (by omega) (by omega)) (fun a5 => ?_)
    refine GL.o rfl (S1.nc rfl) ?_
    refine GL.o rfl (S1.fa fa35_0 rfl) ?_
    refine GL.o rfl (S1.st (u := (.slice _ _ _)) sc23 rfl rfl rfl (by repeat constructor) (.s (.s .z))) ?_
    refine GL.done rfl ?_
    refine GQ.putEnd rfl (PS.rn (ns := [x]) (by simp)) (by simp) (by simp) (.cons (.s (.s .z)) (.cons .z .nil))
  · refine GW.toReg rfl ?_
    refine GL.o rfl (S1.mvP rfl) ?_
    refine GL.o rfl (S1.mvP rfl) ?_
    refine GL.o rfl (S1.nc rfl) ?_
    refine GL.o rfl (S1.fa fa35_0 rfl) ?_
    refine GL.o rfl (S1.ld sc23 rfl (.at .z) rfl) ?_
    refine GL.o rfl (S1.mvI rfl) ?_
    refine GL.opN rfl .no (SN.bs el23 ez23 (.c (v := (.int _ _)) rfl rfl .n) rfl rfl) (fun a6 => ?_)
    refine GL.opN rfl .no (SN.apO ap23_23 rfl (.row rfl (.at .z) rfl) (by omega) (by omega) rfl (.s (.s .z)) (by first | rfl | omega | (rw [ints_len]; omega) | (rw [strs_len]; omega))) (fun a10 => ?_)
    refine GL.o rfl (S1.nc rfl) ?_
    refine GL.o rfl (S1.fa fa35_0 rfl) ?_
    refine GL.o rfl (S1.st (u := (.slice _ _ _)) sc23 rfl rfl rfl (by repeat constructor) (.s (.s .z))) ?_
    refine GL.done rfl ?_
    refine GQ.putEnd rfl (PS.rnA (ns := ns) (x := x) rfl) (by simp) (by simp) (.cons (.s (.s .z)) (.cons .z .nil))
  · refine GW.toReg rfl ?_
    refine GL.o rfl (S1.mvP rfl) ?_
    refine GL.o rfl (S1.mvP rfl) ?_
    refine GL.o rfl (S1.nc rfl) ?_
    refine GL.o rfl (S1.fa fa35_0 rfl) ?_
    refine GL.o rfl (S1.ld sc23 rfl (.at .z) rfl) ?_
    refine GL.o rfl (S1.mvI rfl) ?_
    refine GL.opN rfl .no (SN.bs el23 ez23 (.c (v := (.int _ _)) rfl rfl .n) rfl rfl) (fun a11 => ?_)
    refine GL.opN rfl .no (SN.ap0 ap23_23 rfl (.row rfl (.at .z) rfl) (by omega) (by omega)) (fun a15 => ?_)
    refine GL.o rfl (S1.nc rfl) ?_
    refine GL.o rfl (S1.fa fa35_0 rfl) ?_
    refine GL.o rfl (S1.st (u := (.slice _ _ _)) sc23 rfl rfl rfl (by repeat constructor) (.s (.s .z))) ?_
    refine GL.done rfl ?_
    refine GQ.putEnd rfl (PS.rr (ns := [x]) (by simp) (by assumption)) (by simp) (by simp) (.cons (.s (.s .z)) (.cons .z (.cons (.s .z) .nil)))
  · refine GW.toReg rfl ?_
    refine GL.o rfl (S1.mvP rfl) ?_
    refine GL.o rfl (S1.mvP rfl) ?_
    refine GL.o rfl (S1.nc rfl) ?_
    refine GL.o rfl (S1.fa fa35_0 rfl) ?_
    refine GL.o rfl (S1.ld sc23 rfl (.at .z) rfl) ?_
    refine GL.o rfl (S1.mvI rfl) ?_
    refine GL.opN rfl .no (SN.bs el23 ez23 (.c (v := (.int _ _)) rfl rfl .n) rfl rfl) (fun a16 => ?_)
    refine GL.opN rfl .no (SN.apO ap23_23 rfl (.row rfl (.at .z) rfl) (by omega) (by omega) rfl (.s (.s .z)) (by first | rfl | omega | (rw [ints_len]; omega) | (rw [strs_len]; omega))) (fun a20 => ?_)
    refine GL.o rfl (S1.nc rfl) ?_
    refine GL.o rfl (S1.fa fa35_0 rfl) ?_
    refine GL.o rfl (S1.st (u := (.slice _ _ _)) sc23 rfl rfl rfl (by repeat constructor) (.s (.s .z))) ?_
    refine GL.done rfl ?_
    refine GQ.putEnd rfl (PS.rrA (ns := ns) (x := x) (by assumption) rfl rfl) (by simp) (by simp) (.cons (.s (.s .z)) (.cons .z (.cons (.s .z) .nil)))

theorem ct9 {hr : RO} {x : Int} : PutCt Try.prog hr 9 [.int .i64 x] 1 1 := by
  intro h hb vn vs E ns ss H p l1 l2
  cases p <;> refine Ct.go Try.func9 rfl rfl co9 H ?_
  · refine GW.toReg rfl ?_
    refine GL.o rfl (S1.mvP rfl) ?_
    refine GL.o rfl (S1.mvP rfl) ?_
    refine GL.o rfl (S1.nc rfl) ?_
    refine GL.o rfl (S1.fa fa35_0 rfl) ?_
    refine GL.o rfl (S1.ld sc23 rfl (.at .z) rfl) ?_
    refine GL.o rfl (S1.mvI rfl) ?_
    refine GL.opN rfl .no (SN.bs el23 ez23 (.c (v := (.int _ _)) rfl rfl .n) rfl rfl) (fun a1 => ?_)
    refine GL.opN rfl .no (SN.ap0 ap23_23 rfl (.row rfl (.at .z) rfl) (by omega) (by omega)) (fun a5 => ?_)
    refine GL.o rfl (S1.nc rfl) ?_
    refine GL.o rfl (S1.fa fa35_0 rfl) ?_
    refine GL.o rfl (S1.st (u := (.slice _ _ _)) sc23 rfl rfl rfl (by repeat constructor) (.s (.s .z))) ?_
    refine GL.done rfl ?_
    refine GQ.putEnd rfl (PS.rn (ns := [x]) (by simp)) (by simp) (by simp) (.cons (.s (.s .z)) (.cons .z .nil))
  · refine GW.toReg rfl ?_
    refine GL.o rfl (S1.mvP rfl) ?_
    refine GL.o rfl (S1.mvP rfl) ?_
    refine GL.o rfl (S1.nc rfl) ?_
    refine GL.o rfl (S1.fa fa35_0 rfl) ?_
    refine GL.o rfl (S1.ld sc23 rfl (.at .z) rfl) ?_
    refine GL.o rfl (S1.mvI rfl) ?_
    refine GL.opN rfl .no (SN.bs el23 ez23 (.c (v := (.int _ _)) rfl rfl .n) rfl rfl) (fun a6 => ?_)
    refine GL.opN rfl .no (SN.apO ap23_23 rfl (.row rfl (.at .z) rfl) (by omega) (by omega) rfl (.s (.s .z)) (by first | rfl | omega | (rw [ints_len]; omega) | (rw [strs_len]; omega))) (fun a10 => ?_)
    refine GL.o rfl (S1.nc rfl) ?_
    refine GL.o rfl (S1.fa fa35_0 rfl) ?_
    refine GL.o rfl (S1.st (u := (.slice _ _ _)) sc23 rfl rfl rfl (by repeat constructor) (.s (.s .z))) ?_
    refine GL.done rfl ?_
    refine GQ.putEnd rfl (PS.rnA (ns := ns) (x := x) rfl) (by simp) (by simp) (.cons (.s (.s .z)) (.cons .z .nil))
  · refine GW.toReg rfl ?_
    refine GL.o rfl (S1.mvP rfl) ?_
    refine GL.o rfl (S1.mvP rfl) ?_
    refine GL.o rfl (S1.nc rfl) ?_
    refine GL.o rfl (S1.fa fa35_0 rfl) ?_
    refine GL.o rfl (S1.ld sc23 rfl (.at .z) rfl) ?_
    refine GL.o rfl (S1.mvI rfl) ?_
    refine GL.opN rfl .no (SN.bs el23 ez23 (.c (v := (.int _ _)) rfl rfl .n) rfl rfl) (fun a11 => ?_)
    refine GL.opN rfl .no (SN.ap0 ap23_23 rfl (.row rfl (.at .z) rfl) (by omega) (by omega)) (fun a15 => ?_)
    refine GL.o rfl (S1.nc rfl) ?_
    refine GL.o rfl (S1.fa fa35_0 rfl) ?_
    refine GL.o rfl (S1.st (u := (.slice _ _ _)) sc23 rfl rfl rfl (by repeat constructor) (.s (.s .z))) ?_
    refine GL.done rfl ?_
    refine GQ.putEnd rfl (PS.rr (ns := [x]) (by simp) (by assumption)) (by simp) (by simp) (.cons (.s (.s .z)) (.cons .z (.cons (.s .z) .nil)))
  · refine GW.toReg rfl ?_
    refine GL.o rfl (S1.mvP rfl) ?_
    refine GL.o rfl (S1.mvP rfl) ?_
    refine GL.o rfl (S1.nc rfl) ?_
    refine GL.o rfl (S1.fa fa35_0 rfl) ?_
    refine GL.o rfl (S1.ld sc23 rfl (.at .z) rfl) ?_
    refine GL.o rfl (S1.mvI rfl) ?_
    refine GL.opN rfl .no (SN.bs el23 ez23 (.c (v := (.int _ _)) rfl rfl .n) rfl rfl) (fun a16 => ?_)
    refine GL.opN rfl .no (SN.apO ap23_23 rfl (.row rfl (.at .z) rfl) (by omega) (by omega) rfl (.s (.s .z)) (by first | rfl | omega | (rw [ints_len]; omega) | (rw [strs_len]; omega))) (fun a20 => ?_)
    refine GL.o rfl (S1.nc rfl) ?_
    refine GL.o rfl (S1.fa fa35_0 rfl) ?_
    refine GL.o rfl (S1.st (u := (.slice _ _ _)) sc23 rfl rfl rfl (by repeat constructor) (.s (.s .z))) ?_
    refine GL.done rfl ?_
    refine GQ.putEnd rfl (PS.rrA (ns := ns) (x := x) (by assumption) rfl rfl) (by simp) (by simp) (.cons (.s (.s .z)) (.cons .z (.cons (.s .z) .nil)))


theorem ct39 {hr : RO} {a : Option Addr} {n c g : Nat} {wn ws : Nat → Nat} (hc : Cell hr (.sl wy3) (.slice a n c)) (hf : fnOk Try.prog g = true) (pc : ∀ k, k < n → PutCt Try.prog hr g [.int .i64 (iv (el hr a (k * 1 + 0)))] (wn k) (ws k)) :
    PutCt Try.prog hr 39 [.slice a n c, .func (.func g) ⟨[]⟩ ⟨[]⟩] (1 + sumTo wn n) (sumTo ws n) := by
  intro h hb vn vs E ns ss H p l1 l2
  have hl := hc.le
  refine Ct.go Try.func39 rfl rfl co39 H ?_
  refine GW.cut (fun _ => [(0, .pointer (some ⟨hb, 0, none⟩)), (1, .slice a n c), (2, .func (.func g) ⟨[]⟩ ⟨[]⟩)]) (fun y : Value × Value × Ents × List Int × List ByteArray => (hb, .cells [y.1, y.2.1] none true) :: y.2.2.1) (fun y => PS y.1 y.2.1 y.2.2.1 y.2.2.2.1 y.2.2.2.2 ∧ y.2.2.2.1.length ≤ ns.length + 1 ∧ y.2.2.2.2.length ≤ ss.length) rfl ?_ ?_
  · cases p
    · refine GW.toReg rfl ?_
      refine GL.o rfl (S1.mvP rfl) ?_
      refine GL.o rfl (S1.mvP rfl) ?_
      refine GL.o rfl (S1.nc rfl) ?_
      refine GL.o rfl (S1.fa fa35_0 rfl) ?_
      refine GL.o rfl (S1.ld sc23 rfl (.at .z) rfl) ?_
      refine GL.o rfl (S1.mvL rfl) ?_
      refine GL.o rfl (S1.len el23 rfl) ?_
      refine GL.opN rfl .no (SN.bs el23 ez23 (.c (v := (.int _ _)) rfl rfl .n) rfl rfl) (fun a1 => ?_)
      refine GL.opN rfl .no (SN.ap0 ap23_23 rfl (.row rfl (.at .z) rfl) (by omega) (by omega)) (fun a5 => ?_)
      refine GL.o rfl (S1.nc rfl) ?_
      refine GL.o rfl (S1.fa fa35_0 rfl) ?_
      refine GL.o rfl (S1.st (u := (.slice _ _ _)) sc23 rfl rfl rfl (by repeat constructor) (.s (.s .z))) ?_
      refine GL.done rfl ?_
      refine GQ.cutEnd (_, _, _, _, _) ⟨PS.rn (ns := [(n : Int)]) (by simp), by simp, by simp⟩ (.c rfl (.c rfl (.c rfl .n))) (.cons (.s (.s .z)) (.cons .z .nil))
    · refine GW.toReg rfl ?_
      refine GL.o rfl (S1.mvP rfl) ?_
      refine GL.o rfl (S1.mvP rfl) ?_
      refine GL.o rfl (S1.nc rfl) ?_
      refine GL.o rfl (S1.fa fa35_0 rfl) ?_
      refine GL.o rfl (S1.ld sc23 rfl (.at .z) rfl) ?_
      refine GL.o rfl (S1.mvL rfl) ?_
      refine GL.o rfl (S1.len el23 rfl) ?_
      refine GL.opN rfl .no (SN.bs el23 ez23 (.c (v := (.int _ _)) rfl rfl .n) rfl rfl) (fun a6 => ?_)
      refine GL.opN rfl .no (SN.apO ap23_23 rfl (.row rfl (.at .z) rfl) (by omega) (by omega) rfl (.s (.s .z)) (by first | rfl | omega | (rw [ints_len]; omega) | (rw [strs_len]; omega))) (fun a10 => ?_)
      refine GL.o rfl (S1.nc rfl) ?_
      refine GL.o rfl (S1.fa fa35_0 rfl) ?_
      refine GL.o rfl (S1.st (u := (.slice _ _ _)) sc23 rfl rfl rfl (by repeat constructor) (.s (.s .z))) ?_
      refine GL.done rfl ?_
      refine GQ.cutEnd (_, _, _, _, _) ⟨PS.rnA (ns := ns) (x := (n : Int)) rfl, by simp, by simp⟩ (.c rfl (.c rfl (.c rfl .n))) (.cons (.s (.s .z)) (.cons .z .nil))
    · refine GW.toReg rfl ?_
      refine GL.o rfl (S1.mvP rfl) ?_
      refine GL.o rfl (S1.mvP rfl) ?_
      refine GL.o rfl (S1.nc rfl) ?_
      refine GL.o rfl (S1.fa fa35_0 rfl) ?_
      refine GL.o rfl (S1.ld sc23 rfl (.at .z) rfl) ?_
      refine GL.o rfl (S1.mvL rfl) ?_
      refine GL.o rfl (S1.len el23 rfl) ?_
      refine GL.opN rfl .no (SN.bs el23 ez23 (.c (v := (.int _ _)) rfl rfl .n) rfl rfl) (fun a11 => ?_)
      refine GL.opN rfl .no (SN.ap0 ap23_23 rfl (.row rfl (.at .z) rfl) (by omega) (by omega)) (fun a15 => ?_)
      refine GL.o rfl (S1.nc rfl) ?_
      refine GL.o rfl (S1.fa fa35_0 rfl) ?_
      refine GL.o rfl (S1.st (u := (.slice _ _ _)) sc23 rfl rfl rfl (by repeat constructor) (.s (.s .z))) ?_
      refine GL.done rfl ?_
      refine GQ.cutEnd (_, _, _, _, _) ⟨PS.rr (ns := [(n : Int)]) (by simp) (by assumption), by simp, by simp⟩ (.c rfl (.c rfl (.c rfl .n))) (.cons (.s (.s .z)) (.cons .z (.cons (.s .z) .nil)))
    · refine GW.toReg rfl ?_
      refine GL.o rfl (S1.mvP rfl) ?_
      refine GL.o rfl (S1.mvP rfl) ?_
      refine GL.o rfl (S1.nc rfl) ?_
      refine GL.o rfl (S1.fa fa35_0 rfl) ?_
      refine GL.o rfl (S1.ld sc23 rfl (.at .z) rfl) ?_
      refine GL.o rfl (S1.mvL rfl) ?_
      refine GL.o rfl (S1.len el23 rfl) ?_
      refine GL.opN rfl .no (SN.bs el23 ez23 (.c (v := (.int _ _)) rfl rfl .n) rfl rfl) (fun a16 => ?_)
      refine GL.opN rfl .no (SN.apO ap23_23 rfl (.row rfl (.at .z) rfl) (by omega) (by omega) rfl (.s (.s .z)) (by first | rfl | omega | (rw [ints_len]; omega) | (rw [strs_len]; omega))) (fun a20 => ?_)
      refine GL.o rfl (S1.nc rfl) ?_
      refine GL.o rfl (S1.fa fa35_0 rfl) ?_
      refine GL.o rfl (S1.st (u := (.slice _ _ _)) sc23 rfl rfl rfl (by repeat constructor) (.s (.s .z))) ?_
      refine GL.done rfl ?_
      refine GQ.cutEnd (_, _, _, _, _) ⟨PS.rrA (ns := ns) (x := (n : Int)) (by assumption) rfl rfl, by simp, by simp⟩ (.c rfl (.c rfl (.c rfl .n))) (.cons (.s (.s .z)) (.cons .z (.cons (.s .z) .nil)))
  rintro ⟨vn1, vs1, E1, ns1, ss1⟩ f1 ⟨p1, q1, q2⟩
  refine GW.sr rfl rfl ?_
  refine GL.o rfl (S1.asI rfl) ?_
  refine GL.dn rfl ?_
  refine GW.toBlock rfl ?_
  refine GW.toLoop (X := Nat × Value × Value × Ents × List Int × List ByteArray) (fun y => [(0, .pointer (some ⟨hb, 0, none⟩)), (1, .slice a n c), (2, .func (.func g) ⟨[]⟩ ⟨[]⟩), (6, .int .i64 (y.1 : Int))]) (fun y => (hb, .cells [y.2.1, y.2.2.1] none true) :: y.2.2.2.1)
    (fun y => y.1 ≤ n ∧ PS y.2.1 y.2.2.1 y.2.2.2.1 y.2.2.2.2.1 y.2.2.2.2.2 ∧ y.2.2.2.2.1.length ≤ ns.length + 1 + sumTo wn y.1 ∧ y.2.2.2.2.2.length ≤ ss.length + sumTo ws y.1) (fun y => n - y.1) rfl (0, vn1, vs1, E1, ns1, ss1) ⟨Nat.zero_le _, p1, by simpa [sumTo] using q1, by simpa [sumTo] using q2⟩ (.c rfl (.c rfl (.c rfl (.c rfl .n)))) .tz ?_
  rintro ⟨k, vn2, vs2, E2, ns2, ss2⟩ f2 ⟨hk, p2, r1, r2⟩
  simp only at hk p2 r1 r2
  have m1 := sumTo_mono (w := wn) hk
  have m2 := sumTo_mono (w := ws) hk
  refine GW.toSeq rfl ?_
  refine GW.sr rfl rfl ?_
  refine GL.o rfl (S1.mvI rfl) ?_
  refine GL.o rfl (S1.mvL rfl) ?_
  refine GL.o rfl (S1.len el23 rfl) ?_
  refine GL.o rfl (S1.lss rfl rfl) ?_
  refine GL.dn rfl ?_
  refine GW.toD rfl rfl (fun w21 => ?_) (fun w21 => ?_)
  refine GW.toSkip rfl ?_
  refine GQ.on ?_
  refine GW.toSeq rfl ?_
  refine GW.toBlock rfl ?_
  refine GW.toReg rfl ?_
  refine GL.o rfl (S1.mvF rfl) ?_
  refine GL.o rfl (S1.mvP rfl) ?_
  refine GL.o rfl (S1.mvL rfl) ?_
  refine GL.o rfl (S1.mvI rfl) ?_
  refine GL.o rfl (S1.ixR el23 hc rfl rfl (by omega)) ?_
  refine GL.o rfl (S1.ldCI sc3 (z := 1) hc rfl (m := (k, vn2, vs2, E2, ns2, ss2).fst) (by omega) rfl (d := 0) rfl rfl) ?_
  rotate_left
  refine GW.toExit rfl ?_
  refine GQ.onE ?_
  refine GQ.onE ?_
  refine GQ.outH ?_
  refine GQ.putEnd rfl p2 (by omega) (by omega) .tz
  · have m3 := sumTo_mono (w := wn) (show k + 1 ≤ n by omega)
    have m4 := sumTo_mono (w := ws) (show k + 1 ≤ n by omega)
    simp only [sumTo] at m3 m4
    refine GL.put rfl .no hf (pc k (by omega)) p2 (.cons .z .tz) (by omega) (by omega) (.v (fs := []) (cs := []) rfl (.c rfl (.c rfl .n))) (fun vn3 vs3 E3 ns3 ss3 p3 l3 m3 => ?_)
    refine GL.done rfl ?_
    refine GQ.outN ?_
    refine GQ.on ?_
    refine GW.toReg rfl ?_
    refine GL.o rfl (S1.mvI rfl) ?_
    refine GL.o rfl (S1.inc rfl rfl (by omega)) ?_
    refine GL.o rfl (S1.asI rfl) ?_
    refine GL.done rfl ?_
    refine GQ.next (k + 1, vn3, vs3, E3, ns3, ss3) ⟨by simp only; omega, p3, by simp only [sumTo]; omega, by simp only [sumTo]; omega⟩ (by simp only; omega) (.c rfl (.c rfl (.c rfl (.c rfl .n)))) (.cons .z .tz)


theorem ct13 {hr : RO} {a : Option Addr} {n c : Nat} (hc : Cell hr (.sl wy3) (.slice a n c)) : PutCt Try.prog hr 13 [.slice a n c] (bk hr (.sl wy3) (.slice a n c)) (bk hr (.sl wy3) (.slice a n c)) := by
  intro h hb vn vs E ns ss H p l1 l2
  refine Ct.go Try.func13 rfl rfl co13 H ?_
  refine GW.toReg rfl ?_
  refine GL.o rfl (S1.mvP rfl) ?_
  refine GL.o rfl (S1.mvL rfl) ?_
  refine GL.put rfl .no fo39 ((ct39 (wn := fun k => bkL hr wy3 a (k * 1) 0) (ws := fun k => bkL hr wy3 a (k * 1) 0) hc fo8 (fun k hk => (ct8 ).le (Nat.le_refl _) (Nat.le_refl _))).le (wN' := bk hr (.sl wy3) (.slice a n c)) (wS' := bk hr (.sl wy3) (.slice a n c)) (Nat.le_refl _) (Nat.le_add_left _ _)) p (.cons .z .tz) (by omega) (by omega) (.d (.c rfl (.c rfl (.c rfl .n)))) (fun vn3 vs3 E3 ns3 ss3 p3 l3 m3 => ?_)
  refine GL.done rfl ?_
  refine GQ.putEnd rfl p3 (by omega) (by omega) (.cons .z .tz)


theorem ct48 {hr : RO} {a : Option Addr} {n c g : Nat} {wn ws : Nat → Nat} (hc : Cell hr (.sl wy23) (.slice a n c)) (hf : fnOk Try.prog g = true) (pc : ∀ k, k < n → PutCt Try.prog hr g [.slice (sa (el hr a (k * 1 + 0))) (sn (el hr a (k * 1 + 0))) (sc (el hr a (k * 1 + 0)))] (wn k) (ws k)) :
    PutCt Try.prog hr 48 [.slice a n c, .func (.func g) ⟨[]⟩ ⟨[]⟩] (1 + sumTo wn n) (sumTo ws n) := by
  intro h hb vn vs E ns ss H p l1 l2
  have hl := hc.le
  refine Ct.go Try.func48 rfl rfl co48 H ?_
  refine GW.cut (fun _ => [(0, .pointer (some ⟨hb, 0, none⟩)), (1, .slice a n c), (2, .func (.func g) ⟨[]⟩ ⟨[]⟩)]) (fun y : Value × Value × Ents × List Int × List ByteArray => (hb, .cells [y.1, y.2.1] none true) :: y.2.2.1) (fun y => PS y.1 y.2.1 y.2.2.1 y.2.2.2.1 y.2.2.2.2 ∧ y.2.2.2.1.length ≤ ns.length + 1 ∧ y.2.2.2.2.length ≤ ss.length) rfl ?_ ?_
  · cases p
    · refine GW.toReg rfl ?_
      refine GL.o rfl (S1.mvP rfl) ?_
      refine GL.o rfl (S1.mvP rfl) ?_
      refine GL.o rfl (S1.nc rfl) ?_
      refine GL.o rfl (S1.fa fa35_0 rfl) ?_
      refine GL.o rfl (S1.ld sc23 rfl (.at .z) rfl) ?_
      refine GL.o rfl (S1.mvL rfl) ?_
      refine GL.o rfl (S1.len el30 rfl) ?_
      refine GL.opN rfl .no (SN.bs el23 ez23 (.c (v := (.int _ _)) rfl rfl .n) rfl rfl) (fun a1 => ?_)
      refine GL.opN rfl .no (SN.ap0 ap23_23 rfl (.row rfl (.at .z) rfl) (by omega) (by omega)) (fun a5 => ?_)
      refine GL.o rfl (S1.nc rfl) ?_
      refine GL.o rfl (S1.fa fa35_0 rfl) ?_
      refine GL.o rfl (S1.st (u := (.slice _ _ _)) sc23 rfl rfl rfl (by repeat constructor) (.s (.s .z))) ?_
      refine GL.done rfl ?_
      refine GQ.cutEnd (_, _, _, _, _) ⟨PS.rn (ns := [(n : Int)]) (by simp), by simp, by simp⟩ (.c rfl (.c rfl (.c rfl .n))) (.cons (.s (.s .z)) (.cons .z .nil))
    · refine GW.toReg rfl ?_
      refine GL.o rfl (S1.mvP rfl) ?_
      refine GL.o rfl (S1.mvP rfl) ?_
      refine GL.o rfl (S1.nc rfl) ?_
      refine GL.o rfl (S1.fa fa35_0 rfl) ?_
      refine GL.o rfl (S1.ld sc23 rfl (.at .z) rfl) ?_
      refine GL.o rfl (S1.mvL rfl) ?_
      refine GL.o rfl (S1.len el30 rfl) ?_
      refine GL.opN rfl .no (SN.bs el23 ez23 (.c (v := (.int _ _)) rfl rfl .n) rfl rfl) (fun a6 => ?_)
      refine GL.opN rfl .no (SN.apO ap23_23 rfl (.row rfl (.at .z) rfl) (by omega) (by omega) rfl (.s (.s .z)) (by first | rfl | omega | (rw [ints_len]; omega) | (rw [strs_len]; omega))) (fun a10 => ?_)
      refine GL.o rfl (S1.nc rfl) ?_
      refine GL.o rfl (S1.fa fa35_0 rfl) ?_
      refine GL.o rfl (S1.st (u := (.slice _ _ _)) sc23 rfl rfl rfl (by repeat constructor) (.s (.s .z))) ?_
      refine GL.done rfl ?_
      refine GQ.cutEnd (_, _, _, _, _) ⟨PS.rnA (ns := ns) (x := (n : Int)) rfl, by simp, by simp⟩ (.c rfl (.c rfl (.c rfl .n))) (.cons (.s (.s .z)) (.cons .z .nil))
    · refine GW.toReg rfl ?_
      refine GL.o rfl (S1.mvP rfl) ?_
      refine GL.o rfl (S1.mvP rfl) ?_
      refine GL.o rfl (S1.nc rfl) ?_
      refine GL.o rfl (S1.fa fa35_0 rfl) ?_
      refine GL.o rfl (S1.ld sc23 rfl (.at .z) rfl) ?_
      refine GL.o rfl (S1.mvL rfl) ?_
      refine GL.o rfl (S1.len el30 rfl) ?_
      refine GL.opN rfl .no (SN.bs el23 ez23 (.c (v := (.int _ _)) rfl rfl .n) rfl rfl) (fun a11 => ?_)
      refine GL.opN rfl .no (SN.ap0 ap23_23 rfl (.row rfl (.at .z) rfl) (by omega) (by omega)) (fun a15 => ?_)
      refine GL.o rfl (S1.nc rfl) ?_
      refine GL.o rfl (S1.fa fa35_0 rfl) ?_
      refine GL.o rfl (S1.st (u := (.slice _ _ _)) sc23 rfl rfl rfl (by repeat constructor) (.s (.s .z))) ?_
      refine GL.done rfl ?_
      refine GQ.cutEnd (_, _, _, _, _) ⟨PS.rr (ns := [(n : Int)]) (by simp) (by assumption), by simp, by simp⟩ (.c rfl (.c rfl (.c rfl .n))) (.cons (.s (.s .z)) (.cons .z (.cons (.s .z) .nil)))
    · refine GW.toReg rfl ?_
      refine GL.o rfl (S1.mvP rfl) ?_
      refine GL.o rfl (S1.mvP rfl) ?_
      refine GL.o rfl (S1.nc rfl) ?_
      refine GL.o rfl (S1.fa fa35_0 rfl) ?_
      refine GL.o rfl (S1.ld sc23 rfl (.at .z) rfl) ?_
      refine GL.o rfl (S1.mvL rfl) ?_
      refine GL.o rfl (S1.len el30 rfl) ?_
      refine GL.opN rfl .no (SN.bs el23 ez23 (.c (v := (.int _ _)) rfl rfl .n) rfl rfl) (fun a16 => ?_)
      refine GL.opN rfl .no (SN.apO ap23_23 rfl (.row rfl (.at .z) rfl) (by omega) (by omega) rfl (.s (.s .z)) (by first | rfl | omega | (rw [ints_len]; omega) | (rw [strs_len]; omega))) (fun a20 => ?_)
      refine GL.o rfl (S1.nc rfl) ?_
      refine GL.o rfl (S1.fa fa35_0 rfl) ?_
      refine GL.o rfl (S1.st (u := (.slice _ _ _)) sc23 rfl rfl rfl (by repeat constructor) (.s (.s .z))) ?_
      refine GL.done rfl ?_
      refine GQ.cutEnd (_, _, _, _, _) ⟨PS.rrA (ns := ns) (x := (n : Int)) (by assumption) rfl rfl, by simp, by simp⟩ (.c rfl (.c rfl (.c rfl .n))) (.cons (.s (.s .z)) (.cons .z (.cons (.s .z) .nil)))
  rintro ⟨vn1, vs1, E1, ns1, ss1⟩ f1 ⟨p1, q1, q2⟩
  refine GW.sr rfl rfl ?_
  refine GL.o rfl (S1.asI rfl) ?_
  refine GL.dn rfl ?_
  refine GW.toBlock rfl ?_
  refine GW.toLoop (X := Nat × Value × Value × Ents × List Int × List ByteArray) (fun y => [(0, .pointer (some ⟨hb, 0, none⟩)), (1, .slice a n c), (2, .func (.func g) ⟨[]⟩ ⟨[]⟩), (6, .int .i64 (y.1 : Int))]) (fun y => (hb, .cells [y.2.1, y.2.2.1] none true) :: y.2.2.2.1)
    (fun y => y.1 ≤ n ∧ PS y.2.1 y.2.2.1 y.2.2.2.1 y.2.2.2.2.1 y.2.2.2.2.2 ∧ y.2.2.2.2.1.length ≤ ns.length + 1 + sumTo wn y.1 ∧ y.2.2.2.2.2.length ≤ ss.length + sumTo ws y.1) (fun y => n - y.1) rfl (0, vn1, vs1, E1, ns1, ss1) ⟨Nat.zero_le _, p1, by simpa [sumTo] using q1, by simpa [sumTo] using q2⟩ (.c rfl (.c rfl (.c rfl (.c rfl .n)))) .tz ?_
  rintro ⟨k, vn2, vs2, E2, ns2, ss2⟩ f2 ⟨hk, p2, r1, r2⟩
  simp only at hk p2 r1 r2
  have m1 := sumTo_mono (w := wn) hk
  have m2 := sumTo_mono (w := ws) hk
  refine GW.toSeq rfl ?_
  refine GW.sr rfl rfl ?_
  refine GL.o rfl (S1.mvI rfl) ?_
  refine GL.o rfl (S1.mvL rfl) ?_
  refine GL.o rfl (S1.len el30 rfl) ?_
  refine GL.o rfl (S1.lss rfl rfl) ?_
  refine GL.dn rfl ?_
  refine GW.toD rfl rfl (fun w21 => ?_) (fun w21 => ?_)
  refine GW.toSkip rfl ?_
  refine GQ.on ?_
  refine GW.toSeq rfl ?_
  refine GW.toBlock rfl ?_
  refine GW.toReg rfl ?_
  refine GL.o rfl (S1.mvF rfl) ?_
  refine GL.o rfl (S1.mvP rfl) ?_
  refine GL.o rfl (S1.mvL rfl) ?_
  refine GL.o rfl (S1.mvI rfl) ?_
  refine GL.o rfl (S1.ixR el30 hc rfl rfl (by omega)) ?_
  refine GL.o rfl (S1.ldCL sc23 (z := 1) hc rfl (m := (k, vn2, vs2, E2, ns2, ss2).fst) (by omega) rfl (d := 0) rfl rfl) ?_
  rotate_left
  refine GW.toExit rfl ?_
  refine GQ.onE ?_
  refine GQ.onE ?_
  refine GQ.outH ?_
  refine GQ.putEnd rfl p2 (by omega) (by omega) .tz
  · have m3 := sumTo_mono (w := wn) (show k + 1 ≤ n by omega)
    have m4 := sumTo_mono (w := ws) (show k + 1 ≤ n by omega)
    simp only [sumTo] at m3 m4
    refine GL.put rfl .no hf (pc k (by omega)) p2 (.cons .z .tz) (by omega) (by omega) (.v (fs := []) (cs := []) rfl (.c rfl (.c rfl .n))) (fun vn3 vs3 E3 ns3 ss3 p3 l3 m3 => ?_)
    refine GL.done rfl ?_
    refine GQ.outN ?_
    refine GQ.on ?_
    refine GW.toReg rfl ?_
    refine GL.o rfl (S1.mvI rfl) ?_
    refine GL.o rfl (S1.inc rfl rfl (by omega)) ?_
    refine GL.o rfl (S1.asI rfl) ?_
    refine GL.done rfl ?_
    refine GQ.next (k + 1, vn3, vs3, E3, ns3, ss3) ⟨by simp only; omega, p3, by simp only [sumTo]; omega, by simp only [sumTo]; omega⟩ (by simp only; omega) (.c rfl (.c rfl (.c rfl (.c rfl .n)))) (.cons .z .tz)


theorem ct25 {hr : RO} {a : Option Addr} {n c : Nat} (hc : Cell hr (.sl wy23) (.slice a n c)) : PutCt Try.prog hr 25 [.slice a n c] (bk hr (.sl wy23) (.slice a n c)) (bk hr (.sl wy23) (.slice a n c)) := by
  intro h hb vn vs E ns ss H p l1 l2
  refine Ct.go Try.func25 rfl rfl co25 H ?_
  refine GW.toReg rfl ?_
  refine GL.o rfl (S1.mvP rfl) ?_
  refine GL.o rfl (S1.mvL rfl) ?_
  refine GL.put rfl .no fo48 ((ct48 (wn := fun k => bkL hr wy23 a (k * 1) 0) (ws := fun k => bkL hr wy23 a (k * 1) 0) hc fo13 (fun k hk => (ct13 (hc.at hk (d := 0) (l := .sl wy3) rfl)).le (Nat.le_refl _) (Nat.le_refl _))).le (wN' := bk hr (.sl wy23) (.slice a n c)) (wS' := bk hr (.sl wy23) (.slice a n c)) (Nat.le_refl _) (Nat.le_add_left _ _)) p (.cons .z .tz) (by omega) (by omega) (.d (.c rfl (.c rfl (.c rfl .n)))) (fun vn3 vs3 E3 ns3 ss3 p3 l3 m3 => ?_)
  refine GL.done rfl ?_
  refine GQ.putEnd rfl p3 (by omega) (by omega) (.cons .z .tz)


theorem ct32 {hr : RO} {x0 : Int} {x1 : Int}  : PutCt Try.prog hr 32 [.agg ⟨[.int .i64 x0, .int .i64 x1]⟩] (1 + (1 + 0)) (1 + (1 + 0)) := by
  intro h hb vn vs E ns ss H p l1 l2
  refine Ct.go Try.func32 rfl rfl co32 H ?_
  refine GW.sr rfl rfl ?_
  refine GL.opN rfl .no (SN.bx (u := .agg ⟨_⟩) rfl .agg) (fun a1 => ?_)
  refine GL.dn rfl ?_
  refine GW.sr rfl rfl ?_
  refine GL.o rfl (S1.mvP rfl) ?_
  refine GL.o rfl (S1.fa fa25_0 rfl) ?_
  refine GL.o rfl (S1.ld sc3 rfl (.at .z) rfl) ?_
  refine GL.put rfl .no fo8 (ct8) p (.cons (.s .z) (.ts .tz)) (by omega) (by omega) (.d (.c (v := (.pointer _)) rfl (.c (v := (.int _ _)) rfl .n))) (fun vn2 vs2 E2 ns2 ss2 p2 lN2 lS2 => ?_)
  refine GL.dn rfl ?_
  refine GW.toReg rfl ?_
  refine GL.o rfl (S1.mvP rfl) ?_
  refine GL.o rfl (S1.fa fa25_1 rfl) ?_
  refine GL.o rfl (S1.ld sc3 rfl (.at .z) rfl) ?_
  refine GL.put rfl .no fo8 (ct8) p2 (.cons (.s .z) (.ts .tz)) (by omega) (by omega) (.d (.c (v := (.pointer _)) rfl (.c (v := (.int _ _)) rfl .n))) (fun vn3 vs3 E3 ns3 ss3 p3 lN3 lS3 => ?_)
  refine GL.done rfl ?_
  refine GQ.putEnd rfl p3 (by omega) (by omega) (.cons (.s .z) (.ts .tz))


theorem ct64 {hr : RO} {a : Option Addr} {n c g : Nat} {wn ws : Nat → Nat} (hc : Cell hr (.sl wy71) (.slice a n c)) (hf : fnOk Try.prog g = true) (pc : ∀ k, k < n → PutCt Try.prog hr g [.agg ⟨[.int .i64 (iv (el hr a (k * 3))), .int .i64 (iv (el hr a (k * 3 + 1))), .int .i64 (iv (el hr a (k * 3 + 2)))]⟩] (wn k) (ws k)) :
    PutCt Try.prog hr 64 [.slice a n c, .func (.func g) ⟨[]⟩ ⟨[]⟩] (1 + sumTo wn n) (sumTo ws n) := by
  intro h hb vn vs E ns ss H p l1 l2
  have hl := hc.le
  refine Ct.go Try.func64 rfl rfl co64 H ?_
  refine GW.cut (fun _ => [(0, .pointer (some ⟨hb, 0, none⟩)), (1, .slice a n c), (2, .func (.func g) ⟨[]⟩ ⟨[]⟩)]) (fun y : Value × Value × Ents × List Int × List ByteArray => (hb, .cells [y.1, y.2.1] none true) :: y.2.2.1) (fun y => PS y.1 y.2.1 y.2.2.1 y.2.2.2.1 y.2.2.2.2 ∧ y.2.2.2.1.length ≤ ns.length + 1 ∧ y.2.2.2.2.length ≤ ss.length) rfl ?_ ?_
  · cases p
    · refine GW.toReg rfl ?_
      refine GL.o rfl (S1.mvP rfl) ?_
      refine GL.o rfl (S1.mvP rfl) ?_
      refine GL.o rfl (S1.nc rfl) ?_
      refine GL.o rfl (S1.fa fa35_0 rfl) ?_
      refine GL.o rfl (S1.ld sc23 rfl (.at .z) rfl) ?_
      refine GL.o rfl (S1.mvL rfl) ?_
      refine GL.o rfl (S1.len el22 rfl) ?_
      refine GL.opN rfl .no (SN.bs el23 ez23 (.c (v := (.int _ _)) rfl rfl .n) rfl rfl) (fun a1 => ?_)
      refine GL.opN rfl .no (SN.ap0 ap23_23 rfl (.row rfl (.at .z) rfl) (by omega) (by omega)) (fun a5 => ?_)
      refine GL.o rfl (S1.nc rfl) ?_
      refine GL.o rfl (S1.fa fa35_0 rfl) ?_
      refine GL.o rfl (S1.st (u := (.slice _ _ _)) sc23 rfl rfl rfl (by repeat constructor) (.s (.s .z))) ?_
      refine GL.done rfl ?_
      refine GQ.cutEnd (_, _, _, _, _) ⟨PS.rn (ns := [(n : Int)]) (by simp), by simp, by simp⟩ (.c rfl (.c rfl (.c rfl .n))) (.cons (.s (.s .z)) (.cons .z .nil))
    · refine GW.toReg rfl ?_
      refine GL.o rfl (S1.mvP rfl) ?_
      refine GL.o rfl (S1.mvP rfl) ?_
      refine GL.o rfl (S1.nc rfl) ?_
      refine GL.o rfl (S1.fa fa35_0 rfl) ?_
      refine GL.o rfl (S1.ld sc23 rfl (.at .z) rfl) ?_
      refine GL.o rfl (S1.mvL rfl) ?_
      refine GL.o rfl (S1.len el22 rfl) ?_
      refine GL.opN rfl .no (SN.bs el23 ez23 (.c (v := (.int _ _)) rfl rfl .n) rfl rfl) (fun a6 => ?_)
      refine GL.opN rfl .no (SN.apO ap23_23 rfl (.row rfl (.at .z) rfl) (by omega) (by omega) rfl (.s (.s .z)) (by first | rfl | omega | (rw [ints_len]; omega) | (rw [strs_len]; omega))) (fun a10 => ?_)
      refine GL.o rfl (S1.nc rfl) ?_
      refine GL.o rfl (S1.fa fa35_0 rfl) ?_
      refine GL.o rfl (S1.st (u := (.slice _ _ _)) sc23 rfl rfl rfl (by repeat constructor) (.s (.s .z))) ?_
      refine GL.done rfl ?_
      refine GQ.cutEnd (_, _, _, _, _) ⟨PS.rnA (ns := ns) (x := (n : Int)) rfl, by simp, by simp⟩ (.c rfl (.c rfl (.c rfl .n))) (.cons (.s (.s .z)) (.cons .z .nil))
    · refine GW.toReg rfl ?_
      refine GL.o rfl (S1.mvP rfl) ?_
      refine GL.o rfl (S1.mvP rfl) ?_
      refine GL.o rfl (S1.nc rfl) ?_
      refine GL.o rfl (S1.fa fa35_0 rfl) ?_
      refine GL.o rfl (S1.ld sc23 rfl (.at .z) rfl) ?_
      refine GL.o rfl (S1.mvL rfl) ?_
      refine GL.o rfl (S1.len el22 rfl) ?_
      refine GL.opN rfl .no (SN.bs el23 ez23 (.c (v := (.int _ _)) rfl rfl .n) rfl rfl) (fun a11 => ?_)
      refine GL.opN rfl .no (SN.ap0 ap23_23 rfl (.row rfl (.at .z) rfl) (by omega) (by omega)) (fun a15 => ?_)
      refine GL.o rfl (S1.nc rfl) ?_
      refine GL.o rfl (S1.fa fa35_0 rfl) ?_
      refine GL.o rfl (S1.st (u := (.slice _ _ _)) sc23 rfl rfl rfl (by repeat constructor) (.s (.s .z))) ?_
      refine GL.done rfl ?_
      refine GQ.cutEnd (_, _, _, _, _) ⟨PS.rr (ns := [(n : Int)]) (by simp) (by assumption), by simp, by simp⟩ (.c rfl (.c rfl (.c rfl .n))) (.cons (.s (.s .z)) (.cons .z (.cons (.s .z) .nil)))
    · refine GW.toReg rfl ?_
      refine GL.o rfl (S1.mvP rfl) ?_
      refine GL.o rfl (S1.mvP rfl) ?_
      refine GL.o rfl (S1.nc rfl) ?_
      refine GL.o rfl (S1.fa fa35_0 rfl) ?_
      refine GL.o rfl (S1.ld sc23 rfl (.at .z) rfl) ?_
      refine GL.o rfl (S1.mvL rfl) ?_
      refine GL.o rfl (S1.len el22 rfl) ?_
      refine GL.opN rfl .no (SN.bs el23 ez23 (.c (v := (.int _ _)) rfl rfl .n) rfl rfl) (fun a16 => ?_)
      refine GL.opN rfl .no (SN.apO ap23_23 rfl (.row rfl (.at .z) rfl) (by omega) (by omega) rfl (.s (.s .z)) (by first | rfl | omega | (rw [ints_len]; omega) | (rw [strs_len]; omega))) (fun a20 => ?_)
      refine GL.o rfl (S1.nc rfl) ?_
      refine GL.o rfl (S1.fa fa35_0 rfl) ?_
      refine GL.o rfl (S1.st (u := (.slice _ _ _)) sc23 rfl rfl rfl (by repeat constructor) (.s (.s .z))) ?_
      refine GL.done rfl ?_
      refine GQ.cutEnd (_, _, _, _, _) ⟨PS.rrA (ns := ns) (x := (n : Int)) (by assumption) rfl rfl, by simp, by simp⟩ (.c rfl (.c rfl (.c rfl .n))) (.cons (.s (.s .z)) (.cons .z (.cons (.s .z) .nil)))
  rintro ⟨vn1, vs1, E1, ns1, ss1⟩ f1 ⟨p1, q1, q2⟩
  refine GW.sr rfl rfl ?_
  refine GL.o rfl (S1.asI rfl) ?_
  refine GL.dn rfl ?_
  refine GW.toBlock rfl ?_
  refine GW.toLoop (X := Nat × Value × Value × Ents × List Int × List ByteArray) (fun y => [(0, .pointer (some ⟨hb, 0, none⟩)), (1, .slice a n c), (2, .func (.func g) ⟨[]⟩ ⟨[]⟩), (6, .int .i64 (y.1 : Int))]) (fun y => (hb, .cells [y.2.1, y.2.2.1] none true) :: y.2.2.2.1)
    (fun y => y.1 ≤ n ∧ PS y.2.1 y.2.2.1 y.2.2.2.1 y.2.2.2.2.1 y.2.2.2.2.2 ∧ y.2.2.2.2.1.length ≤ ns.length + 1 + sumTo wn y.1 ∧ y.2.2.2.2.2.length ≤ ss.length + sumTo ws y.1) (fun y => n - y.1) rfl (0, vn1, vs1, E1, ns1, ss1) ⟨Nat.zero_le _, p1, by simpa [sumTo] using q1, by simpa [sumTo] using q2⟩ (.c rfl (.c rfl (.c rfl (.c rfl .n)))) .tz ?_
  rintro ⟨k, vn2, vs2, E2, ns2, ss2⟩ f2 ⟨hk, p2, r1, r2⟩
  simp only at hk p2 r1 r2
  have m1 := sumTo_mono (w := wn) hk
  have m2 := sumTo_mono (w := ws) hk
  refine GW.toSeq rfl ?_
  refine GW.sr rfl rfl ?_
  refine GL.o rfl (S1.mvI rfl) ?_
  refine GL.o rfl (S1.mvL rfl) ?_
  refine GL.o rfl (S1.len el22 rfl) ?_
  refine GL.o rfl (S1.lss rfl rfl) ?_
  refine GL.dn rfl ?_
  refine GW.toD rfl rfl (fun w21 => ?_) (fun w21 => ?_)
  refine GW.toSkip rfl ?_
  refine GQ.on ?_
  refine GW.toSeq rfl ?_
  refine GW.toBlock rfl ?_
  refine GW.toReg rfl ?_
  refine GL.o rfl (S1.mvF rfl) ?_
  refine GL.o rfl (S1.mvP rfl) ?_
  refine GL.o rfl (S1.mvL rfl) ?_
  refine GL.o rfl (S1.mvI rfl) ?_
  refine GL.o rfl (S1.ixR el22 hc rfl rfl (by omega)) ?_
  refine GL.o rfl (S1.ldE ag71 hc rfl (m := (k, vn2, vs2, E2, ns2, ss2).fst) (by omega) rfl le71) ?_
  rotate_left
  refine GW.toExit rfl ?_
  refine GQ.onE ?_
  refine GQ.onE ?_
  refine GQ.outH ?_
  refine GQ.putEnd rfl p2 (by omega) (by omega) .tz
  · have m3 := sumTo_mono (w := wn) (show k + 1 ≤ n by omega)
    have m4 := sumTo_mono (w := ws) (show k + 1 ≤ n by omega)
    simp only [sumTo] at m3 m4
    refine GL.put rfl .no hf (pc k (by omega)) p2 (.cons .z .tz) (by omega) (by omega) (.v (fs := []) (cs := []) rfl (.c rfl (.c rfl .n))) (fun vn3 vs3 E3 ns3 ss3 p3 l3 m3 => ?_)
    refine GL.done rfl ?_
    refine GQ.outN ?_
    refine GQ.on ?_
    refine GW.toReg rfl ?_
    refine GL.o rfl (S1.mvI rfl) ?_
    refine GL.o rfl (S1.inc rfl rfl (by omega)) ?_
    refine GL.o rfl (S1.asI rfl) ?_
    refine GL.done rfl ?_
    refine GQ.next (k + 1, vn3, vs3, E3, ns3, ss3) ⟨by simp only; omega, p3, by simp only [sumTo]; omega, by simp only [sumTo]; omega⟩ (by simp only; omega) (.c rfl (.c rfl (.c rfl (.c rfl .n)))) (.cons .z .tz)


theorem ct65 {hr : RO} {x0 : Int} {x1 : Int} {x2 : Int}  : PutCt Try.prog hr 65 [.agg ⟨[.int .i64 x0, .int .i64 x1, .int .i64 x2]⟩] (1 + (1 + (1 + 0))) (1 + (1 + (1 + 0))) := by
  intro h hb vn vs E ns ss H p l1 l2
  refine Ct.go Try.func65 rfl rfl co65 H ?_
  refine GW.sr rfl rfl ?_
  refine GL.opN rfl .no (SN.bx (u := .agg ⟨_⟩) rfl .agg) (fun a1 => ?_)
  refine GL.dn rfl ?_
  refine GW.sr rfl rfl ?_
  refine GL.o rfl (S1.mvP rfl) ?_
  refine GL.o rfl (S1.fa fa71_0 rfl) ?_
  refine GL.o rfl (S1.ld sc3 rfl (.at .z) rfl) ?_
  refine GL.put rfl .no fo8 (ct8) p (.cons (.s .z) (.ts .tz)) (by omega) (by omega) (.d (.c (v := (.pointer _)) rfl (.c (v := (.int _ _)) rfl .n))) (fun vn2 vs2 E2 ns2 ss2 p2 lN2 lS2 => ?_)
  refine GL.dn rfl ?_
  refine GW.sr rfl rfl ?_
  refine GL.o rfl (S1.mvP rfl) ?_
  refine GL.o rfl (S1.fa fa71_1 rfl) ?_
  refine GL.o rfl (S1.ld sc3 rfl (.at .z) rfl) ?_
  refine GL.put rfl .no fo8 (ct8) p2 (.cons (.s .z) (.ts .tz)) (by omega) (by omega) (.d (.c (v := (.pointer _)) rfl (.c (v := (.int _ _)) rfl .n))) (fun vn3 vs3 E3 ns3 ss3 p3 lN3 lS3 => ?_)
  refine GL.dn rfl ?_
  refine GW.toReg rfl ?_
  refine GL.o rfl (S1.mvP rfl) ?_
  refine GL.o rfl (S1.fa fa71_2 rfl) ?_
  refine GL.o rfl (S1.ld sc3 rfl (.at .z) rfl) ?_
  refine GL.put rfl .no fo8 (ct8) p3 (.cons (.s .z) (.ts .tz)) (by omega) (by omega) (.d (.c (v := (.pointer _)) rfl (.c (v := (.int _ _)) rfl .n))) (fun vn4 vs4 E4 ns4 ss4 p4 lN4 lS4 => ?_)
  refine GL.done rfl ?_
  refine GQ.putEnd rfl p4 (by omega) (by omega) (.cons (.s .z) (.ts .tz))


theorem ct57 {hr : RO} {a : Option Addr} {n c : Nat} (hc : Cell hr (.sl wy71) (.slice a n c)) : PutCt Try.prog hr 57 [.slice a n c] (bk hr (.sl wy71) (.slice a n c)) (bk hr (.sl wy71) (.slice a n c)) := by
  intro h hb vn vs E ns ss H p l1 l2
  refine Ct.go Try.func57 rfl rfl co57 H ?_
  refine GW.toReg rfl ?_
  refine GL.o rfl (S1.mvP rfl) ?_
  refine GL.o rfl (S1.mvL rfl) ?_
  refine GL.put rfl .no fo64 ((ct64 (wn := fun k => bkL hr wy71 a (k * 3) 0) (ws := fun k => bkL hr wy71 a (k * 3) 0) hc fo65 (fun k hk => (ct65 ).le (Nat.le_refl _) (Nat.le_refl _))).le (wN' := bk hr (.sl wy71) (.slice a n c)) (wS' := bk hr (.sl wy71) (.slice a n c)) (Nat.le_refl _) (Nat.le_add_left _ _)) p (.cons .z .tz) (by omega) (by omega) (.d (.c rfl (.c rfl (.c rfl .n)))) (fun vn3 vs3 E3 ns3 ss3 p3 l3 m3 => ?_)
  refine GL.done rfl ?_
  refine GQ.putEnd rfl p3 (by omega) (by omega) (.cons .z .tz)


theorem ct35 {hr : RO} {a0 : Option Addr} {n0 c0 : Nat} {a1 : Option Addr} {n1 c1 : Nat} {x2 : Int} {x3 : Int} (h0 : Cell hr (.sl wy71) (.slice a0 n0 c0)) (h1 : Cell hr (.sl wy3) (.slice a1 n1 c1)) : PutCt Try.prog hr 35 [.agg ⟨[.slice a0 n0 c0, .slice a1 n1 c1, .int .i64 x2, .int .i64 x3]⟩] (bk hr (.sl wy71) (.slice a0 n0 c0) + (bk hr (.sl wy3) (.slice a1 n1 c1) + (1 + (1 + 0)))) (bk hr (.sl wy71) (.slice a0 n0 c0) + (bk hr (.sl wy3) (.slice a1 n1 c1) + (1 + (1 + 0)))) := by
  intro h hb vn vs E ns ss H p l1 l2
  refine Ct.go Try.func35 rfl rfl co35 H ?_
  refine GW.sr rfl rfl ?_
  refine GL.opN rfl .no (SN.bx (u := .agg ⟨_⟩) rfl .agg) (fun a1 => ?_)
  refine GL.dn rfl ?_
  refine GW.sr rfl rfl ?_
  refine GL.o rfl (S1.mvP rfl) ?_
  refine GL.o rfl (S1.fa fa27_0 rfl) ?_
  refine GL.o rfl (S1.ld sc22 rfl (.at .z) rfl) ?_
  refine GL.put rfl .no fo57 (ct57 (by assumption)) p (.cons (.s .z) (.ts .tz)) (by omega) (by omega) (.d (.c (v := (.pointer _)) rfl (.c (v := (.slice _ _ _)) rfl .n))) (fun vn2 vs2 E2 ns2 ss2 p2 lN2 lS2 => ?_)
  refine GL.dn rfl ?_
  refine GW.sr rfl rfl ?_
  refine GL.o rfl (S1.mvP rfl) ?_
  refine GL.o rfl (S1.fa fa27_1 rfl) ?_
  refine GL.o rfl (S1.ld sc23 rfl (.at .z) rfl) ?_
  refine GL.put rfl .no fo13 (ct13 (by assumption)) p2 (.cons (.s .z) (.ts .tz)) (by omega) (by omega) (.d (.c (v := (.pointer _)) rfl (.c (v := (.slice _ _ _)) rfl .n))) (fun vn3 vs3 E3 ns3 ss3 p3 lN3 lS3 => ?_)
  refine GL.dn rfl ?_
  refine GW.toReg rfl ?_
  refine GL.o rfl (S1.mvP rfl) ?_
  refine GL.o rfl (S1.fa fa27_2 rfl) ?_
  refine GL.o rfl (S1.ldA ag25 rfl (.at .z) (by repeat constructor)) ?_
  refine GL.put rfl .no fo32 (ct32) p3 (.cons (.s .z) (.ts .tz)) (by omega) (by omega) (.d (.c (v := (.pointer _)) rfl (.c (v := (.agg _)) rfl .n))) (fun vn4 vs4 E4 ns4 ss4 p4 lN4 lS4 => ?_)
  refine GL.done rfl ?_
  refine GQ.putEnd rfl p4 (by omega) (by omega) (.cons (.s .z) (.ts .tz))


theorem ct36 {hr : RO} {x0 : Int} {x1 : Int} {x2 : Int}  : PutCt Try.prog hr 36 [.agg ⟨[.int .i64 x0, .int .i64 x1, .int .i64 x2]⟩] (1 + (1 + (1 + 0))) (1 + (1 + (1 + 0))) := by
  intro h hb vn vs E ns ss H p l1 l2
  refine Ct.go Try.func36 rfl rfl co36 H ?_
  refine GW.sr rfl rfl ?_
  refine GL.opN rfl .no (SN.bx (u := .agg ⟨_⟩) rfl .agg) (fun a1 => ?_)
  refine GL.dn rfl ?_
  refine GW.sr rfl rfl ?_
  refine GL.o rfl (S1.mvP rfl) ?_
  refine GL.o rfl (S1.fa fa29_0 rfl) ?_
  refine GL.o rfl (S1.ld sc3 rfl (.at .z) rfl) ?_
  refine GL.put rfl .no fo8 (ct8) p (.cons (.s .z) (.ts .tz)) (by omega) (by omega) (.d (.c (v := (.pointer _)) rfl (.c (v := (.int _ _)) rfl .n))) (fun vn2 vs2 E2 ns2 ss2 p2 lN2 lS2 => ?_)
  refine GL.dn rfl ?_
  refine GW.sr rfl rfl ?_
  refine GL.o rfl (S1.mvP rfl) ?_
  refine GL.o rfl (S1.fa fa29_1 rfl) ?_
  refine GL.o rfl (S1.ld sc3 rfl (.at .z) rfl) ?_
  refine GL.put rfl .no fo8 (ct8) p2 (.cons (.s .z) (.ts .tz)) (by omega) (by omega) (.d (.c (v := (.pointer _)) rfl (.c (v := (.int _ _)) rfl .n))) (fun vn3 vs3 E3 ns3 ss3 p3 lN3 lS3 => ?_)
  refine GL.dn rfl ?_
  refine GW.toReg rfl ?_
  refine GL.o rfl (S1.mvP rfl) ?_
  refine GL.o rfl (S1.fa fa29_2 rfl) ?_
  refine GL.o rfl (S1.ld sc3 rfl (.at .z) rfl) ?_
  refine GL.put rfl .no fo8 (ct8) p3 (.cons (.s .z) (.ts .tz)) (by omega) (by omega) (.d (.c (v := (.pointer _)) rfl (.c (v := (.int _ _)) rfl .n))) (fun vn4 vs4 E4 ns4 ss4 p4 lN4 lS4 => ?_)
  refine GL.done rfl ?_
  refine GQ.putEnd rfl p4 (by omega) (by omega) (.cons (.s .z) (.ts .tz))


abbrev xsB (a0 : Option Addr) (n0 c0 : Nat) (a1 : Option Addr) (n1 c1 : Nat) (x2 : Int) (x3 : Int) (x4 : Int) (a5 : Option Addr) (n5 c5 : Nat) (x6 : Int) (x7 : Int) (x8 : Int) (a9 : Option Addr) (n9 c9 : Nat) (a10 : Option Addr) (n10 c10 : Nat) (x11 : Int) : List Value := [.slice a0 n0 c0, .slice a1 n1 c1, .int .i64 x2, .int .i64 x3, .int .i64 x4, .slice a5 n5 c5, .int .i64 x6, .int .i64 x7, .int .i64 x8, .slice a9 n9 c9, .slice a10 n10 c10, .int .i64 x11]

theorem ctAll {hr : RO} {a0 : Option Addr} {n0 c0 : Nat} {a1 : Option Addr} {n1 c1 : Nat} {x2 : Int} {x3 : Int} {x4 : Int} {a5 : Option Addr} {n5 c5 : Nat} {x6 : Int} {x7 : Int} {x8 : Int} {a9 : Option Addr} {n9 c9 : Nat} {a10 : Option Addr} {n10 c10 : Nat} {x11 : Int} (h0 : Cell hr (.sl wy71) (.slice a0 n0 c0)) (h1 : Cell hr (.sl wy3) (.slice a1 n1 c1)) (h5 : Cell hr (.sl wy3) (.slice a5 n5 c5)) (h9 : Cell hr (.sl wy3) (.slice a9 n9 c9)) (h10 : Cell hr (.sl wy23) (.slice a10 n10 c10)) {h : EH} {hb : Nat} (H : Hp hr h [hb] [(hb, .cells zero2 none true)] h) (l1 : bk hr (.sl wy71) (.slice a0 n0 c0) + (bk hr (.sl wy3) (.slice a1 n1 c1) + (1 + (1 + (1 + (bk hr (.sl wy3) (.slice a5 n5 c5) + (1 + (1 + (1 + (bk hr (.sl wy3) (.slice a9 n9 c9) + (bk hr (.sl wy23) (.slice a10 n10 c10) + (1 + 0))))))))))) ≤ 1073741824) :
    Ct Try.prog 4 ⟨[.agg ⟨xsB a0 n0 c0 a1 n1 c1 x2 x3 x4 a5 n5 c5 x6 x7 x8 a9 n9 c9 a10 n10 c10 x11⟩] ++ [.pointer (some ⟨hb, 0, none⟩)]⟩ h [hb] (fun _ : Value × Value × Ents × List Int × List ByteArray => .tuple #[])
      (fun y => PS y.1 y.2.1 y.2.2.1 y.2.2.2.1 y.2.2.2.2 ∧ y.2.2.2.1.length ≤ ([] : List Int).length + (bk hr (.sl wy71) (.slice a0 n0 c0) + (bk hr (.sl wy3) (.slice a1 n1 c1) + (1 + (1 + (1 + (bk hr (.sl wy3) (.slice a5 n5 c5) + (1 + (1 + (1 + (bk hr (.sl wy3) (.slice a9 n9 c9) + (bk hr (.sl wy23) (.slice a10 n10 c10) + (1 + 0)))))))))))) ∧ y.2.2.2.2.length ≤ ([] : List ByteArray).length + (bk hr (.sl wy71) (.slice a0 n0 c0) + (bk hr (.sl wy3) (.slice a1 n1 c1) + (1 + (1 + (1 + (bk hr (.sl wy3) (.slice a5 n5 c5) + (1 + (1 + (1 + (bk hr (.sl wy3) (.slice a9 n9 c9) + (bk hr (.sl wy23) (.slice a10 n10 c10) + (1 + 0))))))))))))) (fun y => (hb, .cells [y.1, y.2.1] none true) :: y.2.2.1) := by
  have p := PS.nn
  have e0 : ([] : List Int).length = 0 := rfl
  have e1 : ([] : List ByteArray).length = 0 := rfl
  refine Ct.go Try.func4 rfl rfl co4 H ?_
  refine GW.sr rfl rfl ?_
  refine GL.opN rfl .no (SN.bx (u := .agg ⟨_⟩) rfl .agg) (fun a1 => ?_)
  refine GL.dn rfl ?_
  refine GW.sr rfl rfl ?_
  refine GL.o rfl (S1.mvP rfl) ?_
  refine GL.o rfl (S1.fa fa32_0 rfl) ?_
  refine GL.o rfl (S1.ldA ag27 rfl (.at .z) (by repeat constructor)) ?_
  refine GL.put rfl .no fo35 (ct35 (by assumption) (by assumption)) p (.cons (.s .z) .nil) (by omega) (by omega) (.d (.c (v := (.pointer _)) rfl (.c (v := (.agg _)) rfl .n))) (fun vn2 vs2 E2 ns2 ss2 p2 lN2 lS2 => ?_)
  refine GL.dn rfl ?_
  refine GW.sr rfl rfl ?_
  refine GL.o rfl (S1.mvP rfl) ?_
  refine GL.o rfl (S1.fa fa32_1 rfl) ?_
  refine GL.o rfl (S1.ld sc3 rfl (.at .z) rfl) ?_
  refine GL.put rfl .no fo8 (ct8) p2 (.cons (.s .z) (.ts .tz)) (by omega) (by omega) (.d (.c (v := (.pointer _)) rfl (.c (v := (.int _ _)) rfl .n))) (fun vn3 vs3 E3 ns3 ss3 p3 lN3 lS3 => ?_)
  refine GL.dn rfl ?_
  refine GW.sr rfl rfl ?_
  refine GL.o rfl (S1.mvP rfl) ?_
  refine GL.o rfl (S1.fa fa32_2 rfl) ?_
  refine GL.o rfl (S1.ld sc23 rfl (.at .z) rfl) ?_
  refine GL.put rfl .no fo13 (ct13 (by assumption)) p3 (.cons (.s .z) (.ts .tz)) (by omega) (by omega) (.d (.c (v := (.pointer _)) rfl (.c (v := (.slice _ _ _)) rfl .n))) (fun vn4 vs4 E4 ns4 ss4 p4 lN4 lS4 => ?_)
  refine GL.dn rfl ?_
  refine GW.sr rfl rfl ?_
  refine GL.o rfl (S1.mvP rfl) ?_
  refine GL.o rfl (S1.fa fa32_3 rfl) ?_
  refine GL.o rfl (S1.ldA ag29 rfl (.at .z) (by repeat constructor)) ?_
  refine GL.put rfl .no fo36 (ct36) p4 (.cons (.s .z) (.ts .tz)) (by omega) (by omega) (.d (.c (v := (.pointer _)) rfl (.c (v := (.agg _)) rfl .n))) (fun vn5 vs5 E5 ns5 ss5 p5 lN5 lS5 => ?_)
  refine GL.dn rfl ?_
  refine GW.sr rfl rfl ?_
  refine GL.o rfl (S1.mvP rfl) ?_
  refine GL.o rfl (S1.fa fa32_4 rfl) ?_
  refine GL.o rfl (S1.ld sc23 rfl (.at .z) rfl) ?_
  refine GL.put rfl .no fo13 (ct13 (by assumption)) p5 (.cons (.s .z) (.ts .tz)) (by omega) (by omega) (.d (.c (v := (.pointer _)) rfl (.c (v := (.slice _ _ _)) rfl .n))) (fun vn6 vs6 E6 ns6 ss6 p6 lN6 lS6 => ?_)
  refine GL.dn rfl ?_
  refine GW.sr rfl rfl ?_
  refine GL.o rfl (S1.mvP rfl) ?_
  refine GL.o rfl (S1.fa fa32_5 rfl) ?_
  refine GL.o rfl (S1.ld sc30 rfl (.at .z) rfl) ?_
  refine GL.put rfl .no fo25 (ct25 (by assumption)) p6 (.cons (.s .z) (.ts .tz)) (by omega) (by omega) (.d (.c (v := (.pointer _)) rfl (.c (v := (.slice _ _ _)) rfl .n))) (fun vn7 vs7 E7 ns7 ss7 p7 lN7 lS7 => ?_)
  refine GL.dn rfl ?_
  refine GW.toReg rfl ?_
  refine GL.o rfl (S1.mvP rfl) ?_
  refine GL.o rfl (S1.fa fa32_6 rfl) ?_
  refine GL.o rfl (S1.ld sc3 rfl (.at .z) rfl) ?_
  refine GL.put rfl .no fo8 (ct8) p7 (.cons (.s .z) (.ts .tz)) (by omega) (by omega) (.d (.c (v := (.pointer _)) rfl (.c (v := (.int _ _)) rfl .n))) (fun vn8 vs8 E8 ns8 ss8 p8 lN8 lS8 => ?_)
  refine GL.done rfl ?_
  refine GQ.putEnd rfl p8 (by omega) (by omega) (.cons (.s .z) (.ts .tz))


theorem cw40 : WipR Try.prog 40 wy3 := by
  intro h v E m w hO hf hw H
  refine Ct.go Try.func40 rfl rfl co40 H ?_
  cases hO with
  | nil =>
    refine GW.sr rfl rfl ?_
    refine GL.o rfl (S1.asI rfl) ?_
    refine GL.dn rfl ?_
    refine GW.toBlock rfl ?_
    refine GW.toLoop (X := Unit) (fun _ => [(0, nilS), (1, .func (.func w) ⟨[]⟩ ⟨[]⟩), (4, .int .i64 0)]) (fun _ => []) (fun _ => True) (fun _ => 0) rfl () trivial (.c rfl (.c rfl (.c rfl .n))) .nil ?_
    rintro ⟨⟩ f _
    refine GW.toSeq rfl ?_
    refine GW.sr rfl rfl ?_
    refine GL.o rfl (S1.mvI rfl) ?_
    refine GL.o rfl (S1.mvL rfl) ?_
    refine GL.o rfl (S1.len el23 rfl) ?_
    refine GL.o rfl (S1.lss rfl rfl) ?_
    refine GL.dn rfl ?_
    refine GW.toF rfl rfl ?_
    refine GW.toExit rfl ?_
    refine GQ.onE ?_
    refine GQ.onE ?_
    refine GQ.outH ?_
    refine GQ.retN [] .nil .z rfl ?_ .nil
    exact .nil
  | @row r m c vs opn hl hm ho ht hmc =>
    refine GW.sr rfl rfl ?_
    refine GL.o rfl (S1.asI rfl) ?_
    refine GL.dn rfl ?_
    refine GW.toBlock rfl ?_
    refine GW.toLoop (X := Nat × List Value) (fun x => [(0, .slice (some ⟨r, 0, none⟩) m c), (1, .func (.func w) ⟨[]⟩ ⟨[]⟩), (4, .int .i64 x.1)]) (fun x => [(r, .cells x.2 opn true)]) (fun x => x.1 ≤ m ∧ x.2.length = c * 1 ∧ RowT wy3 x.2) (fun x => m - x.1) rfl (0, vs) ⟨Nat.zero_le _, hl, ht⟩ (.c rfl (.c rfl (.c rfl .n))) .tz ?_
    rintro ⟨k, us⟩ f ⟨hk, hl2, ht2⟩
    simp only at hk hl2 ht2
    refine GW.toSeq rfl ?_
    refine GW.sr rfl rfl ?_
    refine GL.o rfl (S1.mvI rfl) ?_
    refine GL.o rfl (S1.mvL rfl) ?_
    refine GL.o rfl (S1.len el23 rfl) ?_
    refine GL.o rfl (S1.lss rfl rfl) ?_
    refine GL.dn rfl ?_
    refine GW.toD rfl rfl (fun w1 => ?_) (fun w1 => ?_)
    refine GW.toSkip rfl ?_
    refine GQ.on ?_
    refine GW.toSeq rfl ?_
    refine GW.toBlock rfl ?_
    refine GW.toReg rfl ?_
    refine GL.o rfl (S1.mvF rfl) ?_
    refine GL.o rfl (S1.mvL rfl) ?_
    refine GL.o rfl (S1.mvI rfl) ?_
    refine GL.o rfl (S1.ixN el23 rfl rfl (by omega)) ?_
    rotate_left
    refine GW.toExit rfl ?_
    refine GQ.onE ?_
    refine GQ.onE ?_
    refine GQ.outH ?_
    refine GQ.retN [(r, .cells us opn true)] .nil .z rfl ?_ .tz
    exact .row hl2 hm ho ht2 hmc
    refine GL.call rfl .no hf (ps := [(r, .cells us opn true)]) .tz (fun h' H' => hw h' r c k _ us opn hl2 (by omega) ht2 (Nat.zero_add _) (H'.give (ps := [(r, .cells us opn true)]) .tz)) (.v (fs := []) (cs := []) rfl (.c (v := .pointer _) rfl .n)) (fun us' ⟨q1, q2⟩ => ?_)
    refine GL.done rfl ?_
    refine GQ.outN ?_
    refine GQ.on ?_
    refine GW.toReg rfl ?_
    refine GL.o rfl (S1.mvI rfl) ?_
    refine GL.o rfl (S1.inc rfl rfl (by omega)) ?_
    refine GL.o rfl (S1.asI rfl) ?_
    refine GL.done rfl ?_
    refine GQ.next (k + 1, us') ⟨by simp only; omega, by simp only; omega, q2⟩ (by simp only; omega) (.c rfl (.c rfl (.c rfl .n))) (.cons .z .nil)


theorem cw41 {h : EH} {r o : Nat} {vs : List Value} {opn : Option Nat} (ho : o < vs.length) (H : Hp (fun _ => none) h [r] [(r, .cells vs opn true)] h) :
    Ct Try.prog 41 ⟨[.pointer (some ⟨r, o, none⟩)]⟩ h [r] (fun _ : Unit => .tuple #[]) (fun _ => True) (fun _ => [(r, .cells (vs.set o (.int .i64 (-77))) opn true)]) := by
  refine Ct.go Try.func41 rfl rfl co41 H ?_
  refine GW.toReg rfl ?_
  refine GL.o rfl (S1.mvP rfl) ?_
  refine GL.o rfl (S1.nc rfl) ?_
  refine GL.o rfl (S1.stV (u := (.int _ _)) sc3 rfl rfl rfl (by omega) .z) ?_
  refine GL.done rfl ?_
  refine GQ.retN () .nil .z ?_ ?_ .tz
  rfl
  exact trivial

theorem we41 : WipE Try.prog 41 wy3 := by
  intro h r m i o vs opn hl hi ht ho H
  have hl' : vs.length = m * 1 := hl
  subst ho
  refine (cw41 (o := i * wy3.length) (by show i * 1 < _; omega) H).mono fun _ _ => ⟨_, rfl, ⟨List.length_set .., RowT.set0 rfl (.int (by simp)) ht⟩, rfl⟩


theorem cw15 : WipL Try.prog 15 wy3 := by
  intro h b o bs v E m hv hO H
  obtain ⟨a, cp, rfl⟩ := hO.eta
  refine Ct.go Try.func15 rfl rfl co15 H ?_
  refine GW.toReg rfl ?_
  refine GL.o rfl (S1.mvP rfl) ?_
  refine GL.o rfl (S1.nc rfl) ?_
  refine GL.o rfl (S1.ld sc23 rfl (.at .z) (hv)) ?_
  refine GL.call rfl .no fo40 (ps := E) (.ts .tz) (fun h' H' => cw40 h' _ E m _ hO fo41 we41 (H'.give (ps := E) (.ts .tz))) (.d (.c rfl (.c rfl .n))) (fun E' q => ?_)
  refine GL.done rfl ?_
  refine GQ.retN _ .nil .z rfl ?_ (.cons (.sA .z) .tz)
  (simp [*]; done)


end Go.Proofs.Ytenkebdjlajanaa
