/- P1: contracts: what is put, what is written over (printed by wip/tools/pw.py). -/
import Derived.Test.YtadgfnnkpddneaaGreatBA
set_option linter.all false
set_option linter.constructorNameAsVariable false
set_option linter.unusedSimpArgs false
set_option linter.unusedVariables false
set_option linter.unusedSectionVars false
set_option linter.unnecessarySimpa false
namespace Go.Proofs.YtadgfnnkpddneaaGreat
open Go Go.E
set_option maxRecDepth 100000

theorem ct8 {hr : RO} {x : Int} : PutCt Tryz.prog hr 8 [.int .i64 x] 1 1 := by
  intro h hb vn vs E ns ss H p l1 l2
  cases p <;> refine Ct.go Tryz.func8 rfl rfl co8 H ?_
  · refine GW.toReg rfl ?_
    refine GL.o rfl (S1.mvP rfl) ?_
    refine GL.o rfl (S1.mvP rfl) ?_
    refine GL.o rfl (S1.nc rfl) ?_
    refine GL.o rfl (S1.fa fa32_0 rfl) ?_
    refine GL.o rfl (S1.ld sc23 rfl (.at .z) rfl) ?_
    refine GL.o rfl (S1.mvI rfl) ?_
    refine GL.opN rfl .no (SN.bs el23 ez23 (.c (v := (.int _ _)) rfl rfl .n) rfl rfl) (fun a1 => ?_)
    refine GL.opN rfl .no (SN.ap0 ap23_23 rfl (.row rfl (.at .z) rfl) (by omega) (by omega)) (fun a4 => ?_)
    refine GL.o rfl (S1.nc rfl) ?_
    refine GL.o rfl (S1.fa fa32_0 rfl) ?_
    refine GL.o rfl (S1.st (u := (.slice _ _ _)) sc23 rfl rfl rfl (by repeat constructor) (.s (.s .z))) ?_
    refine GL.done rfl ?_
    refine GQ.putEnd rfl (PS.rn (ns := [x]) (by simp)) (by simp) (by simp) (.cons (.s (.s .z)) (.cons .z .nil))
  · refine GW.toReg rfl ?_
    refine GL.o rfl (S1.mvP rfl) ?_
    refine GL.o rfl (S1.mvP rfl) ?_
    refine GL.o rfl (S1.nc rfl) ?_
    refine GL.o rfl (S1.fa fa32_0 rfl) ?_
    refine GL.o rfl (S1.ld sc23 rfl (.at .z) rfl) ?_
    refine GL.o rfl (S1.mvI rfl) ?_
    refine GL.opN rfl .no (SN.bs el23 ez23 (.c (v := (.int _ _)) rfl rfl .n) rfl rfl) (fun a5 => ?_)
    refine GL.opN rfl .no (SN.apO ap23_23 rfl (.row rfl (.at .z) rfl) (by omega) (by omega) rfl (.s (.s .z)) (by first | rfl | omega | (rw [ints_len]; omega) | (rw [strs_len]; omega))) (fun a8 => ?_)
    refine GL.o rfl (S1.nc rfl) ?_
    refine GL.o rfl (S1.fa fa32_0 rfl) ?_
    refine GL.o rfl (S1.st (u := (.slice _ _ _)) sc23 rfl rfl rfl (by repeat constructor) (.s (.s .z))) ?_
    refine GL.done rfl ?_
    refine GQ.putEnd rfl (PS.rnA (ns := ns) (x := x) rfl) (by simp) (by simp) (.cons (.s (.s .z)) (.cons .z .nil))
  · refine GW.toReg rfl ?_
    refine GL.o rfl (S1.mvP rfl) ?_
    refine GL.o rfl (S1.mvP rfl) ?_
    refine GL.o rfl (S1.nc rfl) ?_
    refine GL.o rfl (S1.fa fa32_0 rfl) ?_
    refine GL.o rfl (S1.ld sc23 rfl (.at .z) rfl) ?_
    refine GL.o rfl (S1.mvI rfl) ?_
    refine GL.opN rfl .no (SN.bs el23 ez23 (.c (v := (.int _ _)) rfl rfl .n) rfl rfl) (fun a9 => ?_)
    refine GL.opN rfl .no (SN.ap0 ap23_23 rfl (.row rfl (.at .z) rfl) (by omega) (by omega)) (fun a12 => ?_)
    refine GL.o rfl (S1.nc rfl) ?_
    refine GL.o rfl (S1.fa fa32_0 rfl) ?_
    refine GL.o rfl (S1.st (u := (.slice _ _ _)) sc23 rfl rfl rfl (by repeat constructor) (.s (.s .z))) ?_
    refine GL.done rfl ?_
    refine GQ.putEnd rfl (PS.rr (ns := [x]) (by simp) (by assumption)) (by simp) (by simp) (.cons (.s (.s .z)) (.cons .z (.cons (.s .z) .nil)))
  · refine GW.toReg rfl ?_
    refine GL.o rfl (S1.mvP rfl) ?_
    refine GL.o rfl (S1.mvP rfl) ?_
    refine GL.o rfl (S1.nc rfl) ?_
    refine GL.o rfl (S1.fa fa32_0 rfl) ?_
    refine GL.o rfl (S1.ld sc23 rfl (.at .z) rfl) ?_
    refine GL.o rfl (S1.mvI rfl) ?_
    refine GL.opN rfl .no (SN.bs el23 ez23 (.c (v := (.int _ _)) rfl rfl .n) rfl rfl) (fun a13 => ?_)
    refine GL.opN rfl .no (SN.apO ap23_23 rfl (.row rfl (.at .z) rfl) (by omega) (by omega) rfl (.s (.s .z)) (by first | rfl | omega | (rw [ints_len]; omega) | (rw [strs_len]; omega))) (fun a16 => ?_)
    refine GL.o rfl (S1.nc rfl) ?_
    refine GL.o rfl (S1.fa fa32_0 rfl) ?_
    refine GL.o rfl (S1.st (u := (.slice _ _ _)) sc23 rfl rfl rfl (by repeat constructor) (.s (.s .z))) ?_
    refine GL.done rfl ?_
    refine GQ.putEnd rfl (PS.rrA (ns := ns) (x := x) (by assumption) rfl rfl) (by simp) (by simp) (.cons (.s (.s .z)) (.cons .z (.cons (.s .z) .nil)))

theorem ct9 {hr : RO} {x : Int} : PutCt Tryz.prog hr 9 [.int .i64 x] 1 1 := by
  intro h hb vn vs E ns ss H p l1 l2
  cases p <;> refine Ct.go Tryz.func9 rfl rfl co9 H ?_
  · refine GW.toReg rfl ?_
    refine GL.o rfl (S1.mvP rfl) ?_
    refine GL.o rfl (S1.mvP rfl) ?_
    refine GL.o rfl (S1.nc rfl) ?_
    refine GL.o rfl (S1.fa fa32_0 rfl) ?_
    refine GL.o rfl (S1.ld sc23 rfl (.at .z) rfl) ?_
    refine GL.o rfl (S1.mvI rfl) ?_
    refine GL.opN rfl .no (SN.bs el23 ez23 (.c (v := (.int _ _)) rfl rfl .n) rfl rfl) (fun a1 => ?_)
    refine GL.opN rfl .no (SN.ap0 ap23_23 rfl (.row rfl (.at .z) rfl) (by omega) (by omega)) (fun a4 => ?_)
    refine GL.o rfl (S1.nc rfl) ?_
    refine GL.o rfl (S1.fa fa32_0 rfl) ?_
    refine GL.o rfl (S1.st (u := (.slice _ _ _)) sc23 rfl rfl rfl (by repeat constructor) (.s (.s .z))) ?_
    refine GL.done rfl ?_
    refine GQ.putEnd rfl (PS.rn (ns := [x]) (by simp)) (by simp) (by simp) (.cons (.s (.s .z)) (.cons .z .nil))
  · refine GW.toReg rfl ?_
    refine GL.o rfl (S1.mvP rfl) ?_
    refine GL.o rfl (S1.mvP rfl) ?_
    refine GL.o rfl (S1.nc rfl) ?_
    refine GL.o rfl (S1.fa fa32_0 rfl) ?_
    refine GL.o rfl (S1.ld sc23 rfl (.at .z) rfl) ?_
    refine GL.o rfl (S1.mvI rfl) ?_
    refine GL.opN rfl .no (SN.bs el23 ez23 (.c (v := (.int _ _)) rfl rfl .n) rfl rfl) (fun a5 => ?_)
    refine GL.opN rfl .no (SN.apO ap23_23 rfl (.row rfl (.at .z) rfl) (by omega) (by omega) rfl (.s (.s .z)) (by first | rfl | omega | (rw [ints_len]; omega) | (rw [strs_len]; omega))) (fun a8 => ?_)
    refine GL.o rfl (S1.nc rfl) ?_
    refine GL.o rfl (S1.fa fa32_0 rfl) ?_
    refine GL.o rfl (S1.st (u := (.slice _ _ _)) sc23 rfl rfl rfl (by repeat constructor) (.s (.s .z))) ?_
    refine GL.done rfl ?_
    refine GQ.putEnd rfl (PS.rnA (ns := ns) (x := x) rfl) (by simp) (by simp) (.cons (.s (.s .z)) (.cons .z .nil))
  · refine GW.toReg rfl ?_
    refine GL.o rfl (S1.mvP rfl) ?_
    refine GL.o rfl (S1.mvP rfl) ?_
    refine GL.o rfl (S1.nc rfl) ?_
    refine GL.o rfl (S1.fa fa32_0 rfl) ?_
    refine GL.o rfl (S1.ld sc23 rfl (.at .z) rfl) ?_
    refine GL.o rfl (S1.mvI rfl) ?_
    refine GL.opN rfl .no (SN.bs el23 ez23 (.c (v := (.int _ _)) rfl rfl .n) rfl rfl) (fun a9 => ?_)
    refine GL.opN rfl .no (SN.ap0 ap23_23 rfl (.row rfl (.at .z) rfl) (by omega) (by omega)) (fun a12 => ?_)
    refine GL.o rfl (S1.nc rfl) ?_
    refine GL.o rfl (S1.fa fa32_0 rfl) ?_
    refine GL.o rfl (S1.st (u := (.slice _ _ _)) sc23 rfl rfl rfl (by repeat constructor) (.s (.s .z))) ?_
    refine GL.done rfl ?_
    refine GQ.putEnd rfl (PS.rr (ns := [x]) (by simp) (by assumption)) (by simp) (by simp) (.cons (.s (.s .z)) (.cons .z (.cons (.s .z) .nil)))
  · refine GW.toReg rfl ?_
    refine GL.o rfl (S1.mvP rfl) ?_
    refine GL.o rfl (S1.mvP rfl) ?_
    refine GL.o rfl (S1.nc rfl) ?_
    refine GL.o rfl (S1.fa fa32_0 rfl) ?_
    refine GL.o rfl (S1.ld sc23 rfl (.at .z) rfl) ?_
    refine GL.o rfl (S1.mvI rfl) ?_
    refine GL.opN rfl .no (SN.bs el23 ez23 (.c (v := (.int _ _)) rfl rfl .n) rfl rfl) (fun a13 => ?_)
    refine GL.opN rfl .no (SN.apO ap23_23 rfl (.row rfl (.at .z) rfl) (by omega) (by omega) rfl (.s (.s .z)) (by first | rfl | omega | (rw [ints_len]; omega) | (rw [strs_len]; omega))) (fun a16 => ?_)
    refine GL.o rfl (S1.nc rfl) ?_
    refine GL.o rfl (S1.fa fa32_0 rfl) ?_
    refine GL.o rfl (S1.st (u := (.slice _ _ _)) sc23 rfl rfl rfl (by repeat constructor) (.s (.s .z))) ?_
    refine GL.done rfl ?_
    refine GQ.putEnd rfl (PS.rrA (ns := ns) (x := x) (by assumption) rfl rfl) (by simp) (by simp) (.cons (.s (.s .z)) (.cons .z (.cons (.s .z) .nil)))


theorem ct48 {hr : RO} {a : Option Addr} {n c g : Nat} {wn ws : Nat → Nat} (hc : Cell hr (.sl wy3) (.slice a n c)) (hf : fnOk Tryz.prog g = true) (pc : ∀ k, k < n → PutCt Tryz.prog hr g [.int .i64 (iv (el hr a (k * 1 + 0)))] (wn k) (ws k)) :
    PutCt Tryz.prog hr 48 [.slice a n c, .func (.func g) ⟨[]⟩ ⟨[]⟩] (1 + sumTo wn n) (sumTo ws n) := by
  intro h hb vn vs E ns ss H p l1 l2
  have hl := hc.le
  refine Ct.go Tryz.func48 rfl rfl co48 H ?_
  refine GW.cut (fun _ => [(0, .pointer (some ⟨hb, 0, none⟩)), (1, .slice a n c), (2, .func (.func g) ⟨[]⟩ ⟨[]⟩)]) (fun y : Value × Value × Ents × List Int × List ByteArray => (hb, .cells [y.1, y.2.1] none true) :: y.2.2.1) (fun y => PS y.1 y.2.1 y.2.2.1 y.2.2.2.1 y.2.2.2.2 ∧ y.2.2.2.1.length ≤ ns.length + 1 ∧ y.2.2.2.2.length ≤ ss.length) rfl ?_ ?_
  · cases p
    · refine GW.toReg rfl ?_
      refine GL.o rfl (S1.mvP rfl) ?_
      refine GL.o rfl (S1.mvP rfl) ?_
      refine GL.o rfl (S1.nc rfl) ?_
      refine GL.o rfl (S1.fa fa32_0 rfl) ?_
      refine GL.o rfl (S1.ld sc23 rfl (.at .z) rfl) ?_
      refine GL.o rfl (S1.mvL rfl) ?_
      refine GL.o rfl (S1.len el23 rfl) ?_
      refine GL.opN rfl .no (SN.bs el23 ez23 (.c (v := (.int _ _)) rfl rfl .n) rfl rfl) (fun a1 => ?_)
      refine GL.opN rfl .no (SN.ap0 ap23_23 rfl (.row rfl (.at .z) rfl) (by omega) (by omega)) (fun a4 => ?_)
      refine GL.o rfl (S1.nc rfl) ?_
      refine GL.o rfl (S1.fa fa32_0 rfl) ?_
      refine GL.o rfl (S1.st (u := (.slice _ _ _)) sc23 rfl rfl rfl (by repeat constructor) (.s (.s .z))) ?_
      refine GL.done rfl ?_
      refine GQ.cutEnd (_, _, _, _, _) ⟨PS.rn (ns := [(n : Int)]) (by simp), by simp, by simp⟩ (.c rfl (.c rfl (.c rfl .n))) (.cons (.s (.s .z)) (.cons .z .nil))
    · refine GW.toReg rfl ?_
      refine GL.o rfl (S1.mvP rfl) ?_
      refine GL.o rfl (S1.mvP rfl) ?_
      refine GL.o rfl (S1.nc rfl) ?_
      refine GL.o rfl (S1.fa fa32_0 rfl) ?_
      refine GL.o rfl (S1.ld sc23 rfl (.at .z) rfl) ?_
      refine GL.o rfl (S1.mvL rfl) ?_
      refine GL.o rfl (S1.len el23 rfl) ?_
      refine GL.opN rfl .no (SN.bs el23 ez23 (.c (v := (.int _ _)) rfl rfl .n) rfl rfl) (fun a5 => ?_)
      refine GL.opN rfl .no (SN.apO ap23_23 rfl (.row rfl (.at .z) rfl) (by omega) (by omega) rfl (.s (.s .z)) (by first | rfl | omega | (rw [ints_len]; omega) | (rw [strs_len]; omega))) (fun a8 => ?_)
      refine GL.o rfl (S1.nc rfl) ?_
      refine GL.o rfl (S1.fa fa32_0 rfl) ?_
      refine GL.o rfl (S1.st (u := (.slice _ _ _)) sc23 rfl rfl rfl (by repeat constructor) (.s (.s .z))) ?_
      refine GL.done rfl ?_
      refine GQ.cutEnd (_, _, _, _, _) ⟨PS.rnA (ns := ns) (x := (n : Int)) rfl, by simp, by simp⟩ (.c rfl (.c rfl (.c rfl .n))) (.cons (.s (.s .z)) (.cons .z .nil))
    · refine GW.toReg rfl ?_
      refine GL.o rfl (S1.mvP rfl) ?_
      refine GL.o rfl (S1.mvP rfl) ?_
      refine GL.o rfl (S1.nc rfl) ?_
      refine GL.o rfl (S1.fa fa32_0 rfl) ?_
      refine GL.o rfl (S1.ld sc23 rfl (.at .z) rfl) ?_
      refine GL.o rfl (S1.mvL rfl) ?_
      refine GL.o rfl (S1.len el23 rfl) ?_
      refine GL.opN rfl .no (SN.bs el23 ez23 (.c (v := (.int _ _)) rfl rfl .n) rfl rfl) (fun a9 => ?_)
      refine GL.opN rfl .no (SN.ap0 ap23_23 rfl (.row rfl (.at .z) rfl) (by omega) (by omega)) (fun a12 => ?_)
      refine GL.o rfl (S1.nc rfl) ?_
      refine GL.o rfl (S1.fa fa32_0 rfl) ?_
      refine GL.o rfl (S1.st (u := (.slice _ _ _)) sc23 rfl rfl rfl (by repeat constructor) (.s (.s .z))) ?_
      refine GL.done rfl ?_
      refine GQ.cutEnd (_, _, _, _, _) ⟨PS.rr (ns := [(n : Int)]) (by simp) (by assumption), by simp, by simp⟩ (.c rfl (.c rfl (.c rfl .n))) (.cons (.s (.s .z)) (.cons .z (.cons (.s .z) .nil)))
    · refine GW.toReg rfl ?_
      refine GL.o rfl (S1.mvP rfl) ?_
      refine GL.o rfl (S1.mvP rfl) ?_
      refine GL.o rfl (S1.nc rfl) ?_
      refine GL.o rfl (S1.fa fa32_0 rfl) ?_
      refine GL.o rfl (S1.ld sc23 rfl (.at .z) rfl) ?_
      refine GL.o rfl (S1.mvL rfl) ?_
      refine GL.o rfl (S1.len el23 rfl) ?_
      refine GL.opN rfl .no (SN.bs el23 ez23 (.c (v := (.int _ _)) rfl rfl .n) rfl rfl) (fun a13 => ?_)
      refine GL.opN rfl .no (SN.apO ap23_23 rfl (.row rfl (.at .z) rfl) (by omega) (by omega) rfl (.s (.s .z)) (by first | rfl | omega | (rw [ints_len]; omega) | (rw [strs_len]; omega))) (fun a16 => ?_)
      refine GL.o rfl (S1.nc rfl) ?_
      refine GL.o rfl (S1.fa fa32_0 rfl) ?_
      refine GL.o rfl (S1.st (u := (.slice _ _ _)) sc23 rfl rfl rfl (by repeat constructor) (.s (.s .z))) ?_
      refine GL.done rfl ?_
      refine GQ.cutEnd (_, _, _, _, _) ⟨PS.rrA (ns := ns) (x := (n : Int)) (by assumption) rfl rfl, by simp, by simp⟩ (.c rfl (.c rfl (.c rfl .n))) (.cons (.s (.s .z)) (.cons .z (.cons (.s .z) .nil)))
  rintro ⟨vn1, vs1, E1, ns1, ss1⟩ f1 ⟨p1, q1, q2⟩
  refine GW.sr rfl rfl ?_
  refine GL.o rfl (S1.asI rfl) ?_
  refine GL.dn rfl ?_
  refine GW.toBlock rfl ?_
  refine GW.toLoop (X := Nat × Value × Value × Ents × List Int × List ByteArray) (fun y => [(0, .pointer (some ⟨hb, 0, none⟩)), (1, .slice a n c), (2, .func (.func g) ⟨[]⟩ ⟨[]⟩), (6, .int .i64 (y.1 : Int))]) (fun y => (hb, .cells [y.2.1, y.2.2.1] none true) :: y.2.2.2.1)
    (fun y => y.1 ≤ n ∧ PS y.2.1 y.2.2.1 y.2.2.2.1 y.2.2.2.2.1 y.2.2.2.2.2 ∧ y.2.2.2.2.1.length ≤ ns.length + 1 + sumTo wn y.1 ∧ y.2.2.2.2.2.length ≤ ss.length + sumTo ws y.1) (fun y => n - y.1) rfl (0, vn1, vs1, E1, ns1, ss1) ⟨Nat.zero_le _, p1, by simpa [sumTo] using q1, by simpa [sumTo] using q2⟩ (.c rfl (.c rfl (.c rfl (.c rfl .n)))) .tz ?_
  rintro ⟨k, vn2, vs2, E2, ns2, ss2⟩ f2 ⟨hk, p2, r1, r2⟩
  simp only at hk p2 r1 r2
  have m1 := sumTo_mono (w := wn) hk
  have m2 := sumTo_mono (w := ws) hk
  refine GW.toSeq rfl ?_
  refine GW.sr rfl rfl ?_
  refine GL.o rfl (S1.mvI rfl) ?_
  refine GL.o rfl (S1.mvL rfl) ?_
  refine GL.o rfl (S1.len el23 rfl) ?_
  refine GL.o rfl (S1.lss rfl rfl) ?_
  refine GL.dn rfl ?_
  refine GW.toD rfl rfl (fun w17 => ?_) (fun w17 => ?_)
  refine GW.toSkip rfl ?_
  refine GQ.on ?_
  refine GW.toSeq rfl ?_
  refine GW.toBlock rfl ?_
  refine GW.toReg rfl ?_
  refine GL.o rfl (S1.mvF rfl) ?_
  refine GL.o rfl (S1.mvP rfl) ?_
  refine GL.o rfl (S1.mvL rfl) ?_
  refine GL.o rfl (S1.mvI rfl) ?_
  refine GL.o rfl (S1.ixR el23 hc rfl rfl (by omega)) ?_
  refine GL.o rfl (S1.ldCI sc3 (z := 1) hc rfl (m := (k, vn2, vs2, E2, ns2, ss2).fst) (by omega) rfl (d := 0) rfl rfl) ?_
  rotate_left
  refine GW.toExit rfl ?_
  refine GQ.onE ?_
  refine GQ.onE ?_
  refine GQ.outH ?_
  refine GQ.putEnd rfl p2 (by omega) (by omega) .tz
  · have m3 := sumTo_mono (w := wn) (show k + 1 ≤ n by omega)
    have m4 := sumTo_mono (w := ws) (show k + 1 ≤ n by omega)
    simp only [sumTo] at m3 m4
    refine GL.put rfl .no hf (pc k (by omega)) p2 (.cons .z .tz) (by omega) (by omega) (.v (fs := []) (cs := []) rfl (.c rfl (.c rfl .n))) (fun vn3 vs3 E3 ns3 ss3 p3 l3 m3 => ?_)
    refine GL.done rfl ?_
    refine GQ.outN ?_
    refine GQ.on ?_
    refine GW.toReg rfl ?_
    refine GL.o rfl (S1.mvI rfl) ?_
    refine GL.o rfl (S1.inc rfl rfl (by omega)) ?_
    refine GL.o rfl (S1.asI rfl) ?_
    refine GL.done rfl ?_
    refine GQ.next (k + 1, vn3, vs3, E3, ns3, ss3) ⟨by simp only; omega, p3, by simp only [sumTo]; omega, by simp only [sumTo]; omega⟩ (by simp only; omega) (.c rfl (.c rfl (.c rfl (.c rfl .n)))) (.cons .z .tz)


theorem ct13 {hr : RO} {a : Option Addr} {n c : Nat} (hc : Cell hr (.sl wy3) (.slice a n c)) : PutCt Tryz.prog hr 13 [.slice a n c] (bk hr (.sl wy3) (.slice a n c)) (bk hr (.sl wy3) (.slice a n c)) := by
  intro h hb vn vs E ns ss H p l1 l2
  refine Ct.go Tryz.func13 rfl rfl co13 H ?_
  refine GW.toReg rfl ?_
  refine GL.o rfl (S1.mvP rfl) ?_
  refine GL.o rfl (S1.mvL rfl) ?_
  refine GL.put rfl .no fo48 ((ct48 (wn := fun k => bkL hr wy3 a (k * 1) 0) (ws := fun k => bkL hr wy3 a (k * 1) 0) hc fo8 (fun k hk => (ct8 ).le (Nat.le_refl _) (Nat.le_refl _))).le (wN' := bk hr (.sl wy3) (.slice a n c)) (wS' := bk hr (.sl wy3) (.slice a n c)) (Nat.le_refl _) (Nat.le_add_left _ _)) p (.cons .z .tz) (by omega) (by omega) (.d (.c rfl (.c rfl (.c rfl .n)))) (fun vn3 vs3 E3 ns3 ss3 p3 l3 m3 => ?_)
  refine GL.done rfl ?_
  refine GQ.putEnd rfl p3 (by omega) (by omega) (.cons .z .tz)

theorem ct14 {hr : RO} {x : Bool} : PutCt Tryz.prog hr 14 [.bool x] 1 1 := by
  intro h hb vn vs E ns ss H p l1 l2
  cases x <;> cases p <;> refine Ct.go Tryz.func14 rfl rfl co14 H ?_
  · refine GW.toSeq rfl ?_
    refine GW.toReg rfl ?_
    refine GL.o rfl (S1.asI rfl) ?_
    refine GL.dn rfl ?_
    refine GW.toSeq rfl ?_
    refine GW.sr rfl rfl ?_
    refine GL.o rfl (S1.mvB rfl) ?_
    refine GL.dn rfl ?_
    refine GW.toF rfl rfl ?_
    refine GW.toSkip rfl ?_
    refine GQ.on ?_
    refine GW.toReg rfl ?_
    refine GL.o rfl (S1.mvP rfl) ?_
    refine GL.o rfl (S1.mvP rfl) ?_
    refine GL.o rfl (S1.nc rfl) ?_
    refine GL.o rfl (S1.fa fa32_0 rfl) ?_
    refine GL.o rfl (S1.ld sc23 rfl (.at .z) rfl) ?_
    refine GL.o rfl (S1.mvI rfl) ?_
    refine GL.opN rfl .no (SN.bs el23 ez23 (.c (v := (.int _ _)) rfl rfl .n) rfl rfl) (fun a1 => ?_)
    refine GL.opN rfl .no (SN.ap0 ap23_23 rfl (.row rfl (.at .z) rfl) (by omega) (by omega)) (fun a4 => ?_)
    refine GL.o rfl (S1.nc rfl) ?_
    refine GL.o rfl (S1.fa fa32_0 rfl) ?_
    refine GL.o rfl (S1.st (u := (.slice _ _ _)) sc23 rfl rfl rfl (by repeat constructor) (.s (.s .z))) ?_
    refine GL.done rfl ?_
    refine GQ.putEnd rfl (PS.rn (ns := [0]) (by simp)) (by simp) (by simp) (.cons (.s (.s .z)) (.cons .z .nil))
  · refine GW.toSeq rfl ?_
    refine GW.toReg rfl ?_
    refine GL.o rfl (S1.asI rfl) ?_
    refine GL.dn rfl ?_
    refine GW.toSeq rfl ?_
    refine GW.sr rfl rfl ?_
    refine GL.o rfl (S1.mvB rfl) ?_
    refine GL.dn rfl ?_
    refine GW.toF rfl rfl ?_
    refine GW.toSkip rfl ?_
    refine GQ.on ?_
    refine GW.toReg rfl ?_
    refine GL.o rfl (S1.mvP rfl) ?_
    refine GL.o rfl (S1.mvP rfl) ?_
    refine GL.o rfl (S1.nc rfl) ?_
    refine GL.o rfl (S1.fa fa32_0 rfl) ?_
    refine GL.o rfl (S1.ld sc23 rfl (.at .z) rfl) ?_
    refine GL.o rfl (S1.mvI rfl) ?_
    refine GL.opN rfl .no (SN.bs el23 ez23 (.c (v := (.int _ _)) rfl rfl .n) rfl rfl) (fun a5 => ?_)
    refine GL.opN rfl .no (SN.apO ap23_23 rfl (.row rfl (.at .z) rfl) (by omega) (by omega) rfl (.s (.s .z)) (by first | rfl | omega | (rw [ints_len]; omega) | (rw [strs_len]; omega))) (fun a8 => ?_)
    refine GL.o rfl (S1.nc rfl) ?_
    refine GL.o rfl (S1.fa fa32_0 rfl) ?_
    refine GL.o rfl (S1.st (u := (.slice _ _ _)) sc23 rfl rfl rfl (by repeat constructor) (.s (.s .z))) ?_
    refine GL.done rfl ?_
    refine GQ.putEnd rfl (PS.rnA (ns := ns) (x := 0) rfl) (by simp) (by simp) (.cons (.s (.s .z)) (.cons .z .nil))
  · refine GW.toSeq rfl ?_
    refine GW.toReg rfl ?_
    refine GL.o rfl (S1.asI rfl) ?_
    refine GL.dn rfl ?_
    refine GW.toSeq rfl ?_
    refine GW.sr rfl rfl ?_
    refine GL.o rfl (S1.mvB rfl) ?_
    refine GL.dn rfl ?_
    refine GW.toF rfl rfl ?_
    refine GW.toSkip rfl ?_
    refine GQ.on ?_
    refine GW.toReg rfl ?_
    refine GL.o rfl (S1.mvP rfl) ?_
    refine GL.o rfl (S1.mvP rfl) ?_
    refine GL.o rfl (S1.nc rfl) ?_
    refine GL.o rfl (S1.fa fa32_0 rfl) ?_
    refine GL.o rfl (S1.ld sc23 rfl (.at .z) rfl) ?_
    refine GL.o rfl (S1.mvI rfl) ?_
    refine GL.opN rfl .no (SN.bs el23 ez23 (.c (v := (.int _ _)) rfl rfl .n) rfl rfl) (fun a9 => ?_)
    refine GL.opN rfl .no (SN.ap0 ap23_23 rfl (.row rfl (.at .z) rfl) (by omega) (by omega)) (fun a12 => ?_)
    refine GL.o rfl (S1.nc rfl) ?_
    refine GL.o rfl (S1.fa fa32_0 rfl) ?_
    refine GL.o rfl (S1.st (u := (.slice _ _ _)) sc23 rfl rfl rfl (by repeat constructor) (.s (.s .z))) ?_
    refine GL.done rfl ?_
    refine GQ.putEnd rfl (PS.rr (ns := [0]) (by simp) (by assumption)) (by simp) (by simp) (.cons (.s (.s .z)) (.cons .z (.cons (.s .z) .nil)))
  · refine GW.toSeq rfl ?_
    refine GW.toReg rfl ?_
    refine GL.o rfl (S1.asI rfl) ?_
    refine GL.dn rfl ?_
    refine GW.toSeq rfl ?_
    refine GW.sr rfl rfl ?_
    refine GL.o rfl (S1.mvB rfl) ?_
    refine GL.dn rfl ?_
    refine GW.toF rfl rfl ?_
    refine GW.toSkip rfl ?_
    refine GQ.on ?_
    refine GW.toReg rfl ?_
    refine GL.o rfl (S1.mvP rfl) ?_
    refine GL.o rfl (S1.mvP rfl) ?_
    refine GL.o rfl (S1.nc rfl) ?_
    refine GL.o rfl (S1.fa fa32_0 rfl) ?_
    refine GL.o rfl (S1.ld sc23 rfl (.at .z) rfl) ?_
    refine GL.o rfl (S1.mvI rfl) ?_
    refine GL.opN rfl .no (SN.bs el23 ez23 (.c (v := (.int _ _)) rfl rfl .n) rfl rfl) (fun a13 => ?_)
    refine GL.opN rfl .no (SN.apO ap23_23 rfl (.row rfl (.at .z) rfl) (by omega) (by omega) rfl (.s (.s .z)) (by first | rfl | omega | (rw [ints_len]; omega) | (rw [strs_len]; omega))) (fun a16 => ?_)
    refine GL.o rfl (S1.nc rfl) ?_
    refine GL.o rfl (S1.fa fa32_0 rfl) ?_
    refine GL.o rfl (S1.st (u := (.slice _ _ _)) sc23 rfl rfl rfl (by repeat constructor) (.s (.s .z))) ?_
    refine GL.done rfl ?_
    refine GQ.putEnd rfl (PS.rrA (ns := ns) (x := 0) (by assumption) rfl rfl) (by simp) (by simp) (.cons (.s (.s .z)) (.cons .z (.cons (.s .z) .nil)))
  · refine GW.toSeq rfl ?_
    refine GW.toReg rfl ?_
    refine GL.o rfl (S1.asI rfl) ?_
    refine GL.dn rfl ?_
    refine GW.toSeq rfl ?_
    refine GW.sr rfl rfl ?_
    refine GL.o rfl (S1.mvB rfl) ?_
    refine GL.dn rfl ?_
    refine GW.toT rfl rfl ?_
    refine GW.toReg rfl ?_
    refine GL.o rfl (S1.asI rfl) ?_
    refine GL.dn rfl ?_
    refine GW.toReg rfl ?_
    refine GL.o rfl (S1.mvP rfl) ?_
    refine GL.o rfl (S1.mvP rfl) ?_
    refine GL.o rfl (S1.nc rfl) ?_
    refine GL.o rfl (S1.fa fa32_0 rfl) ?_
    refine GL.o rfl (S1.ld sc23 rfl (.at .z) rfl) ?_
    refine GL.o rfl (S1.mvI rfl) ?_
    refine GL.opN rfl .no (SN.bs el23 ez23 (.c (v := (.int _ _)) rfl rfl .n) rfl rfl) (fun a17 => ?_)
    refine GL.opN rfl .no (SN.ap0 ap23_23 rfl (.row rfl (.at .z) rfl) (by omega) (by omega)) (fun a20 => ?_)
    refine GL.o rfl (S1.nc rfl) ?_
    refine GL.o rfl (S1.fa fa32_0 rfl) ?_
    refine GL.o rfl (S1.st (u := (.slice _ _ _)) sc23 rfl rfl rfl (by repeat constructor) (.s (.s .z))) ?_
    refine GL.done rfl ?_
    refine GQ.putEnd rfl (PS.rn (ns := [1]) (by simp)) (by simp) (by simp) (.cons (.s (.s .z)) (.cons .z .nil))
  · refine GW.toSeq rfl ?_
    refine GW.toReg rfl ?_
    refine GL.o rfl (S1.asI rfl) ?_
    refine GL.dn rfl ?_
    refine GW.toSeq rfl ?_
    refine GW.sr rfl rfl ?_
    refine GL.o rfl (S1.mvB rfl) ?_
    refine GL.dn rfl ?_
    refine GW.toT rfl rfl ?_
    refine GW.toReg rfl ?_
    refine GL.o rfl (S1.asI rfl) ?_
    refine GL.dn rfl ?_
    refine GW.toReg rfl ?_
    refine GL.o rfl (S1.mvP rfl) ?_
    refine GL.o rfl (S1.mvP rfl) ?_
    refine GL.o rfl (S1.nc rfl) ?_
    refine GL.o rfl (S1.fa fa32_0 rfl) ?_
    refine GL.o rfl (S1.ld sc23 rfl (.at .z) rfl) ?_
    refine GL.o rfl (S1.mvI rfl) ?_
    refine GL.opN rfl .no (SN.bs el23 ez23 (.c (v := (.int _ _)) rfl rfl .n) rfl rfl) (fun a21 => ?_)
    refine GL.opN rfl .no (SN.apO ap23_23 rfl (.row rfl (.at .z) rfl) (by omega) (by omega) rfl (.s (.s .z)) (by first | rfl | omega | (rw [ints_len]; omega) | (rw [strs_len]; omega))) (fun a24 => ?_)
    refine GL.o rfl (S1.nc rfl) ?_
    refine GL.o rfl (S1.fa fa32_0 rfl) ?_
    refine GL.o rfl (S1.st (u := (.slice _ _ _)) sc23 rfl rfl rfl (by repeat constructor) (.s (.s .z))) ?_
    refine GL.done rfl ?_
    refine GQ.putEnd rfl (PS.rnA (ns := ns) (x := 1) rfl) (by simp) (by simp) (.cons (.s (.s .z)) (.cons .z .nil))
  · refine GW.toSeq rfl ?_
    refine GW.toReg rfl ?_
    refine GL.o rfl (S1.asI rfl) ?_
    refine GL.dn rfl ?_
    refine GW.toSeq rfl ?_
    refine GW.sr rfl rfl ?_
    refine GL.o rfl (S1.mvB rfl) ?_
    refine GL.dn rfl ?_
    refine GW.toT rfl rfl ?_
    refine GW.toReg rfl ?_
    refine GL.o rfl (S1.asI rfl) ?_
    refine GL.dn rfl ?_
    refine GW.toReg rfl ?_
    refine GL.o rfl (S1.mvP rfl) ?_
    refine GL.o rfl (S1.mvP rfl) ?_
    refine GL.o rfl (S1.nc rfl) ?_
    refine GL.o rfl (S1.fa fa32_0 rfl) ?_
    refine GL.o rfl (S1.ld sc23 rfl (.at .z) rfl) ?_
    refine GL.o rfl (S1.mvI rfl) ?_
    refine GL.opN rfl .no (SN.bs el23 ez23 (.c (v := (.int _ _)) rfl rfl .n) rfl rfl) (fun a25 => ?_)
    refine GL.opN rfl .no (SN.ap0 ap23_23 rfl (.row rfl (.at .z) rfl) (by omega) (by omega)) (fun a28 => ?_)
    refine GL.o rfl (S1.nc rfl) ?_
    refine GL.o rfl (S1.fa fa32_0 rfl) ?_
    refine GL.o rfl (S1.st (u := (.slice _ _ _)) sc23 rfl rfl rfl (by repeat constructor) (.s (.s .z))) ?_
    refine GL.done rfl ?_
    refine GQ.putEnd rfl (PS.rr (ns := [1]) (by simp) (by assumption)) (by simp) (by simp) (.cons (.s (.s .z)) (.cons .z (.cons (.s .z) .nil)))
  · refine GW.toSeq rfl ?_
    refine GW.toReg rfl ?_
    refine GL.o rfl (S1.asI rfl) ?_
    refine GL.dn rfl ?_
    refine GW.toSeq rfl ?_
    refine GW.sr rfl rfl ?_
    refine GL.o rfl (S1.mvB rfl) ?_
    refine GL.dn rfl ?_
    refine GW.toT rfl rfl ?_
    refine GW.toReg rfl ?_
    refine GL.o rfl (S1.asI rfl) ?_
    refine GL.dn rfl ?_
    refine GW.toReg rfl ?_
    refine GL.o rfl (S1.mvP rfl) ?_
    refine GL.o rfl (S1.mvP rfl) ?_
    refine GL.o rfl (S1.nc rfl) ?_
    refine GL.o rfl (S1.fa fa32_0 rfl) ?_
    refine GL.o rfl (S1.ld sc23 rfl (.at .z) rfl) ?_
    refine GL.o rfl (S1.mvI rfl) ?_
    refine GL.opN rfl .no (SN.bs el23 ez23 (.c (v := (.int _ _)) rfl rfl .n) rfl rfl) (fun a29 => ?_)
    refine GL.opN rfl .no (SN.apO ap23_23 rfl (.row rfl (.at .z) rfl) (by omega) (by omega) rfl (.s (.s .z)) (by first | rfl | omega | (rw [ints_len]; omega) | (rw [strs_len]; omega))) (fun a32 => ?_)
    refine GL.o rfl (S1.nc rfl) ?_
    refine GL.o rfl (S1.fa fa32_0 rfl) ?_
    refine GL.o rfl (S1.st (u := (.slice _ _ _)) sc23 rfl rfl rfl (by repeat constructor) (.s (.s .z))) ?_
    refine GL.done rfl ?_
    refine GQ.putEnd rfl (PS.rrA (ns := ns) (x := 1) (by assumption) rfl rfl) (by simp) (by simp) (.cons (.s (.s .z)) (.cons .z (.cons (.s .z) .nil)))


theorem ct29 {hr : RO} {x0 : Int} {x1 : Int}  : PutCt Tryz.prog hr 29 [.agg ⟨[.int .i64 x0, .int .i64 x1]⟩] (1 + (1 + 0)) (1 + (1 + 0)) := by
  intro h hb vn vs E ns ss H p l1 l2
  refine Ct.go Tryz.func29 rfl rfl co29 H ?_
  refine GW.sr rfl rfl ?_
  refine GL.opN rfl .no (SN.bx (u := .agg ⟨_⟩) rfl .agg) (fun a1 => ?_)
  refine GL.dn rfl ?_
  refine GW.sr rfl rfl ?_
  refine GL.o rfl (S1.mvP rfl) ?_
  refine GL.o rfl (S1.fa fa59_0 rfl) ?_
  refine GL.o rfl (S1.ld sc3 rfl (.at .z) rfl) ?_
  refine GL.put rfl .no fo8 (ct8) p (.cons (.s .z) (.ts .tz)) (by omega) (by omega) (.d (.c (v := (.pointer _)) rfl (.c (v := (.int _ _)) rfl .n))) (fun vn2 vs2 E2 ns2 ss2 p2 lN2 lS2 => ?_)
  refine GL.dn rfl ?_
  refine GW.toReg rfl ?_
  refine GL.o rfl (S1.mvP rfl) ?_
  refine GL.o rfl (S1.fa fa59_1 rfl) ?_
  refine GL.o rfl (S1.ld sc3 rfl (.at .z) rfl) ?_
  refine GL.put rfl .no fo8 (ct8) p2 (.cons (.s .z) (.ts .tz)) (by omega) (by omega) (.d (.c (v := (.pointer _)) rfl (.c (v := (.int _ _)) rfl .n))) (fun vn3 vs3 E3 ns3 ss3 p3 lN3 lS3 => ?_)
  refine GL.done rfl ?_
  refine GQ.putEnd rfl p3 (by omega) (by omega) (.cons (.s .z) (.ts .tz))


theorem ct58 {hr : RO} {a : Option Addr} {n c g : Nat} {wn ws : Nat → Nat} (hc : Cell hr (.sl wy59) (.slice a n c)) (hf : fnOk Tryz.prog g = true) (pc : ∀ k, k < n → PutCt Tryz.prog hr g [.agg ⟨[.int .i64 (iv (el hr a (k * 2))), .int .i64 (iv (el hr a (k * 2 + 1)))]⟩] (wn k) (ws k)) :
    PutCt Tryz.prog hr 58 [.slice a n c, .func (.func g) ⟨[]⟩ ⟨[]⟩] (1 + sumTo wn n) (sumTo ws n) := by
  intro h hb vn vs E ns ss H p l1 l2
  have hl := hc.le
  refine Ct.go Tryz.func58 rfl rfl co58 H ?_
  refine GW.cut (fun _ => [(0, .pointer (some ⟨hb, 0, none⟩)), (1, .slice a n c), (2, .func (.func g) ⟨[]⟩ ⟨[]⟩)]) (fun y : Value × Value × Ents × List Int × List ByteArray => (hb, .cells [y.1, y.2.1] none true) :: y.2.2.1) (fun y => PS y.1 y.2.1 y.2.2.1 y.2.2.2.1 y.2.2.2.2 ∧ y.2.2.2.1.length ≤ ns.length + 1 ∧ y.2.2.2.2.length ≤ ss.length) rfl ?_ ?_
  · cases p
    · refine GW.toReg rfl ?_
      refine GL.o rfl (S1.mvP rfl) ?_
      refine GL.o rfl (S1.mvP rfl) ?_
      refine GL.o rfl (S1.nc rfl) ?_
      refine GL.o rfl (S1.fa fa32_0 rfl) ?_
      refine GL.o rfl (S1.ld sc23 rfl (.at .z) rfl) ?_
      refine GL.o rfl (S1.mvL rfl) ?_
      refine GL.o rfl (S1.len el52 rfl) ?_
      refine GL.opN rfl .no (SN.bs el23 ez23 (.c (v := (.int _ _)) rfl rfl .n) rfl rfl) (fun a1 => ?_)
      refine GL.opN rfl .no (SN.ap0 ap23_23 rfl (.row rfl (.at .z) rfl) (by omega) (by omega)) (fun a4 => ?_)
      refine GL.o rfl (S1.nc rfl) ?_
      refine GL.o rfl (S1.fa fa32_0 rfl) ?_
      refine GL.o rfl (S1.st (u := (.slice _ _ _)) sc23 rfl rfl rfl (by repeat constructor) (.s (.s .z))) ?_
      refine GL.done rfl ?_
      refine GQ.cutEnd (_, _, _, _, _) ⟨PS.rn (ns := [(n : Int)]) (by simp), by simp, by simp⟩ (.c rfl (.c rfl (.c rfl .n))) (.cons (.s (.s .z)) (.cons .z .nil))
    · refine GW.toReg rfl ?_
      refine GL.o rfl (S1.mvP rfl) ?_
      refine GL.o rfl (S1.mvP rfl) ?_
      refine GL.o rfl (S1.nc rfl) ?_
      refine GL.o rfl (S1.fa fa32_0 rfl) ?_
      refine GL.o rfl (S1.ld sc23 rfl (.at .z) rfl) ?_
      refine GL.o rfl (S1.mvL rfl) ?_
      refine GL.o rfl (S1.len el52 rfl) ?_
      refine GL.opN rfl .no (SN.bs el23 ez23 (.c (v := (.int _ _)) rfl rfl .n) rfl rfl) (fun a5 => ?_)
      refine GL.opN rfl .no (SN.apO ap23_23 rfl (.row rfl (.at .z) rfl) (by omega) (by omega) rfl (.s (.s .z)) (by first | rfl | omega | (rw [ints_len]; omega) | (rw [strs_len]; omega))) (fun a8 => ?_)
      refine GL.o rfl (S1.nc rfl) ?_
      refine GL.o rfl (S1.fa fa32_0 rfl) ?_
      refine GL.o rfl (S1.st (u := (.slice _ _ _)) sc23 rfl rfl rfl (by repeat constructor) (.s (.s .z))) ?_
      refine GL.done rfl ?_
      refine GQ.cutEnd (_, _, _, _, _) ⟨PS.rnA (ns := ns) (x := (n : Int)) rfl, by simp, by simp⟩ (.c rfl (.c rfl (.c rfl .n))) (.cons (.s (.s .z)) (.cons .z .nil))
    · refine GW.toReg rfl ?_
      refine GL.o rfl (S1.mvP rfl) ?_
      refine GL.o rfl (S1.mvP rfl) ?_
      refine GL.o rfl (S1.nc rfl) ?_
      refine GL.o rfl (S1.fa fa32_0 rfl) ?_
      refine GL.o rfl (S1.ld sc23 rfl (.at .z) rfl) ?_
      refine GL.o rfl (S1.mvL rfl) ?_
      refine GL.o rfl (S1.len el52 rfl) ?_
      refine GL.opN rfl .no (SN.bs el23 ez23 (.c (v := (.int _ _)) rfl rfl .n) rfl rfl) (fun a9 => ?_)
      refine GL.opN rfl .no (SN.ap0 ap23_23 rfl (.row rfl (.at .z) rfl) (by omega) (by omega)) (fun a12 => ?_)
      refine GL.o rfl (S1.nc rfl) ?_
      refine GL.o rfl (S1.fa fa32_0 rfl) ?_
      refine GL.o rfl (S1.st (u := (.slice _ _ _)) sc23 rfl rfl rfl (by repeat constructor) (.s (.s .z))) ?_
      refine GL.done rfl ?_
      refine GQ.cutEnd (_, _, _, _, _) ⟨PS.rr (ns := [(n : Int)]) (by simp) (by assumption), by simp, by simp⟩ (.c rfl (.c rfl (.c rfl .n))) (.cons (.s (.s .z)) (.cons .z (.cons (.s .z) .nil)))
    · refine GW.toReg rfl ?_
      refine GL.o rfl (S1.mvP rfl) ?_
      refine GL.o rfl (S1.mvP rfl) ?_
      refine GL.o rfl (S1.nc rfl) ?_
      refine GL.o rfl (S1.fa fa32_0 rfl) ?_
      refine GL.o rfl (S1.ld sc23 rfl (.at .z) rfl) ?_
      refine GL.o rfl (S1.mvL rfl) ?_
      refine GL.o rfl (S1.len el52 rfl) ?_
      refine GL.opN rfl .no (SN.bs el23 ez23 (.c (v := (.int _ _)) rfl rfl .n) rfl rfl) (fun a13 => ?_)
      refine GL.opN rfl .no (SN.apO ap23_23 rfl (.row rfl (.at .z) rfl) (by omega) (by omega) rfl (.s (.s .z)) (by first | rfl | omega | (rw [ints_len]; omega) | (rw [strs_len]; omega))) (fun a16 => ?_)
      refine GL.o rfl (S1.nc rfl) ?_
      refine GL.o rfl (S1.fa fa32_0 rfl) ?_
      refine GL.o rfl (S1.st (u := (.slice _ _ _)) sc23 rfl rfl rfl (by repeat constructor) (.s (.s .z))) ?_
      refine GL.done rfl ?_
      refine GQ.cutEnd (_, _, _, _, _) ⟨PS.rrA (ns := ns) (x := (n : Int)) (by assumption) rfl rfl, by simp, by simp⟩ (.c rfl (.c rfl (.c rfl .n))) (.cons (.s (.s .z)) (.cons .z (.cons (.s .z) .nil)))
  rintro ⟨vn1, vs1, E1, ns1, ss1⟩ f1 ⟨p1, q1, q2⟩
  refine GW.sr rfl rfl ?_
  refine GL.o rfl (S1.asI rfl) ?_
  refine GL.dn rfl ?_
  refine GW.toBlock rfl ?_
  refine GW.toLoop (X := Nat × Value × Value × Ents × List Int × List ByteArray) (fun y => [(0, .pointer (some ⟨hb, 0, none⟩)), (1, .slice a n c), (2, .func (.func g) ⟨[]⟩ ⟨[]⟩), (6, .int .i64 (y.1 : Int))]) (fun y => (hb, .cells [y.2.1, y.2.2.1] none true) :: y.2.2.2.1)
    (fun y => y.1 ≤ n ∧ PS y.2.1 y.2.2.1 y.2.2.2.1 y.2.2.2.2.1 y.2.2.2.2.2 ∧ y.2.2.2.2.1.length ≤ ns.length + 1 + sumTo wn y.1 ∧ y.2.2.2.2.2.length ≤ ss.length + sumTo ws y.1) (fun y => n - y.1) rfl (0, vn1, vs1, E1, ns1, ss1) ⟨Nat.zero_le _, p1, by simpa [sumTo] using q1, by simpa [sumTo] using q2⟩ (.c rfl (.c rfl (.c rfl (.c rfl .n)))) .tz ?_
  rintro ⟨k, vn2, vs2, E2, ns2, ss2⟩ f2 ⟨hk, p2, r1, r2⟩
  simp only at hk p2 r1 r2
  have m1 := sumTo_mono (w := wn) hk
  have m2 := sumTo_mono (w := ws) hk
  refine GW.toSeq rfl ?_
  refine GW.sr rfl rfl ?_
  refine GL.o rfl (S1.mvI rfl) ?_
  refine GL.o rfl (S1.mvL rfl) ?_
  refine GL.o rfl (S1.len el52 rfl) ?_
  refine GL.o rfl (S1.lss rfl rfl) ?_
  refine GL.dn rfl ?_
  refine GW.toD rfl rfl (fun w17 => ?_) (fun w17 => ?_)
  refine GW.toSkip rfl ?_
  refine GQ.on ?_
  refine GW.toSeq rfl ?_
  refine GW.toBlock rfl ?_
  refine GW.toReg rfl ?_
  refine GL.o rfl (S1.mvF rfl) ?_
  refine GL.o rfl (S1.mvP rfl) ?_
  refine GL.o rfl (S1.mvL rfl) ?_
  refine GL.o rfl (S1.mvI rfl) ?_
  refine GL.o rfl (S1.ixR el52 hc rfl rfl (by omega)) ?_
  refine GL.o rfl (S1.ldE ag59 hc rfl (m := (k, vn2, vs2, E2, ns2, ss2).fst) (by omega) rfl le59) ?_
  rotate_left
  refine GW.toExit rfl ?_
  refine GQ.onE ?_
  refine GQ.onE ?_
  refine GQ.outH ?_
  refine GQ.putEnd rfl p2 (by omega) (by omega) .tz
  · have m3 := sumTo_mono (w := wn) (show k + 1 ≤ n by omega)
    have m4 := sumTo_mono (w := ws) (show k + 1 ≤ n by omega)
    simp only [sumTo] at m3 m4
    refine GL.put rfl .no hf (pc k (by omega)) p2 (.cons .z .tz) (by omega) (by omega) (.v (fs := []) (cs := []) rfl (.c rfl (.c rfl .n))) (fun vn3 vs3 E3 ns3 ss3 p3 l3 m3 => ?_)
    refine GL.done rfl ?_
    refine GQ.outN ?_
    refine GQ.on ?_
    refine GW.toReg rfl ?_
    refine GL.o rfl (S1.mvI rfl) ?_
    refine GL.o rfl (S1.inc rfl rfl (by omega)) ?_
    refine GL.o rfl (S1.asI rfl) ?_
    refine GL.done rfl ?_
    refine GQ.next (k + 1, vn3, vs3, E3, ns3, ss3) ⟨by simp only; omega, p3, by simp only [sumTo]; omega, by simp only [sumTo]; omega⟩ (by simp only; omega) (.c rfl (.c rfl (.c rfl (.c rfl .n)))) (.cons .z .tz)


theorem ct24 {hr : RO} {a : Option Addr} {n c : Nat} (hc : Cell hr (.sl wy59) (.slice a n c)) : PutCt Tryz.prog hr 24 [.slice a n c] (bk hr (.sl wy59) (.slice a n c)) (bk hr (.sl wy59) (.slice a n c)) := by
  intro h hb vn vs E ns ss H p l1 l2
  refine Ct.go Tryz.func24 rfl rfl co24 H ?_
  refine GW.toReg rfl ?_
  refine GL.o rfl (S1.mvP rfl) ?_
  refine GL.o rfl (S1.mvL rfl) ?_
  refine GL.put rfl .no fo58 ((ct58 (wn := fun k => bkL hr wy59 a (k * 2) 0) (ws := fun k => bkL hr wy59 a (k * 2) 0) hc fo29 (fun k hk => (ct29 ).le (Nat.le_refl _) (Nat.le_refl _))).le (wN' := bk hr (.sl wy59) (.slice a n c)) (wS' := bk hr (.sl wy59) (.slice a n c)) (Nat.le_refl _) (Nat.le_add_left _ _)) p (.cons .z .tz) (by omega) (by omega) (.d (.c rfl (.c rfl (.c rfl .n)))) (fun vn3 vs3 E3 ns3 ss3 p3 l3 m3 => ?_)
  refine GL.done rfl ?_
  refine GQ.putEnd rfl p3 (by omega) (by omega) (.cons .z .tz)


theorem ct90 {hr : RO} {a : Option Addr} {n c g : Nat} {wn ws : Nat → Nat} (hc : Cell hr (.sl wy81) (.slice a n c)) (hf : fnOk Tryz.prog g = true) (pc : ∀ k, k < n → PutCt Tryz.prog hr g [.agg ⟨[.int .i64 (iv (el hr a (k * 5))), .int .i64 (iv (el hr a (k * 5 + 1))), .int .i64 (iv (el hr a (k * 5 + 2))), .int .i64 (iv (el hr a (k * 5 + 3))), .int .i64 (iv (el hr a (k * 5 + 4)))]⟩] (wn k) (ws k)) :
    PutCt Tryz.prog hr 90 [.slice a n c, .func (.func g) ⟨[]⟩ ⟨[]⟩] (1 + sumTo wn n) (sumTo ws n) := by
  intro h hb vn vs E ns ss H p l1 l2
  have hl := hc.le
  refine Ct.go Tryz.func90 rfl rfl co90 H ?_
  refine GW.cut (fun _ => [(0, .pointer (some ⟨hb, 0, none⟩)), (1, .slice a n c), (2, .func (.func g) ⟨[]⟩ ⟨[]⟩)]) (fun y : Value × Value × Ents × List Int × List ByteArray => (hb, .cells [y.1, y.2.1] none true) :: y.2.2.1) (fun y => PS y.1 y.2.1 y.2.2.1 y.2.2.2.1 y.2.2.2.2 ∧ y.2.2.2.1.length ≤ ns.length + 1 ∧ y.2.2.2.2.length ≤ ss.length) rfl ?_ ?_
  · cases p
    · refine GW.toReg rfl ?_
      refine GL.o rfl (S1.mvP rfl) ?_
      refine GL.o rfl (S1.mvP rfl) ?_
      refine GL.o rfl (S1.nc rfl) ?_
      refine GL.o rfl (S1.fa fa32_0 rfl) ?_
      refine GL.o rfl (S1.ld sc23 rfl (.at .z) rfl) ?_
      refine GL.o rfl (S1.mvL rfl) ?_
      refine GL.o rfl (S1.len el22 rfl) ?_
      refine GL.opN rfl .no (SN.bs el23 ez23 (.c (v := (.int _ _)) rfl rfl .n) rfl rfl) (fun a1 => ?_)
      refine GL.opN rfl .no (SN.ap0 ap23_23 rfl (.row rfl (.at .z) rfl) (by omega) (by omega)) (fun a4 => ?_)
      refine GL.o rfl (S1.nc rfl) ?_
      refine GL.o rfl (S1.fa fa32_0 rfl) ?_
      refine GL.o rfl (S1.st (u := (.slice _ _ _)) sc23 rfl rfl rfl (by repeat constructor) (.s (.s .z))) ?_
      refine GL.done rfl ?_
      refine GQ.cutEnd (_, _, _, _, _) ⟨PS.rn (ns := [(n : Int)]) (by simp), by simp, by simp⟩ (.c rfl (.c rfl (.c rfl .n))) (.cons (.s (.s .z)) (.cons .z .nil))
    · refine GW.toReg rfl ?_
      refine GL.o rfl (S1.mvP rfl) ?_
      refine GL.o rfl (S1.mvP rfl) ?_
      refine GL.o rfl (S1.nc rfl) ?_
      refine GL.o rfl (S1.fa fa32_0 rfl) ?_
      refine GL.o rfl (S1.ld sc23 rfl (.at .z) rfl) ?_
      refine GL.o rfl (S1.mvL rfl) ?_
      refine GL.o rfl (S1.len el22 rfl) ?_
      refine GL.opN rfl .no (SN.bs el23 ez23 (.c (v := (.int _ _)) rfl rfl .n) rfl rfl) (fun a5 => ?_)
      refine GL.opN rfl .no (SN.apO ap23_23 rfl (.row rfl (.at .z) rfl) (by omega) (by omega) rfl (.s (.s .z)) (by first | rfl | omega | (rw [ints_len]; omega) | (rw [strs_len]; omega))) (fun a8 => ?_)
      refine GL.o rfl (S1.nc rfl) ?_
      refine GL.o rfl (S1.fa fa32_0 rfl) ?_
      refine GL.o rfl (S1.st (u := (.slice _ _ _)) sc23 rfl rfl rfl (by repeat constructor) (.s (.s .z))) ?_
      refine GL.done rfl ?_
      refine GQ.cutEnd (_, _, _, _, _) ⟨PS.rnA (ns := ns) (x := (n : Int)) rfl, by simp, by simp⟩ (.c rfl (.c rfl (.c rfl .n))) (.cons (.s (.s .z)) (.cons .z .nil))
    · refine GW.toReg rfl ?_
      refine GL.o rfl (S1.mvP rfl) ?_
      refine GL.o rfl (S1.mvP rfl) ?_
      refine GL.o rfl (S1.nc rfl) ?_
      refine GL.o rfl (S1.fa fa32_0 rfl) ?_
      refine GL.o rfl (S1.ld sc23 rfl (.at .z) rfl) ?_
      refine GL.o rfl (S1.mvL rfl) ?_
      refine GL.o rfl (S1.len el22 rfl) ?_
      refine GL.opN rfl .no (SN.bs el23 ez23 (.c (v := (.int _ _)) rfl rfl .n) rfl rfl) (fun a9 => ?_)
      refine GL.opN rfl .no (SN.ap0 ap23_23 rfl (.row rfl (.at .z) rfl) (by omega) (by omega)) (fun a12 => ?_)
      refine GL.o rfl (S1.nc rfl) ?_
      refine GL.o rfl (S1.fa fa32_0 rfl) ?_
      refine GL.o rfl (S1.st (u := (.slice _ _ _)) sc23 rfl rfl rfl (by repeat constructor) (.s (.s .z))) ?_
      refine GL.done rfl ?_
      refine GQ.cutEnd (_, _, _, _, _) ⟨PS.rr (ns := [(n : Int)]) (by simp) (by assumption), by simp, by simp⟩ (.c rfl (.c rfl (.c rfl .n))) (.cons (.s (.s .z)) (.cons .z (.cons (.s .z) .nil)))
    · refine GW.toReg rfl ?_
      refine GL.o rfl (S1.mvP rfl) ?_
      refine GL.o rfl (S1.mvP rfl) ?_
      refine GL.o rfl (S1.nc rfl) ?_
      refine GL.o rfl (S1.fa fa32_0 rfl) ?_
      refine GL.o rfl (S1.ld sc23 rfl (.at .z) rfl) ?_
      refine GL.o rfl (S1.mvL rfl) ?_
      refine GL.o rfl (S1.len el22 rfl) ?_
      refine GL.opN rfl .no (SN.bs el23 ez23 (.c (v := (.int _ _)) rfl rfl .n) rfl rfl) (fun a13 => ?_)
      refine GL.opN rfl .no (SN.apO ap23_23 rfl (.row rfl (.at .z) rfl) (by omega) (by omega) rfl (.s (.s .z)) (by first | rfl | omega | (rw [ints_len]; omega) | (rw [strs_len]; omega))) (fun a16 => ?_)
      refine GL.o rfl (S1.nc rfl) ?_
      refine GL.o rfl (S1.fa fa32_0 rfl) ?_
      refine GL.o rfl (S1.st (u := (.slice _ _ _)) sc23 rfl rfl rfl (by repeat constructor) (.s (.s .z))) ?_
      refine GL.done rfl ?_
      refine GQ.cutEnd (_, _, _, _, _) ⟨PS.rrA (ns := ns) (x := (n : Int)) (by assumption) rfl rfl, by simp, by simp⟩ (.c rfl (.c rfl (.c rfl .n))) (.cons (.s (.s .z)) (.cons .z (.cons (.s .z) .nil)))
  rintro ⟨vn1, vs1, E1, ns1, ss1⟩ f1 ⟨p1, q1, q2⟩
  refine GW.sr rfl rfl ?_
  refine GL.o rfl (S1.asI rfl) ?_
  refine GL.dn rfl ?_
  refine GW.toBlock rfl ?_
  refine GW.toLoop (X := Nat × Value × Value × Ents × List Int × List ByteArray) (fun y => [(0, .pointer (some ⟨hb, 0, none⟩)), (1, .slice a n c), (2, .func (.func g) ⟨[]⟩ ⟨[]⟩), (6, .int .i64 (y.1 : Int))]) (fun y => (hb, .cells [y.2.1, y.2.2.1] none true) :: y.2.2.2.1)
    (fun y => y.1 ≤ n ∧ PS y.2.1 y.2.2.1 y.2.2.2.1 y.2.2.2.2.1 y.2.2.2.2.2 ∧ y.2.2.2.2.1.length ≤ ns.length + 1 + sumTo wn y.1 ∧ y.2.2.2.2.2.length ≤ ss.length + sumTo ws y.1) (fun y => n - y.1) rfl (0, vn1, vs1, E1, ns1, ss1) ⟨Nat.zero_le _, p1, by simpa [sumTo] using q1, by simpa [sumTo] using q2⟩ (.c rfl (.c rfl (.c rfl (.c rfl .n)))) .tz ?_
  rintro ⟨k, vn2, vs2, E2, ns2, ss2⟩ f2 ⟨hk, p2, r1, r2⟩
  simp only at hk p2 r1 r2
  have m1 := sumTo_mono (w := wn) hk
  have m2 := sumTo_mono (w := ws) hk
  refine GW.toSeq rfl ?_
  refine GW.sr rfl rfl ?_
  refine GL.o rfl (S1.mvI rfl) ?_
  refine GL.o rfl (S1.mvL rfl) ?_
  refine GL.o rfl (S1.len el22 rfl) ?_
  refine GL.o rfl (S1.lss rfl rfl) ?_
  refine GL.dn rfl ?_
  refine GW.toD rfl rfl (fun w17 => ?_) (fun w17 => ?_)
  refine GW.toSkip rfl ?_
  refine GQ.on ?_
  refine GW.toSeq rfl ?_
  refine GW.toBlock rfl ?_
  refine GW.toReg rfl ?_
  refine GL.o rfl (S1.mvF rfl) ?_
  refine GL.o rfl (S1.mvP rfl) ?_
  refine GL.o rfl (S1.mvL rfl) ?_
  refine GL.o rfl (S1.mvI rfl) ?_
  refine GL.o rfl (S1.ixR el22 hc rfl rfl (by omega)) ?_
  refine GL.o rfl (S1.ldE ag81 hc rfl (m := (k, vn2, vs2, E2, ns2, ss2).fst) (by omega) rfl le81) ?_
  rotate_left
  refine GW.toExit rfl ?_
  refine GQ.onE ?_
  refine GQ.onE ?_
  refine GQ.outH ?_
  refine GQ.putEnd rfl p2 (by omega) (by omega) .tz
  · have m3 := sumTo_mono (w := wn) (show k + 1 ≤ n by omega)
    have m4 := sumTo_mono (w := ws) (show k + 1 ≤ n by omega)
    simp only [sumTo] at m3 m4
    refine GL.put rfl .no hf (pc k (by omega)) p2 (.cons .z .tz) (by omega) (by omega) (.v (fs := []) (cs := []) rfl (.c rfl (.c rfl .n))) (fun vn3 vs3 E3 ns3 ss3 p3 l3 m3 => ?_)
    refine GL.done rfl ?_
    refine GQ.outN ?_
    refine GQ.on ?_
    refine GW.toReg rfl ?_
    refine GL.o rfl (S1.mvI rfl) ?_
    refine GL.o rfl (S1.inc rfl rfl (by omega)) ?_
    refine GL.o rfl (S1.asI rfl) ?_
    refine GL.done rfl ?_
    refine GQ.next (k + 1, vn3, vs3, E3, ns3, ss3) ⟨by simp only; omega, p3, by simp only [sumTo]; omega, by simp only [sumTo]; omega⟩ (by simp only; omega) (.c rfl (.c rfl (.c rfl (.c rfl .n)))) (.cons .z .tz)


theorem ct91 {hr : RO} {x0 : Int} {x1 : Int} {x2 : Int} {x3 : Int} {x4 : Int}  : PutCt Tryz.prog hr 91 [.agg ⟨[.int .i64 x0, .int .i64 x1, .int .i64 x2, .int .i64 x3, .int .i64 x4]⟩] (1 + (1 + (1 + (1 + (1 + 0))))) (1 + (1 + (1 + (1 + (1 + 0))))) := by
  intro h hb vn vs E ns ss H p l1 l2
  refine Ct.go Tryz.func91 rfl rfl co91 H ?_
  refine GW.sr rfl rfl ?_
  refine GL.opN rfl .no (SN.bx (u := .agg ⟨_⟩) rfl .agg) (fun a1 => ?_)
  refine GL.dn rfl ?_
  refine GW.sr rfl rfl ?_
  refine GL.o rfl (S1.mvP rfl) ?_
  refine GL.o rfl (S1.fa fa81_0 rfl) ?_
  refine GL.o rfl (S1.ld sc3 rfl (.at .z) rfl) ?_
  refine GL.put rfl .no fo8 (ct8) p (.cons (.s .z) (.ts .tz)) (by omega) (by omega) (.d (.c (v := (.pointer _)) rfl (.c (v := (.int _ _)) rfl .n))) (fun vn2 vs2 E2 ns2 ss2 p2 lN2 lS2 => ?_)
  refine GL.dn rfl ?_
  refine GW.sr rfl rfl ?_
  refine GL.o rfl (S1.mvP rfl) ?_
  refine GL.o rfl (S1.fa fa81_1 rfl) ?_
  refine GL.o rfl (S1.ld sc3 rfl (.at .z) rfl) ?_
  refine GL.put rfl .no fo8 (ct8) p2 (.cons (.s .z) (.ts .tz)) (by omega) (by omega) (.d (.c (v := (.pointer _)) rfl (.c (v := (.int _ _)) rfl .n))) (fun vn3 vs3 E3 ns3 ss3 p3 lN3 lS3 => ?_)
  refine GL.dn rfl ?_
  refine GW.sr rfl rfl ?_
  refine GL.o rfl (S1.mvP rfl) ?_
  refine GL.o rfl (S1.fa fa81_2 rfl) ?_
  refine GL.o rfl (S1.ld sc3 rfl (.at .z) rfl) ?_
  refine GL.put rfl .no fo8 (ct8) p3 (.cons (.s .z) (.ts .tz)) (by omega) (by omega) (.d (.c (v := (.pointer _)) rfl (.c (v := (.int _ _)) rfl .n))) (fun vn4 vs4 E4 ns4 ss4 p4 lN4 lS4 => ?_)
  refine GL.dn rfl ?_
  refine GW.sr rfl rfl ?_
  refine GL.o rfl (S1.mvP rfl) ?_
  refine GL.o rfl (S1.fa fa81_3 rfl) ?_
  refine GL.o rfl (S1.ld sc3 rfl (.at .z) rfl) ?_
  refine GL.put rfl .no fo8 (ct8) p4 (.cons (.s .z) (.ts .tz)) (by omega) (by omega) (.d (.c (v := (.pointer _)) rfl (.c (v := (.int _ _)) rfl .n))) (fun vn5 vs5 E5 ns5 ss5 p5 lN5 lS5 => ?_)
  refine GL.dn rfl ?_
  refine GW.toReg rfl ?_
  refine GL.o rfl (S1.mvP rfl) ?_
  refine GL.o rfl (S1.fa fa81_4 rfl) ?_
  refine GL.o rfl (S1.ld sc3 rfl (.at .z) rfl) ?_
  refine GL.put rfl .no fo8 (ct8) p5 (.cons (.s .z) (.ts .tz)) (by omega) (by omega) (.d (.c (v := (.pointer _)) rfl (.c (v := (.int _ _)) rfl .n))) (fun vn6 vs6 E6 ns6 ss6 p6 lN6 lS6 => ?_)
  refine GL.done rfl ?_
  refine GQ.putEnd rfl p6 (by omega) (by omega) (.cons (.s .z) (.ts .tz))


theorem ct68 {hr : RO} {a : Option Addr} {n c : Nat} (hc : Cell hr (.sl wy81) (.slice a n c)) : PutCt Tryz.prog hr 68 [.slice a n c] (bk hr (.sl wy81) (.slice a n c)) (bk hr (.sl wy81) (.slice a n c)) := by
  intro h hb vn vs E ns ss H p l1 l2
  refine Ct.go Tryz.func68 rfl rfl co68 H ?_
  refine GW.toReg rfl ?_
  refine GL.o rfl (S1.mvP rfl) ?_
  refine GL.o rfl (S1.mvL rfl) ?_
  refine GL.put rfl .no fo90 ((ct90 (wn := fun k => bkL hr wy81 a (k * 5) 0) (ws := fun k => bkL hr wy81 a (k * 5) 0) hc fo91 (fun k hk => (ct91 ).le (Nat.le_refl _) (Nat.le_refl _))).le (wN' := bk hr (.sl wy81) (.slice a n c)) (wS' := bk hr (.sl wy81) (.slice a n c)) (Nat.le_refl _) (Nat.le_add_left _ _)) p (.cons .z .tz) (by omega) (by omega) (.d (.c rfl (.c rfl (.c rfl .n)))) (fun vn3 vs3 E3 ns3 ss3 p3 l3 m3 => ?_)
  refine GL.done rfl ?_
  refine GQ.putEnd rfl p3 (by omega) (by omega) (.cons .z .tz)


theorem ct32 {hr : RO} {a0 : Option Addr} {n0 c0 : Nat} {a1 : Option Addr} {n1 c1 : Nat} {x2 : Int} (h0 : Cell hr (.sl wy81) (.slice a0 n0 c0)) (h1 : Cell hr (.sl wy3) (.slice a1 n1 c1)) : PutCt Tryz.prog hr 32 [.agg ⟨[.slice a0 n0 c0, .slice a1 n1 c1, .int .i64 x2]⟩] (bk hr (.sl wy81) (.slice a0 n0 c0) + (bk hr (.sl wy3) (.slice a1 n1 c1) + (1 + 0))) (bk hr (.sl wy81) (.slice a0 n0 c0) + (bk hr (.sl wy3) (.slice a1 n1 c1) + (1 + 0))) := by
  intro h hb vn vs E ns ss H p l1 l2
  refine Ct.go Tryz.func32 rfl rfl co32 H ?_
  refine GW.sr rfl rfl ?_
  refine GL.opN rfl .no (SN.bx (u := .agg ⟨_⟩) rfl .agg) (fun a1 => ?_)
  refine GL.dn rfl ?_
  refine GW.sr rfl rfl ?_
  refine GL.o rfl (S1.mvP rfl) ?_
  refine GL.o rfl (S1.fa fa25_0 rfl) ?_
  refine GL.o rfl (S1.ld sc22 rfl (.at .z) rfl) ?_
  refine GL.put rfl .no fo68 (ct68 (by assumption)) p (.cons (.s .z) (.ts .tz)) (by omega) (by omega) (.d (.c (v := (.pointer _)) rfl (.c (v := (.slice _ _ _)) rfl .n))) (fun vn2 vs2 E2 ns2 ss2 p2 lN2 lS2 => ?_)
  refine GL.dn rfl ?_
  refine GW.sr rfl rfl ?_
  refine GL.o rfl (S1.mvP rfl) ?_
  refine GL.o rfl (S1.fa fa25_1 rfl) ?_
  refine GL.o rfl (S1.ld sc23 rfl (.at .z) rfl) ?_
  refine GL.put rfl .no fo13 (ct13 (by assumption)) p2 (.cons (.s .z) (.ts .tz)) (by omega) (by omega) (.d (.c (v := (.pointer _)) rfl (.c (v := (.slice _ _ _)) rfl .n))) (fun vn3 vs3 E3 ns3 ss3 p3 lN3 lS3 => ?_)
  refine GL.dn rfl ?_
  refine GW.toReg rfl ?_
  refine GL.o rfl (S1.mvP rfl) ?_
  refine GL.o rfl (S1.fa fa25_2 rfl) ?_
  refine GL.o rfl (S1.ld sc3 rfl (.at .z) rfl) ?_
  refine GL.put rfl .no fo8 (ct8) p3 (.cons (.s .z) (.ts .tz)) (by omega) (by omega) (.d (.c (v := (.pointer _)) rfl (.c (v := (.int _ _)) rfl .n))) (fun vn4 vs4 E4 ns4 ss4 p4 lN4 lS4 => ?_)
  refine GL.done rfl ?_
  refine GQ.putEnd rfl p4 (by omega) (by omega) (.cons (.s .z) (.ts .tz))


theorem ct73 {hr : RO} {a : Option Addr} {n c g : Nat} {wn ws : Nat → Nat} (hc : Cell hr (.sl wy120) (.slice a n c)) (hf : fnOk Tryz.prog g = true) (pc : ∀ k, k < n → PutCt Tryz.prog hr g [.agg ⟨[.int .i64 (iv (el hr a (k * 2))), .int .i64 (iv (el hr a (k * 2 + 1)))]⟩] (wn k) (ws k)) :
    PutCt Tryz.prog hr 73 [.slice a n c, .func (.func g) ⟨[]⟩ ⟨[]⟩] (1 + sumTo wn n) (sumTo ws n) := by
  intro h hb vn vs E ns ss H p l1 l2
  have hl := hc.le
  refine Ct.go Tryz.func73 rfl rfl co73 H ?_
  refine GW.cut (fun _ => [(0, .pointer (some ⟨hb, 0, none⟩)), (1, .slice a n c), (2, .func (.func g) ⟨[]⟩ ⟨[]⟩)]) (fun y : Value × Value × Ents × List Int × List ByteArray => (hb, .cells [y.1, y.2.1] none true) :: y.2.2.1) (fun y => PS y.1 y.2.1 y.2.2.1 y.2.2.2.1 y.2.2.2.2 ∧ y.2.2.2.1.length ≤ ns.length + 1 ∧ y.2.2.2.2.length ≤ ss.length) rfl ?_ ?_
  · cases p
    · refine GW.toReg rfl ?_
      refine GL.o rfl (S1.mvP rfl) ?_
      refine GL.o rfl (S1.mvP rfl) ?_
      refine GL.o rfl (S1.nc rfl) ?_
      refine GL.o rfl (S1.fa fa32_0 rfl) ?_
      refine GL.o rfl (S1.ld sc23 rfl (.at .z) rfl) ?_
      refine GL.o rfl (S1.mvL rfl) ?_
      refine GL.o rfl (S1.len el68 rfl) ?_
      refine GL.opN rfl .no (SN.bs el23 ez23 (.c (v := (.int _ _)) rfl rfl .n) rfl rfl) (fun a1 => ?_)
      refine GL.opN rfl .no (SN.ap0 ap23_23 rfl (.row rfl (.at .z) rfl) (by omega) (by omega)) (fun a4 => ?_)
      refine GL.o rfl (S1.nc rfl) ?_
      refine GL.o rfl (S1.fa fa32_0 rfl) ?_
      refine GL.o rfl (S1.st (u := (.slice _ _ _)) sc23 rfl rfl rfl (by repeat constructor) (.s (.s .z))) ?_
      refine GL.done rfl ?_
      refine GQ.cutEnd (_, _, _, _, _) ⟨PS.rn (ns := [(n : Int)]) (by simp), by simp, by simp⟩ (.c rfl (.c rfl (.c rfl .n))) (.cons (.s (.s .z)) (.cons .z .nil))
    · refine GW.toReg rfl ?_
      refine GL.o rfl (S1.mvP rfl) ?_
      refine GL.o rfl (S1.mvP rfl) ?_
      refine GL.o rfl (S1.nc rfl) ?_
      refine GL.o rfl (S1.fa fa32_0 rfl) ?_
      refine GL.o rfl (S1.ld sc23 rfl (.at .z) rfl) ?_
      refine GL.o rfl (S1.mvL rfl) ?_
      refine GL.o rfl (S1.len el68 rfl) ?_
      refine GL.opN rfl .no (SN.bs el23 ez23 (.c (v := (.int _ _)) rfl rfl .n) rfl rfl) (fun a5 => ?_)
      refine GL.opN rfl .no (SN.apO ap23_23 rfl (.row rfl (.at .z) rfl) (by omega) (by omega) rfl (.s (.s .z)) (by first | rfl | omega | (rw [ints_len]; omega) | (rw [strs_len]; omega))) (fun a8 => ?_)
      refine GL.o rfl (S1.nc rfl) ?_
      refine GL.o rfl (S1.fa fa32_0 rfl) ?_
      refine GL.o rfl (S1.st (u := (.slice _ _ _)) sc23 rfl rfl rfl (by repeat constructor) (.s (.s .z))) ?_
      refine GL.done rfl ?_
      refine GQ.cutEnd (_, _, _, _, _) ⟨PS.rnA (ns := ns) (x := (n : Int)) rfl, by simp, by simp⟩ (.c rfl (.c rfl (.c rfl .n))) (.cons (.s (.s .z)) (.cons .z .nil))
    · refine GW.toReg rfl ?_
      refine GL.o rfl (S1.mvP rfl) ?_
      refine GL.o rfl (S1.mvP rfl) ?_
      refine GL.o rfl (S1.nc rfl) ?_
      refine GL.o rfl (S1.fa fa32_0 rfl) ?_
      refine GL.o rfl (S1.ld sc23 rfl (.at .z) rfl) ?_
      refine GL.o rfl (S1.mvL rfl) ?_
      refine GL.o rfl (S1.len el68 rfl) ?_
      refine GL.opN rfl .no (SN.bs el23 ez23 (.c (v := (.int _ _)) rfl rfl .n) rfl rfl) (fun a9 => ?_)
      refine GL.opN rfl .no (SN.ap0 ap23_23 rfl (.row rfl (.at .z) rfl) (by omega) (by omega)) (fun a12 => ?_)
      refine GL.o rfl (S1.nc rfl) ?_
      refine GL.o rfl (S1.fa fa32_0 rfl) ?_
      refine GL.o rfl (S1.st (u := (.slice _ _ _)) sc23 rfl rfl rfl (by repeat constructor) (.s (.s .z))) ?_
      refine GL.done rfl ?_
      refine GQ.cutEnd (_, _, _, _, _) ⟨PS.rr (ns := [(n : Int)]) (by simp) (by assumption), by simp, by simp⟩ (.c rfl (.c rfl (.c rfl .n))) (.cons (.s (.s .z)) (.cons .z (.cons (.s .z) .nil)))
    · refine GW.toReg rfl ?_
      refine GL.o rfl (S1.mvP rfl) ?_
      refine GL.o rfl (S1.mvP rfl) ?_
      refine GL.o rfl (S1.nc rfl) ?_
      refine GL.o rfl (S1.fa fa32_0 rfl) ?_
      refine GL.o rfl (S1.ld sc23 rfl (.at .z) rfl) ?_
      refine GL.o rfl (S1.mvL rfl) ?_
      refine GL.o rfl (S1.len el68 rfl) ?_
      refine GL.opN rfl .no (SN.bs el23 ez23 (.c (v := (.int _ _)) rfl rfl .n) rfl rfl) (fun a13 => ?_)
      refine GL.opN rfl .no (SN.apO ap23_23 rfl (.row rfl (.at .z) rfl) (by omega) (by omega) rfl (.s (.s .z)) (by first | rfl | omega | (rw [ints_len]; omega) | (rw [strs_len]; omega))) (fun a16 => ?_)
      refine GL.o rfl (S1.nc rfl) ?_
      refine GL.o rfl (S1.fa fa32_0 rfl) ?_
      refine GL.o rfl (S1.st (u := (.slice _ _ _)) sc23 rfl rfl rfl (by repeat constructor) (.s (.s .z))) ?_
      refine GL.done rfl ?_
      refine GQ.cutEnd (_, _, _, _, _) ⟨PS.rrA (ns := ns) (x := (n : Int)) (by assumption) rfl rfl, by simp, by simp⟩ (.c rfl (.c rfl (.c rfl .n))) (.cons (.s (.s .z)) (.cons .z (.cons (.s .z) .nil)))
  rintro ⟨vn1, vs1, E1, ns1, ss1⟩ f1 ⟨p1, q1, q2⟩
  refine GW.sr rfl rfl ?_
  refine GL.o rfl (S1.asI rfl) ?_
  refine GL.dn rfl ?_
  refine GW.toBlock rfl ?_
  refine GW.toLoop (X := Nat × Value × Value × Ents × List Int × List ByteArray) (fun y => [(0, .pointer (some ⟨hb, 0, none⟩)), (1, .slice a n c), (2, .func (.func g) ⟨[]⟩ ⟨[]⟩), (6, .int .i64 (y.1 : Int))]) (fun y => (hb, .cells [y.2.1, y.2.2.1] none true) :: y.2.2.2.1)
    (fun y => y.1 ≤ n ∧ PS y.2.1 y.2.2.1 y.2.2.2.1 y.2.2.2.2.1 y.2.2.2.2.2 ∧ y.2.2.2.2.1.length ≤ ns.length + 1 + sumTo wn y.1 ∧ y.2.2.2.2.2.length ≤ ss.length + sumTo ws y.1) (fun y => n - y.1) rfl (0, vn1, vs1, E1, ns1, ss1) ⟨Nat.zero_le _, p1, by simpa [sumTo] using q1, by simpa [sumTo] using q2⟩ (.c rfl (.c rfl (.c rfl (.c rfl .n)))) .tz ?_
  rintro ⟨k, vn2, vs2, E2, ns2, ss2⟩ f2 ⟨hk, p2, r1, r2⟩
  simp only at hk p2 r1 r2
  have m1 := sumTo_mono (w := wn) hk
  have m2 := sumTo_mono (w := ws) hk
  refine GW.toSeq rfl ?_
  refine GW.sr rfl rfl ?_
  refine GL.o rfl (S1.mvI rfl) ?_
  refine GL.o rfl (S1.mvL rfl) ?_
  refine GL.o rfl (S1.len el68 rfl) ?_
  refine GL.o rfl (S1.lss rfl rfl) ?_
  refine GL.dn rfl ?_
  refine GW.toD rfl rfl (fun w17 => ?_) (fun w17 => ?_)
  refine GW.toSkip rfl ?_
  refine GQ.on ?_
  refine GW.toSeq rfl ?_
  refine GW.toBlock rfl ?_
  refine GW.toReg rfl ?_
  refine GL.o rfl (S1.mvF rfl) ?_
  refine GL.o rfl (S1.mvP rfl) ?_
  refine GL.o rfl (S1.mvL rfl) ?_
  refine GL.o rfl (S1.mvI rfl) ?_
  refine GL.o rfl (S1.ixR el68 hc rfl rfl (by omega)) ?_
  refine GL.o rfl (S1.ldE ag120 hc rfl (m := (k, vn2, vs2, E2, ns2, ss2).fst) (by omega) rfl le120) ?_
  rotate_left
  refine GW.toExit rfl ?_
  refine GQ.onE ?_
  refine GQ.onE ?_
  refine GQ.outH ?_
  refine GQ.putEnd rfl p2 (by omega) (by omega) .tz
  · have m3 := sumTo_mono (w := wn) (show k + 1 ≤ n by omega)
    have m4 := sumTo_mono (w := ws) (show k + 1 ≤ n by omega)
    simp only [sumTo] at m3 m4
    refine GL.put rfl .no hf (pc k (by omega)) p2 (.cons .z .tz) (by omega) (by omega) (.v (fs := []) (cs := []) rfl (.c rfl (.c rfl .n))) (fun vn3 vs3 E3 ns3 ss3 p3 l3 m3 => ?_)
    refine GL.done rfl ?_
    refine GQ.outN ?_
    refine GQ.on ?_
    refine GW.toReg rfl ?_
    refine GL.o rfl (S1.mvI rfl) ?_
    refine GL.o rfl (S1.inc rfl rfl (by omega)) ?_
    refine GL.o rfl (S1.asI rfl) ?_
    refine GL.done rfl ?_
    refine GQ.next (k + 1, vn3, vs3, E3, ns3, ss3) ⟨by simp only; omega, p3, by simp only [sumTo]; omega, by simp only [sumTo]; omega⟩ (by simp only; omega) (.c rfl (.c rfl (.c rfl (.c rfl .n)))) (.cons .z .tz)


theorem ct74 {hr : RO} {x0 : Int} {x1 : Int}  : PutCt Tryz.prog hr 74 [.agg ⟨[.int .i64 x0, .int .i64 x1]⟩] (1 + (1 + 0)) (1 + (1 + 0)) := by
  intro h hb vn vs E ns ss H p l1 l2
  refine Ct.go Tryz.func74 rfl rfl co74 H ?_
  refine GW.sr rfl rfl ?_
  refine GL.opN rfl .no (SN.bx (u := .agg ⟨_⟩) rfl .agg) (fun a1 => ?_)
  refine GL.dn rfl ?_
  refine GW.sr rfl rfl ?_
  refine GL.o rfl (S1.mvP rfl) ?_
  refine GL.o rfl (S1.fa fa120_0 rfl) ?_
  refine GL.o rfl (S1.ld sc3 rfl (.at .z) rfl) ?_
  refine GL.put rfl .no fo8 (ct8) p (.cons (.s .z) (.ts .tz)) (by omega) (by omega) (.d (.c (v := (.pointer _)) rfl (.c (v := (.int _ _)) rfl .n))) (fun vn2 vs2 E2 ns2 ss2 p2 lN2 lS2 => ?_)
  refine GL.dn rfl ?_
  refine GW.toReg rfl ?_
  refine GL.o rfl (S1.mvP rfl) ?_
  refine GL.o rfl (S1.fa fa120_1 rfl) ?_
  refine GL.o rfl (S1.ld sc3 rfl (.at .z) rfl) ?_
  refine GL.put rfl .no fo8 (ct8) p2 (.cons (.s .z) (.ts .tz)) (by omega) (by omega) (.d (.c (v := (.pointer _)) rfl (.c (v := (.int _ _)) rfl .n))) (fun vn3 vs3 E3 ns3 ss3 p3 lN3 lS3 => ?_)
  refine GL.done rfl ?_
  refine GQ.putEnd rfl p3 (by omega) (by omega) (.cons (.s .z) (.ts .tz))


theorem ct37 {hr : RO} {a : Option Addr} {n c : Nat} (hc : Cell hr (.sl wy120) (.slice a n c)) : PutCt Tryz.prog hr 37 [.slice a n c] (bk hr (.sl wy120) (.slice a n c)) (bk hr (.sl wy120) (.slice a n c)) := by
  intro h hb vn vs E ns ss H p l1 l2
  refine Ct.go Tryz.func37 rfl rfl co37 H ?_
  refine GW.toReg rfl ?_
  refine GL.o rfl (S1.mvP rfl) ?_
  refine GL.o rfl (S1.mvL rfl) ?_
  refine GL.put rfl .no fo73 ((ct73 (wn := fun k => bkL hr wy120 a (k * 2) 0) (ws := fun k => bkL hr wy120 a (k * 2) 0) hc fo74 (fun k hk => (ct74 ).le (Nat.le_refl _) (Nat.le_refl _))).le (wN' := bk hr (.sl wy120) (.slice a n c)) (wS' := bk hr (.sl wy120) (.slice a n c)) (Nat.le_refl _) (Nat.le_add_left _ _)) p (.cons .z .tz) (by omega) (by omega) (.d (.c rfl (.c rfl (.c rfl .n)))) (fun vn3 vs3 E3 ns3 ss3 p3 l3 m3 => ?_)
  refine GL.done rfl ?_
  refine GQ.putEnd rfl p3 (by omega) (by omega) (.cons .z .tz)


theorem ct83 {hr : RO} {a : Option Addr} {n c g : Nat} {wn ws : Nat → Nat} (hc : Cell hr (.sl wy23) (.slice a n c)) (hf : fnOk Tryz.prog g = true) (pc : ∀ k, k < n → PutCt Tryz.prog hr g [.slice (sa (el hr a (k * 1 + 0))) (sn (el hr a (k * 1 + 0))) (sc (el hr a (k * 1 + 0)))] (wn k) (ws k)) :
    PutCt Tryz.prog hr 83 [.slice a n c, .func (.func g) ⟨[]⟩ ⟨[]⟩] (1 + sumTo wn n) (sumTo ws n) := by
  intro h hb vn vs E ns ss H p l1 l2
  have hl := hc.le
  refine Ct.go Tryz.func83 rfl rfl co83 H ?_
  refine GW.cut (fun _ => [(0, .pointer (some ⟨hb, 0, none⟩)), (1, .slice a n c), (2, .func (.func g) ⟨[]⟩ ⟨[]⟩)]) (fun y : Value × Value × Ents × List Int × List ByteArray => (hb, .cells [y.1, y.2.1] none true) :: y.2.2.1) (fun y => PS y.1 y.2.1 y.2.2.1 y.2.2.2.1 y.2.2.2.2 ∧ y.2.2.2.1.length ≤ ns.length + 1 ∧ y.2.2.2.2.length ≤ ss.length) rfl ?_ ?_
  · cases p
    · refine GW.toReg rfl ?_
      refine GL.o rfl (S1.mvP rfl) ?_
      refine GL.o rfl (S1.mvP rfl) ?_
      refine GL.o rfl (S1.nc rfl) ?_
      refine GL.o rfl (S1.fa fa32_0 rfl) ?_
      refine GL.o rfl (S1.ld sc23 rfl (.at .z) rfl) ?_
      refine GL.o rfl (S1.mvL rfl) ?_
      refine GL.o rfl (S1.len el26 rfl) ?_
      refine GL.opN rfl .no (SN.bs el23 ez23 (.c (v := (.int _ _)) rfl rfl .n) rfl rfl) (fun a1 => ?_)
      refine GL.opN rfl .no (SN.ap0 ap23_23 rfl (.row rfl (.at .z) rfl) (by omega) (by omega)) (fun a4 => ?_)
      refine GL.o rfl (S1.nc rfl) ?_
      refine GL.o rfl (S1.fa fa32_0 rfl) ?_
      refine GL.o rfl (S1.st (u := (.slice _ _ _)) sc23 rfl rfl rfl (by repeat constructor) (.s (.s .z))) ?_
      refine GL.done rfl ?_
      refine GQ.cutEnd (_, _, _, _, _) ⟨PS.rn (ns := [(n : Int)]) (by simp), by simp, by simp⟩ (.c rfl (.c rfl (.c rfl .n))) (.cons (.s (.s .z)) (.cons .z .nil))
    · refine GW.toReg rfl ?_
      refine GL.o rfl (S1.mvP rfl) ?_
      refine GL.o rfl (S1.mvP rfl) ?_
      refine GL.o rfl (S1.nc rfl) ?_
      refine GL.o rfl (S1.fa fa32_0 rfl) ?_
      refine GL.o rfl (S1.ld sc23 rfl (.at .z) rfl) ?_
      refine GL.o rfl (S1.mvL rfl) ?_
      refine GL.o rfl (S1.len el26 rfl) ?_
      refine GL.opN rfl .no (SN.bs el23 ez23 (.c (v := (.int _ _)) rfl rfl .n) rfl rfl) (fun a5 => ?_)
      refine GL.opN rfl .no (SN.apO ap23_23 rfl (.row rfl (.at .z) rfl) (by omega) (by omega) rfl (.s (.s .z)) (by first | rfl | omega | (rw [ints_len]; omega) | (rw [strs_len]; omega))) (fun a8 => ?_)
      refine GL.o rfl (S1.nc rfl) ?_
      refine GL.o rfl (S1.fa fa32_0 rfl) ?_
      refine GL.o rfl (S1.st (u := (.slice _ _ _)) sc23 rfl rfl rfl (by repeat constructor) (.s (.s .z))) ?_
      refine GL.done rfl ?_
      refine GQ.cutEnd (_, _, _, _, _) ⟨PS.rnA (ns := ns) (x := (n : Int)) rfl, by simp, by simp⟩ (.c rfl (.c rfl (.c rfl .n))) (.cons (.s (.s .z)) (.cons .z .nil))
    · refine GW.toReg rfl ?_
      refine GL.o rfl (S1.mvP rfl) ?_
      refine GL.o rfl (S1.mvP rfl) ?_
      refine GL.o rfl (S1.nc rfl) ?_
      refine GL.o rfl (S1.fa fa32_0 rfl) ?_
      refine GL.o rfl (S1.ld sc23 rfl (.at .z) rfl) ?_
      refine GL.o rfl (S1.mvL rfl) ?_
      refine GL.o rfl (S1.len el26 rfl) ?_
      refine GL.opN rfl .no (SN.bs el23 ez23 (.c (v := (.int _ _)) rfl rfl .n) rfl rfl) (fun a9 => ?_)
      refine GL.opN rfl .no (SN.ap0 ap23_23 rfl (.row rfl (.at .z) rfl) (by omega) (by omega)) (fun a12 => ?_)
      refine GL.o rfl (S1.nc rfl) ?_
      refine GL.o rfl (S1.fa fa32_0 rfl) ?_
      refine GL.o rfl (S1.st (u := (.slice _ _ _)) sc23 rfl rfl rfl (by repeat constructor) (.s (.s .z))) ?_
      refine GL.done rfl ?_
      refine GQ.cutEnd (_, _, _, _, _) ⟨PS.rr (ns := [(n : Int)]) (by simp) (by assumption), by simp, by simp⟩ (.c rfl (.c rfl (.c rfl .n))) (.cons (.s (.s .z)) (.cons .z (.cons (.s .z) .nil)))
    · refine GW.toReg rfl ?_
      refine GL.o rfl (S1.mvP rfl) ?_
      refine GL.o rfl (S1.mvP rfl) ?_
      refine GL.o rfl (S1.nc rfl) ?_
      refine GL.o rfl (S1.fa fa32_0 rfl) ?_
      refine GL.o rfl (S1.ld sc23 rfl (.at .z) rfl) ?_
      refine GL.o rfl (S1.mvL rfl) ?_
      refine GL.o rfl (S1.len el26 rfl) ?_
      refine GL.opN rfl .no (SN.bs el23 ez23 (.c (v := (.int _ _)) rfl rfl .n) rfl rfl) (fun a13 => ?_)
      refine GL.opN rfl .no (SN.apO ap23_23 rfl (.row rfl (.at .z) rfl) (by omega) (by omega) rfl (.s (.s .z)) (by first | rfl | omega | (rw [ints_len]; omega) | (rw [strs_len]; omega))) (fun a16 => ?_)
      refine GL.o rfl (S1.nc rfl) ?_
      refine GL.o rfl (S1.fa fa32_0 rfl) ?_
      refine GL.o rfl (S1.st (u := (.slice _ _ _)) sc23 rfl rfl rfl (by repeat constructor) (.s (.s .z))) ?_
      refine GL.done rfl ?_
      refine GQ.cutEnd (_, _, _, _, _) ⟨PS.rrA (ns := ns) (x := (n : Int)) (by assumption) rfl rfl, by simp, by simp⟩ (.c rfl (.c rfl (.c rfl .n))) (.cons (.s (.s .z)) (.cons .z (.cons (.s .z) .nil)))
  rintro ⟨vn1, vs1, E1, ns1, ss1⟩ f1 ⟨p1, q1, q2⟩
  refine GW.sr rfl rfl ?_
  refine GL.o rfl (S1.asI rfl) ?_
  refine GL.dn rfl ?_
  refine GW.toBlock rfl ?_
  refine GW.toLoop (X := Nat × Value × Value × Ents × List Int × List ByteArray) (fun y => [(0, .pointer (some ⟨hb, 0, none⟩)), (1, .slice a n c), (2, .func (.func g) ⟨[]⟩ ⟨[]⟩), (6, .int .i64 (y.1 : Int))]) (fun y => (hb, .cells [y.2.1, y.2.2.1] none true) :: y.2.2.2.1)
    (fun y => y.1 ≤ n ∧ PS y.2.1 y.2.2.1 y.2.2.2.1 y.2.2.2.2.1 y.2.2.2.2.2 ∧ y.2.2.2.2.1.length ≤ ns.length + 1 + sumTo wn y.1 ∧ y.2.2.2.2.2.length ≤ ss.length + sumTo ws y.1) (fun y => n - y.1) rfl (0, vn1, vs1, E1, ns1, ss1) ⟨Nat.zero_le _, p1, by simpa [sumTo] using q1, by simpa [sumTo] using q2⟩ (.c rfl (.c rfl (.c rfl (.c rfl .n)))) .tz ?_
  rintro ⟨k, vn2, vs2, E2, ns2, ss2⟩ f2 ⟨hk, p2, r1, r2⟩
  simp only at hk p2 r1 r2
  have m1 := sumTo_mono (w := wn) hk
  have m2 := sumTo_mono (w := ws) hk
  refine GW.toSeq rfl ?_
  refine GW.sr rfl rfl ?_
  refine GL.o rfl (S1.mvI rfl) ?_
  refine GL.o rfl (S1.mvL rfl) ?_
  refine GL.o rfl (S1.len el26 rfl) ?_
  refine GL.o rfl (S1.lss rfl rfl) ?_
  refine GL.dn rfl ?_
  refine GW.toD rfl rfl (fun w17 => ?_) (fun w17 => ?_)
  refine GW.toSkip rfl ?_
  refine GQ.on ?_
  refine GW.toSeq rfl ?_
  refine GW.toBlock rfl ?_
  refine GW.toReg rfl ?_
  refine GL.o rfl (S1.mvF rfl) ?_
  refine GL.o rfl (S1.mvP rfl) ?_
  refine GL.o rfl (S1.mvL rfl) ?_
  refine GL.o rfl (S1.mvI rfl) ?_
  refine GL.o rfl (S1.ixR el26 hc rfl rfl (by omega)) ?_
  refine GL.o rfl (S1.ldCL sc23 (z := 1) hc rfl (m := (k, vn2, vs2, E2, ns2, ss2).fst) (by omega) rfl (d := 0) rfl rfl) ?_
  rotate_left
  refine GW.toExit rfl ?_
  refine GQ.onE ?_
  refine GQ.onE ?_
  refine GQ.outH ?_
  refine GQ.putEnd rfl p2 (by omega) (by omega) .tz
  · have m3 := sumTo_mono (w := wn) (show k + 1 ≤ n by omega)
    have m4 := sumTo_mono (w := ws) (show k + 1 ≤ n by omega)
    simp only [sumTo] at m3 m4
    refine GL.put rfl .no hf (pc k (by omega)) p2 (.cons .z .tz) (by omega) (by omega) (.v (fs := []) (cs := []) rfl (.c rfl (.c rfl .n))) (fun vn3 vs3 E3 ns3 ss3 p3 l3 m3 => ?_)
    refine GL.done rfl ?_
    refine GQ.outN ?_
    refine GQ.on ?_
    refine GW.toReg rfl ?_
    refine GL.o rfl (S1.mvI rfl) ?_
    refine GL.o rfl (S1.inc rfl rfl (by omega)) ?_
    refine GL.o rfl (S1.asI rfl) ?_
    refine GL.done rfl ?_
    refine GQ.next (k + 1, vn3, vs3, E3, ns3, ss3) ⟨by simp only; omega, p3, by simp only [sumTo]; omega, by simp only [sumTo]; omega⟩ (by simp only; omega) (.c rfl (.c rfl (.c rfl (.c rfl .n)))) (.cons .z .tz)


theorem ct42 {hr : RO} {a : Option Addr} {n c : Nat} (hc : Cell hr (.sl wy23) (.slice a n c)) : PutCt Tryz.prog hr 42 [.slice a n c] (bk hr (.sl wy23) (.slice a n c)) (bk hr (.sl wy23) (.slice a n c)) := by
  intro h hb vn vs E ns ss H p l1 l2
  refine Ct.go Tryz.func42 rfl rfl co42 H ?_
  refine GW.toReg rfl ?_
  refine GL.o rfl (S1.mvP rfl) ?_
  refine GL.o rfl (S1.mvL rfl) ?_
  refine GL.put rfl .no fo83 ((ct83 (wn := fun k => bkL hr wy23 a (k * 1) 0) (ws := fun k => bkL hr wy23 a (k * 1) 0) hc fo13 (fun k hk => (ct13 (hc.at hk (d := 0) (l := .sl wy3) rfl)).le (Nat.le_refl _) (Nat.le_refl _))).le (wN' := bk hr (.sl wy23) (.slice a n c)) (wS' := bk hr (.sl wy23) (.slice a n c)) (Nat.le_refl _) (Nat.le_add_left _ _)) p (.cons .z .tz) (by omega) (by omega) (.d (.c rfl (.c rfl (.c rfl .n)))) (fun vn3 vs3 E3 ns3 ss3 p3 l3 m3 => ?_)
  refine GL.done rfl ?_
  refine GQ.putEnd rfl p3 (by omega) (by omega) (.cons .z .tz)


theorem ct84 {hr : RO} {a : Option Addr} {n c g : Nat} {wn ws : Nat → Nat} (hc : Cell hr (.sl wy26) (.slice a n c)) (hf : fnOk Tryz.prog g = true) (pc : ∀ k, k < n → PutCt Tryz.prog hr g [.slice (sa (el hr a (k * 1 + 0))) (sn (el hr a (k * 1 + 0))) (sc (el hr a (k * 1 + 0)))] (wn k) (ws k)) :
    PutCt Tryz.prog hr 84 [.slice a n c, .func (.func g) ⟨[]⟩ ⟨[]⟩] (1 + sumTo wn n) (sumTo ws n) := by
  intro h hb vn vs E ns ss H p l1 l2
  have hl := hc.le
  refine Ct.go Tryz.func84 rfl rfl co84 H ?_
  refine GW.cut (fun _ => [(0, .pointer (some ⟨hb, 0, none⟩)), (1, .slice a n c), (2, .func (.func g) ⟨[]⟩ ⟨[]⟩)]) (fun y : Value × Value × Ents × List Int × List ByteArray => (hb, .cells [y.1, y.2.1] none true) :: y.2.2.1) (fun y => PS y.1 y.2.1 y.2.2.1 y.2.2.2.1 y.2.2.2.2 ∧ y.2.2.2.1.length ≤ ns.length + 1 ∧ y.2.2.2.2.length ≤ ss.length) rfl ?_ ?_
  · cases p
    · refine GW.toReg rfl ?_
      refine GL.o rfl (S1.mvP rfl) ?_
      refine GL.o rfl (S1.mvP rfl) ?_
      refine GL.o rfl (S1.nc rfl) ?_
      refine GL.o rfl (S1.fa fa32_0 rfl) ?_
      refine GL.o rfl (S1.ld sc23 rfl (.at .z) rfl) ?_
      refine GL.o rfl (S1.mvL rfl) ?_
      refine GL.o rfl (S1.len el27 rfl) ?_
      refine GL.opN rfl .no (SN.bs el23 ez23 (.c (v := (.int _ _)) rfl rfl .n) rfl rfl) (fun a1 => ?_)
      refine GL.opN rfl .no (SN.ap0 ap23_23 rfl (.row rfl (.at .z) rfl) (by omega) (by omega)) (fun a4 => ?_)
      refine GL.o rfl (S1.nc rfl) ?_
      refine GL.o rfl (S1.fa fa32_0 rfl) ?_
      refine GL.o rfl (S1.st (u := (.slice _ _ _)) sc23 rfl rfl rfl (by repeat constructor) (.s (.s .z))) ?_
      refine GL.done rfl ?_
      refine GQ.cutEnd (_, _, _, _, _) ⟨PS.rn (ns := [(n : Int)]) (by simp), by simp, by simp⟩ (.c rfl (.c rfl (.c rfl .n))) (.cons (.s (.s .z)) (.cons .z .nil))
    · refine GW.toReg rfl ?_
      refine GL.o rfl (S1.mvP rfl) ?_
      refine GL.o rfl (S1.mvP rfl) ?_
      refine GL.o rfl (S1.nc rfl) ?_
      refine GL.o rfl (S1.fa fa32_0 rfl) ?_
      refine GL.o rfl (S1.ld sc23 rfl (.at .z) rfl) ?_
      refine GL.o rfl (S1.mvL rfl) ?_
      refine GL.o rfl (S1.len el27 rfl) ?_
      refine GL.opN rfl .no (SN.bs el23 ez23 (.c (v := (.int _ _)) rfl rfl .n) rfl rfl) (fun a5 => ?_)
      refine GL.opN rfl .no (SN.apO ap23_23 rfl (.row rfl (.at .z) rfl) (by omega) (by omega) rfl (.s (.s .z)) (by first | rfl | omega | (rw [ints_len]; omega) | (rw [strs_len]; omega))) (fun a8 => ?_)
      refine GL.o rfl (S1.nc rfl) ?_
      refine GL.o rfl (S1.fa fa32_0 rfl) ?_
      refine GL.o rfl (S1.st (u := (.slice _ _ _)) sc23 rfl rfl rfl (by repeat constructor) (.s (.s .z))) ?_
      refine GL.done rfl ?_
      refine GQ.cutEnd (_, _, _, _, _) ⟨PS.rnA (ns := ns) (x := (n : Int)) rfl, by simp, by simp⟩ (.c rfl (.c rfl (.c rfl .n))) (.cons (.s (.s .z)) (.cons .z .nil))
    · refine GW.toReg rfl ?_
      refine GL.o rfl (S1.mvP rfl) ?_
      refine GL.o rfl (S1.mvP rfl) ?_
      refine GL.o rfl (S1.nc rfl) ?_
      refine GL.o rfl (S1.fa fa32_0 rfl) ?_
      refine GL.o rfl (S1.ld sc23 rfl (.at .z) rfl) ?_
      refine GL.o rfl (S1.mvL rfl) ?_
      refine GL.o rfl (S1.len el27 rfl) ?_
      refine GL.opN rfl .no (SN.bs el23 ez23 (.c (v := (.int _ _)) rfl rfl .n) rfl rfl) (fun a9 => ?_)
      refine GL.opN rfl .no (SN.ap0 ap23_23 rfl (.row rfl (.at .z) rfl) (by omega) (by omega)) (fun a12 => ?_)
      refine GL.o rfl (S1.nc rfl) ?_
      refine GL.o rfl (S1.fa fa32_0 rfl) ?_
      refine GL.o rfl (S1.st (u := (.slice _ _ _)) sc23 rfl rfl rfl (by repeat constructor) (.s (.s .z))) ?_
      refine GL.done rfl ?_
      refine GQ.cutEnd (_, _, _, _, _) ⟨PS.rr (ns := [(n : Int)]) (by simp) (by assumption), by simp, by simp⟩ (.c rfl (.c rfl (.c rfl .n))) (.cons (.s (.s .z)) (.cons .z (.cons (.s .z) .nil)))
    · refine GW.toReg rfl ?_
      refine GL.o rfl (S1.mvP rfl) ?_
      refine GL.o rfl (S1.mvP rfl) ?_
      refine GL.o rfl (S1.nc rfl) ?_
      refine GL.o rfl (S1.fa fa32_0 rfl) ?_
      refine GL.o rfl (S1.ld sc23 rfl (.at .z) rfl) ?_
      refine GL.o rfl (S1.mvL rfl) ?_
      refine GL.o rfl (S1.len el27 rfl) ?_
      refine GL.opN rfl .no (SN.bs el23 ez23 (.c (v := (.int _ _)) rfl rfl .n) rfl rfl) (fun a13 => ?_)
      refine GL.opN rfl .no (SN.apO ap23_23 rfl (.row rfl (.at .z) rfl) (by omega) (by omega) rfl (.s (.s .z)) (by first | rfl | omega | (rw [ints_len]; omega) | (rw [strs_len]; omega))) (fun a16 => ?_)
      refine GL.o rfl (S1.nc rfl) ?_
      refine GL.o rfl (S1.fa fa32_0 rfl) ?_
      refine GL.o rfl (S1.st (u := (.slice _ _ _)) sc23 rfl rfl rfl (by repeat constructor) (.s (.s .z))) ?_
      refine GL.done rfl ?_
      refine GQ.cutEnd (_, _, _, _, _) ⟨PS.rrA (ns := ns) (x := (n : Int)) (by assumption) rfl rfl, by simp, by simp⟩ (.c rfl (.c rfl (.c rfl .n))) (.cons (.s (.s .z)) (.cons .z (.cons (.s .z) .nil)))
  rintro ⟨vn1, vs1, E1, ns1, ss1⟩ f1 ⟨p1, q1, q2⟩
  refine GW.sr rfl rfl ?_
  refine GL.o rfl (S1.asI rfl) ?_
  refine GL.dn rfl ?_
  refine GW.toBlock rfl ?_
  refine GW.toLoop (X := Nat × Value × Value × Ents × List Int × List ByteArray) (fun y => [(0, .pointer (some ⟨hb, 0, none⟩)), (1, .slice a n c), (2, .func (.func g) ⟨[]⟩ ⟨[]⟩), (6, .int .i64 (y.1 : Int))]) (fun y => (hb, .cells [y.2.1, y.2.2.1] none true) :: y.2.2.2.1)
    (fun y => y.1 ≤ n ∧ PS y.2.1 y.2.2.1 y.2.2.2.1 y.2.2.2.2.1 y.2.2.2.2.2 ∧ y.2.2.2.2.1.length ≤ ns.length + 1 + sumTo wn y.1 ∧ y.2.2.2.2.2.length ≤ ss.length + sumTo ws y.1) (fun y => n - y.1) rfl (0, vn1, vs1, E1, ns1, ss1) ⟨Nat.zero_le _, p1, by simpa [sumTo] using q1, by simpa [sumTo] using q2⟩ (.c rfl (.c rfl (.c rfl (.c rfl .n)))) .tz ?_
  rintro ⟨k, vn2, vs2, E2, ns2, ss2⟩ f2 ⟨hk, p2, r1, r2⟩
  simp only at hk p2 r1 r2
  have m1 := sumTo_mono (w := wn) hk
  have m2 := sumTo_mono (w := ws) hk
  refine GW.toSeq rfl ?_
  refine GW.sr rfl rfl ?_
  refine GL.o rfl (S1.mvI rfl) ?_
  refine GL.o rfl (S1.mvL rfl) ?_
  refine GL.o rfl (S1.len el27 rfl) ?_
  refine GL.o rfl (S1.lss rfl rfl) ?_
  refine GL.dn rfl ?_
  refine GW.toD rfl rfl (fun w17 => ?_) (fun w17 => ?_)
  refine GW.toSkip rfl ?_
  refine GQ.on ?_
  refine GW.toSeq rfl ?_
  refine GW.toBlock rfl ?_
  refine GW.toReg rfl ?_
  refine GL.o rfl (S1.mvF rfl) ?_
  refine GL.o rfl (S1.mvP rfl) ?_
  refine GL.o rfl (S1.mvL rfl) ?_
  refine GL.o rfl (S1.mvI rfl) ?_
  refine GL.o rfl (S1.ixR el27 hc rfl rfl (by omega)) ?_
  refine GL.o rfl (S1.ldCL sc26 (z := 1) hc rfl (m := (k, vn2, vs2, E2, ns2, ss2).fst) (by omega) rfl (d := 0) rfl rfl) ?_
  rotate_left
  refine GW.toExit rfl ?_
  refine GQ.onE ?_
  refine GQ.onE ?_
  refine GQ.outH ?_
  refine GQ.putEnd rfl p2 (by omega) (by omega) .tz
  · have m3 := sumTo_mono (w := wn) (show k + 1 ≤ n by omega)
    have m4 := sumTo_mono (w := ws) (show k + 1 ≤ n by omega)
    simp only [sumTo] at m3 m4
    refine GL.put rfl .no hf (pc k (by omega)) p2 (.cons .z .tz) (by omega) (by omega) (.v (fs := []) (cs := []) rfl (.c rfl (.c rfl .n))) (fun vn3 vs3 E3 ns3 ss3 p3 l3 m3 => ?_)
    refine GL.done rfl ?_
    refine GQ.outN ?_
    refine GQ.on ?_
    refine GW.toReg rfl ?_
    refine GL.o rfl (S1.mvI rfl) ?_
    refine GL.o rfl (S1.inc rfl rfl (by omega)) ?_
    refine GL.o rfl (S1.asI rfl) ?_
    refine GL.done rfl ?_
    refine GQ.next (k + 1, vn3, vs3, E3, ns3, ss3) ⟨by simp only; omega, p3, by simp only [sumTo]; omega, by simp only [sumTo]; omega⟩ (by simp only; omega) (.c rfl (.c rfl (.c rfl (.c rfl .n)))) (.cons .z .tz)


theorem ct43 {hr : RO} {a : Option Addr} {n c : Nat} (hc : Cell hr (.sl wy26) (.slice a n c)) : PutCt Tryz.prog hr 43 [.slice a n c] (bk hr (.sl wy26) (.slice a n c)) (bk hr (.sl wy26) (.slice a n c)) := by
  intro h hb vn vs E ns ss H p l1 l2
  refine Ct.go Tryz.func43 rfl rfl co43 H ?_
  refine GW.toReg rfl ?_
  refine GL.o rfl (S1.mvP rfl) ?_
  refine GL.o rfl (S1.mvL rfl) ?_
  refine GL.put rfl .no fo84 ((ct84 (wn := fun k => bkL hr wy26 a (k * 1) 0) (ws := fun k => bkL hr wy26 a (k * 1) 0) hc fo42 (fun k hk => (ct42 (hc.at hk (d := 0) (l := .sl wy23) rfl)).le (Nat.le_refl _) (Nat.le_refl _))).le (wN' := bk hr (.sl wy26) (.slice a n c)) (wS' := bk hr (.sl wy26) (.slice a n c)) (Nat.le_refl _) (Nat.le_add_left _ _)) p (.cons .z .tz) (by omega) (by omega) (.d (.c rfl (.c rfl (.c rfl .n)))) (fun vn3 vs3 E3 ns3 ss3 p3 l3 m3 => ?_)
  refine GL.done rfl ?_
  refine GQ.putEnd rfl p3 (by omega) (by omega) (.cons .z .tz)


abbrev xsB (a0 : Option Addr) (n0 c0 : Nat) (a1 : Option Addr) (n1 c1 : Nat) (x2 : Int) (a3 : Option Addr) (n3 c3 : Nat) (x4 : Int) (a5 : Option Addr) (n5 c5 : Nat) : List Value := [.slice a0 n0 c0, .slice a1 n1 c1, .int .i64 x2, .slice a3 n3 c3, .int .i64 x4, .slice a5 n5 c5]

theorem ctAll {hr : RO} {a0 : Option Addr} {n0 c0 : Nat} {a1 : Option Addr} {n1 c1 : Nat} {x2 : Int} {a3 : Option Addr} {n3 c3 : Nat} {x4 : Int} {a5 : Option Addr} {n5 c5 : Nat} (h0 : Cell hr (.sl wy81) (.slice a0 n0 c0)) (h1 : Cell hr (.sl wy3) (.slice a1 n1 c1)) (h3 : Cell hr (.sl wy23) (.slice a3 n3 c3)) (h5 : Cell hr (.sl wy26) (.slice a5 n5 c5)) {h : EH} {hb : Nat} (H : Hp hr h [hb] [(hb, .cells zero2 none true)] h) (l1 : bk hr (.sl wy81) (.slice a0 n0 c0) + (bk hr (.sl wy3) (.slice a1 n1 c1) + (1 + (bk hr (.sl wy23) (.slice a3 n3 c3) + (1 + (bk hr (.sl wy26) (.slice a5 n5 c5) + 0))))) ≤ 1073741824) :
    Ct Tryz.prog 4 ⟨[.agg ⟨xsB a0 n0 c0 a1 n1 c1 x2 a3 n3 c3 x4 a5 n5 c5⟩] ++ [.pointer (some ⟨hb, 0, none⟩)]⟩ h [hb] (fun _ : Value × Value × Ents × List Int × List ByteArray => .tuple #[])
      (fun y => PS y.1 y.2.1 y.2.2.1 y.2.2.2.1 y.2.2.2.2 ∧ y.2.2.2.1.length ≤ ([] : List Int).length + (bk hr (.sl wy81) (.slice a0 n0 c0) + (bk hr (.sl wy3) (.slice a1 n1 c1) + (1 + (bk hr (.sl wy23) (.slice a3 n3 c3) + (1 + (bk hr (.sl wy26) (.slice a5 n5 c5) + 0)))))) ∧ y.2.2.2.2.length ≤ ([] : List ByteArray).length + (bk hr (.sl wy81) (.slice a0 n0 c0) + (bk hr (.sl wy3) (.slice a1 n1 c1) + (1 + (bk hr (.sl wy23) (.slice a3 n3 c3) + (1 + (bk hr (.sl wy26) (.slice a5 n5 c5) + 0))))))) (fun y => (hb, .cells [y.1, y.2.1] none true) :: y.2.2.1) := by
  have p := PS.nn
  have e0 : ([] : List Int).length = 0 := rfl
  have e1 : ([] : List ByteArray).length = 0 := rfl
  refine Ct.go Tryz.func4 rfl rfl co4 H ?_
  refine GW.sr rfl rfl ?_
  refine GL.opN rfl .no (SN.bx (u := .agg ⟨_⟩) rfl .agg) (fun a1 => ?_)
  refine GL.dn rfl ?_
  refine GW.sr rfl rfl ?_
  refine GL.o rfl (S1.mvP rfl) ?_
  refine GL.o rfl (S1.fa fa29_0 rfl) ?_
  refine GL.o rfl (S1.ldA ag25 rfl (.at .z) (by repeat constructor)) ?_
  refine GL.put rfl .no fo32 (ct32 (by assumption) (by assumption)) p (.cons (.s .z) .nil) (by omega) (by omega) (.d (.c (v := (.pointer _)) rfl (.c (v := (.agg _)) rfl .n))) (fun vn2 vs2 E2 ns2 ss2 p2 lN2 lS2 => ?_)
  refine GL.dn rfl ?_
  refine GW.sr rfl rfl ?_
  refine GL.o rfl (S1.mvP rfl) ?_
  refine GL.o rfl (S1.fa fa29_1 rfl) ?_
  refine GL.o rfl (S1.ld sc26 rfl (.at .z) rfl) ?_
  refine GL.put rfl .no fo42 (ct42 (by assumption)) p2 (.cons (.s .z) (.ts .tz)) (by omega) (by omega) (.d (.c (v := (.pointer _)) rfl (.c (v := (.slice _ _ _)) rfl .n))) (fun vn3 vs3 E3 ns3 ss3 p3 lN3 lS3 => ?_)
  refine GL.dn rfl ?_
  refine GW.sr rfl rfl ?_
  refine GL.o rfl (S1.mvP rfl) ?_
  refine GL.o rfl (S1.fa fa29_2 rfl) ?_
  refine GL.o rfl (S1.ld sc3 rfl (.at .z) rfl) ?_
  refine GL.put rfl .no fo8 (ct8) p3 (.cons (.s .z) (.ts .tz)) (by omega) (by omega) (.d (.c (v := (.pointer _)) rfl (.c (v := (.int _ _)) rfl .n))) (fun vn4 vs4 E4 ns4 ss4 p4 lN4 lS4 => ?_)
  refine GL.dn rfl ?_
  refine GW.toReg rfl ?_
  refine GL.o rfl (S1.mvP rfl) ?_
  refine GL.o rfl (S1.fa fa29_3 rfl) ?_
  refine GL.o rfl (S1.ld sc27 rfl (.at .z) rfl) ?_
  refine GL.put rfl .no fo43 (ct43 (by assumption)) p4 (.cons (.s .z) (.ts .tz)) (by omega) (by omega) (.d (.c (v := (.pointer _)) rfl (.c (v := (.slice _ _ _)) rfl .n))) (fun vn5 vs5 E5 ns5 ss5 p5 lN5 lS5 => ?_)
  refine GL.done rfl ?_
  refine GQ.putEnd rfl p5 (by omega) (by omega) (.cons (.s .z) (.ts .tz))


theorem cw49 : WipR Tryz.prog 49 wy3 := by
  intro h v E m w hO hf hw H
  refine Ct.go Tryz.func49 rfl rfl co49 H ?_
  cases hO with
  | nil =>
    refine GW.sr rfl rfl ?_
    refine GL.o rfl (S1.asI rfl) ?_
    refine GL.dn rfl ?_
    refine GW.toBlock rfl ?_
    refine GW.toLoop (X := Unit) (fun _ => [(0, nilS), (1, .func (.func w) ⟨[]⟩ ⟨[]⟩), (4, .int .i64 0)]) (fun _ => []) (fun _ => True) (fun _ => 0) rfl () trivial (.c rfl (.c rfl (.c rfl .n))) .nil ?_
    rintro ⟨⟩ f _
    refine GW.toSeq rfl ?_
    refine GW.sr rfl rfl ?_
    refine GL.o rfl (S1.mvI rfl) ?_
    refine GL.o rfl (S1.mvL rfl) ?_
    refine GL.o rfl (S1.len el23 rfl) ?_
    refine GL.o rfl (S1.lss rfl rfl) ?_
    refine GL.dn rfl ?_
    refine GW.toF rfl rfl ?_
    refine GW.toExit rfl ?_
    refine GQ.onE ?_
    refine GQ.onE ?_
    refine GQ.outH ?_
    refine GQ.retN [] .nil .z rfl ?_ .nil
    exact .nil
  | @row r m c vs opn hl hm ho ht hmc =>
    refine GW.sr rfl rfl ?_
    refine GL.o rfl (S1.asI rfl) ?_
    refine GL.dn rfl ?_
    refine GW.toBlock rfl ?_
    refine GW.toLoop (X := Nat × List Value) (fun x => [(0, .slice (some ⟨r, 0, none⟩) m c), (1, .func (.func w) ⟨[]⟩ ⟨[]⟩), (4, .int .i64 x.1)]) (fun x => [(r, .cells x.2 opn true)]) (fun x => x.1 ≤ m ∧ x.2.length = c * 1 ∧ RowT wy3 x.2) (fun x => m - x.1) rfl (0, vs) ⟨Nat.zero_le _, hl, ht⟩ (.c rfl (.c rfl (.c rfl .n))) .tz ?_
    rintro ⟨k, us⟩ f ⟨hk, hl2, ht2⟩
    simp only at hk hl2 ht2
    refine GW.toSeq rfl ?_
    refine GW.sr rfl rfl ?_
    refine GL.o rfl (S1.mvI rfl) ?_
    refine GL.o rfl (S1.mvL rfl) ?_
    refine GL.o rfl (S1.len el23 rfl) ?_
    refine GL.o rfl (S1.lss rfl rfl) ?_
    refine GL.dn rfl ?_
    refine GW.toD rfl rfl (fun w1 => ?_) (fun w1 => ?_)
    refine GW.toSkip rfl ?_
    refine GQ.on ?_
    refine GW.toSeq rfl ?_
    refine GW.toBlock rfl ?_
    refine GW.toReg rfl ?_
    refine GL.o rfl (S1.mvF rfl) ?_
    refine GL.o rfl (S1.mvL rfl) ?_
    refine GL.o rfl (S1.mvI rfl) ?_
    refine GL.o rfl (S1.ixN el23 rfl rfl (by omega)) ?_
    rotate_left
    refine GW.toExit rfl ?_
    refine GQ.onE ?_
    refine GQ.onE ?_
    refine GQ.outH ?_
    refine GQ.retN [(r, .cells us opn true)] .nil .z rfl ?_ .tz
    exact .row hl2 hm ho ht2 hmc
    refine GL.call rfl .no hf (ps := [(r, .cells us opn true)]) .tz (fun h' H' => hw h' r c k _ us opn hl2 (by omega) ht2 (Nat.zero_add _) (H'.give (ps := [(r, .cells us opn true)]) .tz)) (.v (fs := []) (cs := []) rfl (.c (v := .pointer _) rfl .n)) (fun us' ⟨q1, q2⟩ => ?_)
    refine GL.done rfl ?_
    refine GQ.outN ?_
    refine GQ.on ?_
    refine GW.toReg rfl ?_
    refine GL.o rfl (S1.mvI rfl) ?_
    refine GL.o rfl (S1.inc rfl rfl (by omega)) ?_
    refine GL.o rfl (S1.asI rfl) ?_
    refine GL.done rfl ?_
    refine GQ.next (k + 1, us') ⟨by simp only; omega, by simp only; omega, q2⟩ (by simp only; omega) (.c rfl (.c rfl (.c rfl .n))) (.cons .z .nil)


theorem cw50 {h : EH} {r o : Nat} {vs : List Value} {opn : Option Nat} (ho : o < vs.length) (H : Hp (fun _ => none) h [r] [(r, .cells vs opn true)] h) :
    Ct Tryz.prog 50 ⟨[.pointer (some ⟨r, o, none⟩)]⟩ h [r] (fun _ : Unit => .tuple #[]) (fun _ => True) (fun _ => [(r, .cells (vs.set o (.int .i64 (-77))) opn true)]) := by
  refine Ct.go Tryz.func50 rfl rfl co50 H ?_
  refine GW.toReg rfl ?_
  refine GL.o rfl (S1.mvP rfl) ?_
  refine GL.o rfl (S1.nc rfl) ?_
  refine GL.o rfl (S1.stV (u := (.int _ _)) sc3 rfl rfl rfl (by omega) .z) ?_
  refine GL.done rfl ?_
  refine GQ.retN () .nil .z ?_ ?_ .tz
  rfl
  exact trivial

theorem we50 : WipE Tryz.prog 50 wy3 := by
  intro h r m i o vs opn hl hi ht ho H
  have hl' : vs.length = m * 1 := hl
  subst ho
  refine (cw50 (o := i * wy3.length) (by show i * 1 < _; omega) H).mono fun _ _ => ⟨_, rfl, ⟨List.length_set .., RowT.set0 rfl (.int (by simp)) ht⟩, rfl⟩


theorem cw16 : WipL Tryz.prog 16 wy3 := by
  intro h b o bs v E m hv hO H
  obtain ⟨a, cp, rfl⟩ := hO.eta
  refine Ct.go Tryz.func16 rfl rfl co16 H ?_
  refine GW.toReg rfl ?_
  refine GL.o rfl (S1.mvP rfl) ?_
  refine GL.o rfl (S1.nc rfl) ?_
  refine GL.o rfl (S1.ld sc23 rfl (.at .z) (hv)) ?_
  refine GL.call rfl .no fo49 (ps := E) (.ts .tz) (fun h' H' => cw49 h' _ E m _ hO fo50 we50 (H'.give (ps := E) (.ts .tz))) (.d (.c rfl (.c rfl .n))) (fun E' q => ?_)
  refine GL.done rfl ?_
  refine GQ.retN _ .nil .z rfl ?_ (.cons (.sA .z) .tz)
  (simp [*]; done)


theorem cw59 : WipR Tryz.prog 59 wy59 := by
  intro h v E m w hO hf hw H
  refine Ct.go Tryz.func59 rfl rfl co59 H ?_
  cases hO with
  | nil =>
    refine GW.sr rfl rfl ?_
    refine GL.o rfl (S1.asI rfl) ?_
    refine GL.dn rfl ?_
    refine GW.toBlock rfl ?_
    refine GW.toLoop (X := Unit) (fun _ => [(0, nilS), (1, .func (.func w) ⟨[]⟩ ⟨[]⟩), (4, .int .i64 0)]) (fun _ => []) (fun _ => True) (fun _ => 0) rfl () trivial (.c rfl (.c rfl (.c rfl .n))) .nil ?_
    rintro ⟨⟩ f _
    refine GW.toSeq rfl ?_
    refine GW.sr rfl rfl ?_
    refine GL.o rfl (S1.mvI rfl) ?_
    refine GL.o rfl (S1.mvL rfl) ?_
    refine GL.o rfl (S1.len el52 rfl) ?_
    refine GL.o rfl (S1.lss rfl rfl) ?_
    refine GL.dn rfl ?_
    refine GW.toF rfl rfl ?_
    refine GW.toExit rfl ?_
    refine GQ.onE ?_
    refine GQ.onE ?_
    refine GQ.outH ?_
    refine GQ.retN [] .nil .z rfl ?_ .nil
    exact .nil
  | @row r m c vs opn hl hm ho ht hmc =>
    refine GW.sr rfl rfl ?_
    refine GL.o rfl (S1.asI rfl) ?_
    refine GL.dn rfl ?_
    refine GW.toBlock rfl ?_
    refine GW.toLoop (X := Nat × List Value) (fun x => [(0, .slice (some ⟨r, 0, none⟩) m c), (1, .func (.func w) ⟨[]⟩ ⟨[]⟩), (4, .int .i64 x.1)]) (fun x => [(r, .cells x.2 opn true)]) (fun x => x.1 ≤ m ∧ x.2.length = c * 2 ∧ RowT wy59 x.2) (fun x => m - x.1) rfl (0, vs) ⟨Nat.zero_le _, hl, ht⟩ (.c rfl (.c rfl (.c rfl .n))) .tz ?_
    rintro ⟨k, us⟩ f ⟨hk, hl2, ht2⟩
    simp only at hk hl2 ht2
    refine GW.toSeq rfl ?_
    refine GW.sr rfl rfl ?_
    refine GL.o rfl (S1.mvI rfl) ?_
    refine GL.o rfl (S1.mvL rfl) ?_
    refine GL.o rfl (S1.len el52 rfl) ?_
    refine GL.o rfl (S1.lss rfl rfl) ?_
    refine GL.dn rfl ?_
    refine GW.toD rfl rfl (fun w1 => ?_) (fun w1 => ?_)
    refine GW.toSkip rfl ?_
    refine GQ.on ?_
    refine GW.toSeq rfl ?_
    refine GW.toBlock rfl ?_
    refine GW.toReg rfl ?_
    refine GL.o rfl (S1.mvF rfl) ?_
    refine GL.o rfl (S1.mvL rfl) ?_
    refine GL.o rfl (S1.mvI rfl) ?_
    refine GL.o rfl (S1.ixN el52 rfl rfl (by omega)) ?_
    rotate_left
    refine GW.toExit rfl ?_
    refine GQ.onE ?_
    refine GQ.onE ?_
    refine GQ.outH ?_
    refine GQ.retN [(r, .cells us opn true)] .nil .z rfl ?_ .tz
    exact .row hl2 hm ho ht2 hmc
    refine GL.call rfl .no hf (ps := [(r, .cells us opn true)]) .tz (fun h' H' => hw h' r c k _ us opn hl2 (by omega) ht2 (Nat.zero_add _) (H'.give (ps := [(r, .cells us opn true)]) .tz)) (.v (fs := []) (cs := []) rfl (.c (v := .pointer _) rfl .n)) (fun us' ⟨q1, q2⟩ => ?_)
    refine GL.done rfl ?_
    refine GQ.outN ?_
    refine GQ.on ?_
    refine GW.toReg rfl ?_
    refine GL.o rfl (S1.mvI rfl) ?_
    refine GL.o rfl (S1.inc rfl rfl (by omega)) ?_
    refine GL.o rfl (S1.asI rfl) ?_
    refine GL.done rfl ?_
    refine GQ.next (k + 1, us') ⟨by simp only; omega, by simp only; omega, q2⟩ (by simp only; omega) (.c rfl (.c rfl (.c rfl .n))) (.cons .z .nil)


theorem we60 : WipE Tryz.prog 60 wy59 := by
  intro h r m i o vs opn hl hi ht ho H
  have hl' : vs.length = m * 2 := hl
  have hq : o = i * 2 := ho
  have hk : o + 2 ≤ vs.length := by
    have : i * 2 + 2 ≤ m * 2 := by omega
    omega
  refine Ct.go Tryz.func60 rfl rfl co60 H ?_
  subst ho
  refine GW.sr rfl rfl ?_
  refine GL.o rfl (S1.mvP rfl) ?_
  refine GL.o rfl (S1.nc rfl) ?_
  refine GL.o rfl (S1.fa fa59_0 rfl) ?_
  refine GL.call rfl .no fo50 (show Take _ [(r, _)] _ from .tz) (fun h H => cw50 (by first | omega | (simp only [List.length_set]; omega)) (H.give (show Take _ [(r, _)] _ from .tz))) (.d (.c (v := (.pointer _)) rfl .n)) (fun _ _ => ?_)
  refine GL.dn rfl ?_
  refine GW.toReg rfl ?_
  refine GL.o rfl (S1.mvP rfl) ?_
  refine GL.o rfl (S1.nc rfl) ?_
  refine GL.o rfl (S1.fa fa59_1 rfl) ?_
  refine GL.call rfl .no fo50 (show Take _ [(r, _)] _ from (.cons .z .nil)) (fun h H => cw50 (by first | omega | (simp only [List.length_set]; omega)) (H.give (show Take _ [(r, _)] _ from (.cons .z .nil)))) (.d (.c (v := (.pointer _)) rfl .n)) (fun _ _ => ?_)
  refine GL.done rfl ?_
  refine GQ.retN ((vs.set (i * wy59.length) (.int .i64 (-77))).set (i * wy59.length + 1) (.int .i64 (-77))) .nil .z rfl ?_ (.cons .z .nil)
  exact ⟨by simp only [List.length_set], (.set (d := 1) rfl (.int (by simp)) (.set0 rfl (.int (by simp)) ht))⟩


theorem cw26 : WipL Tryz.prog 26 wy59 := by
  intro h b o bs v E m hv hO H
  obtain ⟨a, cp, rfl⟩ := hO.eta
  refine Ct.go Tryz.func26 rfl rfl co26 H ?_
  refine GW.toReg rfl ?_
  refine GL.o rfl (S1.mvP rfl) ?_
  refine GL.o rfl (S1.nc rfl) ?_
  refine GL.o rfl (S1.ld sc52 rfl (.at .z) (hv)) ?_
  refine GL.call rfl .no fo59 (ps := E) (.ts .tz) (fun h' H' => cw59 h' _ E m _ hO fo60 we60 (H'.give (ps := E) (.ts .tz))) (.d (.c rfl (.c rfl .n))) (fun E' q => ?_)
  refine GL.done rfl ?_
  refine GQ.retN _ .nil .z rfl ?_ (.cons (.sA .z) .tz)
  (simp [*]; done)


theorem cw92 : WipR Tryz.prog 92 wy81 := by
  intro h v E m w hO hf hw H
  refine Ct.go Tryz.func92 rfl rfl co92 H ?_
  cases hO with
  | nil =>
    refine GW.sr rfl rfl ?_
    refine GL.o rfl (S1.asI rfl) ?_
    refine GL.dn rfl ?_
    refine GW.toBlock rfl ?_
    refine GW.toLoop (X := Unit) (fun _ => [(0, nilS), (1, .func (.func w) ⟨[]⟩ ⟨[]⟩), (4, .int .i64 0)]) (fun _ => []) (fun _ => True) (fun _ => 0) rfl () trivial (.c rfl (.c rfl (.c rfl .n))) .nil ?_
    rintro ⟨⟩ f _
    refine GW.toSeq rfl ?_
    refine GW.sr rfl rfl ?_
    refine GL.o rfl (S1.mvI rfl) ?_
    refine GL.o rfl (S1.mvL rfl) ?_
    refine GL.o rfl (S1.len el22 rfl) ?_
    refine GL.o rfl (S1.lss rfl rfl) ?_
    refine GL.dn rfl ?_
    refine GW.toF rfl rfl ?_
    refine GW.toExit rfl ?_
    refine GQ.onE ?_
    refine GQ.onE ?_
    refine GQ.outH ?_
    refine GQ.retN [] .nil .z rfl ?_ .nil
    exact .nil
  | @row r m c vs opn hl hm ho ht hmc =>
    refine GW.sr rfl rfl ?_
    refine GL.o rfl (S1.asI rfl) ?_
    refine GL.dn rfl ?_
    refine GW.toBlock rfl ?_
    refine GW.toLoop (X := Nat × List Value) (fun x => [(0, .slice (some ⟨r, 0, none⟩) m c), (1, .func (.func w) ⟨[]⟩ ⟨[]⟩), (4, .int .i64 x.1)]) (fun x => [(r, .cells x.2 opn true)]) (fun x => x.1 ≤ m ∧ x.2.length = c * 5 ∧ RowT wy81 x.2) (fun x => m - x.1) rfl (0, vs) ⟨Nat.zero_le _, hl, ht⟩ (.c rfl (.c rfl (.c rfl .n))) .tz ?_
    rintro ⟨k, us⟩ f ⟨hk, hl2, ht2⟩
    simp only at hk hl2 ht2
    refine GW.toSeq rfl ?_
    refine GW.sr rfl rfl ?_
    refine GL.o rfl (S1.mvI rfl) ?_
    refine GL.o rfl (S1.mvL rfl) ?_
    refine GL.o rfl (S1.len el22 rfl) ?_
    refine GL.o rfl (S1.lss rfl rfl) ?_
    refine GL.dn rfl ?_
    refine GW.toD rfl rfl (fun w1 => ?_) (fun w1 => ?_)
    refine GW.toSkip rfl ?_
    refine GQ.on ?_
    refine GW.toSeq rfl ?_
    refine GW.toBlock rfl ?_
    refine GW.toReg rfl ?_
    refine GL.o rfl (S1.mvF rfl) ?_
    refine GL.o rfl (S1.mvL rfl) ?_
    refine GL.o rfl (S1.mvI rfl) ?_
    refine GL.o rfl (S1.ixN el22 rfl rfl (by omega)) ?_
    rotate_left
    refine GW.toExit rfl ?_
    refine GQ.onE ?_
    refine GQ.onE ?_
    refine GQ.outH ?_
    refine GQ.retN [(r, .cells us opn true)] .nil .z rfl ?_ .tz
    exact .row hl2 hm ho ht2 hmc
    refine GL.call rfl .no hf (ps := [(r, .cells us opn true)]) .tz (fun h' H' => hw h' r c k _ us opn hl2 (by omega) ht2 (Nat.zero_add _) (H'.give (ps := [(r, .cells us opn true)]) .tz)) (.v (fs := []) (cs := []) rfl (.c (v := .pointer _) rfl .n)) (fun us' ⟨q1, q2⟩ => ?_)
    refine GL.done rfl ?_
    refine GQ.outN ?_
    refine GQ.on ?_
    refine GW.toReg rfl ?_
    refine GL.o rfl (S1.mvI rfl) ?_
    refine GL.o rfl (S1.inc rfl rfl (by omega)) ?_
    refine GL.o rfl (S1.asI rfl) ?_
    refine GL.done rfl ?_
    refine GQ.next (k + 1, us') ⟨by simp only; omega, by simp only; omega, q2⟩ (by simp only; omega) (.c rfl (.c rfl (.c rfl .n))) (.cons .z .nil)


theorem we93 : WipE Tryz.prog 93 wy81 := by
  intro h r m i o vs opn hl hi ht ho H
  have hl' : vs.length = m * 5 := hl
  have hq : o = i * 5 := ho
  have hk : o + 5 ≤ vs.length := by
    have : i * 5 + 5 ≤ m * 5 := by omega
    omega
  refine Ct.go Tryz.func93 rfl rfl co93 H ?_
  subst ho
  refine GW.sr rfl rfl ?_
  refine GL.o rfl (S1.mvP rfl) ?_
  refine GL.o rfl (S1.nc rfl) ?_
  refine GL.o rfl (S1.fa fa81_0 rfl) ?_
  refine GL.call rfl .no fo50 (show Take _ [(r, _)] _ from .tz) (fun h H => cw50 (by first | omega | (simp only [List.length_set]; omega)) (H.give (show Take _ [(r, _)] _ from .tz))) (.d (.c (v := (.pointer _)) rfl .n)) (fun _ _ => ?_)
  refine GL.dn rfl ?_
  refine GW.sr rfl rfl ?_
  refine GL.o rfl (S1.mvP rfl) ?_
  refine GL.o rfl (S1.nc rfl) ?_
  refine GL.o rfl (S1.fa fa81_1 rfl) ?_
  refine GL.call rfl .no fo50 (show Take _ [(r, _)] _ from (.cons .z .nil)) (fun h H => cw50 (by first | omega | (simp only [List.length_set]; omega)) (H.give (show Take _ [(r, _)] _ from (.cons .z .nil)))) (.d (.c (v := (.pointer _)) rfl .n)) (fun _ _ => ?_)
  refine GL.dn rfl ?_
  refine GW.sr rfl rfl ?_
  refine GL.o rfl (S1.mvP rfl) ?_
  refine GL.o rfl (S1.nc rfl) ?_
  refine GL.o rfl (S1.fa fa81_2 rfl) ?_
  refine GL.call rfl .no fo50 (show Take _ [(r, _)] _ from (.cons .z .nil)) (fun h H => cw50 (by first | omega | (simp only [List.length_set]; omega)) (H.give (show Take _ [(r, _)] _ from (.cons .z .nil)))) (.d (.c (v := (.pointer _)) rfl .n)) (fun _ _ => ?_)
  refine GL.dn rfl ?_
  refine GW.sr rfl rfl ?_
  refine GL.o rfl (S1.mvP rfl) ?_
  refine GL.o rfl (S1.nc rfl) ?_
  refine GL.o rfl (S1.fa fa81_3 rfl) ?_
  refine GL.call rfl .no fo50 (show Take _ [(r, _)] _ from (.cons .z .nil)) (fun h H => cw50 (by first | omega | (simp only [List.length_set]; omega)) (H.give (show Take _ [(r, _)] _ from (.cons .z .nil)))) (.d (.c (v := (.pointer _)) rfl .n)) (fun _ _ => ?_)
  refine GL.dn rfl ?_
  refine GW.toReg rfl ?_
  refine GL.o rfl (S1.mvP rfl) ?_
  refine GL.o rfl (S1.nc rfl) ?_
  refine GL.o rfl (S1.fa fa81_4 rfl) ?_
  refine GL.call rfl .no fo50 (show Take _ [(r, _)] _ from (.cons .z .nil)) (fun h H => cw50 (by first | omega | (simp only [List.length_set]; omega)) (H.give (show Take _ [(r, _)] _ from (.cons .z .nil)))) (.d (.c (v := (.pointer _)) rfl .n)) (fun _ _ => ?_)
  refine GL.done rfl ?_
  refine GQ.retN (((((vs.set (i * wy81.length) (.int .i64 (-77))).set (i * wy81.length + 1) (.int .i64 (-77))).set (i * wy81.length + 2) (.int .i64 (-77))).set (i * wy81.length + 3) (.int .i64 (-77))).set (i * wy81.length + 4) (.int .i64 (-77))) .nil .z rfl ?_ (.cons .z .nil)
  exact ⟨by simp only [List.length_set], (.set (d := 4) rfl (.int (by simp)) (.set (d := 3) rfl (.int (by simp)) (.set (d := 2) rfl (.int (by simp)) (.set (d := 1) rfl (.int (by simp)) (.set0 rfl (.int (by simp)) ht)))))⟩


theorem cw69 : WipL Tryz.prog 69 wy81 := by
  intro h b o bs v E m hv hO H
  obtain ⟨a, cp, rfl⟩ := hO.eta
  refine Ct.go Tryz.func69 rfl rfl co69 H ?_
  refine GW.toReg rfl ?_
  refine GL.o rfl (S1.mvP rfl) ?_
  refine GL.o rfl (S1.nc rfl) ?_
  refine GL.o rfl (S1.ld sc22 rfl (.at .z) (hv)) ?_
  refine GL.call rfl .no fo92 (ps := E) (.ts .tz) (fun h' H' => cw92 h' _ E m _ hO fo93 we93 (H'.give (ps := E) (.ts .tz))) (.d (.c rfl (.c rfl .n))) (fun E' q => ?_)
  refine GL.done rfl ?_
  refine GQ.retN _ .nil .z rfl ?_ (.cons (.sA .z) .tz)
  (simp [*]; done)

-- 34 wipeAnKey [('l', 81), ('l', 3), ('i', 'i64')]: by hand

theorem cw75 : WipR Tryz.prog 75 wy120 := by
  intro h v E m w hO hf hw H
  refine Ct.go Tryz.func75 rfl rfl co75 H ?_
  cases hO with
  | nil =>
    refine GW.sr rfl rfl ?_
    refine GL.o rfl (S1.asI rfl) ?_
    refine GL.dn rfl ?_
    refine GW.toBlock rfl ?_
    refine GW.toLoop (X := Unit) (fun _ => [(0, nilS), (1, .func (.func w) ⟨[]⟩ ⟨[]⟩), (4, .int .i64 0)]) (fun _ => []) (fun _ => True) (fun _ => 0) rfl () trivial (.c rfl (.c rfl (.c rfl .n))) .nil ?_
    rintro ⟨⟩ f _
    refine GW.toSeq rfl ?_
    refine GW.sr rfl rfl ?_
    refine GL.o rfl (S1.mvI rfl) ?_
    refine GL.o rfl (S1.mvL rfl) ?_
    refine GL.o rfl (S1.len el68 rfl) ?_
    refine GL.o rfl (S1.lss rfl rfl) ?_
    refine GL.dn rfl ?_
    refine GW.toF rfl rfl ?_
    refine GW.toExit rfl ?_
    refine GQ.onE ?_
    refine GQ.onE ?_
    refine GQ.outH ?_
    refine GQ.retN [] .nil .z rfl ?_ .nil
    exact .nil
  | @row r m c vs opn hl hm ho ht hmc =>
    refine GW.sr rfl rfl ?_
    refine GL.o rfl (S1.asI rfl) ?_
    refine GL.dn rfl ?_
    refine GW.toBlock rfl ?_
    refine GW.toLoop (X := Nat × List Value) (fun x => [(0, .slice (some ⟨r, 0, none⟩) m c), (1, .func (.func w) ⟨[]⟩ ⟨[]⟩), (4, .int .i64 x.1)]) (fun x => [(r, .cells x.2 opn true)]) (fun x => x.1 ≤ m ∧ x.2.length = c * 2 ∧ RowT wy120 x.2) (fun x => m - x.1) rfl (0, vs) ⟨Nat.zero_le _, hl, ht⟩ (.c rfl (.c rfl (.c rfl .n))) .tz ?_
    rintro ⟨k, us⟩ f ⟨hk, hl2, ht2⟩
    simp only at hk hl2 ht2
    refine GW.toSeq rfl ?_
    refine GW.sr rfl rfl ?_
    refine GL.o rfl (S1.mvI rfl) ?_
    refine GL.o rfl (S1.mvL rfl) ?_
    refine GL.o rfl (S1.len el68 rfl) ?_
    refine GL.o rfl (S1.lss rfl rfl) ?_
    refine GL.dn rfl ?_
    refine GW.toD rfl rfl (fun w1 => ?_) (fun w1 => ?_)
    refine GW.toSkip rfl ?_
    refine GQ.on ?_
    refine GW.toSeq rfl ?_
    refine GW.toBlock rfl ?_
    refine GW.toReg rfl ?_
    refine GL.o rfl (S1.mvF rfl) ?_
    refine GL.o rfl (S1.mvL rfl) ?_
    refine GL.o rfl (S1.mvI rfl) ?_
    refine GL.o rfl (S1.ixN el68 rfl rfl (by omega)) ?_
    rotate_left
    refine GW.toExit rfl ?_
    refine GQ.onE ?_
    refine GQ.onE ?_
    refine GQ.outH ?_
    refine GQ.retN [(r, .cells us opn true)] .nil .z rfl ?_ .tz
    exact .row hl2 hm ho ht2 hmc
    refine GL.call rfl .no hf (ps := [(r, .cells us opn true)]) .tz (fun h' H' => hw h' r c k _ us opn hl2 (by omega) ht2 (Nat.zero_add _) (H'.give (ps := [(r, .cells us opn true)]) .tz)) (.v (fs := []) (cs := []) rfl (.c (v := .pointer _) rfl .n)) (fun us' ⟨q1, q2⟩ => ?_)
    refine GL.done rfl ?_
    refine GQ.outN ?_
    refine GQ.on ?_
    refine GW.toReg rfl ?_
    refine GL.o rfl (S1.mvI rfl) ?_
    refine GL.o rfl (S1.inc rfl rfl (by omega)) ?_
    refine GL.o rfl (S1.asI rfl) ?_
    refine GL.done rfl ?_
    refine GQ.next (k + 1, us') ⟨by simp only; omega, by simp only; omega, q2⟩ (by simp only; omega) (.c rfl (.c rfl (.c rfl .n))) (.cons .z .nil)


theorem we76 : WipE Tryz.prog 76 wy120 := by
  intro h r m i o vs opn hl hi ht ho H
  have hl' : vs.length = m * 2 := hl
  have hq : o = i * 2 := ho
  have hk : o + 2 ≤ vs.length := by
    have : i * 2 + 2 ≤ m * 2 := by omega
    omega
  refine Ct.go Tryz.func76 rfl rfl co76 H ?_
  subst ho
  refine GW.sr rfl rfl ?_
  refine GL.o rfl (S1.mvP rfl) ?_
  refine GL.o rfl (S1.nc rfl) ?_
  refine GL.o rfl (S1.fa fa120_0 rfl) ?_
  refine GL.call rfl .no fo50 (show Take _ [(r, _)] _ from .tz) (fun h H => cw50 (by first | omega | (simp only [List.length_set]; omega)) (H.give (show Take _ [(r, _)] _ from .tz))) (.d (.c (v := (.pointer _)) rfl .n)) (fun _ _ => ?_)
  refine GL.dn rfl ?_
  refine GW.toReg rfl ?_
  refine GL.o rfl (S1.mvP rfl) ?_
  refine GL.o rfl (S1.nc rfl) ?_
  refine GL.o rfl (S1.fa fa120_1 rfl) ?_
  refine GL.call rfl .no fo50 (show Take _ [(r, _)] _ from (.cons .z .nil)) (fun h H => cw50 (by first | omega | (simp only [List.length_set]; omega)) (H.give (show Take _ [(r, _)] _ from (.cons .z .nil)))) (.d (.c (v := (.pointer _)) rfl .n)) (fun _ _ => ?_)
  refine GL.done rfl ?_
  refine GQ.retN ((vs.set (i * wy120.length) (.int .i64 (-77))).set (i * wy120.length + 1) (.int .i64 (-77))) .nil .z rfl ?_ (.cons .z .nil)
  exact ⟨by simp only [List.length_set], (.set (d := 1) rfl (.int (by simp)) (.set0 rfl (.int (by simp)) ht))⟩


theorem cw39 : WipL Tryz.prog 39 wy120 := by
  intro h b o bs v E m hv hO H
  obtain ⟨a, cp, rfl⟩ := hO.eta
  refine Ct.go Tryz.func39 rfl rfl co39 H ?_
  refine GW.toReg rfl ?_
  refine GL.o rfl (S1.mvP rfl) ?_
  refine GL.o rfl (S1.nc rfl) ?_
  refine GL.o rfl (S1.ld sc68 rfl (.at .z) (hv)) ?_
  refine GL.call rfl .no fo75 (ps := E) (.ts .tz) (fun h' H' => cw75 h' _ E m _ hO fo76 we76 (H'.give (ps := E) (.ts .tz))) (.d (.c rfl (.c rfl .n))) (fun E' q => ?_)
  refine GL.done rfl ?_
  refine GQ.retN _ .nil .z rfl ?_ (.cons (.sA .z) .tz)
  (simp [*]; done)

end Go.Proofs.YtadgfnnkpddneaaGreat
