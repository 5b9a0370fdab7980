/- S4: contracts: bits.Len; the patterns that are broken. -/
import Derived.Test.YtenkebdjlajanaaSA
import Derived.Test.YtenkebdjlajanaaGC
set_option linter.all false
set_option linter.constructorNameAsVariable false
set_option linter.unusedSimpArgs false
set_option linter.unusedVariables false
set_option linter.unusedSectionVars false
set_option linter.unnecessarySimpa false
namespace Go.Proofs.Ytenkebdjlajanaa
open Go Go.E
set_option maxRecDepth 100000
set_option maxHeartbeats 4000000

theorem ct79 {h : EH} {x : Nat} (hx : x ≤ 2147483648) : Ct Try.prog 79 ⟨[.int .u64 x]⟩ h [] (fun k : Nat => .int .i64 (k : Int)) (fun k => k ≤ 40 ∧ (0 < x → 2 ^ k ≤ 2 * x)) (fun _ => []) := by
  refine Ct.go Try.func79 rfl rfl co79 (Hp.start (hr := fun _ => none) (by simp)) ?_
  refine GW.sr rfl rfl ?_
  refine GL.o rfl (S1.asI rfl) ?_
  refine GL.dn rfl ?_
  refine GW.toSeq rfl ?_
  refine GW.sr rfl rfl ?_
  refine GL.o rfl (S1.mvI rfl) ?_
  refine GL.o rfl (S1.geq rfl rfl) ?_
  refine GL.dn rfl ?_
  refine GW.toD rfl rfl (fun w1 => ?_) (fun w1 => ?_)
  refine GW.sr rfl rfl ?_
  refine GL.o rfl (S1.mvI rfl) ?_
  refine GL.o rfl (S1.shrU (d := 4294967296) rfl rfl (by decide) (by decide) (by decide)) ?_
  refine GL.o rfl (S1.asI rfl) ?_
  refine GL.dn rfl ?_
  refine GW.toReg rfl ?_
  refine GL.o rfl (S1.asI rfl) ?_
  refine GL.dn rfl ?_
  refine GW.toSeq rfl ?_
  refine GW.sr rfl rfl ?_
  refine GL.o rfl (S1.mvI rfl) ?_
  refine GL.o rfl (S1.geq rfl rfl) ?_
  refine GL.dn rfl ?_
  refine GW.toD rfl rfl (fun w2 => ?_) (fun w2 => ?_)
  refine GW.sr rfl rfl ?_
  refine GL.o rfl (S1.mvI rfl) ?_
  refine GL.o rfl (S1.shrU (d := 65536) rfl rfl (by decide) (by decide) (by decide)) ?_
  refine GL.o rfl (S1.asI rfl) ?_
  refine GL.dn rfl ?_
  refine GW.toReg rfl ?_
  refine GL.o rfl (S1.mvI rfl) ?_
  refine GL.o rfl (S1.addN rfl rfl (by omega)) ?_
  refine GL.o rfl (S1.asI rfl) ?_
  refine GL.dn rfl ?_
  refine GW.toSeq rfl ?_
  refine GW.sr rfl rfl ?_
  refine GL.o rfl (S1.mvI rfl) ?_
  refine GL.o rfl (S1.geq rfl rfl) ?_
  refine GL.dn rfl ?_
  refine GW.toD rfl rfl (fun w3 => ?_) (fun w3 => ?_)
  refine GW.sr rfl rfl ?_
  refine GL.o rfl (S1.mvI rfl) ?_
  refine GL.o rfl (S1.shrU (d := 256) rfl rfl (by decide) (by decide) (by decide)) ?_
  refine GL.o rfl (S1.asI rfl) ?_
  refine GL.dn rfl ?_
  refine GW.toReg rfl ?_
  refine GL.o rfl (S1.mvI rfl) ?_
  refine GL.o rfl (S1.addN rfl rfl (by omega)) ?_
  refine GL.o rfl (S1.asI rfl) ?_
  refine GL.dn rfl ?_
  refine GW.sr rfl rfl ?_
  refine GL.o rfl (S1.mvI rfl) ?_
  refine GL.o rfl (S1.mvI rfl) ?_
  refine GL.o rfl (S1.cvU8 us127 in5 rfl (by omega) (by omega)) ?_
  refine GL.o rfl (S1.ixs st9 rfl rfl (by omega)) ?_
  refine GL.o rfl (S1.cvI us5 in3 rfl (by omega) (by omega)) ?_
  refine GL.o rfl (S1.addN rfl rfl (by omega)) ?_
  refine GL.o rfl (S1.asI rfl) ?_
  refine GL.dn rfl ?_
  refine GW.toRet rfl ?_
  refine GQ.ret _ (.tmp (v := (.int _ _)) rfl rfl .nil) .one rfl ?_ .nil
  omega
  refine GW.toSkip rfl ?_
  refine GQ.on ?_
  refine GW.sr rfl rfl ?_
  refine GL.o rfl (S1.mvI rfl) ?_
  refine GL.o rfl (S1.mvI rfl) ?_
  refine GL.o rfl (S1.cvU8 us127 in5 rfl (by omega) (by omega)) ?_
  refine GL.o rfl (S1.ixs st9 rfl rfl (by omega)) ?_
  refine GL.o rfl (S1.cvI us5 in3 rfl (by omega) (by omega)) ?_
  refine GL.o rfl (S1.addN rfl rfl (by omega)) ?_
  refine GL.o rfl (S1.asI rfl) ?_
  refine GL.dn rfl ?_
  refine GW.toRet rfl ?_
  refine GQ.ret _ (.tmp (v := (.int _ _)) rfl rfl .nil) .one rfl ?_ .nil
  omega
  refine GW.toSkip rfl ?_
  refine GQ.on ?_
  refine GW.toSeq rfl ?_
  refine GW.sr rfl rfl ?_
  refine GL.o rfl (S1.mvI rfl) ?_
  refine GL.o rfl (S1.geq rfl rfl) ?_
  refine GL.dn rfl ?_
  refine GW.toD rfl rfl (fun w4 => ?_) (fun w4 => ?_)
  refine GW.sr rfl rfl ?_
  refine GL.o rfl (S1.mvI rfl) ?_
  refine GL.o rfl (S1.shrU (d := 256) rfl rfl (by decide) (by decide) (by decide)) ?_
  refine GL.o rfl (S1.asI rfl) ?_
  refine GL.dn rfl ?_
  refine GW.toReg rfl ?_
  refine GL.o rfl (S1.mvI rfl) ?_
  refine GL.o rfl (S1.addN rfl rfl (by omega)) ?_
  refine GL.o rfl (S1.asI rfl) ?_
  refine GL.dn rfl ?_
  refine GW.sr rfl rfl ?_
  refine GL.o rfl (S1.mvI rfl) ?_
  refine GL.o rfl (S1.mvI rfl) ?_
  refine GL.o rfl (S1.cvU8 us127 in5 rfl (by omega) (by omega)) ?_
  refine GL.o rfl (S1.ixs st9 rfl rfl (by omega)) ?_
  refine GL.o rfl (S1.cvI us5 in3 rfl (by omega) (by omega)) ?_
  refine GL.o rfl (S1.addN rfl rfl (by omega)) ?_
  refine GL.o rfl (S1.asI rfl) ?_
  refine GL.dn rfl ?_
  refine GW.toRet rfl ?_
  refine GQ.ret _ (.tmp (v := (.int _ _)) rfl rfl .nil) .one rfl ?_ .nil
  omega
  refine GW.toSkip rfl ?_
  refine GQ.on ?_
  refine GW.sr rfl rfl ?_
  refine GL.o rfl (S1.mvI rfl) ?_
  refine GL.o rfl (S1.mvI rfl) ?_
  refine GL.o rfl (S1.cvU8 us127 in5 rfl (by omega) (by omega)) ?_
  refine GL.o rfl (S1.ixs st9 rfl rfl (by omega)) ?_
  refine GL.o rfl (S1.cvI us5 in3 rfl (by omega) (by omega)) ?_
  refine GL.o rfl (S1.addN rfl rfl (by omega)) ?_
  refine GL.o rfl (S1.asI rfl) ?_
  refine GL.dn rfl ?_
  refine GW.toRet rfl ?_
  refine GQ.ret _ (.tmp (v := (.int _ _)) rfl rfl .nil) .one rfl ?_ .nil
  omega
  refine GW.toSkip rfl ?_
  refine GQ.on ?_
  refine GW.toSeq rfl ?_
  refine GW.sr rfl rfl ?_
  refine GL.o rfl (S1.mvI rfl) ?_
  refine GL.o rfl (S1.geq rfl rfl) ?_
  refine GL.dn rfl ?_
  refine GW.toD rfl rfl (fun w5 => ?_) (fun w5 => ?_)
  refine GW.sr rfl rfl ?_
  refine GL.o rfl (S1.mvI rfl) ?_
  refine GL.o rfl (S1.shrU (d := 65536) rfl rfl (by decide) (by decide) (by decide)) ?_
  refine GL.o rfl (S1.asI rfl) ?_
  refine GL.dn rfl ?_
  refine GW.toReg rfl ?_
  refine GL.o rfl (S1.mvI rfl) ?_
  refine GL.o rfl (S1.addI rfl rfl (by omega) (by omega)) ?_
  refine GL.o rfl (S1.asI rfl) ?_
  refine GL.dn rfl ?_
  refine GW.toSeq rfl ?_
  refine GW.sr rfl rfl ?_
  refine GL.o rfl (S1.mvI rfl) ?_
  refine GL.o rfl (S1.geq rfl rfl) ?_
  refine GL.dn rfl ?_
  refine GW.toD rfl rfl (fun w6 => ?_) (fun w6 => ?_)
  refine GW.sr rfl rfl ?_
  refine GL.o rfl (S1.mvI rfl) ?_
  refine GL.o rfl (S1.shrU (d := 256) rfl rfl (by decide) (by decide) (by decide)) ?_
  refine GL.o rfl (S1.asI rfl) ?_
  refine GL.dn rfl ?_
  refine GW.toReg rfl ?_
  refine GL.o rfl (S1.mvI rfl) ?_
  refine GL.o rfl (S1.addI rfl rfl (by omega) (by omega)) ?_
  refine GL.o rfl (S1.asI rfl) ?_
  refine GL.dn rfl ?_
  refine GW.sr rfl rfl ?_
  refine GL.o rfl (S1.mvI rfl) ?_
  refine GL.o rfl (S1.mvI rfl) ?_
  refine GL.o rfl (S1.cvU8 us127 in5 rfl (by omega) (by omega)) ?_
  rotate_left
  refine GW.toSkip rfl ?_
  refine GQ.on ?_
  refine GW.sr rfl rfl ?_
  refine GL.o rfl (S1.mvI rfl) ?_
  refine GL.o rfl (S1.mvI rfl) ?_
  refine GL.o rfl (S1.cvU8 us127 in5 rfl (by omega) (by omega)) ?_
  rotate_left
  refine GW.toSkip rfl ?_
  refine GQ.on ?_
  refine GW.toSeq rfl ?_
  refine GW.sr rfl rfl ?_
  refine GL.o rfl (S1.mvI rfl) ?_
  refine GL.o rfl (S1.geq rfl rfl) ?_
  refine GL.dn rfl ?_
  refine GW.toD rfl rfl (fun w7 => ?_) (fun w7 => ?_)
  refine GW.sr rfl rfl ?_
  refine GL.o rfl (S1.mvI rfl) ?_
  refine GL.o rfl (S1.shrU (d := 256) rfl rfl (by decide) (by decide) (by decide)) ?_
  refine GL.o rfl (S1.asI rfl) ?_
  refine GL.dn rfl ?_
  refine GW.toReg rfl ?_
  refine GL.o rfl (S1.mvI rfl) ?_
  refine GL.o rfl (S1.addI rfl rfl (by omega) (by omega)) ?_
  refine GL.o rfl (S1.asI rfl) ?_
  refine GL.dn rfl ?_
  refine GW.sr rfl rfl ?_
  refine GL.o rfl (S1.mvI rfl) ?_
  refine GL.o rfl (S1.mvI rfl) ?_
  refine GL.o rfl (S1.cvU8 us127 in5 rfl (by omega) (by omega)) ?_
  rotate_left
  refine GW.toSkip rfl ?_
  refine GQ.on ?_
  refine GW.sr rfl rfl ?_
  refine GL.o rfl (S1.mvI rfl) ?_
  refine GL.o rfl (S1.mvI rfl) ?_
  refine GL.o rfl (S1.cvU8 us127 in5 rfl (by omega) (by omega)) ?_
  rotate_left
  · refine GL.opX rfl .no (SX.tab8 st9 rfl (by kernel_rfl) rfl (by omega) (by omega)) (fun t rt => ?_)
    refine GL.o rfl (S1.cvI us5 in3 rfl (by omega) (by omega)) ?_
    refine GL.o rfl (S1.addI rfl rfl (by omega) (by omega)) ?_
    refine GL.o rfl (S1.asI rfl) ?_
    refine GL.dn rfl ?_
    refine GW.toRet rfl ?_
    refine GQ.ret (24 + t) (.tmp (v := (.int _ _)) rfl rfl .nil) .one ?_ ?_ .nil
    rfl
    exact ⟨by omega, fun h0 => by have := rt.2 (by omega); rw [Nat.pow_add]; omega⟩
  · refine GL.opX rfl .no (SX.tab8 st9 rfl (by kernel_rfl) rfl (by omega) (by omega)) (fun t rt => ?_)
    refine GL.o rfl (S1.cvI us5 in3 rfl (by omega) (by omega)) ?_
    refine GL.o rfl (S1.addI rfl rfl (by omega) (by omega)) ?_
    refine GL.o rfl (S1.asI rfl) ?_
    refine GL.dn rfl ?_
    refine GW.toRet rfl ?_
    refine GQ.ret (16 + t) (.tmp (v := (.int _ _)) rfl rfl .nil) .one ?_ ?_ .nil
    rfl
    exact ⟨by omega, fun h0 => by have := rt.2 (by omega); rw [Nat.pow_add]; omega⟩
  · refine GL.opX rfl .no (SX.tab8 st9 rfl (by kernel_rfl) rfl (by omega) (by omega)) (fun t rt => ?_)
    refine GL.o rfl (S1.cvI us5 in3 rfl (by omega) (by omega)) ?_
    refine GL.o rfl (S1.addI rfl rfl (by omega) (by omega)) ?_
    refine GL.o rfl (S1.asI rfl) ?_
    refine GL.dn rfl ?_
    refine GW.toRet rfl ?_
    refine GQ.ret (8 + t) (.tmp (v := (.int _ _)) rfl rfl .nil) .one ?_ ?_ .nil
    rfl
    exact ⟨by omega, fun h0 => by have := rt.2 (by omega); rw [Nat.pow_add]; omega⟩
  · refine GL.opX rfl .no (SX.tab8 st9 rfl (by kernel_rfl) rfl (by omega) (by omega)) (fun t rt => ?_)
    refine GL.o rfl (S1.cvI us5 in3 rfl (by omega) (by omega)) ?_
    refine GL.o rfl (S1.addI rfl rfl (by omega) (by omega)) ?_
    refine GL.o rfl (S1.asI rfl) ?_
    refine GL.dn rfl ?_
    refine GW.toRet rfl ?_
    refine GQ.ret (0 + t) (.tmp (v := (.int _ _)) rfl rfl .nil) .one ?_ ?_ .nil
    rfl
    exact ⟨by omega, fun h0 => by have := rt.2 (by omega); rw [Nat.pow_add]; omega⟩
end Go.Proofs.Ytenkebdjlajanaa
namespace Go.Proofs.Ytenkebdjlajanaa
open Go Go.E
set_option maxRecDepth 100000
set_option maxHeartbeats 4000000

theorem ct63 {h : EH} {x : Nat} (hx : x ≤ 2147483648) : Ct Try.prog 63 ⟨[.int .u64 x]⟩ h [] (fun k : Nat => .int .i64 (k : Int)) (fun k => k ≤ 40 ∧ (0 < x → 2 ^ k ≤ 2 * x)) (fun _ => []) := by
  refine Ct.go Try.func63 rfl rfl co63 (Hp.start (hr := fun _ => none) (by simp)) ?_
  refine GW.sr rfl rfl ?_
  refine GL.o rfl (S1.asI rfl) ?_
  refine GL.dn rfl ?_
  refine GW.toSeq rfl ?_
  refine GW.toF rfl rfl ?_
  refine GW.toSkip rfl ?_
  refine GQ.on ?_
  refine GW.sr rfl rfl ?_
  refine GL.o rfl (S1.mvI rfl) ?_
  refine GL.call rfl .no fo79 .nil (fun h H => ct79 (by omega)) (.d (.c (v := (.int _ _)) rfl .n)) (fun k107 q107 => ?_)
  refine GL.o rfl (S1.asI rfl) ?_
  refine GL.dn rfl ?_
  refine GW.toRet rfl ?_
  refine GQ.ret _ (.tmp (v := (.int _ _)) rfl rfl .nil) .one rfl ?_ .nil
  assumption
theorem ct82 {h : EH} {x : Nat} (hx : x ≤ 1073741824) (hx0 : 0 < x) : Ct Try.prog 82 ⟨[.int .i64 x]⟩ h [] (fun r : Nat => .int .u64 (r : Int)) (fun r => 1 ≤ r ∧ r ≤ 2 * x) (fun _ => []) := by
  refine Ct.go Try.func82 rfl rfl co82 (Hp.start (hr := fun _ => none) (by simp)) ?_
  refine GW.sr rfl rfl ?_
  refine GL.o rfl (S1.asI rfl) ?_
  refine GL.dn rfl ?_
  refine GW.sr rfl rfl ?_
  refine GL.o rfl (S1.mvI rfl) ?_
  refine GL.o rfl (S1.cvU us3 in111 rfl (by omega) (by omega)) ?_
  refine GL.call rfl .no fo63 .nil (fun h H => ct63 (by omega)) (.d (.c (v := (.int _ _)) rfl .n)) (fun k89 q89 => ?_)
  refine GL.o rfl (S1.shl1 rfl rfl (by omega)) ?_
  refine GL.o rfl (S1.asI rfl) ?_
  refine GL.dn rfl ?_
  refine GW.toRet rfl ?_
  refine GQ.ret _ (.tmp (v := (.int _ _)) rfl rfl .nil) .one rfl ?_ .nil
  exact ⟨Nat.one_le_two_pow, q89.2 hx0⟩
theorem ct82i {h : EH} {y : Int} (h0 : 0 < y) (h1 : y ≤ 1073741824) : Ct Try.prog 82 ⟨[.int .i64 y]⟩ h [] (fun r : Nat => .int .u64 (r : Int)) (fun r => 1 ≤ r ∧ (r : Int) ≤ 2 * y) (fun _ => []) := by
  obtain ⟨x, rfl⟩ := Int.eq_ofNat_of_zero_le (Int.le_of_lt h0)
  exact (ct82 (h := h) (x := x) (by omega) (by omega)).mono fun r q => ⟨r, rfl, ⟨q.1, by omega⟩, rfl⟩

theorem ct83 {h : EH} {hr : RO} {b : Nat} {v : Int} (H : Hp hr h [b] [(b, .cells [.int .u64 v] none true)] h) : Ct Try.prog 83 ⟨[.pointer (some ⟨b, 0, none⟩)]⟩ h [b] (fun r : Int => .int .u64 r) (fun _ => True) (fun r => [(b, .cells [.int .u64 r] none true)]) := by
  refine Ct.go Try.func83 rfl rfl co83 H ?_
  refine GW.sr rfl rfl ?_
  refine GL.o rfl (S1.asI rfl) ?_
  refine GL.dn rfl ?_
  refine GW.toSeq rfl ?_
  refine GW.toDrw mx rfl ?_
  refine GD.o rfl (S1.mvP rfl) rfl ?_
  refine GD.o rfl (S1.nc rfl) rfl ?_
  refine GD.o rfl (S1.ld sc129 rfl (.at .z) rfl) rfl ?_
  refine GD.o rfl (S1.mvP rfl) rfl ?_
  refine GD.o rfl (S1.nc rfl) rfl ?_
  refine GD.o rfl (S1.ld sc129 rfl (.at .z) rfl) rfl ?_
  refine GD.o rfl (S1.shl rfl rfl (by omega)) rfl ?_
  refine GD.o rfl (S1.bits rfl rfl rfl) rfl ?_
  refine GD.o rfl (S1.nc rfl) rfl ?_
  refine GD.loud rfl .no (S1.st (u := (.int _ _)) sc129 rfl rfl rfl (by repeat constructor) .z) rfl rfl (by kernel_rfl) ?_
  refine GD.done rfl ?_
  refine GQ.on ?_
  refine GW.toSeq rfl ?_
  refine GW.toDrw mx rfl ?_
  refine GD.o rfl (S1.mvP rfl) rfl ?_
  refine GD.o rfl (S1.nc rfl) rfl ?_
  refine GD.o rfl (S1.ld sc129 rfl (.at .z) rfl) rfl ?_
  refine GD.o rfl (S1.mvP rfl) rfl ?_
  refine GD.o rfl (S1.nc rfl) rfl ?_
  refine GD.o rfl (S1.ld sc129 rfl (.at .z) rfl) rfl ?_
  refine GD.o rfl (S1.shrU (d := 128) rfl rfl (by decide) (by decide) (by decide)) rfl ?_
  refine GD.o rfl (S1.bits rfl rfl rfl) rfl ?_
  refine GD.o rfl (S1.nc rfl) rfl ?_
  refine GD.loud rfl .no (S1.st (u := (.int _ _)) sc129 rfl rfl rfl (by repeat constructor) .z) rfl rfl (by kernel_rfl) ?_
  refine GD.done rfl ?_
  refine GQ.on ?_
  refine GW.toSeq rfl ?_
  refine GW.toDrw mx rfl ?_
  refine GD.o rfl (S1.mvP rfl) rfl ?_
  refine GD.o rfl (S1.nc rfl) rfl ?_
  refine GD.o rfl (S1.ld sc129 rfl (.at .z) rfl) rfl ?_
  refine GD.o rfl (S1.mvP rfl) rfl ?_
  refine GD.o rfl (S1.nc rfl) rfl ?_
  refine GD.o rfl (S1.ld sc129 rfl (.at .z) rfl) rfl ?_
  refine GD.o rfl (S1.shl rfl rfl (by omega)) rfl ?_
  refine GD.o rfl (S1.bits rfl rfl rfl) rfl ?_
  refine GD.o rfl (S1.nc rfl) rfl ?_
  refine GD.loud rfl .no (S1.st (u := (.int _ _)) sc129 rfl rfl rfl (by repeat constructor) .z) rfl rfl (by kernel_rfl) ?_
  refine GD.done rfl ?_
  refine GQ.on ?_
  refine GW.sr rfl rfl ?_
  refine GL.o rfl (S1.mvP rfl) ?_
  refine GL.o rfl (S1.nc rfl) ?_
  refine GL.o rfl (S1.ld sc129 rfl (.at .z) rfl) ?_
  refine GL.o rfl (S1.asI rfl) ?_
  refine GL.dn rfl ?_
  refine GW.toRet rfl ?_
  refine GQ.ret _ (.tmp (v := (.int _ _)) rfl rfl .nil) .one rfl ?_ .tz
  exact trivial

section
variable {h : EH} {hr : RO} {rb m c : Nat} {opn : Option Nat} {l : List Int} {a b pv : Int}
theorem ct71 (H : Hp hr h [rb] [(rb, .cells (ints l) opn true)] h) (hm : m ≤ l.length) (hm2 : l.length ≤ 1073741824) (ha : 0 ≤ a) (hb : b ≤ m) (hab : a ≤ b) : Ct Try.prog 71 ⟨[.slice (some ⟨rb, 0, none⟩) m c, .int .i64 a, .int .i64 b]⟩ h [rb] (fun _ : List Int => .tuple #[]) (fun l' => Sw l l') (fun l' => [(rb, .cells (ints l') opn true)]) := by
  refine Ct.go Try.func71 rfl rfl co71 H ?_
  have s := Sw.refl l
  refine GW.sr rfl rfl ?_
  refine GL.o rfl (S1.mvI rfl) ?_
  refine GL.o rfl (S1.mvI rfl) ?_
  refine GL.o rfl (S1.subI rfl rfl (by omega) (by omega)) ?_
  refine GL.o rfl (S1.asI rfl) ?_
  refine GL.dn rfl ?_
  refine GW.sr rfl rfl ?_
  refine GL.o rfl (S1.mvI rfl) ?_
  refine GL.o rfl (S1.geq rfl rfl) ?_
  refine GL.dn rfl ?_
  refine GW.toD rfl rfl (fun w1 => ?_) (fun w1 => ?_)
  refine GW.sr rfl rfl ?_
  refine GL.o rfl (S1.mvI rfl) ?_
  refine GL.o rfl (S1.cvU us3 in129 rfl (by omega) (by omega)) ?_
  refine GL.opN rfl .no (SN.al zc129) (fun a2 => ?_)
  refine GL.o rfl (S1.st (u := (.int _ _)) sc129 rfl rfl rfl (by repeat constructor) .z) ?_
  refine GL.dn rfl ?_
  refine GW.sr rfl rfl ?_
  refine GL.o rfl (S1.mvI rfl) ?_
  refine GL.call rfl .no fo82 .nil (fun h H => ct82i (by omega) (by omega)) (.d (.c (v := (.int _ _)) rfl .n)) (fun r109 q109 => ?_)
  refine GL.o rfl (S1.asI rfl) ?_
  refine GL.dn rfl ?_
  refine GW.sr rfl rfl ?_
  refine GL.o rfl (S1.mvI rfl) ?_
  refine GL.o rfl (S1.mvI rfl) ?_
  refine GL.o rfl (S1.quoI rfl rfl (by omega) (by omega) (by omega)) ?_
  refine GL.o rfl (S1.mulI rfl rfl (by omega) (by omega)) ?_
  refine GL.o rfl (S1.addI rfl rfl (by omega) (by omega)) ?_
  refine GL.o rfl (S1.subI rfl rfl (by omega) (by omega)) ?_
  refine GL.o rfl (S1.asI rfl) ?_
  refine GL.dn rfl ?_
  refine GW.toBlock rfl ?_
  rotate_left
  refine GW.toSkip rfl ?_
  refine GQ.retN _ .nil .z rfl ?_ .tz
  assumption
  refine GW.toLoop (X := Int × Int × List Int) (fun x => [(0, .slice (some ⟨rb, 0, none⟩) m c), (1, .int .i64 a), (6, .int .i64 (b - a)), (7, .pointer (some ⟨a2, 0, none⟩)), (8, .int .u64 r109), (9, .int .i64 x.1)]) (fun x => [(a2, .cells [.int .u64 x.2.1] none true), (rb, .cells (ints x.2.2) opn true)]) (fun x => a + ((b - a) / 4 * 2) - 1 ≤ x.1 ∧ x.1 ≤ a + ((b - a) / 4 * 2) + 2 ∧ Sw l x.2.2) (fun x => (a + ((b - a) / 4 * 2) + 2 - x.1).toNat) rfl (a + ((b - a) / 4 * 2) - 1, b - a, l) ⟨(by first | omega | (dsimp only; omega)), (by first | omega | (dsimp only; omega)), s⟩ (.c rfl (.c rfl (.c rfl (.c rfl (.c rfl (.c rfl .n)))))) (.cons .z .tz) ?_
  rintro x f ⟨hx0, hx1, s⟩
  have hs := s.1
  refine GW.toSeq rfl ?_
  refine GW.sr rfl rfl ?_
  refine GL.o rfl (S1.mvI rfl) ?_
  refine GL.o rfl (S1.mvI rfl) ?_
  refine GL.o rfl (S1.mvI rfl) ?_
  refine GL.o rfl (S1.quoI rfl rfl (by omega) (by omega) (by omega)) ?_
  refine GL.o rfl (S1.mulI rfl rfl (by omega) (by omega)) ?_
  refine GL.o rfl (S1.addI rfl rfl (by omega) (by omega)) ?_
  refine GL.o rfl (S1.addI rfl rfl (by omega) (by omega)) ?_
  refine GL.o rfl (S1.leq rfl rfl) ?_
  refine GL.dn rfl ?_
  refine GW.toD rfl rfl (fun w4 => ?_) (fun w4 => ?_)
  refine GW.toSkip rfl ?_
  refine GQ.on ?_
  refine GW.toSeq rfl ?_
  refine GW.toBlock rfl ?_
  refine GW.sr rfl rfl ?_
  refine GL.call rfl .no fo83 (show Take _ [(a2, _)] _ from (.cons .z .nil)) (fun h H => ct83 (b := a2) (H.give (show Take _ [(a2, _)] _ from (.cons .z .nil)))) (.d (.c (v := (.pointer _)) rfl .n)) (fun r110 _ => ?_)
  refine GL.o rfl (S1.mvI rfl) ?_
  refine GL.o rfl (S1.subU rfl rfl (by omega) (by omega)) ?_
  refine GL.opX rfl .no (SX.andU rfl rfl (by omega) (by omega)) (fun v6 r6 => ?_)
  refine GL.o rfl (S1.cvI us111 in3 rfl (by omega) (by omega)) ?_
  refine GL.o rfl (S1.asI rfl) ?_
  refine GL.dn rfl ?_
  refine GW.toSeq rfl ?_
  refine GW.sr rfl rfl ?_
  refine GL.o rfl (S1.mvI rfl) ?_
  refine GL.o rfl (S1.mvI rfl) ?_
  refine GL.o rfl (S1.geq rfl rfl) ?_
  refine GL.dn rfl ?_
  refine GW.toD rfl rfl (fun w7 => ?_) (fun w7 => ?_)
  refine GW.toReg rfl ?_
  refine GL.o rfl (S1.mvI rfl) ?_
  refine GL.o rfl (S1.mvI rfl) ?_
  refine GL.o rfl (S1.subI rfl rfl (by omega) (by omega)) ?_
  refine GL.o rfl (S1.asI rfl) ?_
  refine GL.dn rfl ?_
  refine GW.toDrw mx rfl ?_
  refine GD.o rfl (S1.mvL rfl) rfl ?_
  refine GD.o rfl (S1.mvI rfl) rfl ?_
  refine GD.o rfl (S1.mvL rfl) rfl ?_
  refine GD.o rfl (S1.mvI rfl) rfl ?_
  refine GD.o rfl (S1.mvI rfl) rfl ?_
  refine GD.o rfl (S1.addI rfl rfl (by omega) (by omega)) rfl ?_
  refine GD.o rfl (S1.mvL rfl) rfl ?_
  refine GD.o rfl (S1.mvI rfl) rfl ?_
  refine GD.o rfl (S1.mvI rfl) rfl ?_
  refine GD.o rfl (S1.addI rfl rfl (by omega) (by omega)) rfl ?_
  refine GD.o rfl (S1.ix el23 rfl rfl (by omega) (by omega)) rfl ?_
  refine GD.o rfl (S1.ldI sc3 rfl (.at (.s .z)) (by omega)) rfl ?_
  refine GD.o rfl (S1.mvL rfl) rfl ?_
  refine GD.o rfl (S1.mvI rfl) rfl ?_
  refine GD.o rfl (S1.ix el23 rfl rfl (by omega) (by omega)) rfl ?_
  refine GD.o rfl (S1.ldI sc3 rfl (.at (.s .z)) (by omega)) rfl ?_
  refine GD.o rfl (S1.ix el23 rfl rfl (by omega) (by omega)) rfl ?_
  refine GD.loud rfl .no (S1.stI sc3 rfl rfl (by omega) (.s .z)) rfl rfl (by kernel_rfl) ?_
  refine GD.o rfl (S1.ix el23 rfl rfl (by omega) (by omega)) rfl ?_
  refine GD.loud rfl .no (S1.stI sc3 rfl rfl (by simp only [List.length_set]; omega) (.s .z)) rfl rfl (by kernel_rfl) ?_
  refine GD.done rfl ?_
  refine GQ.outN ?_
  refine GQ.on ?_
  refine GW.toReg rfl ?_
  refine GL.o rfl (S1.mvI rfl) ?_
  refine GL.o rfl (S1.addI rfl rfl (by omega) (by omega)) ?_
  refine GL.o rfl (S1.asI rfl) ?_
  refine GL.done rfl ?_
  refine GQ.nextT (x.1 + 1, _, _) (.c rfl (.c rfl (.c rfl (.c rfl (.c rfl (.c rfl .n)))))) .tz ⟨(by first | omega | (dsimp only; omega)), (by first | omega | (dsimp only; omega)), s.sw (by omega) (by omega)⟩ (by first | omega | (dsimp only; omega))
  refine GW.toSkip rfl ?_
  refine GQ.on ?_
  refine GW.toDrw mx rfl ?_
  refine GD.o rfl (S1.mvL rfl) rfl ?_
  refine GD.o rfl (S1.mvI rfl) rfl ?_
  refine GD.o rfl (S1.mvL rfl) rfl ?_
  refine GD.o rfl (S1.mvI rfl) rfl ?_
  refine GD.o rfl (S1.mvI rfl) rfl ?_
  refine GD.o rfl (S1.addI rfl rfl (by omega) (by omega)) rfl ?_
  refine GD.o rfl (S1.mvL rfl) rfl ?_
  refine GD.o rfl (S1.mvI rfl) rfl ?_
  refine GD.o rfl (S1.mvI rfl) rfl ?_
  refine GD.o rfl (S1.addI rfl rfl (by omega) (by omega)) rfl ?_
  refine GD.o rfl (S1.ix el23 rfl rfl (by omega) (by omega)) rfl ?_
  refine GD.o rfl (S1.ldI sc3 rfl (.at (.s .z)) (by omega)) rfl ?_
  refine GD.o rfl (S1.mvL rfl) rfl ?_
  refine GD.o rfl (S1.mvI rfl) rfl ?_
  refine GD.o rfl (S1.ix el23 rfl rfl (by omega) (by omega)) rfl ?_
  refine GD.o rfl (S1.ldI sc3 rfl (.at (.s .z)) (by omega)) rfl ?_
  refine GD.o rfl (S1.ix el23 rfl rfl (by omega) (by omega)) rfl ?_
  refine GD.loud rfl .no (S1.stI sc3 rfl rfl (by omega) (.s .z)) rfl rfl (by kernel_rfl) ?_
  refine GD.o rfl (S1.ix el23 rfl rfl (by omega) (by omega)) rfl ?_
  refine GD.loud rfl .no (S1.stI sc3 rfl rfl (by simp only [List.length_set]; omega) (.s .z)) rfl rfl (by kernel_rfl) ?_
  refine GD.done rfl ?_
  refine GQ.outN ?_
  refine GQ.on ?_
  refine GW.toReg rfl ?_
  refine GL.o rfl (S1.mvI rfl) ?_
  refine GL.o rfl (S1.addI rfl rfl (by omega) (by omega)) ?_
  refine GL.o rfl (S1.asI rfl) ?_
  refine GL.done rfl ?_
  refine GQ.nextT (x.1 + 1, _, _) (.c rfl (.c rfl (.c rfl (.c rfl (.c rfl (.c rfl .n)))))) .tz ⟨(by first | omega | (dsimp only; omega)), (by first | omega | (dsimp only; omega)), s.sw (by omega) (by omega)⟩ (by first | omega | (dsimp only; omega))
  refine GW.toExit rfl ?_
  refine GQ.onE ?_
  refine GQ.onE ?_
  refine GQ.outH ?_
  refine GQ.retN _ .nil .z rfl ?_ (.cons (.s .z) .nil)
  assumption
end
end Go.Proofs.Ytenkebdjlajanaa
namespace Go.Proofs.Ytenkebdjlajanaa
open Go Go.E
set_option maxRecDepth 100000
set_option maxHeartbeats 4000000

section
variable {h : EH} {hr : RO} {rb sb m c : Nat} {opn : Option Nat} {l : List Int} {a b d sw : Int}

theorem ct87 (H : Hp hr h [rb, sb] [(rb, .cells (ints l) opn true), (sb, .cells [.int .i64 sw] none true)] h) (hm : m ≤ l.length) (ha : 0 ≤ a ∧ a < m) (hb : 0 ≤ b ∧ b < m) : Ct Try.prog 87 ⟨[.slice (some ⟨rb, 0, none⟩) m c, .int .i64 a, .int .i64 b, .pointer (some ⟨sb, 0, none⟩)]⟩ h [rb, sb] (fun x : Int × Int × Int => .tuple ⟨[.int .i64 x.1, .int .i64 x.2.1]⟩) (fun x => (x.1 = a ∧ x.2.1 = b) ∨ (x.1 = b ∧ x.2.1 = a)) (fun x => [(rb, .cells (ints l) opn true), (sb, .cells [.int .i64 x.2.2] none true)]) := by
  refine Ct.go Try.func87 rfl rfl co87 H ?_
  refine GW.sr rfl rfl ?_
  refine GL.o rfl (S1.asI rfl) ?_
  refine GL.o rfl (S1.asI rfl) ?_
  refine GL.dn rfl ?_
  refine GW.toSeq rfl ?_
  refine GW.toSeq rfl ?_
  refine GW.toDrw mx rfl ?_
  refine GD.o rfl (S1.mvL rfl) rfl ?_
  refine GD.o rfl (S1.mvI rfl) rfl ?_
  refine GD.o rfl (S1.ix el23 rfl rfl (by omega) (by omega)) rfl ?_
  refine GD.o rfl (S1.ldI sc3 rfl (.at .z) (by omega)) rfl ?_
  refine GD.o rfl (S1.mvL rfl) rfl ?_
  refine GD.o rfl (S1.mvI rfl) rfl ?_
  refine GD.o rfl (S1.ix el23 rfl rfl (by omega) (by omega)) rfl ?_
  refine GD.o rfl (S1.ldI sc3 rfl (.at .z) (by omega)) rfl ?_
  refine GD.call rfl .no fo75 .nil (fun h H => ct75) (.d (.c (v := (.int _ _)) rfl (.c (v := (.int _ _)) rfl .n))) (fun r1 _ => ?_)
  refine GD.done rfl ?_
  refine GQ.on ?_
  refine GW.toC rfl rfl (fun w2 => ?_) (fun w2 => ?_)
  refine GW.sr rfl rfl ?_
  refine GL.o rfl (S1.mvP rfl) ?_
  refine GL.o rfl (S1.nc rfl) ?_
  refine GL.o rfl (S1.ld sc3 rfl (.at (.s .z)) rfl) ?_
  refine GL.o rfl (S1.add rfl rfl) ?_
  refine GL.o rfl (S1.nc rfl) ?_
  refine GL.o rfl (S1.st (u := (.int _ _)) sc3 rfl rfl rfl (by repeat constructor) (.s .z)) ?_
  refine GL.dn rfl ?_
  refine GW.sr rfl rfl ?_
  refine GL.o rfl (S1.mvI rfl) ?_
  refine GL.o rfl (S1.mvI rfl) ?_
  refine GL.o rfl (S1.asI rfl) ?_
  refine GL.o rfl (S1.asI rfl) ?_
  refine GL.dn rfl ?_
  refine GW.toRet rfl ?_
  refine GQ.onR ?_
  refine GQ.ret (b, a, _) (.tmp rfl rfl (.tmp rfl rfl .nil)) .more rfl (.inr ⟨rfl, rfl⟩) .tz
  refine GW.toSkip rfl ?_
  refine GQ.on ?_
  refine GW.sr rfl rfl ?_
  refine GL.o rfl (S1.mvI rfl) ?_
  refine GL.o rfl (S1.mvI rfl) ?_
  refine GL.o rfl (S1.asI rfl) ?_
  refine GL.o rfl (S1.asI rfl) ?_
  refine GL.dn rfl ?_
  refine GW.toRet rfl ?_
  refine GQ.ret (a, b, _) (.tmp rfl rfl (.tmp rfl rfl .nil)) .more rfl (.inl ⟨rfl, rfl⟩) (.cons .z .tz)

theorem ct85 (H : Hp hr h [rb, sb] [(rb, .cells (ints l) opn true), (sb, .cells [.int .i64 sw] none true)] h) (hm : m ≤ l.length) (ha : 0 ≤ a ∧ a < m) (hb : 0 ≤ b ∧ b < m) (hd : 0 ≤ d ∧ d < m) : Ct Try.prog 85 ⟨[.slice (some ⟨rb, 0, none⟩) m c, .int .i64 a, .int .i64 b, .int .i64 d, .pointer (some ⟨sb, 0, none⟩)]⟩ h [rb, sb] (fun x : Int × Int => .int .i64 x.1) (fun x => x.1 = a ∨ x.1 = b ∨ x.1 = d) (fun x => [(rb, .cells (ints l) opn true), (sb, .cells [.int .i64 x.2] none true)]) := by
  refine Ct.go Try.func85 rfl rfl co85 H ?_
  refine GW.sr rfl rfl ?_
  refine GL.o rfl (S1.asI rfl) ?_
  refine GL.dn rfl ?_
  refine GW.sr rfl rfl ?_
  refine GL.o rfl (S1.mvL rfl) ?_
  refine GL.o rfl (S1.mvI rfl) ?_
  refine GL.o rfl (S1.mvI rfl) ?_
  refine GL.o rfl (S1.mvP rfl) ?_
  refine GL.call rfl .no fo87 (show Take _ [(rb, _), (sb, _)] _ from .tz) (fun h H => ct87 (rb := rb) (sb := sb) (H.give (show Take _ [(rb, _), (sb, _)] _ from .tz)) (by omega) (by omega) (by omega)) (.d (.c (v := (.slice _ _ _)) rfl (.c (v := (.int _ _)) rfl (.c (v := (.int _ _)) rfl (.c (v := (.pointer _)) rfl .n))))) (fun x1 q1 => ?_)
  refine GL.o rfl (S1.mvT rfl) ?_
  refine GL.o rfl (S1.ext (v := (.int _ _)) rfl rfl) ?_
  refine GL.o rfl (S1.ext (v := (.int _ _)) rfl rfl) ?_
  refine GL.o rfl (S1.asI rfl) ?_
  refine GL.o rfl (S1.asI rfl) ?_
  refine GL.dn rfl ?_
  refine GW.sr rfl rfl ?_
  refine GL.o rfl (S1.mvL rfl) ?_
  refine GL.o rfl (S1.mvI rfl) ?_
  refine GL.o rfl (S1.mvI rfl) ?_
  refine GL.o rfl (S1.mvP rfl) ?_
  refine GL.call rfl .no fo87 (show Take _ [(rb, _), (sb, _)] _ from (.cons .z (.cons .z .nil))) (fun h H => ct87 (rb := rb) (sb := sb) (H.give (show Take _ [(rb, _), (sb, _)] _ from (.cons .z (.cons .z .nil)))) (by omega) (by omega) (by omega)) (.d (.c (v := (.slice _ _ _)) rfl (.c (v := (.int _ _)) rfl (.c (v := (.int _ _)) rfl (.c (v := (.pointer _)) rfl .n))))) (fun x2 q2 => ?_)
  refine GL.o rfl (S1.mvT rfl) ?_
  refine GL.o rfl (S1.ext (v := (.int _ _)) rfl rfl) ?_
  refine GL.o rfl (S1.ext (v := (.int _ _)) rfl rfl) ?_
  refine GL.o rfl (S1.asI rfl) ?_
  refine GL.o rfl (S1.asI rfl) ?_
  refine GL.dn rfl ?_
  refine GW.sr rfl rfl ?_
  refine GL.o rfl (S1.mvL rfl) ?_
  refine GL.o rfl (S1.mvI rfl) ?_
  refine GL.o rfl (S1.mvI rfl) ?_
  refine GL.o rfl (S1.mvP rfl) ?_
  refine GL.call rfl .no fo87 (show Take _ [(rb, _), (sb, _)] _ from (.cons .z (.cons .z .nil))) (fun h H => ct87 (rb := rb) (sb := sb) (H.give (show Take _ [(rb, _), (sb, _)] _ from (.cons .z (.cons .z .nil)))) (by omega) (by omega) (by omega)) (.d (.c (v := (.slice _ _ _)) rfl (.c (v := (.int _ _)) rfl (.c (v := (.int _ _)) rfl (.c (v := (.pointer _)) rfl .n))))) (fun x3 q3 => ?_)
  refine GL.o rfl (S1.mvT rfl) ?_
  refine GL.o rfl (S1.ext (v := (.int _ _)) rfl rfl) ?_
  refine GL.o rfl (S1.ext (v := (.int _ _)) rfl rfl) ?_
  refine GL.o rfl (S1.asI rfl) ?_
  refine GL.o rfl (S1.asI rfl) ?_
  refine GL.dn rfl ?_
  refine GW.sr rfl rfl ?_
  refine GL.o rfl (S1.mvI rfl) ?_
  refine GL.o rfl (S1.asI rfl) ?_
  refine GL.dn rfl ?_
  refine GW.toRet rfl ?_
  refine GQ.ret _ (.tmp (v := (.int _ _)) rfl rfl .nil) .one rfl ?_ (.cons .z (.cons .z .nil))
  omega

theorem ct84 (H : Hp hr h [rb, sb] [(rb, .cells (ints l) opn true), (sb, .cells [.int .i64 sw] none true)] h) (hm : m ≤ l.length) (hm2 : m ≤ 1073741824) (ha : 1 ≤ a ∧ a + 1 < m) : Ct Try.prog 84 ⟨[.slice (some ⟨rb, 0, none⟩) m c, .int .i64 a, .pointer (some ⟨sb, 0, none⟩)]⟩ h [rb, sb] (fun x : Int × Int => .int .i64 x.1) (fun x => a - 1 ≤ x.1 ∧ x.1 ≤ a + 1) (fun x => [(rb, .cells (ints l) opn true), (sb, .cells [.int .i64 x.2] none true)]) := by
  refine Ct.go Try.func84 rfl rfl co84 H ?_
  refine GW.sr rfl rfl ?_
  refine GL.o rfl (S1.asI rfl) ?_
  refine GL.dn rfl ?_
  refine GW.sr rfl rfl ?_
  refine GL.o rfl (S1.mvL rfl) ?_
  refine GL.o rfl (S1.mvI rfl) ?_
  refine GL.o rfl (S1.subI rfl rfl (by omega) (by omega)) ?_
  refine GL.o rfl (S1.mvI rfl) ?_
  refine GL.o rfl (S1.mvI rfl) ?_
  refine GL.o rfl (S1.addI rfl rfl (by omega) (by omega)) ?_
  refine GL.o rfl (S1.mvP rfl) ?_
  refine GL.call rfl .no fo85 (show Take _ [(rb, _), (sb, _)] _ from .tz) (fun h H => ct85 (rb := rb) (sb := sb) (H.give (show Take _ [(rb, _), (sb, _)] _ from .tz)) (by omega) (by omega) (by omega) (by omega)) (.d (.c (v := (.slice _ _ _)) rfl (.c (v := (.int _ _)) rfl (.c (v := (.int _ _)) rfl (.c (v := (.int _ _)) rfl (.c (v := (.pointer _)) rfl .n)))))) (fun x1 q1 => ?_)
  refine GL.o rfl (S1.asI rfl) ?_
  refine GL.dn rfl ?_
  refine GW.toRet rfl ?_
  refine GQ.ret _ (.tmp (v := (.int _ _)) rfl rfl .nil) .one rfl ?_ (.cons .z (.cons .z .nil))
  omega

theorem ct72 (H : Hp hr h [rb] [(rb, .cells (ints l) opn true)] h) (hm : m ≤ l.length) (hm2 : m ≤ 1073741824) (ha : 0 ≤ a) (hb : b ≤ m) (hab : a < b) : Ct Try.prog 72 ⟨[.slice (some ⟨rb, 0, none⟩) m c, .int .i64 a, .int .i64 b]⟩ h [rb] (fun x : Int × Int => .tuple ⟨[.int .i64 x.1, .int .i64 x.2]⟩) (fun x => a ≤ x.1 ∧ x.1 < b) (fun _ => [(rb, .cells (ints l) opn true)]) := by
  refine Ct.go Try.func72 rfl rfl co72 H ?_
  refine GW.sr rfl rfl ?_
  refine GL.o rfl (S1.asI rfl) ?_
  refine GL.o rfl (S1.asI rfl) ?_
  refine GL.dn rfl ?_
  refine GW.sr rfl rfl ?_
  refine GL.o rfl (S1.mvI rfl) ?_
  refine GL.o rfl (S1.mvI rfl) ?_
  refine GL.o rfl (S1.subI rfl rfl (by omega) (by omega)) ?_
  refine GL.o rfl (S1.asI rfl) ?_
  refine GL.dn rfl ?_
  refine GW.sr rfl rfl ?_
  refine GL.opN rfl .no (SN.al zc3) (fun a1 => ?_)
  refine GL.dn rfl ?_
  refine GW.sr rfl rfl ?_
  refine GL.o rfl (S1.mvI rfl) ?_
  refine GL.o rfl (S1.mvI rfl) ?_
  refine GL.o rfl (S1.quoI rfl rfl (by omega) (by omega) (by omega)) ?_
  refine GL.o rfl (S1.mulI rfl rfl (by omega) (by omega)) ?_
  refine GL.o rfl (S1.addI rfl rfl (by omega) (by omega)) ?_
  refine GL.o rfl (S1.asI rfl) ?_
  refine GL.dn rfl ?_
  refine GW.sr rfl rfl ?_
  refine GL.o rfl (S1.mvI rfl) ?_
  refine GL.o rfl (S1.mvI rfl) ?_
  refine GL.o rfl (S1.quoI rfl rfl (by omega) (by omega) (by omega)) ?_
  refine GL.o rfl (S1.mulI rfl rfl (by omega) (by omega)) ?_
  refine GL.o rfl (S1.addI rfl rfl (by omega) (by omega)) ?_
  refine GL.o rfl (S1.asI rfl) ?_
  refine GL.dn rfl ?_
  refine GW.sr rfl rfl ?_
  refine GL.o rfl (S1.mvI rfl) ?_
  refine GL.o rfl (S1.mvI rfl) ?_
  refine GL.o rfl (S1.quoI rfl rfl (by omega) (by omega) (by omega)) ?_
  refine GL.o rfl (S1.mulI rfl rfl (by omega) (by omega)) ?_
  refine GL.o rfl (S1.addI rfl rfl (by omega) (by omega)) ?_
  refine GL.o rfl (S1.asI rfl) ?_
  refine GL.dn rfl ?_
  refine GW.toSeq rfl ?_
  refine GW.sr rfl rfl ?_
  refine GL.o rfl (S1.mvI rfl) ?_
  refine GL.o rfl (S1.geq rfl rfl) ?_
  refine GL.dn rfl ?_
  refine GW.toD rfl rfl (fun w2 => ?_) (fun w2 => ?_)
  refine GW.toSeq rfl ?_
  refine GW.sr rfl rfl ?_
  refine GL.o rfl (S1.mvI rfl) ?_
  refine GL.o rfl (S1.geq rfl rfl) ?_
  refine GL.dn rfl ?_
  refine GW.toD rfl rfl (fun w3 => ?_) (fun w3 => ?_)
  refine GW.sr rfl rfl ?_
  refine GL.o rfl (S1.mvL rfl) ?_
  refine GL.o rfl (S1.mvI rfl) ?_
  refine GL.call rfl .no fo84 (show Take _ [(rb, _), (a1, _)] _ from (.cons (.s .z) .tz)) (fun h H => ct84 (rb := rb) (sb := a1) (H.give (show Take _ [(rb, _), (a1, _)] _ from (.cons (.s .z) .tz))) (by omega) (by omega) (by omega)) (.d (.c (v := (.slice _ _ _)) rfl (.c (v := (.int _ _)) rfl (.c (v := (.pointer _)) rfl .n)))) (fun x4 q4 => ?_)
  refine GL.o rfl (S1.asI rfl) ?_
  refine GL.dn rfl ?_
  refine GW.sr rfl rfl ?_
  refine GL.o rfl (S1.mvL rfl) ?_
  refine GL.o rfl (S1.mvI rfl) ?_
  refine GL.call rfl .no fo84 (show Take _ [(rb, _), (a1, _)] _ from (.cons .z (.cons .z .nil))) (fun h H => ct84 (rb := rb) (sb := a1) (H.give (show Take _ [(rb, _), (a1, _)] _ from (.cons .z (.cons .z .nil)))) (by omega) (by omega) (by omega)) (.d (.c (v := (.slice _ _ _)) rfl (.c (v := (.int _ _)) rfl (.c (v := (.pointer _)) rfl .n)))) (fun x5 q5 => ?_)
  refine GL.o rfl (S1.asI rfl) ?_
  refine GL.dn rfl ?_
  refine GW.toReg rfl ?_
  refine GL.o rfl (S1.mvL rfl) ?_
  refine GL.o rfl (S1.mvI rfl) ?_
  refine GL.call rfl .no fo84 (show Take _ [(rb, _), (a1, _)] _ from (.cons .z (.cons .z .nil))) (fun h H => ct84 (rb := rb) (sb := a1) (H.give (show Take _ [(rb, _), (a1, _)] _ from (.cons .z (.cons .z .nil)))) (by omega) (by omega) (by omega)) (.d (.c (v := (.slice _ _ _)) rfl (.c (v := (.int _ _)) rfl (.c (v := (.pointer _)) rfl .n)))) (fun x6 q6 => ?_)
  refine GL.o rfl (S1.asI rfl) ?_
  refine GL.dn rfl ?_
  refine GW.toReg rfl ?_
  refine GL.o rfl (S1.mvL rfl) ?_
  refine GL.o rfl (S1.mvI rfl) ?_
  refine GL.o rfl (S1.mvI rfl) ?_
  refine GL.o rfl (S1.mvI rfl) ?_
  refine GL.call rfl .no fo85 (show Take _ [(rb, _), (a1, _)] _ from (.cons .z (.cons .z .nil))) (fun h H => ct85 (rb := rb) (sb := a1) (H.give (show Take _ [(rb, _), (a1, _)] _ from (.cons .z (.cons .z .nil)))) (by omega) (by omega) (by omega) (by omega)) (.d (.c (v := (.slice _ _ _)) rfl (.c (v := (.int _ _)) rfl (.c (v := (.int _ _)) rfl (.c (v := (.int _ _)) rfl (.c (v := (.pointer _)) rfl .n)))))) (fun x112 q112 => ?_)
  refine GL.o rfl (S1.asI rfl) ?_
  refine GL.dn rfl ?_
  refine GW.sr rfl rfl ?_
  refine GL.o rfl (S1.ld sc3 rfl (.at (.s .z)) rfl) ?_
  refine GL.dn rfl ?_
  refine GW.toBlock rfl ?_
  refine GW.sr rfl rfl ?_
  refine GL.o rfl (S1.eql rfl rfl) ?_
  refine GL.o rfl (S1.asB rfl) ?_
  refine GL.dn rfl ?_
  refine GW.toD rfl rfl (fun w8 => ?_) (fun w8 => ?_)
  refine GW.sr rfl rfl ?_
  refine GL.o rfl (S1.mvI rfl) ?_
  refine GL.o rfl (S1.asI rfl) ?_
  refine GL.o rfl (S1.asI rfl) ?_
  refine GL.dn rfl ?_
  refine GW.toRet rfl ?_
  refine GQ.outR ?_
  refine GQ.ret (x112.1, 1) (.tmp (v := (.int _ _)) rfl rfl (.tmp (v := (.int _ _)) rfl rfl .nil)) .more rfl ?_ (.cons .z .nil)
  omega
  refine GW.sr rfl rfl ?_
  refine GL.o rfl (S1.eql rfl rfl) ?_
  refine GL.o rfl (S1.asB rfl) ?_
  refine GL.dn rfl ?_
  refine GW.toD rfl rfl (fun w9 => ?_) (fun w9 => ?_)
  refine GW.sr rfl rfl ?_
  refine GL.o rfl (S1.mvI rfl) ?_
  refine GL.o rfl (S1.asI rfl) ?_
  refine GL.o rfl (S1.asI rfl) ?_
  refine GL.dn rfl ?_
  refine GW.toRet rfl ?_
  refine GQ.outR ?_
  refine GQ.ret (x112.1, 2) (.tmp (v := (.int _ _)) rfl rfl (.tmp (v := (.int _ _)) rfl rfl .nil)) .more rfl ?_ (.cons .z .nil)
  omega
  refine GW.sr rfl rfl ?_
  refine GL.o rfl (S1.mvI rfl) ?_
  refine GL.o rfl (S1.asI rfl) ?_
  refine GL.o rfl (S1.asI rfl) ?_
  refine GL.dn rfl ?_
  refine GW.toRet rfl ?_
  refine GQ.outR ?_
  refine GQ.ret (x112.1, 0) (.tmp (v := (.int _ _)) rfl rfl (.tmp (v := (.int _ _)) rfl rfl .nil)) .more rfl ?_ (.cons .z .nil)
  omega
  refine GW.toSkip rfl ?_
  refine GQ.on ?_
  refine GW.toReg rfl ?_
  refine GL.o rfl (S1.mvL rfl) ?_
  refine GL.o rfl (S1.mvI rfl) ?_
  refine GL.o rfl (S1.mvI rfl) ?_
  refine GL.o rfl (S1.mvI rfl) ?_
  refine GL.call rfl .no fo85 (show Take _ [(rb, _), (a1, _)] _ from (.cons (.s .z) .tz)) (fun h H => ct85 (rb := rb) (sb := a1) (H.give (show Take _ [(rb, _), (a1, _)] _ from (.cons (.s .z) .tz))) (by omega) (by omega) (by omega) (by omega)) (.d (.c (v := (.slice _ _ _)) rfl (.c (v := (.int _ _)) rfl (.c (v := (.int _ _)) rfl (.c (v := (.int _ _)) rfl (.c (v := (.pointer _)) rfl .n)))))) (fun x112 q112 => ?_)
  refine GL.o rfl (S1.asI rfl) ?_
  refine GL.dn rfl ?_
  refine GW.sr rfl rfl ?_
  refine GL.o rfl (S1.ld sc3 rfl (.at (.s .z)) rfl) ?_
  refine GL.dn rfl ?_
  refine GW.toBlock rfl ?_
  refine GW.sr rfl rfl ?_
  refine GL.o rfl (S1.eql rfl rfl) ?_
  refine GL.o rfl (S1.asB rfl) ?_
  refine GL.dn rfl ?_
  refine GW.toD rfl rfl (fun w11 => ?_) (fun w11 => ?_)
  refine GW.sr rfl rfl ?_
  refine GL.o rfl (S1.mvI rfl) ?_
  refine GL.o rfl (S1.asI rfl) ?_
  refine GL.o rfl (S1.asI rfl) ?_
  refine GL.dn rfl ?_
  refine GW.toRet rfl ?_
  refine GQ.outR ?_
  refine GQ.ret (x112.1, 1) (.tmp (v := (.int _ _)) rfl rfl (.tmp (v := (.int _ _)) rfl rfl .nil)) .more rfl ?_ (.cons .z .nil)
  omega
  refine GW.sr rfl rfl ?_
  refine GL.o rfl (S1.eql rfl rfl) ?_
  refine GL.o rfl (S1.asB rfl) ?_
  refine GL.dn rfl ?_
  refine GW.toD rfl rfl (fun w12 => ?_) (fun w12 => ?_)
  refine GW.sr rfl rfl ?_
  refine GL.o rfl (S1.mvI rfl) ?_
  refine GL.o rfl (S1.asI rfl) ?_
  refine GL.o rfl (S1.asI rfl) ?_
  refine GL.dn rfl ?_
  refine GW.toRet rfl ?_
  refine GQ.outR ?_
  refine GQ.ret (x112.1, 2) (.tmp (v := (.int _ _)) rfl rfl (.tmp (v := (.int _ _)) rfl rfl .nil)) .more rfl ?_ (.cons .z .nil)
  omega
  refine GW.sr rfl rfl ?_
  refine GL.o rfl (S1.mvI rfl) ?_
  refine GL.o rfl (S1.asI rfl) ?_
  refine GL.o rfl (S1.asI rfl) ?_
  refine GL.dn rfl ?_
  refine GW.toRet rfl ?_
  refine GQ.outR ?_
  refine GQ.ret (x112.1, 0) (.tmp (v := (.int _ _)) rfl rfl (.tmp (v := (.int _ _)) rfl rfl .nil)) .more rfl ?_ (.cons .z .nil)
  omega
  refine GW.toSkip rfl ?_
  refine GQ.on ?_
  refine GW.sr rfl rfl ?_
  refine GL.o rfl (S1.ld sc3 rfl (.at .z) rfl) ?_
  refine GL.dn rfl ?_
  refine GW.toBlock rfl ?_
  refine GW.sr rfl rfl ?_
  refine GL.o rfl (S1.eql rfl rfl) ?_
  refine GL.o rfl (S1.asB rfl) ?_
  refine GL.dn rfl ?_
  refine GW.toT rfl rfl ?_
  refine GW.sr rfl rfl ?_
  refine GL.o rfl (S1.mvI rfl) ?_
  refine GL.o rfl (S1.asI rfl) ?_
  refine GL.o rfl (S1.asI rfl) ?_
  refine GL.dn rfl ?_
  refine GW.toRet rfl ?_
  refine GQ.outR ?_
  refine GQ.ret (_, _) (.tmp (v := (.int _ _)) rfl rfl (.tmp (v := (.int _ _)) rfl rfl .nil)) .more rfl ?_ (.cons (.s .z) .nil)
  omega
end
end Go.Proofs.Ytenkebdjlajanaa
namespace Go.Proofs.Ytenkebdjlajanaa
open Go Go.E
set_option maxRecDepth 100000
set_option maxHeartbeats 8000000


section
variable {hr : RO} {rb m c : Nat} {opn : Option Nat}
theorem ct62 : ∀ (d : Nat) {a b lim : Int} {l : List Int} {h : EH}, Hp hr h [rb] [(rb, .cells (ints l) opn true)] h → m ≤ l.length → l.length ≤ 1073741824 → 0 ≤ a → a ≤ b → b ≤ m → b - a ≤ d →
    Ct Try.prog 62 ⟨[.slice (some ⟨rb, 0, none⟩) m c, .int .i64 a, .int .i64 b, .int .i64 lim]⟩ h [rb] (fun _ : List Int => .tuple #[]) (fun l' => Sw l l') (fun l' => [(rb, .cells (ints l') opn true)]) := by
  intro d
  induction d with
  | zero =>
    intro a b lim l h H hm hm2 ha hab hb hd
    refine Ct.go Try.func62 rfl rfl co62 H ?_
    refine GW.sr rfl rfl ?_
    refine GL.o rfl (S1.asB rfl) ?_
    refine GL.dn rfl ?_
    refine GW.sr rfl rfl ?_
    refine GL.o rfl (S1.asB rfl) ?_
    refine GL.dn rfl ?_
    refine GW.toBlock rfl ?_
    refine GW.toLoop (X := Int × Int × Int × Bool × Bool × List Int) (fun x => [(0, .slice (some ⟨rb, 0, none⟩) m c), (1, .int .i64 x.1), (2, .int .i64 x.2.1), (3, .int .i64 x.2.2.1), (8, .bool x.2.2.2.1), (9, .bool x.2.2.2.2.1)]) (fun x => [(rb, .cells (ints x.2.2.2.2.2) opn true)]) (fun x => 0 ≤ x.1 ∧ x.1 ≤ x.2.1 ∧ x.2.1 ≤ m ∧ x.2.1 - x.1 ≤ 0 ∧ Sw l x.2.2.2.2.2) (fun x => (x.2.1 - x.1).toNat) rfl (a, b, lim, true, true, l) ⟨(by first | omega | (dsimp only; omega)), (by first | omega | (dsimp only; omega)), (by first | omega | (dsimp only; omega)), (by first | omega | (dsimp only; omega)), Sw.refl l⟩ (.c rfl (.c rfl (.c rfl (.c rfl (.c rfl (.c rfl .n)))))) .tz ?_
    rintro x f ⟨hx0, hx1, hx2, hx3, s⟩
    have hs := s.1
    refine GW.toBlock rfl ?_
    refine GW.sr rfl rfl ?_
    refine GL.o rfl (S1.mvI rfl) ?_
    refine GL.o rfl (S1.mvI rfl) ?_
    refine GL.o rfl (S1.subI rfl rfl (by omega) (by omega)) ?_
    refine GL.o rfl (S1.asI rfl) ?_
    refine GL.dn rfl ?_
    refine GW.toSeq rfl ?_
    refine GW.sr rfl rfl ?_
    refine GL.o rfl (S1.mvI rfl) ?_
    refine GL.o rfl (S1.leq rfl rfl) ?_
    refine GL.dn rfl ?_
    refine GW.toD rfl rfl (fun w1 => ?_) (fun w1 => ?_)
    refine GW.sr rfl rfl ?_
    refine GL.o rfl (S1.mvL rfl) ?_
    refine GL.o rfl (S1.mvI rfl) ?_
    refine GL.o rfl (S1.mvI rfl) ?_
    refine GL.call rfl .no fo69 (show Take _ [(rb, _)] _ from .tz) (fun h H => ct69 (rb := rb) (H.give (show Take _ [(rb, _)] _ from .tz)) (by first | omega | (simp only [Sw] at *; omega)) (by first | omega | (simp only [Sw] at *; omega)) (by first | omega | (simp only [Sw] at *; omega)) (by first | omega | (simp only [Sw] at *; omega)) (by first | omega | (simp only [Sw] at *; omega))) (.d (.c (v := (.slice _ _ _)) rfl (.c (v := (.int _ _)) rfl (.c (v := (.int _ _)) rfl .n)))) (fun l97 s97 => ?_)
    refine GL.dn rfl ?_
    refine GW.toRet rfl ?_
    refine GQ.onR ?_
    refine GQ.outR ?_
    refine GQ.onR ?_
    refine GQ.outR ?_
    refine GQ.ret _ .nil .z rfl ?_ (.cons .z .nil)
    exact (by repeat (first | exact s | refine Sw.trans ?_ (by first | assumption | exact And.left (by assumption))))
    refine GW.toSkip rfl ?_
    refine GQ.on ?_
    exfalso; omega
  | succ d ih =>
    intro a b lim l h H hm hm2 ha hab hb hd
    refine Ct.go Try.func62 rfl rfl co62 H ?_
    refine GW.sr rfl rfl ?_
    refine GL.o rfl (S1.asB rfl) ?_
    refine GL.dn rfl ?_
    refine GW.sr rfl rfl ?_
    refine GL.o rfl (S1.asB rfl) ?_
    refine GL.dn rfl ?_
    refine GW.toBlock rfl ?_
    refine GW.toLoop (X := Int × Int × Int × Bool × Bool × List Int) (fun x => [(0, .slice (some ⟨rb, 0, none⟩) m c), (1, .int .i64 x.1), (2, .int .i64 x.2.1), (3, .int .i64 x.2.2.1), (8, .bool x.2.2.2.1), (9, .bool x.2.2.2.2.1)]) (fun x => [(rb, .cells (ints x.2.2.2.2.2) opn true)]) (fun x => 0 ≤ x.1 ∧ x.1 ≤ x.2.1 ∧ x.2.1 ≤ m ∧ x.2.1 - x.1 ≤ (d + 1 : Nat) ∧ Sw l x.2.2.2.2.2) (fun x => (x.2.1 - x.1).toNat) rfl (a, b, lim, true, true, l) ⟨(by first | omega | (dsimp only; omega)), (by first | omega | (dsimp only; omega)), (by first | omega | (dsimp only; omega)), (by first | omega | (dsimp only; omega)), Sw.refl l⟩ (.c rfl (.c rfl (.c rfl (.c rfl (.c rfl (.c rfl .n)))))) .tz ?_
    rintro x f ⟨hx0, hx1, hx2, hx3, s⟩
    have hs := s.1
    refine GW.toBlock rfl ?_
    refine GW.sr rfl rfl ?_
    refine GL.o rfl (S1.mvI rfl) ?_
    refine GL.o rfl (S1.mvI rfl) ?_
    refine GL.o rfl (S1.subI rfl rfl (by omega) (by omega)) ?_
    refine GL.o rfl (S1.asI rfl) ?_
    refine GL.dn rfl ?_
    refine GW.toSeq rfl ?_
    refine GW.sr rfl rfl ?_
    refine GL.o rfl (S1.mvI rfl) ?_
    refine GL.o rfl (S1.leq rfl rfl) ?_
    refine GL.dn rfl ?_
    refine GW.toD rfl rfl (fun w3 => ?_) (fun w3 => ?_)
    refine GW.sr rfl rfl ?_
    refine GL.o rfl (S1.mvL rfl) ?_
    refine GL.o rfl (S1.mvI rfl) ?_
    refine GL.o rfl (S1.mvI rfl) ?_
    refine GL.call rfl .no fo69 (show Take _ [(rb, _)] _ from .tz) (fun h H => ct69 (rb := rb) (H.give (show Take _ [(rb, _)] _ from .tz)) (by first | omega | (simp only [Sw] at *; omega)) (by first | omega | (simp only [Sw] at *; omega)) (by first | omega | (simp only [Sw] at *; omega)) (by first | omega | (simp only [Sw] at *; omega)) (by first | omega | (simp only [Sw] at *; omega))) (.d (.c (v := (.slice _ _ _)) rfl (.c (v := (.int _ _)) rfl (.c (v := (.int _ _)) rfl .n)))) (fun l97 s97 => ?_)
    refine GL.dn rfl ?_
    refine GW.toRet rfl ?_
    refine GQ.onR ?_
    refine GQ.outR ?_
    refine GQ.onR ?_
    refine GQ.outR ?_
    refine GQ.ret _ .nil .z rfl ?_ (.cons .z .nil)
    exact (by repeat (first | exact s | refine Sw.trans ?_ (by first | assumption | exact And.left (by assumption))))
    refine GW.toSkip rfl ?_
    refine GQ.on ?_
    refine GW.toSeq rfl ?_
    refine GW.sr rfl rfl ?_
    refine GL.o rfl (S1.mvI rfl) ?_
    refine GL.o rfl (S1.eql rfl rfl) ?_
    refine GL.dn rfl ?_
    refine GW.toD rfl rfl (fun w5 => ?_) (fun w5 => ?_)
    refine GW.sr rfl rfl ?_
    refine GL.o rfl (S1.mvL rfl) ?_
    refine GL.o rfl (S1.mvI rfl) ?_
    refine GL.o rfl (S1.mvI rfl) ?_
    refine GL.call rfl .no fo70 (show Take _ [(rb, _)] _ from .tz) (fun h H => ct70 (rb := rb) (H.give (show Take _ [(rb, _)] _ from .tz)) (by first | omega | (simp only [Sw] at *; omega)) (by first | omega | (simp only [Sw] at *; omega)) (by first | omega | (simp only [Sw] at *; omega)) (by first | omega | (simp only [Sw] at *; omega)) (by first | omega | (simp only [Sw] at *; omega))) (.d (.c (v := (.slice _ _ _)) rfl (.c (v := (.int _ _)) rfl (.c (v := (.int _ _)) rfl .n)))) (fun l98 s98 => ?_)
    refine GL.dn rfl ?_
    refine GW.toRet rfl ?_
    refine GQ.onR ?_
    refine GQ.outR ?_
    refine GQ.onR ?_
    refine GQ.outR ?_
    refine GQ.ret _ .nil .z rfl ?_ (.cons .z .nil)
    exact (by repeat (first | exact s | refine Sw.trans ?_ (by first | assumption | exact And.left (by assumption))))
    refine GW.toSkip rfl ?_
    refine GQ.on ?_
    refine GW.cut (X := Int × List Int) (fun y => [(0, .slice (some ⟨rb, 0, none⟩) m c), (1, .int .i64 x.1), (2, .int .i64 x.2.1), (3, .int .i64 y.1), (8, .bool x.2.2.2.1), (9, .bool x.2.2.2.2.1), (10, .int .i64 (x.2.1 - x.1))]) (fun y => [(rb, .cells (ints y.2) opn true)]) (fun y => Sw l y.2) rfl ?_ ?_
    · refine GW.toSeq rfl ?_
      refine GW.toReg rfl ?_
      refine GL.o rfl (S1.mvB rfl) ?_
      refine GL.o rfl (S1.not rfl) ?_
      refine GL.dn rfl ?_
      refine GW.toC rfl rfl (fun w7 => ?_) (fun w7 => ?_)
      refine GW.sr rfl rfl ?_
      refine GL.o rfl (S1.mvL rfl) ?_
      refine GL.o rfl (S1.mvI rfl) ?_
      refine GL.o rfl (S1.mvI rfl) ?_
      refine GL.call rfl .no fo71 (show Take _ [(rb, _)] _ from .tz) (fun h H => ct71 (rb := rb) (H.give (show Take _ [(rb, _)] _ from .tz)) (by first | omega | (simp only [Sw] at *; omega)) (by first | omega | (simp only [Sw] at *; omega)) (by first | omega | (simp only [Sw] at *; omega)) (by first | omega | (simp only [Sw] at *; omega)) (by first | omega | (simp only [Sw] at *; omega))) (.d (.c (v := (.slice _ _ _)) rfl (.c (v := (.int _ _)) rfl (.c (v := (.int _ _)) rfl .n)))) (fun l99 s99 => ?_)
      refine GL.dn rfl ?_
      refine GW.toReg rfl ?_
      refine GL.o rfl (S1.mvI rfl) ?_
      refine GL.o rfl (S1.sub rfl rfl) ?_
      refine GL.o rfl (S1.asI rfl) ?_
      refine GL.done rfl ?_
      refine GQ.cutEndT (_, l99) (.c rfl (.c rfl (.c rfl (.c rfl (.c rfl (.c rfl (.c rfl .n))))))) (.cons .z .nil) (by repeat (first | exact s | refine Sw.trans ?_ (by first | assumption | exact And.left (by assumption))))
      refine GW.toSkip rfl ?_
      refine GQ.cutEndT (_, x.2.2.2.2.2) (.c rfl (.c rfl (.c rfl (.c rfl (.c rfl (.c rfl (.c rfl .n))))))) .tz s
    rintro y f s
    have hs := s.1
    refine GW.sr rfl rfl ?_
    refine GL.o rfl (S1.mvL rfl) ?_
    refine GL.o rfl (S1.mvI rfl) ?_
    refine GL.o rfl (S1.mvI rfl) ?_
    refine GL.call rfl .no fo72 (show Take _ [(rb, _)] _ from .tz) (fun h H => ct72 (rb := rb) (H.give (show Take _ [(rb, _)] _ from .tz)) (by first | omega | (simp only [Sw] at *; omega)) (by first | omega | (simp only [Sw] at *; omega)) (by first | omega | (simp only [Sw] at *; omega)) (by first | omega | (simp only [Sw] at *; omega)) (by first | omega | (simp only [Sw] at *; omega))) (.d (.c (v := (.slice _ _ _)) rfl (.c (v := (.int _ _)) rfl (.c (v := (.int _ _)) rfl .n)))) (fun x100 q100 => ?_)
    refine GL.o rfl (S1.mvT rfl) ?_
    refine GL.o rfl (S1.ext (v := (.int _ _)) rfl rfl) ?_
    refine GL.o rfl (S1.ext (v := (.int _ _)) rfl rfl) ?_
    refine GL.o rfl (S1.asI rfl) ?_
    refine GL.o rfl (S1.asI rfl) ?_
    refine GL.dn rfl ?_
    refine GW.cut (X := Int × Int × List Int) (fun z => [(0, .slice (some ⟨rb, 0, none⟩) m c), (1, .int .i64 x.1), (2, .int .i64 x.2.1), (3, .int .i64 y.1), (8, .bool x.2.2.2.1), (9, .bool x.2.2.2.2.1), (10, .int .i64 (x.2.1 - x.1)), (11, .int .i64 z.1), (12, .int .i64 z.2.1)]) (fun z => [(rb, .cells (ints z.2.2) opn true)]) (fun z => x.1 ≤ z.1 ∧ z.1 < x.2.1 ∧ Sw l z.2.2) rfl ?_ ?_
    · refine GW.toSeq rfl ?_
      refine GW.toReg rfl ?_
      refine GL.o rfl (S1.mvI rfl) ?_
      refine GL.o rfl (S1.eql rfl rfl) ?_
      refine GL.dn rfl ?_
      refine GW.toD rfl rfl (fun w10 => ?_) (fun w10 => ?_)
      refine GW.sr rfl rfl ?_
      refine GL.o rfl (S1.mvL rfl) ?_
      refine GL.o rfl (S1.mvI rfl) ?_
      refine GL.o rfl (S1.mvI rfl) ?_
      refine GL.call rfl .no fo73 (show Take _ [(rb, _)] _ from (.cons .z .nil)) (fun h H => ct73 (rb := rb) (H.give (show Take _ [(rb, _)] _ from (.cons .z .nil))) (by first | omega | (simp only [Sw] at *; omega)) (by first | omega | (simp only [Sw] at *; omega)) (by first | omega | (simp only [Sw] at *; omega)) (by first | omega | (simp only [Sw] at *; omega)) (by first | omega | (simp only [Sw] at *; omega))) (.d (.c (v := (.slice _ _ _)) rfl (.c (v := (.int _ _)) rfl (.c (v := (.int _ _)) rfl .n)))) (fun l101 s101 => ?_)
      refine GL.dn rfl ?_
      refine GW.sr rfl rfl ?_
      refine GL.o rfl (S1.mvI rfl) ?_
      refine GL.o rfl (S1.subI rfl rfl (by omega) (by omega)) ?_
      refine GL.o rfl (S1.mvI rfl) ?_
      refine GL.o rfl (S1.mvI rfl) ?_
      refine GL.o rfl (S1.subI rfl rfl (by omega) (by omega)) ?_
      refine GL.o rfl (S1.subI rfl rfl (by omega) (by omega)) ?_
      refine GL.o rfl (S1.asI rfl) ?_
      refine GL.dn rfl ?_
      refine GW.toReg rfl ?_
      refine GL.o rfl (S1.asI rfl) ?_
      refine GL.done rfl ?_
      refine GQ.cutEndT (_, _, l101) (.c rfl (.c rfl (.c rfl (.c rfl (.c rfl (.c rfl (.c rfl (.c rfl (.c rfl .n))))))))) (.cons .z .nil) ⟨(by first | omega | (dsimp only; omega)), (by first | omega | (dsimp only; omega)), (by repeat (first | exact s | refine Sw.trans ?_ (by first | assumption | exact And.left (by assumption))))⟩
      refine GW.toSkip rfl ?_
      refine GQ.cutEndT (x100.1, x100.2, y.2) (.c rfl (.c rfl (.c rfl (.c rfl (.c rfl (.c rfl (.c rfl (.c rfl (.c rfl .n))))))))) (.cons .z .nil) ⟨(by first | omega | (dsimp only; omega)), (by first | omega | (dsimp only; omega)), s⟩
    rintro z f ⟨hz0, hz1, s⟩
    have hs := s.1
    refine GW.cut (X := List Int) (fun l2 => [(0, .slice (some ⟨rb, 0, none⟩) m c), (1, .int .i64 x.1), (2, .int .i64 x.2.1), (3, .int .i64 y.1), (8, .bool x.2.2.2.1), (9, .bool x.2.2.2.2.1), (10, .int .i64 (x.2.1 - x.1)), (11, .int .i64 z.1)]) (fun l2 => [(rb, .cells (ints l2) opn true)]) (fun l2 => Sw l l2) rfl ?_ ?_
    · refine GW.toSeq rfl ?_
      refine GW.toReg rfl ?_
      refine GL.o rfl (S1.mvB rfl) ?_
      refine GL.o rfl (S1.mvB rfl) ?_
      refine GL.split 62 rfl (fun w12 => ?_) (fun w12 => ?_)
      refine GL.one rfl (.yes rfl rfl rfl) (S1.mvB rfl) ?_
      refine GL.o rfl (S1.pickT (v := (.bool _)) rfl rfl) ?_
      refine GL.o rfl (S1.mvB rfl) ?_
      refine GL.split 65 rfl (fun w13 => ?_) (fun w13 => ?_)
      refine GL.one rfl (.yes rfl rfl rfl) (S1.mvI rfl) ?_
      refine GL.one rfl (.yes rfl rfl rfl) (S1.eql rfl rfl) ?_
      refine GL.o rfl (S1.pickT (v := (.bool _)) rfl rfl) ?_
      refine GL.dn rfl ?_
      refine GW.toD rfl rfl (fun w14 => ?_) (fun w14 => ?_)
      refine GW.sr rfl rfl ?_
      refine GL.o rfl (S1.mvL rfl) ?_
      refine GL.o rfl (S1.mvI rfl) ?_
      refine GL.o rfl (S1.mvI rfl) ?_
      refine GL.call rfl .no fo74 (show Take _ [(rb, _)] _ from .tz) (fun h H => ct74 (rb := rb) (H.give (show Take _ [(rb, _)] _ from .tz)) (by first | omega | (simp only [Sw] at *; omega)) (by first | omega | (simp only [Sw] at *; omega)) (by first | omega | (simp only [Sw] at *; omega)) (by first | omega | (simp only [Sw] at *; omega)) (by first | omega | (simp only [Sw] at *; omega))) (.d (.c (v := (.slice _ _ _)) rfl (.c (v := (.int _ _)) rfl (.c (v := (.int _ _)) rfl .n)))) (fun x102 s102 => ?_)
      refine GL.dn rfl ?_
      refine GW.toC rfl rfl (fun w16 => ?_) (fun w16 => ?_)
      refine GW.toRet rfl ?_
      refine GQ.onR ?_
      refine GQ.outR ?_
      refine GQ.onR ?_
      refine GQ.outR ?_
      refine GQ.ret _ .nil .z rfl ?_ (.cons .z .nil)
      exact (by repeat (first | exact s | refine Sw.trans ?_ (by first | assumption | exact And.left (by assumption))))
      refine GW.toSkip rfl ?_
      refine GQ.cutEndT x102.2 (.c rfl (.c rfl (.c rfl (.c rfl (.c rfl (.c rfl (.c rfl (.c rfl .n)))))))) (.cons .z .nil) (by repeat (first | exact s | refine Sw.trans ?_ (by first | assumption | exact And.left (by assumption))))
      refine GW.toSkip rfl ?_
      refine GQ.cutEndT z.2.2 (.c rfl (.c rfl (.c rfl (.c rfl (.c rfl (.c rfl (.c rfl (.c rfl .n)))))))) .tz s
      refine GL.skip rfl (.not rfl rfl rfl) ?_
      refine GL.skip rfl (.not rfl rfl rfl) ?_
      refine GL.o rfl (S1.pickF (v := (.bool _)) rfl rfl) ?_
      refine GL.dn rfl ?_
      refine GW.toF rfl rfl ?_
      refine GW.toSkip rfl ?_
      refine GQ.cutEndT z.2.2 (.c rfl (.c rfl (.c rfl (.c rfl (.c rfl (.c rfl (.c rfl (.c rfl .n)))))))) .tz s
      refine GL.skip rfl (.not rfl rfl rfl) ?_
      refine GL.o rfl (S1.pickF (v := (.bool _)) rfl rfl) ?_
      refine GL.o rfl (S1.mvB rfl) ?_
      refine GL.skip rfl (.not rfl rfl rfl) ?_
      refine GL.skip rfl (.not rfl rfl rfl) ?_
      refine GL.o rfl (S1.pickF (v := (.bool _)) rfl rfl) ?_
      refine GL.dn rfl ?_
      refine GW.toF rfl rfl ?_
      refine GW.toSkip rfl ?_
      refine GQ.cutEndT z.2.2 (.c rfl (.c rfl (.c rfl (.c rfl (.c rfl (.c rfl (.c rfl (.c rfl .n)))))))) .tz s
    rintro l2 f s
    have hs := s.1
    refine GW.toSeq rfl ?_
    refine GW.toSeq rfl ?_
    refine GW.toDrw mx rfl ?_
    refine GD.o rfl (S1.mvI rfl) rfl ?_
    refine GD.o rfl (S1.gtr rfl rfl) rfl ?_
    refine GD.o rfl (S1.mvB rfl) rfl ?_
    refine GD.splitD 75 rfl (fun w17 => ?_) (fun w17 => ?_)
    refine GD.one rfl (.yes rfl rfl rfl) (S1.mvL rfl) rfl ?_
    refine GD.one rfl (.yes rfl rfl rfl) (S1.mvI rfl) rfl ?_
    refine GD.one rfl (.yes rfl rfl rfl) (S1.subI rfl rfl (by omega) (by omega)) rfl ?_
    refine GD.one rfl (.yes rfl rfl rfl) (S1.ix el23 rfl rfl (by omega) (by omega)) rfl ?_
    refine GD.one rfl (.yes rfl rfl rfl) (S1.ldI sc3 rfl (.at .z) (by omega)) rfl ?_
    refine GD.one rfl (.yes rfl rfl rfl) (S1.mvL rfl) rfl ?_
    refine GD.one rfl (.yes rfl rfl rfl) (S1.mvI rfl) rfl ?_
    refine GD.one rfl (.yes rfl rfl rfl) (S1.ix el23 rfl rfl (by omega) (by omega)) rfl ?_
    refine GD.one rfl (.yes rfl rfl rfl) (S1.ldI sc3 rfl (.at .z) (by omega)) rfl ?_
    refine GD.call rfl (.yes rfl rfl rfl) fo75 .nil (fun h H => ct75) (.d (.c (v := (.int _ _)) rfl (.c (v := (.int _ _)) rfl .n))) (fun r18 _ => ?_)
    refine GD.one rfl (.yes rfl rfl rfl) (S1.not rfl) rfl ?_
    refine GD.o rfl (S1.pickT (v := (.bool _)) rfl rfl) rfl ?_
    refine GD.done rfl ?_
    refine GQ.on ?_
    refine GW.toC rfl rfl (fun w19 => ?_) (fun w19 => ?_)
    refine GW.sr rfl rfl ?_
    refine GL.o rfl (S1.mvL rfl) ?_
    refine GL.o rfl (S1.mvI rfl) ?_
    refine GL.o rfl (S1.mvI rfl) ?_
    refine GL.o rfl (S1.mvI rfl) ?_
    refine GL.call rfl .no fo76 (show Take _ [(rb, _)] _ from (.cons .z .nil)) (fun h H => ct76 (rb := rb) (H.give (show Take _ [(rb, _)] _ from (.cons .z .nil))) (by first | omega | (simp only [Sw] at *; omega)) (by first | omega | (simp only [Sw] at *; omega)) (by first | omega | (simp only [Sw] at *; omega)) (by first | omega | (simp only [Sw] at *; omega)) (by first | omega | (simp only [Sw] at *; omega)) (by first | omega | (simp only [Sw] at *; omega))) (.d (.c (v := (.slice _ _ _)) rfl (.c (v := (.int _ _)) rfl (.c (v := (.int _ _)) rfl (.c (v := (.int _ _)) rfl .n))))) (fun x104 s104 => ?_)
    refine GL.o rfl (S1.asI rfl) ?_
    refine GL.dn rfl ?_
    refine GW.sr rfl rfl ?_
    refine GL.o rfl (S1.mvI rfl) ?_
    refine GL.o rfl (S1.asI rfl) ?_
    refine GL.dn rfl ?_
    refine GW.toExit rfl ?_
    refine GQ.onE ?_
    refine GQ.outH ?_
    refine GQ.nextT (x104.1, x.2.1, _, _, _, x104.2) (.c rfl (.c rfl (.c rfl (.c rfl (.c rfl (.c rfl .n)))))) (.cons .z .nil) ⟨(by first | omega | (dsimp only; omega)), (by first | omega | (dsimp only; omega)), (by first | omega | (dsimp only; omega)), (by first | omega | (dsimp only; omega)), (by repeat (first | exact s | refine Sw.trans ?_ (by first | assumption | exact And.left (by assumption))))⟩ (by first | omega | (dsimp only; omega))
    refine GW.toSkip rfl ?_
    refine GQ.on ?_
    refine GW.sr rfl rfl ?_
    refine GL.o rfl (S1.mvL rfl) ?_
    refine GL.o rfl (S1.mvI rfl) ?_
    refine GL.o rfl (S1.mvI rfl) ?_
    refine GL.o rfl (S1.mvI rfl) ?_
    refine GL.call rfl .no fo77 (show Take _ [(rb, _)] _ from (.cons .z .nil)) (fun h H => ct77 (rb := rb) (H.give (show Take _ [(rb, _)] _ from (.cons .z .nil))) (by first | omega | (simp only [Sw] at *; omega)) (by first | omega | (simp only [Sw] at *; omega)) (by first | omega | (simp only [Sw] at *; omega)) (by first | omega | (simp only [Sw] at *; omega)) (by first | omega | (simp only [Sw] at *; omega)) (by first | omega | (simp only [Sw] at *; omega))) (.d (.c (v := (.slice _ _ _)) rfl (.c (v := (.int _ _)) rfl (.c (v := (.int _ _)) rfl (.c (v := (.int _ _)) rfl .n))))) (fun x105 s105 => ?_)
    refine GL.o rfl (S1.mvT rfl) ?_
    refine GL.o rfl (S1.ext (v := (.int _ _)) rfl rfl) ?_
    refine GL.o rfl (S1.ext (v := (.bool _)) rfl rfl) ?_
    refine GL.o rfl (S1.asI rfl) ?_
    refine GL.o rfl (S1.asB rfl) ?_
    refine GL.dn rfl ?_
    refine GW.sr rfl rfl ?_
    refine GL.o rfl (S1.mvB rfl) ?_
    refine GL.o rfl (S1.asB rfl) ?_
    refine GL.dn rfl ?_
    refine GW.sr rfl rfl ?_
    refine GL.o rfl (S1.mvI rfl) ?_
    refine GL.o rfl (S1.mvI rfl) ?_
    refine GL.o rfl (S1.subI rfl rfl (by omega) (by omega)) ?_
    refine GL.o rfl (S1.mvI rfl) ?_
    refine GL.o rfl (S1.mvI rfl) ?_
    refine GL.o rfl (S1.subI rfl rfl (by omega) (by omega)) ?_
    refine GL.o rfl (S1.asI rfl) ?_
    refine GL.o rfl (S1.asI rfl) ?_
    refine GL.dn rfl ?_
    refine GW.sr rfl rfl ?_
    refine GL.o rfl (S1.mvI rfl) ?_
    refine GL.o rfl (S1.quoI rfl rfl (by omega) (by omega) (by omega)) ?_
    refine GL.o rfl (S1.asI rfl) ?_
    refine GL.dn rfl ?_
    refine GW.sr rfl rfl ?_
    refine GL.o rfl (S1.mvI rfl) ?_
    refine GL.o rfl (S1.mvI rfl) ?_
    refine GL.o rfl (S1.lss rfl rfl) ?_
    refine GL.dn rfl ?_
    refine GW.toD rfl rfl (fun w22 => ?_) (fun w22 => ?_)
    refine GW.sr rfl rfl ?_
    refine GL.o rfl (S1.mvI rfl) ?_
    refine GL.o rfl (S1.mvI rfl) ?_
    refine GL.o rfl (S1.geq rfl rfl) ?_
    refine GL.o rfl (S1.asB rfl) ?_
    refine GL.dn rfl ?_
    refine GW.sr rfl rfl ?_
    refine GL.o rfl (S1.mvL rfl) ?_
    refine GL.o rfl (S1.mvI rfl) ?_
    refine GL.o rfl (S1.mvI rfl) ?_
    refine GL.o rfl (S1.mvI rfl) ?_
    refine GL.call rfl .no fo62 (show Take _ [(rb, _)] _ from (.cons .z .nil)) (fun h H => ih (H.give (show Take _ [(rb, _)] _ from (.cons .z .nil))) (by first | omega | (simp only [Sw] at *; omega)) (by first | omega | (simp only [Sw] at *; omega)) (by first | omega | (simp only [Sw] at *; omega)) (by first | omega | (simp only [Sw] at *; omega)) (by first | omega | (simp only [Sw] at *; omega)) (by first | omega | (simp only [Sw] at *; omega))) (.d (.c (v := (.slice _ _ _)) rfl (.c (v := (.int _ _)) rfl (.c (v := (.int _ _)) rfl (.c (v := (.int _ _)) rfl .n))))) (fun l88 s88 => ?_)
    refine GL.dn rfl ?_
    refine GW.toReg rfl ?_
    refine GL.o rfl (S1.mvI rfl) ?_
    refine GL.o rfl (S1.addI rfl rfl (by omega) (by omega)) ?_
    refine GL.o rfl (S1.asI rfl) ?_
    refine GL.done rfl ?_
    refine GQ.outN ?_
    refine GQ.nextT (x105.1 + 1, x.2.1, _, _, _, l88) (.c rfl (.c rfl (.c rfl (.c rfl (.c rfl (.c rfl .n)))))) (.cons .z .nil) ⟨(by first | omega | (dsimp only; omega)), (by first | omega | (dsimp only; omega)), (by first | omega | (dsimp only; omega)), (by first | omega | (dsimp only; omega)), (by repeat (first | exact s | refine Sw.trans ?_ (by first | assumption | exact And.left (by assumption))))⟩ (by first | omega | (dsimp only; omega))
    refine GW.sr rfl rfl ?_
    refine GL.o rfl (S1.mvI rfl) ?_
    refine GL.o rfl (S1.mvI rfl) ?_
    refine GL.o rfl (S1.geq rfl rfl) ?_
    refine GL.o rfl (S1.asB rfl) ?_
    refine GL.dn rfl ?_
    refine GW.sr rfl rfl ?_
    refine GL.o rfl (S1.mvL rfl) ?_
    refine GL.o rfl (S1.mvI rfl) ?_
    refine GL.o rfl (S1.addI rfl rfl (by omega) (by omega)) ?_
    refine GL.o rfl (S1.mvI rfl) ?_
    refine GL.o rfl (S1.mvI rfl) ?_
    refine GL.call rfl .no fo62 (show Take _ [(rb, _)] _ from (.cons .z .nil)) (fun h H => ih (H.give (show Take _ [(rb, _)] _ from (.cons .z .nil))) (by first | omega | (simp only [Sw] at *; omega)) (by first | omega | (simp only [Sw] at *; omega)) (by first | omega | (simp only [Sw] at *; omega)) (by first | omega | (simp only [Sw] at *; omega)) (by first | omega | (simp only [Sw] at *; omega)) (by first | omega | (simp only [Sw] at *; omega))) (.d (.c (v := (.slice _ _ _)) rfl (.c (v := (.int _ _)) rfl (.c (v := (.int _ _)) rfl (.c (v := (.int _ _)) rfl .n))))) (fun l88 s88 => ?_)
    refine GL.dn rfl ?_
    refine GW.toReg rfl ?_
    refine GL.o rfl (S1.mvI rfl) ?_
    refine GL.o rfl (S1.asI rfl) ?_
    refine GL.done rfl ?_
    refine GQ.outN ?_
    refine GQ.nextT (x.1, x105.1, _, _, _, l88) (.c rfl (.c rfl (.c rfl (.c rfl (.c rfl (.c rfl .n)))))) (.cons .z .nil) ⟨(by first | omega | (dsimp only; omega)), (by first | omega | (dsimp only; omega)), (by first | omega | (dsimp only; omega)), (by first | omega | (dsimp only; omega)), (by repeat (first | exact s | refine Sw.trans ?_ (by first | assumption | exact And.left (by assumption))))⟩ (by first | omega | (dsimp only; omega))
    refine GD.skip rfl (.not rfl rfl rfl) ?_
    refine GD.skip rfl (.not rfl rfl rfl) ?_
    refine GD.skip rfl (.not rfl rfl rfl) ?_
    refine GD.skip rfl (.not rfl rfl rfl) ?_
    refine GD.skip rfl (.not rfl rfl rfl) ?_
    refine GD.skip rfl (.not rfl rfl rfl) ?_
    refine GD.skip rfl (.not rfl rfl rfl) ?_
    refine GD.skip rfl (.not rfl rfl rfl) ?_
    refine GD.skip rfl (.not rfl rfl rfl) ?_
    refine GD.skip rfl (.not rfl rfl rfl) ?_
    refine GD.skip rfl (.not rfl rfl rfl) ?_
    refine GD.o rfl (S1.pickF (v := (.bool _)) rfl rfl) rfl ?_
    refine GD.done rfl ?_
    refine GQ.on ?_
    refine GW.toF rfl rfl ?_
    refine GW.toSkip rfl ?_
    refine GQ.on ?_
    refine GW.sr rfl rfl ?_
    refine GL.o rfl (S1.mvL rfl) ?_
    refine GL.o rfl (S1.mvI rfl) ?_
    refine GL.o rfl (S1.mvI rfl) ?_
    refine GL.o rfl (S1.mvI rfl) ?_
    refine GL.call rfl .no fo77 (show Take _ [(rb, _)] _ from .tz) (fun h H => ct77 (rb := rb) (H.give (show Take _ [(rb, _)] _ from .tz)) (by first | omega | (simp only [Sw] at *; omega)) (by first | omega | (simp only [Sw] at *; omega)) (by first | omega | (simp only [Sw] at *; omega)) (by first | omega | (simp only [Sw] at *; omega)) (by first | omega | (simp only [Sw] at *; omega)) (by first | omega | (simp only [Sw] at *; omega))) (.d (.c (v := (.slice _ _ _)) rfl (.c (v := (.int _ _)) rfl (.c (v := (.int _ _)) rfl (.c (v := (.int _ _)) rfl .n))))) (fun x105 s105 => ?_)
    refine GL.o rfl (S1.mvT rfl) ?_
    refine GL.o rfl (S1.ext (v := (.int _ _)) rfl rfl) ?_
    refine GL.o rfl (S1.ext (v := (.bool _)) rfl rfl) ?_
    refine GL.o rfl (S1.asI rfl) ?_
    refine GL.o rfl (S1.asB rfl) ?_
    refine GL.dn rfl ?_
    refine GW.sr rfl rfl ?_
    refine GL.o rfl (S1.mvB rfl) ?_
    refine GL.o rfl (S1.asB rfl) ?_
    refine GL.dn rfl ?_
    refine GW.sr rfl rfl ?_
    refine GL.o rfl (S1.mvI rfl) ?_
    refine GL.o rfl (S1.mvI rfl) ?_
    refine GL.o rfl (S1.subI rfl rfl (by omega) (by omega)) ?_
    refine GL.o rfl (S1.mvI rfl) ?_
    refine GL.o rfl (S1.mvI rfl) ?_
    refine GL.o rfl (S1.subI rfl rfl (by omega) (by omega)) ?_
    refine GL.o rfl (S1.asI rfl) ?_
    refine GL.o rfl (S1.asI rfl) ?_
    refine GL.dn rfl ?_
    refine GW.sr rfl rfl ?_
    refine GL.o rfl (S1.mvI rfl) ?_
    refine GL.o rfl (S1.quoI rfl rfl (by omega) (by omega) (by omega)) ?_
    refine GL.o rfl (S1.asI rfl) ?_
    refine GL.dn rfl ?_
    refine GW.sr rfl rfl ?_
    refine GL.o rfl (S1.mvI rfl) ?_
    refine GL.o rfl (S1.mvI rfl) ?_
    refine GL.o rfl (S1.lss rfl rfl) ?_
    refine GL.dn rfl ?_
    refine GW.toD rfl rfl (fun w26 => ?_) (fun w26 => ?_)
    refine GW.sr rfl rfl ?_
    refine GL.o rfl (S1.mvI rfl) ?_
    refine GL.o rfl (S1.mvI rfl) ?_
    refine GL.o rfl (S1.geq rfl rfl) ?_
    refine GL.o rfl (S1.asB rfl) ?_
    refine GL.dn rfl ?_
    refine GW.sr rfl rfl ?_
    refine GL.o rfl (S1.mvL rfl) ?_
    refine GL.o rfl (S1.mvI rfl) ?_
    refine GL.o rfl (S1.mvI rfl) ?_
    refine GL.o rfl (S1.mvI rfl) ?_
    refine GL.call rfl .no fo62 (show Take _ [(rb, _)] _ from (.cons .z .nil)) (fun h H => ih (H.give (show Take _ [(rb, _)] _ from (.cons .z .nil))) (by first | omega | (simp only [Sw] at *; omega)) (by first | omega | (simp only [Sw] at *; omega)) (by first | omega | (simp only [Sw] at *; omega)) (by first | omega | (simp only [Sw] at *; omega)) (by first | omega | (simp only [Sw] at *; omega)) (by first | omega | (simp only [Sw] at *; omega))) (.d (.c (v := (.slice _ _ _)) rfl (.c (v := (.int _ _)) rfl (.c (v := (.int _ _)) rfl (.c (v := (.int _ _)) rfl .n))))) (fun l88 s88 => ?_)
    refine GL.dn rfl ?_
    refine GW.toReg rfl ?_
    refine GL.o rfl (S1.mvI rfl) ?_
    refine GL.o rfl (S1.addI rfl rfl (by omega) (by omega)) ?_
    refine GL.o rfl (S1.asI rfl) ?_
    refine GL.done rfl ?_
    refine GQ.outN ?_
    refine GQ.nextT (x105.1 + 1, x.2.1, _, _, _, l88) (.c rfl (.c rfl (.c rfl (.c rfl (.c rfl (.c rfl .n)))))) (.cons .z .nil) ⟨(by first | omega | (dsimp only; omega)), (by first | omega | (dsimp only; omega)), (by first | omega | (dsimp only; omega)), (by first | omega | (dsimp only; omega)), (by repeat (first | exact s | refine Sw.trans ?_ (by first | assumption | exact And.left (by assumption))))⟩ (by first | omega | (dsimp only; omega))
    refine GW.sr rfl rfl ?_
    refine GL.o rfl (S1.mvI rfl) ?_
    refine GL.o rfl (S1.mvI rfl) ?_
    refine GL.o rfl (S1.geq rfl rfl) ?_
    refine GL.o rfl (S1.asB rfl) ?_
    refine GL.dn rfl ?_
    refine GW.sr rfl rfl ?_
    refine GL.o rfl (S1.mvL rfl) ?_
    refine GL.o rfl (S1.mvI rfl) ?_
    refine GL.o rfl (S1.addI rfl rfl (by omega) (by omega)) ?_
    refine GL.o rfl (S1.mvI rfl) ?_
    refine GL.o rfl (S1.mvI rfl) ?_
    refine GL.call rfl .no fo62 (show Take _ [(rb, _)] _ from (.cons .z .nil)) (fun h H => ih (H.give (show Take _ [(rb, _)] _ from (.cons .z .nil))) (by first | omega | (simp only [Sw] at *; omega)) (by first | omega | (simp only [Sw] at *; omega)) (by first | omega | (simp only [Sw] at *; omega)) (by first | omega | (simp only [Sw] at *; omega)) (by first | omega | (simp only [Sw] at *; omega)) (by first | omega | (simp only [Sw] at *; omega))) (.d (.c (v := (.slice _ _ _)) rfl (.c (v := (.int _ _)) rfl (.c (v := (.int _ _)) rfl (.c (v := (.int _ _)) rfl .n))))) (fun l88 s88 => ?_)
    refine GL.dn rfl ?_
    refine GW.toReg rfl ?_
    refine GL.o rfl (S1.mvI rfl) ?_
    refine GL.o rfl (S1.asI rfl) ?_
    refine GL.done rfl ?_
    refine GQ.outN ?_
    refine GQ.nextT (x.1, x105.1, _, _, _, l88) (.c rfl (.c rfl (.c rfl (.c rfl (.c rfl (.c rfl .n)))))) (.cons .z .nil) ⟨(by first | omega | (dsimp only; omega)), (by first | omega | (dsimp only; omega)), (by first | omega | (dsimp only; omega)), (by first | omega | (dsimp only; omega)), (by repeat (first | exact s | refine Sw.trans ?_ (by first | assumption | exact And.left (by assumption))))⟩ (by first | omega | (dsimp only; omega))

theorem ct52 {l : List Int} {h : EH} (H : Hp hr h [rb] [(rb, .cells (ints l) opn true)] h) (hm : m ≤ l.length) (hm2 : l.length ≤ 1073741824) :
    Ct Try.prog 52 ⟨[.slice (some ⟨rb, 0, none⟩) m c]⟩ h [rb] (fun _ : List Int => .tuple #[]) (fun l' => Sw l l') (fun l' => [(rb, .cells (ints l') opn true)]) := by
  refine Ct.go Try.func52 rfl rfl co52 H ?_
  refine GW.sr rfl rfl ?_
  refine GL.o rfl (S1.mvL rfl) ?_
  refine GL.o rfl (S1.len el23 rfl) ?_
  refine GL.o rfl (S1.asI rfl) ?_
  refine GL.dn rfl ?_
  refine GW.toReg rfl ?_
  refine GL.o rfl (S1.mvL rfl) ?_
  refine GL.o rfl (S1.mvI rfl) ?_
  refine GL.o rfl (S1.mvI rfl) ?_
  refine GL.o rfl (S1.cvU us3 in111 rfl (by omega) (by omega)) ?_
  refine GL.call rfl .no fo63 .nil (fun h H => ct63 (by omega)) (.d (.c (v := (.int _ _)) rfl .n)) (fun k89 _ => ?_)
  refine GL.call rfl .no fo62 (show Take _ [(rb, _)] _ from (.cons .z .nil)) (fun h H => ct62 m (rb := rb) (H.give (show Take _ [(rb, _)] _ from (.cons .z .nil))) (by first | omega | (simp only [Sw] at *; omega)) (by first | omega | (simp only [Sw] at *; omega)) (by first | omega | (simp only [Sw] at *; omega)) (by first | omega | (simp only [Sw] at *; omega)) (by first | omega | (simp only [Sw] at *; omega)) (by first | omega | (simp only [Sw] at *; omega))) (.d (.c (v := (.slice _ _ _)) rfl (.c (v := (.int _ _)) rfl (.c (v := (.int _ _)) rfl (.c (v := (.int _ _)) rfl .n))))) (fun l88 s88 => ?_)
  refine GL.done rfl ?_
  refine GQ.retN _ .nil .z rfl ?_ (.cons .z .nil)
  assumption
end
end Go.Proofs.Ytenkebdjlajanaa
namespace Go.Proofs.Ytenkebdjlajanaa
open Go Go.E
set_option maxRecDepth 100000
set_option maxHeartbeats 4000000

section
variable {h : EH} {hr : RO} {rb n c : Nat} {opn : Option Nat} {l : List Int}

end
end Go.Proofs.Ytenkebdjlajanaa
