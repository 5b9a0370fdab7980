/- B14: contracts: before. -/
import Derived.Test.YtenkebdjlajanaaBA
import Derived.Test.YtenkebdjlajanaaSB
import Derived.Test.YtenkebdjlajanaaGC
import Derived.Test.YtenkebdjlajanaaBB
set_option linter.all false
set_option linter.constructorNameAsVariable false
set_option linter.unusedSimpArgs false
set_option linter.unusedVariables false
set_option linter.unusedSectionVars false
set_option linter.unnecessarySimpa false
namespace Go.Proofs.Ytenkebdjlajanaa
open Go Go.E
set_option maxRecDepth 100000
set_option maxHeartbeats 4000000

section
variable {h : EH} {hr : RO} {r c m : Int} {sb1 hb1 l : Nat} {s : Int}

theorem ct60 : Ct Try.prog 60 ⟨[.agg ⟨[.int .i64 r, .int .i64 c, .int .i64 m]⟩, .int .i64 s]⟩ h [] (fun x : Nat × Nat => .func (.func 67) ⟨[]⟩ ⟨[.pointer (some ⟨x.1, 0, none⟩), .pointer (some ⟨x.2, 0, none⟩)]⟩) (fun _ => True) (fun x => [(x.1, .cells [.int .i64 s] none true), (x.2, .cells [.int .i64 r, .int .i64 c, .int .i64 m] none true)]) := by
  refine Ct.go Try.func60 rfl rfl co60 (Hp.start (hr := fun _ => none) (by simp)) ?_
  refine GW.sr rfl rfl ?_
  refine GL.opN rfl .no (SN.bx (u := .agg ⟨_⟩) rfl .agg) (fun a1 => ?_)
  refine GL.opN rfl .no (SN.bx (u := (.int _ _)) rfl (.one rfl)) (fun a2 => ?_)
  refine GL.o rfl (S1.as (v := .nilFunc) rfl) ?_
  refine GL.dn rfl ?_
  refine GW.sr rfl rfl ?_
  refine GL.o rfl (S1.mf .n (.c (v := (.pointer _)) rfl (.c (v := (.pointer _)) rfl .n))) ?_
  refine GL.o rfl (S1.asF rfl) ?_
  refine GL.dn rfl ?_
  refine GW.toRet rfl ?_
  refine GQ.retT (_, _) (.tmp rfl rfl .nil) .one rfl .tz trivial

abbrev M67 (sb1 hb1 : Nat) (s r c m : Int) (Z : Ents) : Ents :=
  (sb1, .cells [.int .i64 s] none true) :: (hb1, .cells [.int .i64 r, .int .i64 c, .int .i64 m] none true) :: Z

theorem ct67 {Y : Type} (Z : Y → Ents) (RI RD : Y → Prop) (hc : 1 ≤ c ∧ c ≤ 6) (hs : 0 ≤ s ∧ s ≤ 1073741824)
    (round : ∀ (n : Int) (y : Y) (h : EH), 0 ≤ n → n < s → RI y → Hp hr h ((M67 sb1 hb1 s r c m (Z y)).map (·.1)) (M67 sb1 hb1 s r c m (Z y)) h →
      Rt Try.prog l ⟨[.int .i64 n]⟩ h ((M67 sb1 hb1 s r c m (Z y)).map (·.1)) (fun z : Bool × Y => .bool z.1) (fun z => if z.1 = true then RI z.2 else RD z.2) (fun z => M67 sb1 hb1 s r c m (Z z.2)))
    (y0 : Y) (hy : RI y0) (H : Hp hr h ((M67 sb1 hb1 s r c m (Z y0)).map (·.1)) (M67 sb1 hb1 s r c m (Z y0)) h) :
    Ct Try.prog 67 ⟨[.func (.yield l) #[] #[], .pointer (some ⟨sb1, 0, none⟩), .pointer (some ⟨hb1, 0, none⟩)]⟩ h ((M67 sb1 hb1 s r c m (Z y0)).map (·.1)) (fun _ : Y => .tuple #[]) (fun y => RI y ∨ RD y) (fun y => M67 sb1 hb1 s r c m (Z y)) := by
  refine Ct.go Try.func67 rfl rfl co67 H ?_
  dsimp only [M67]
  have hrem : 0 < s.tmod c → 1 ≤ s := fun e => by
    rcases (by omega : s = 0 ∨ 1 ≤ s) with rfl | h1
    · rw [Int.zero_tmod] at e; omega
    · exact h1
  refine GW.toSeq rfl ?_
  refine GW.sr rfl rfl ?_
  refine GL.o rfl (S1.ld sc3 rfl (.at .z) rfl) ?_
  refine GL.o rfl (S1.fa fa29_1 rfl) ?_
  refine GL.o rfl (S1.ld sc3 rfl (.at (.s .z)) rfl) ?_
  refine GL.o rfl (S1.geq rfl rfl) ?_
  refine GL.o rfl (S1.mvB rfl) ?_
  refine GL.splitD 8 rfl (fun w1 => ?_) (fun w1 => ?_)
  refine GL.one rfl (.yes rfl rfl rfl) (S1.mvF rfl) ?_
  refine GL.one rfl (.yes rfl rfl rfl) (S1.ld sc3 rfl (.at .z) rfl) ?_
  refine GL.one rfl (.yes rfl rfl rfl) (S1.fa fa29_1 rfl) ?_
  refine GL.one rfl (.yes rfl rfl rfl) (S1.ld sc3 rfl (.at (.s .z)) rfl) ?_
  refine GL.one rfl (.yes rfl rfl rfl) (S1.subI rfl rfl (by omega) (by omega)) ?_
  rotate_left
  refine GL.skip rfl (.not rfl rfl rfl) ?_
  refine GL.skip rfl (.not rfl rfl rfl) ?_
  refine GL.skip rfl (.not rfl rfl rfl) ?_
  refine GL.skip rfl (.not rfl rfl rfl) ?_
  refine GL.skip rfl (.not rfl rfl rfl) ?_
  refine GL.skip rfl (.not rfl rfl rfl) ?_
  refine GL.skip rfl (.not rfl rfl rfl) ?_
  refine GL.o rfl (S1.pickF (v := (.bool _)) rfl rfl) ?_
  refine GL.dn rfl ?_
  refine GW.toF rfl rfl ?_
  refine GW.toSkip rfl ?_
  refine GQ.on ?_
  refine GW.sr rfl rfl ?_
  refine GL.o rfl (S1.ld sc3 rfl (.at .z) rfl) ?_
  refine GL.o rfl (S1.fa fa29_1 rfl) ?_
  refine GL.o rfl (S1.ld sc3 rfl (.at (.s .z)) rfl) ?_
  refine GL.o rfl (S1.rem rfl rfl (by omega)) ?_
  refine GL.o rfl (S1.gtr rfl rfl) ?_
  refine GL.dn rfl ?_
  refine GW.toD rfl rfl (fun w2 => ?_) (fun w2 => ?_)
  refine GW.toReg rfl ?_
  refine GL.o rfl (S1.mvF rfl) ?_
  refine GL.o rfl (S1.ld sc3 rfl (.at .z) rfl) ?_
  refine GL.o rfl (S1.subI rfl rfl (by omega) (by omega)) ?_
  rotate_left
  refine GW.toSkip rfl ?_
  refine GQ.retN _ .nil .z rfl ?_ .tz
  exact .inl hy
  · refine GL.yield (X := Bool × Y) (V := fun z => .bool z.1) (R := fun z => if z.1 = true then RI z.2 else RD z.2) (M := fun z => M67 sb1 hb1 s r c m (Z z.2)) (ps := M67 sb1 hb1 s r c m (Z y0)) rfl (.yes rfl rfl rfl) (yieldee_of (fs := []) (vs := [.int .i64 (s - c)]) (cs := #[]) rfl (.c rfl .n)) .tz
      (fun h H => round _ y0 h (by omega) (by omega) (by first | assumption | simp_all) (H.give (ps := M67 sb1 hb1 s r c m (Z y0)) .tz)) (fun z z' => ?_)
    have hzi : z.1 = true → RI z.2 := fun e => by simpa [e] using z'
    have hzd : ¬z.1 = true → RD z.2 := fun e => by simpa [e] using z'
    refine GL.one rfl (.yes rfl rfl rfl) (S1.not rfl) ?_
    refine GL.o rfl (S1.pickT (v := (.bool _)) rfl rfl) ?_
    refine GL.dn rfl ?_
    refine GW.toC rfl rfl (fun w3 => ?_) (fun w3 => ?_)
    refine GW.toRet rfl ?_
    refine GQ.onR ?_
    refine GQ.ret z.2 .nil .z ?_ ?_ (.cons .z .tz)
    rfl
    exact .inr (hzd (by simp_all))
    refine GW.toSkip rfl ?_
    refine GQ.on ?_
    refine GW.sr rfl rfl ?_
    refine GL.o rfl (S1.ld sc3 rfl (.at .z) rfl) ?_
    refine GL.o rfl (S1.fa fa29_1 rfl) ?_
    refine GL.o rfl (S1.ld sc3 rfl (.at (.s .z)) rfl) ?_
    refine GL.o rfl (S1.rem rfl rfl (by omega)) ?_
    refine GL.o rfl (S1.gtr rfl rfl) ?_
    refine GL.dn rfl ?_
    refine GW.toD rfl rfl (fun w4 => ?_) (fun w4 => ?_)
    refine GW.toReg rfl ?_
    refine GL.o rfl (S1.mvF rfl) ?_
    refine GL.o rfl (S1.ld sc3 rfl (.at .z) rfl) ?_
    refine GL.o rfl (S1.subI rfl rfl (by omega) (by omega)) ?_
    rotate_left
    refine GW.toSkip rfl ?_
    refine GQ.retN z.2 .nil .z ?_ ?_ (.cons .z .tz)
    rfl
    exact .inl (hzi (by simp_all))
    refine GL.yield (X := Bool × Y) (V := fun z => .bool z.1) (R := fun z => if z.1 = true then RI z.2 else RD z.2) (M := fun z => M67 sb1 hb1 s r c m (Z z.2)) (ps := M67 sb1 hb1 s r c m (Z z.2)) rfl .no (yieldee_of (fs := []) (vs := [.int .i64 (s - 1)]) (cs := #[]) rfl (.c rfl .n)) (.cons .z .tz)
      (fun h H => round _ z.2 h (by omega) (by omega) (by first | assumption | simp_all) (H.give (ps := M67 sb1 hb1 s r c m (Z z.2)) (.cons .z .tz))) (fun y y' => ?_)
    have hyi : y.1 = true → RI y.2 := fun e => by simpa [e] using y'
    have hyd : ¬y.1 = true → RD y.2 := fun e => by simpa [e] using y'
    refine GL.done rfl ?_
    refine GQ.retN y.2 .nil .z ?_ ?_ (.cons .z .tz)
    rfl
    exact (if e : y.1 = true then .inl (hyi e) else .inr (hyd e))
  · refine GL.yield (X := Bool × Y) (V := fun z => .bool z.1) (R := fun z => if z.1 = true then RI z.2 else RD z.2) (M := fun z => M67 sb1 hb1 s r c m (Z z.2)) (ps := M67 sb1 hb1 s r c m (Z y0)) rfl .no (yieldee_of (fs := []) (vs := [.int .i64 (s - 1)]) (cs := #[]) rfl (.c rfl .n)) .tz
      (fun h H => round _ y0 h (by omega) (by omega) (by first | assumption | simp_all) (H.give (ps := M67 sb1 hb1 s r c m (Z y0)) .tz)) (fun y y' => ?_)
    have hyi : y.1 = true → RI y.2 := fun e => by simpa [e] using y'
    have hyd : ¬y.1 = true → RD y.2 := fun e => by simpa [e] using y'
    refine GL.done rfl ?_
    refine GQ.retN y.2 .nil .z ?_ ?_ (.cons .z .tz)
    rfl
    exact (if e : y.1 = true then .inl (hyi e) else .inr (hyd e))
end
end Go.Proofs.Ytenkebdjlajanaa
namespace Go.Proofs.Ytenkebdjlajanaa
open Go Go.E
set_option maxRecDepth 100000
set_option maxHeartbeats 4000000

section
variable {h : EH} {hr : RO} {pa xa : Option Addr} {pn pc xn xc : Nat} {r c m s : Int}

abbrev R47 (a1 a2 a3 a4 : Nat) (r c m : Int) (pa : Option Addr) (pn pc : Nat) (xa : Option Addr) (xn xc : Nat) : Ents :=
  [(a4, .cells [.bool false] none true), (a3, .cells [.slice xa xn xc] none true), (a2, .cells [.slice pa pn pc] none true), (a1, .cells [.int .i64 r, .int .i64 c, .int .i64 m] none true)]

theorem ct47 (hR : ∀ b o, hr b = some o → h[b]? = some o) (hc : 1 ≤ c ∧ c ≤ 6) (hs : 0 ≤ s ∧ s ≤ pn) (h2 : Cell hr (.sl wy23) (.slice pa pn pc)) (h3 : Cell hr (.sl wy3) (.slice xa xn xc)) :
    Ct Try.prog 47 ⟨[.agg ⟨[.int .i64 r, .int .i64 c, .int .i64 m]⟩, .slice pa pn pc, .int .i64 s, .slice xa xn xc]⟩ h [] (fun x : Bool => .bool x) (fun _ => True) (fun _ => []) := by
  have hl2 := h2.le
  refine Ct.goC Try.func47 rfl rfl co47 (Hp.start hR) ?_
  refine GW.sr rfl rfl ?_
  refine GL.opN rfl .no (SN.bx (u := .agg ⟨_⟩) rfl .agg) (fun a1 => ?_)
  refine GL.opN rfl .no (SN.bx (u := (.slice _ _ _)) rfl (.one rfl)) (fun a2 => ?_)
  refine GL.opN rfl .no (SN.bx (u := (.slice _ _ _)) rfl (.one rfl)) (fun a3 => ?_)
  refine GL.opN rfl .no (SN.al zc4) (fun a4 => ?_)
  refine GL.dn rfl ?_
  refine GW.toSeq rfl ?_
  refine GW.sr rfl rfl ?_
  refine GL.o rfl (S1.ldW ag29 rfl (.at (.s (.s (.s .z)))) rfl) ?_
  refine GL.o rfl (S1.mvI rfl) ?_
  refine GL.call rfl .no fo60 .nil (fun h H => ct60) (.d (.c (v := (.agg _)) rfl (.c (v := (.int _ _)) rfl .n))) (fun x60 _ => ?_)
  refine GL.dn rfl ?_
  refine GW.toBlock rfl ?_
  refine GW.toRange (Y := Unit) (M := fun _ => M67 x60.1 x60.2 s r c m (R47 a1 a2 a3 a4 r c m pa pn pc xa xn xc)) (R := fun _ ex => ex = .normal ∨ ex = .ret) rfl rfl fo67 (fun k2 k3 d l h1 H1 => ?_) (fun d y ex hR => ?_)
  · generalize hlp : newLoop _ _ _ _ _ _ = lp0 at H1
    have H1' := H1.give (ps := M67 x60.1 x60.2 s r c m ((l, .loop lp0) :: R47 a1 a2 a3 a4 r c m pa pn pc xa xn xc)) (.cons (.s (.s .z)) (.cons (.s (.s .z)) (.cons .z (.cons (.s .z) (.cons (.s .z) (.cons (.s .z) (.cons (.s .z) .nil)))))))
    refine WF.mono (ct67 (l := l) (Y := Loop) (fun y => (l, .loop y) :: R47 a1 a2 a3 a4 r c m pa pn pc xa xn xc) (fun y => y = lp0) (fun y => y = { lp0 with state := .done, pending := some .ret }) hc ⟨hs.1, by omega⟩ (fun n y h hn0 hn1 hy H => ?_) lp0 rfl H1') fun o h2' q => ?_
    · subst hy
      subst hlp
      obtain ⟨k, rfl⟩ := Int.eq_ofNat_of_zero_le hn0
      have hcx : Cell hr (.sl wy3) (.slice (sa (el hr pa (k * 1 + 0))) (sn (el hr pa (k * 1 + 0))) (sc (el hr pa (k * 1 + 0)))) := h2.at (show k < pn by omega) (d := 0) (l := .sl wy3) rfl
      refine Rt.go H (r := (.s (.s .z))) (by simp only [newLoop, Array.size_ofFn]) rfl (newLoop_f rfl) k2 ?_
      clear H1 H1'
      refine GW.toReg rfl ?_
      refine GL.o rfl (S1.asI rfl) ?_
      refine GL.done rfl ?_
      refine GQ.body (.s (.s .z)) rfl k3 ?_
      refine GW.toBlock rfl ?_
      refine GW.toSeq rfl ?_
      refine GW.toDrw mx rfl ?_
      refine GD.o rfl (S1.ld sc30 rfl (.at (.s (.s (.s (.s (.s .z)))))) rfl) rfl ?_
      refine GD.o rfl (S1.mvI rfl) rfl ?_
      refine GD.o rfl (S1.ixR el30 h2 rfl rfl (by omega)) rfl ?_
      refine GD.o rfl (S1.ldCL sc23 (z := 1) h2 rfl (m := k) (by omega) rfl (d := 0) rfl rfl) rfl ?_
      refine GD.o rfl (S1.ld sc23 rfl (.at (.s (.s (.s (.s .z))))) rfl) rfl ?_
      refine GD.call rfl .no fo61 .nil (fun h H => ct61 H.rom hcx h3) (.d (.c (v := (.slice _ _ _)) rfl (.c (v := (.slice _ _ _)) rfl .n))) (fun x61 _ => ?_)
      refine GD.o rfl (S1.fa fa29_2 rfl) rfl ?_
      refine GD.o rfl (S1.ld sc3 rfl (.at (.s (.s (.s (.s (.s (.s .z))))))) rfl) rfl ?_
      refine GD.o rfl (S1.gtr rfl rfl) rfl ?_
      refine GD.done rfl ?_
      refine GQ.on ?_
      refine GW.toD rfl rfl (fun w7 => ?_) (fun w7 => ?_)
      refine GW.sr rfl rfl ?_
      refine GL.o rfl (S1.st (u := (.bool _)) sc4 rfl rfl rfl (by repeat constructor) (.s (.s (.s .z)))) ?_
      refine GL.dn rfl ?_
      refine GW.toRet rfl ?_
      refine GQ.outR ?_
      refine GQ.rR (false, _) .z rfl rfl (.cons (.s .z) (.cons (.s .z) .tz))
      refine GW.toSkip rfl ?_
      refine GQ.outN ?_
      refine GQ.rN (true, _) .z rfl rfl (.cons (.s .z) (.cons (.s .z) (.cons .z .tz)))
    · cases o with
      | pan v => exact q.elim
      | ret v =>
        obtain ⟨y, rfl, hR, hP⟩ := q
        have H2 := H1.callT (ps := M67 x60.1 x60.2 s r c m ((l, .loop lp0) :: R47 a1 a2 a3 a4 r c m pa pn pc xa xn xc)) (.cons (.s (.s .z)) (.cons (.s (.s .z)) (.cons .z (.cons (.s .z) (.cons (.s .z) (.cons (.s .z) (.cons (.s .z) .nil))))))) hP
        rcases hR with rfl | rfl
        · exact ⟨(), y, .normal, by subst hlp; rfl, by subst hlp; simp [newLoop], .inl rfl, H2.sub (.cons (.s (.s (.s .z))) .tz)⟩
        · exact ⟨(), { lp0 with state := .done, pending := some .ret }, .ret, rfl, by simp, .inr rfl, H2.sub (.cons (.s (.s (.s .z))) .tz)⟩
  · rcases hR with rfl | rfl
    · refine GQ.outN ?_
      refine GQ.on ?_
      refine GW.sr rfl rfl ?_
      refine GL.o rfl (S1.st (u := (.bool _)) sc4 rfl rfl rfl (by repeat constructor) (.s (.s (.s .z)))) ?_
      refine GL.dn rfl ?_
      refine GW.toRet rfl ?_
      refine GQ.toC .z ?_
      refine GQ.ret _ (.cell rfl rfl (.s (.s .z)) (loadV_sc sc4 rfl) .nil) .one rfl ?_ .nil
      exact trivial
    · refine GQ.outR ?_
      refine GQ.onR ?_
      refine GQ.toC .z ?_
      refine GQ.ret _ (.cell rfl rfl (.s (.s .z)) (loadV_sc sc4 rfl) .nil) .one rfl ?_ .nil
      exact trivial
end
end Go.Proofs.Ytenkebdjlajanaa
namespace Go.Proofs.Ytenkebdjlajanaa
open Go Go.E
set_option maxRecDepth 100000
set_option maxHeartbeats 4000000

section
variable {h : EH} {hr : RO} {qa wa : Option Addr} {qn qc wn wc : Nat} {lo hi : Int} {r c m s : Int}

abbrev R46 (hr : RO) (qa : Option Addr) (qn wn : Nat) (c s : Int) : Bk ⊕ Int → Prop
  | .inl x => (PaOk hr qa qn wn ∧ x.ws.length = qn) ∧ (1 ≤ c ∧ c ≤ 6) ∧ s ≤ 30
  | .inr e => e ≠ 0

theorem seats_le {r c s : Int} (h1 : outB 1 5 r = false) (h2 : outB 1 6 c = false) (h3 : ¬s ≠ IntKind.i64.wrap (r * c)) : s ≤ 30 := by
  have a := outB_f h1
  have b := outB_f h2
  have h4 : s = IntKind.i64.wrap (r * c) := Decidable.not_not.mp h3
  have h5 : 0 ≤ r * c ∧ r * c ≤ 30 := by
    rcases (by omega : r = 1 ∨ r = 2 ∨ r = 3 ∨ r = 4 ∨ r = 5) with rfl | rfl | rfl | rfl | rfl <;> omega
  rw [wrap64_small h5.1 (by omega)] at h4
  omega

theorem ct46 (hR : ∀ b o, hr b = some o → h[b]? = some o) (h1 : Cell hr (.sl ly71) (.slice qa qn qc)) (h2 : Cell hr (.sl ly3) (.slice wa wn wc)) :
    Ct Try.prog 46 ⟨[.agg ⟨[.slice qa qn qc, .slice wa wn wc, .int .i64 lo, .int .i64 hi]⟩, .agg ⟨[.int .i64 r, .int .i64 c, .int .i64 m]⟩, .int .i64 s]⟩ h [] V38 (R46 hr qa qn wn c s) (N38 qa qn qc wa wn wc lo hi) := by
  refine Ct.go Try.func46 rfl rfl co46 (Hp.start hR) ?_
  refine GW.sr rfl rfl ?_
  refine GL.opN rfl .no (SN.bx (u := .agg ⟨_⟩) rfl .agg) (fun a1 => ?_)
  refine GL.opN rfl .no (SN.bx (u := .agg ⟨_⟩) rfl .agg) (fun a2 => ?_)
  refine GL.o rfl (S1.asP rfl) ?_
  refine GL.o rfl (S1.asI rfl) ?_
  refine GL.dn rfl ?_
  refine GW.sr rfl rfl ?_
  refine GL.o rfl (S1.ldW ag27 rfl (.at (.s .z)) rfl) ?_
  refine GL.call rfl .no fo38 .nil (fun h H => ct38 H.rom h1 h2) (.d (.c (v := (.agg _)) rfl .n)) (fun x38 q38 => ?_)
  rcases x38 with x | e
  · refine GL.o rfl (S1.mvT rfl) ?_
    refine GL.o rfl (S1.ext (v := (.pointer _)) rfl rfl) ?_
    refine GL.o rfl (S1.ext (v := (.int _ _)) rfl rfl) ?_
    refine GL.o rfl (S1.asP rfl) ?_
    refine GL.o rfl (S1.asI rfl) ?_
    refine GL.dn rfl ?_
    refine GW.toSeq rfl ?_
    refine GW.toBlock rfl ?_
    refine GW.sr rfl rfl ?_
    refine GL.o rfl (S1.mvI rfl) ?_
    refine GL.o rfl (S1.neq rfl rfl) ?_
    refine GL.o rfl (S1.asB rfl) ?_
    refine GL.dn rfl ?_
    refine GW.toF rfl rfl ?_
    refine GW.sr rfl rfl ?_
    refine GL.o rfl (S1.fa fa29_0 rfl) ?_
    refine GL.o rfl (S1.ld sc3 rfl (.at (.s (.s (.s .z)))) rfl) ?_
    refine GL.opN rfl .no (SN.bs el23 ez23 (.c (v := (.int _ _)) rfl rfl .n) rfl rfl) (fun a4 => ?_)
    refine GL.call rfl .no fo37 .nil (fun h H => ct37_1 (H.get .z)) (.d (.c (v := (.int _ _)) rfl (.c (v := (.int _ _)) rfl (.c (v := (.slice _ _ _)) rfl .n)))) (fun _ _ => ?_)
    refine GL.o rfl (S1.mvB rfl) ?_
    refine GL.split 24 rfl (fun w8 => ?_) (fun w8 => ?_)
    refine GL.skip rfl (.not rfl rfl rfl) ?_
    refine GL.skip rfl (.not rfl rfl rfl) ?_
    refine GL.skip rfl (.not rfl rfl rfl) ?_
    refine GL.skip rfl (.not rfl rfl rfl) ?_
    refine GL.o rfl (S1.pickT (v := (.bool _)) rfl rfl) ?_
    refine GL.o rfl (S1.mvB rfl) ?_
    refine GL.skip rfl (.not rfl rfl rfl) ?_
    refine GL.skip rfl (.not rfl rfl rfl) ?_
    refine GL.skip rfl (.not rfl rfl rfl) ?_
    refine GL.skip rfl (.not rfl rfl rfl) ?_
    refine GL.o rfl (S1.pickT (v := (.bool _)) rfl rfl) ?_
    refine GL.o rfl (S1.asB rfl) ?_
    refine GL.dn rfl ?_
    refine GW.toT rfl rfl ?_
    refine GW.sr rfl rfl ?_
    refine GL.o rfl (S1.asP rfl) ?_
    refine GL.o rfl (S1.asI rfl) ?_
    refine GL.dn rfl ?_
    refine GW.toRet rfl ?_
    refine GQ.outR ?_
    refine GQ.onR ?_
    refine GQ.retT (.inr 7) (.tmp rfl rfl (.tmp rfl rfl .nil)) .more rfl .nil (show (7 : Int) ≠ 0 by decide)
    refine GL.one rfl (.yes rfl rfl rfl) (S1.fa fa29_1 rfl) ?_
    refine GL.one rfl (.yes rfl rfl rfl) (S1.ld sc3 rfl (.at (.s (.s (.s (.s .z))))) rfl) ?_
    refine GL.opN rfl (.yes rfl rfl rfl) (SN.bs el23 ez23 (.c (v := (.int _ _)) rfl rfl .n) rfl rfl) (fun a9 => ?_)
    refine GL.call rfl (.yes rfl rfl rfl) fo37 .nil (fun h H => ct37_1 (H.get .z)) (.d (.c (v := (.int _ _)) rfl (.c (v := (.int _ _)) rfl (.c (v := (.slice _ _ _)) rfl .n)))) (fun _ _ => ?_)
    refine GL.o rfl (S1.pickF (v := (.bool _)) rfl rfl) ?_
    refine GL.o rfl (S1.mvB rfl) ?_
    refine GL.split 30 rfl (fun w13 => ?_) (fun w13 => ?_)
    refine GL.skip rfl (.not rfl rfl rfl) ?_
    refine GL.skip rfl (.not rfl rfl rfl) ?_
    refine GL.skip rfl (.not rfl rfl rfl) ?_
    refine GL.skip rfl (.not rfl rfl rfl) ?_
    refine GL.o rfl (S1.pickT (v := (.bool _)) rfl rfl) ?_
    refine GL.o rfl (S1.asB rfl) ?_
    refine GL.dn rfl ?_
    refine GW.toT rfl rfl ?_
    refine GW.sr rfl rfl ?_
    refine GL.o rfl (S1.asP rfl) ?_
    refine GL.o rfl (S1.asI rfl) ?_
    refine GL.dn rfl ?_
    refine GW.toRet rfl ?_
    refine GQ.outR ?_
    refine GQ.onR ?_
    refine GQ.retT (.inr 7) (.tmp rfl rfl (.tmp rfl rfl .nil)) .more rfl .nil (show (7 : Int) ≠ 0 by decide)
    refine GL.one rfl (.yes rfl rfl rfl) (S1.fa fa29_2 rfl) ?_
    refine GL.one rfl (.yes rfl rfl rfl) (S1.ld sc3 rfl (.at (.s (.s (.s (.s (.s .z)))))) rfl) ?_
    refine GL.opN rfl (.yes rfl rfl rfl) (SN.bs el23 ez23 (.c (v := (.int _ _)) rfl rfl .n) rfl rfl) (fun a14 => ?_)
    refine GL.call rfl (.yes rfl rfl rfl) fo37 .nil (fun h H => ct37_1 (H.get .z)) (.d (.c (v := (.int _ _)) rfl (.c (v := (.int _ _)) rfl (.c (v := (.slice _ _ _)) rfl .n)))) (fun _ _ => ?_)
    refine GL.o rfl (S1.pickF (v := (.bool _)) rfl rfl) ?_
    refine GL.o rfl (S1.asB rfl) ?_
    refine GL.dn rfl ?_
    refine GW.toC rfl rfl (fun w18 => ?_) (fun w18 => ?_)
    refine GW.sr rfl rfl ?_
    refine GL.o rfl (S1.asP rfl) ?_
    refine GL.o rfl (S1.asI rfl) ?_
    refine GL.dn rfl ?_
    refine GW.toRet rfl ?_
    refine GQ.outR ?_
    refine GQ.onR ?_
    refine GQ.retT (.inr 7) (.tmp rfl rfl (.tmp rfl rfl .nil)) .more rfl .nil (show (7 : Int) ≠ 0 by decide)
    refine GW.sr rfl rfl ?_
    refine GL.o rfl (S1.mvI rfl) ?_
    refine GL.o rfl (S1.fa fa29_0 rfl) ?_
    refine GL.o rfl (S1.ld sc3 rfl (.at (.s (.s (.s (.s (.s (.s .z))))))) rfl) ?_
    refine GL.o rfl (S1.fa fa29_1 rfl) ?_
    refine GL.o rfl (S1.ld sc3 rfl (.at (.s (.s (.s (.s (.s (.s .z))))))) rfl) ?_
    refine GL.o rfl (S1.mul rfl rfl) ?_
    refine GL.o rfl (S1.neq rfl rfl) ?_
    refine GL.o rfl (S1.asB rfl) ?_
    refine GL.dn rfl ?_
    refine GW.toD rfl rfl (fun w19 => ?_) (fun w19 => ?_)
    refine GW.sr rfl rfl ?_
    refine GL.o rfl (S1.asP rfl) ?_
    refine GL.o rfl (S1.asI rfl) ?_
    refine GL.dn rfl ?_
    refine GW.toRet rfl ?_
    refine GQ.outR ?_
    refine GQ.onR ?_
    refine GQ.retT (.inr 3) (.tmp rfl rfl (.tmp rfl rfl .nil)) .more rfl .nil (show (3 : Int) ≠ 0 by decide)
    refine GW.toSkip rfl ?_
    refine GQ.outN ?_
    refine GQ.on ?_
    refine GW.sr rfl rfl ?_
    refine GL.o rfl (S1.mvP rfl) ?_
    refine GL.o rfl (S1.asP rfl) ?_
    refine GL.o rfl (S1.asI rfl) ?_
    refine GL.dn rfl ?_
    refine GW.toRet rfl ?_
    refine GQ.retT (.inl x) (.tmp rfl rfl (.tmp rfl rfl .nil)) .more rfl (.cons (.s (.s (.s .z))) (.cons (.s (.s (.s .z))) (.cons (.s (.s (.s .z))) .nil))) ⟨q38, outB_f (by assumption), seats_le (by assumption) (by assumption) (by assumption)⟩
  · have he : e ≠ 0 := q38
    refine GL.o rfl (S1.mvT rfl) ?_
    refine GL.o rfl (S1.ext (v := (.pointer _)) rfl rfl) ?_
    refine GL.o rfl (S1.ext (v := (.int _ _)) rfl rfl) ?_
    refine GL.o rfl (S1.asP rfl) ?_
    refine GL.o rfl (S1.asI rfl) ?_
    refine GL.dn rfl ?_
    refine GW.toSeq rfl ?_
    refine GW.toBlock rfl ?_
    refine GW.sr rfl rfl ?_
    refine GL.o rfl (S1.mvI rfl) ?_
    refine GL.o rfl (S1.neq rfl rfl) ?_
    refine GL.o rfl (S1.asB rfl) ?_
    refine GL.dn rfl ?_
    refine GW.toD rfl rfl (fun w20 => ?_) (fun w20 => ?_)
    refine GW.sr rfl rfl ?_
    refine GL.o rfl (S1.mvI rfl) ?_
    refine GL.o rfl (S1.asP rfl) ?_
    refine GL.o rfl (S1.asI rfl) ?_
    refine GL.dn rfl ?_
    refine GW.toRet rfl ?_
    refine GQ.outR ?_
    refine GQ.onR ?_
    refine GQ.retT (.inr e) (.tmp rfl rfl (.tmp rfl rfl .nil)) .more rfl .nil he
    refine GW.sr rfl rfl ?_
    refine GL.o rfl (S1.fa fa29_0 rfl) ?_
    refine GL.o rfl (S1.ld sc3 rfl (.at .z) rfl) ?_
    refine GL.opN rfl .no (SN.bs el23 ez23 (.c (v := (.int _ _)) rfl rfl .n) rfl rfl) (fun a21 => ?_)
    refine GL.call rfl .no fo37 .nil (fun h H => ct37_1 (H.get .z)) (.d (.c (v := (.int _ _)) rfl (.c (v := (.int _ _)) rfl (.c (v := (.slice _ _ _)) rfl .n)))) (fun _ _ => ?_)
    refine GL.o rfl (S1.mvB rfl) ?_
    refine GL.split 24 rfl (fun w25 => ?_) (fun w25 => ?_)
    refine GL.skip rfl (.not rfl rfl rfl) ?_
    refine GL.skip rfl (.not rfl rfl rfl) ?_
    refine GL.skip rfl (.not rfl rfl rfl) ?_
    refine GL.skip rfl (.not rfl rfl rfl) ?_
    refine GL.o rfl (S1.pickT (v := (.bool _)) rfl rfl) ?_
    refine GL.o rfl (S1.mvB rfl) ?_
    refine GL.skip rfl (.not rfl rfl rfl) ?_
    refine GL.skip rfl (.not rfl rfl rfl) ?_
    refine GL.skip rfl (.not rfl rfl rfl) ?_
    refine GL.skip rfl (.not rfl rfl rfl) ?_
    refine GL.o rfl (S1.pickT (v := (.bool _)) rfl rfl) ?_
    refine GL.o rfl (S1.asB rfl) ?_
    refine GL.dn rfl ?_
    refine GW.toT rfl rfl ?_
    refine GW.sr rfl rfl ?_
    refine GL.o rfl (S1.asP rfl) ?_
    refine GL.o rfl (S1.asI rfl) ?_
    refine GL.dn rfl ?_
    refine GW.toRet rfl ?_
    refine GQ.outR ?_
    refine GQ.onR ?_
    (exfalso; omega)
    refine GL.one rfl (.yes rfl rfl rfl) (S1.fa fa29_1 rfl) ?_
    refine GL.one rfl (.yes rfl rfl rfl) (S1.ld sc3 rfl (.at (.s .z)) rfl) ?_
    refine GL.opN rfl (.yes rfl rfl rfl) (SN.bs el23 ez23 (.c (v := (.int _ _)) rfl rfl .n) rfl rfl) (fun a26 => ?_)
    refine GL.call rfl (.yes rfl rfl rfl) fo37 .nil (fun h H => ct37_1 (H.get .z)) (.d (.c (v := (.int _ _)) rfl (.c (v := (.int _ _)) rfl (.c (v := (.slice _ _ _)) rfl .n)))) (fun _ _ => ?_)
    refine GL.o rfl (S1.pickF (v := (.bool _)) rfl rfl) ?_
    refine GL.o rfl (S1.mvB rfl) ?_
    refine GL.split 30 rfl (fun w30 => ?_) (fun w30 => ?_)
    refine GL.skip rfl (.not rfl rfl rfl) ?_
    refine GL.skip rfl (.not rfl rfl rfl) ?_
    refine GL.skip rfl (.not rfl rfl rfl) ?_
    refine GL.skip rfl (.not rfl rfl rfl) ?_
    refine GL.o rfl (S1.pickT (v := (.bool _)) rfl rfl) ?_
    refine GL.o rfl (S1.asB rfl) ?_
    refine GL.dn rfl ?_
    refine GW.toT rfl rfl ?_
    refine GW.sr rfl rfl ?_
    refine GL.o rfl (S1.asP rfl) ?_
    refine GL.o rfl (S1.asI rfl) ?_
    refine GL.dn rfl ?_
    refine GW.toRet rfl ?_
    refine GQ.outR ?_
    refine GQ.onR ?_
    (exfalso; omega)
    refine GL.one rfl (.yes rfl rfl rfl) (S1.fa fa29_2 rfl) ?_
    refine GL.one rfl (.yes rfl rfl rfl) (S1.ld sc3 rfl (.at (.s (.s .z))) rfl) ?_
    refine GL.opN rfl (.yes rfl rfl rfl) (SN.bs el23 ez23 (.c (v := (.int _ _)) rfl rfl .n) rfl rfl) (fun a31 => ?_)
    refine GL.call rfl (.yes rfl rfl rfl) fo37 .nil (fun h H => ct37_1 (H.get .z)) (.d (.c (v := (.int _ _)) rfl (.c (v := (.int _ _)) rfl (.c (v := (.slice _ _ _)) rfl .n)))) (fun _ _ => ?_)
    refine GL.o rfl (S1.pickF (v := (.bool _)) rfl rfl) ?_
    refine GL.o rfl (S1.asB rfl) ?_
    refine GL.dn rfl ?_
    refine GW.toC rfl rfl (fun w35 => ?_) (fun w35 => ?_)
    refine GW.sr rfl rfl ?_
    refine GL.o rfl (S1.asP rfl) ?_
    refine GL.o rfl (S1.asI rfl) ?_
    refine GL.dn rfl ?_
    refine GW.toRet rfl ?_
    refine GQ.outR ?_
    refine GQ.onR ?_
    (exfalso; omega)
    refine GW.sr rfl rfl ?_
    refine GL.o rfl (S1.mvI rfl) ?_
    refine GL.o rfl (S1.fa fa29_0 rfl) ?_
    refine GL.o rfl (S1.ld sc3 rfl (.at (.s (.s (.s .z)))) rfl) ?_
    refine GL.o rfl (S1.fa fa29_1 rfl) ?_
    refine GL.o rfl (S1.ld sc3 rfl (.at (.s (.s (.s .z)))) rfl) ?_
    refine GL.o rfl (S1.mulI rfl rfl (by omega) (by omega)) ?_
    refine GL.o rfl (S1.neq rfl rfl) ?_
    refine GL.o rfl (S1.asB rfl) ?_
    refine GL.dn rfl ?_
    refine GW.toD rfl rfl (fun w36 => ?_) (fun w36 => ?_)
    refine GW.sr rfl rfl ?_
    refine GL.o rfl (S1.asP rfl) ?_
    refine GL.o rfl (S1.asI rfl) ?_
    refine GL.dn rfl ?_
    refine GW.toRet rfl ?_
    refine GQ.outR ?_
    refine GQ.onR ?_
    (exfalso; omega)
    refine GW.toSkip rfl ?_
    refine GQ.outN ?_
    refine GQ.on ?_
    refine GW.sr rfl rfl ?_
    refine GL.o rfl (S1.mvP rfl) ?_
    refine GL.o rfl (S1.asP rfl) ?_
    refine GL.o rfl (S1.asI rfl) ?_
    refine GL.dn rfl ?_
    refine GW.toRet rfl ?_
    (exfalso; omega)
end
end Go.Proofs.Ytenkebdjlajanaa
namespace Go.Proofs.Ytenkebdjlajanaa
open Go Go.E
set_option maxRecDepth 100000
set_option maxHeartbeats 4000000

section
variable {h : EH} {hr : RO} {qa wa pa : Option Addr} {qn qc wn wc pn pc : Nat} {lo hi : Int} {r c m : Int}


theorem ct29 (hR : ∀ b o, hr b = some o → h[b]? = some o) (h1 : Cell hr (.sl ly71) (.slice qa qn qc)) (h2 : Cell hr (.sl ly3) (.slice wa wn wc)) (h3 : Cell hr (.sl ly23) (.slice pa pn pc)) :
    Ct Try.prog 29 ⟨[.agg ⟨[.slice qa qn qc, .slice wa wn wc, .int .i64 lo, .int .i64 hi]⟩, .agg ⟨[.int .i64 r, .int .i64 c, .int .i64 m]⟩, .slice pa pn pc]⟩ h [] (fun x : Int × Int => .tuple ⟨[.int .i64 x.1, .int .i64 x.2]⟩) (fun _ => True) (fun _ => []) := by
  have hl3 := h3.le
  refine Ct.go Try.func29 rfl rfl co29 (Hp.start hR) ?_
  refine GW.sr rfl rfl ?_
  refine GL.opN rfl .no (SN.bx (u := .agg ⟨_⟩) rfl .agg) (fun a1 => ?_)
  refine GL.opN rfl .no (SN.bx (u := .agg ⟨_⟩) rfl .agg) (fun a2 => ?_)
  refine GL.o rfl (S1.asI rfl) ?_
  refine GL.o rfl (S1.asI rfl) ?_
  refine GL.dn rfl ?_
  refine GW.sr rfl rfl ?_
  refine GL.o rfl (S1.ldW ag27 rfl (.at (.s .z)) rfl) ?_
  refine GL.o rfl (S1.ldW ag29 rfl (.at .z) rfl) ?_
  refine GL.o rfl (S1.mvL rfl) ?_
  refine GL.o rfl (S1.len el30 rfl) ?_
  refine GL.call rfl .no fo46 .nil (fun h H => ct46 H.rom h1 h2) (.d (.c (v := (.agg _)) rfl (.c (v := (.agg _)) rfl (.c (v := (.int _ _)) rfl .n)))) (fun x46 q46 => ?_)
  rcases x46 with x | e
  · have S : PaOk hr qa qn wn ∧ Cell hr (.sl ly71) (.slice qa qn qc) ∧ Cell hr (.sl ly3) (.slice wa wn wc) ∧ x.ws.length = qn := ⟨q46.1.1, h1, h2, q46.1.2⟩
    have hc6 := q46.2.1
    have him0 : IMF 6 (V75 qn (ptQ hr qa) (wtQ x.ws) lo hi) [] := .nil
    refine GL.o rfl (S1.mvT rfl) ?_
    refine GL.o rfl (S1.ext (v := (.pointer _)) rfl rfl) ?_
    refine GL.o rfl (S1.ext (v := (.int _ _)) rfl rfl) ?_
    refine GL.o rfl (S1.asP rfl) ?_
    refine GL.o rfl (S1.asI rfl) ?_
    refine GL.dn rfl ?_
    refine GW.toSeq rfl ?_
    refine GW.sr rfl rfl ?_
    refine GL.o rfl (S1.mvI rfl) ?_
    refine GL.o rfl (S1.neq rfl rfl) ?_
    refine GL.dn rfl ?_
    refine GW.toF rfl rfl ?_
    refine GW.toSkip rfl ?_
    refine GQ.on ?_
    refine GW.toSeq rfl ?_
    refine GW.sr rfl rfl ?_
    refine GL.o rfl (S1.mvL rfl) ?_
    refine GL.o rfl (S1.len el30 rfl) ?_
    refine GL.o rfl (S1.mvI rfl) ?_
    refine GL.dn rfl ?_
    refine GW.toBlock rfl ?_
    refine GW.toLoop (X := Nat × List MapEntry × Nat) (fun y => [(2, .slice pa pn pc), (4, .pointer (some ⟨a2, 0, none⟩)), (8, .pointer (some ⟨x.bb, 0, none⟩)), (24, .slice pa pn pc), (25, .int .i64 pn), (26, .int .i64 y.1)]) (fun y => (a2, .cells [.int .i64 r, .int .i64 c, .int .i64 m] none true) :: (x.mb, .map y.2.1 y.2.2) :: K42 qa qn qc wa wn wc lo hi x.bb x.wr x.mb x.ws) (fun y => y.1 ≤ pn ∧ IMF 6 (V75 qn (ptQ hr qa) (wtQ x.ws) lo hi) y.2.1) (fun y => pn - y.1) rfl (0, [], 0) ⟨Nat.zero_le _, him0⟩ (.c rfl (.c rfl (.c rfl (.c rfl (.c rfl (.c rfl .n)))))) (.cons (.s (.s (.s .z))) (.cons (.s (.s .z)) (.cons .z (.cons .z .nil)))) ?_
    rintro ⟨j, es, cl⟩ f ⟨hj, him⟩
    dsimp only at hj him ⊢
    have hcx : j < pn → Cell hr (.sl ly3) (.slice (sa (el hr pa (j * 1 + 0))) (sn (el hr pa (j * 1 + 0))) (sc (el hr pa (j * 1 + 0)))) := fun hlt => h3.at hlt (d := 0) (l := .sl ly3) rfl
    refine GW.sr rfl rfl ?_
    refine GL.o rfl (S1.lss rfl rfl) ?_
    refine GL.dn rfl ?_
    refine GW.toSeq rfl ?_
    refine GW.toD rfl rfl (fun w4 => ?_) (fun w4 => ?_)
    refine GW.toSkip rfl ?_
    refine GQ.on ?_
    refine GW.toSeq rfl ?_
    refine GW.toBlock rfl ?_
    refine GW.sr rfl rfl ?_
    refine GL.o rfl (S1.mvI rfl) ?_
    refine GL.o rfl (S1.ixR el30 h3 rfl rfl (by omega)) ?_
    refine GL.o rfl (S1.ldCL sc23 (z := 1) h3 rfl (m := j) (by omega) rfl (d := 0) rfl rfl) ?_
    refine GL.o rfl (S1.asI rfl) ?_
    refine GL.o rfl (S1.asL rfl) ?_
    refine GL.dn rfl ?_
    refine GW.toSeq rfl ?_
    refine GW.sr rfl rfl ?_
    refine GL.o rfl (S1.mvP rfl) ?_
    refine GL.o rfl (S1.mvL rfl) ?_
    refine GL.call rfl .no fo45 (show Take _ [(x.mb, _)] _ from (.cons (.s .z) .nil)) (fun h H => ct45 S (H.give (ps := (x.mb, .map _ _) :: K42 qa qn qc wa wn wc lo hi x.bb x.wr x.mb x.ws) (.cons (.s .z) (.cons (.s .z) (.cons (.s .z) .nil)))) (by assumption) (hcx (by omega))) (.d (.c (v := (.pointer _)) rfl (.c (v := (.slice _ _ _)) rfl .n))) (fun x45 q45 => ?_)
    refine GL.o rfl (S1.mvT rfl) ?_
    refine GL.o rfl (S1.ext (v := (.int _ _)) rfl rfl) ?_
    refine GL.o rfl (S1.ext (v := (.bool _)) rfl rfl) ?_
    refine GL.o rfl (S1.asI rfl) ?_
    refine GL.o rfl (S1.asB rfl) ?_
    refine GL.dn rfl ?_
    refine GW.sr rfl rfl ?_
    refine GL.o rfl (S1.mvB rfl) ?_
    refine GL.o rfl (S1.not rfl) ?_
    refine GL.dn rfl ?_
    refine GW.toC rfl rfl (fun w6 => ?_) (fun w6 => ?_)
    refine GW.sr rfl rfl ?_
    refine GL.o rfl (S1.mvI rfl) ?_
    refine GL.o rfl (S1.asI rfl) ?_
    refine GL.o rfl (S1.asI rfl) ?_
    refine GL.dn rfl ?_
    refine GW.toRet rfl ?_
    refine GQ.onR ?_
    refine GQ.outR ?_
    refine GQ.onR ?_
    refine GQ.onR ?_
    refine GQ.outR ?_
    refine GQ.onR ?_
    refine GQ.retT (_, _) (.tmp rfl rfl (.tmp rfl rfl .nil)) .more rfl .nil trivial
    refine GW.toSkip rfl ?_
    refine GQ.on ?_
    refine GW.sr rfl rfl ?_
    refine GL.o rfl (S1.ldW ag29 rfl (.at (.s .z)) rfl) ?_
    refine GL.o rfl (S1.mvL rfl) ?_
    refine GL.o rfl (S1.mvI rfl) ?_
    refine GL.o rfl (S1.mvL rfl) ?_
    refine GL.call rfl .no fo47 .nil (fun h H => ct47 H.rom hc6 ⟨by omega, by omega⟩ h3.weak (hcx (by omega)).weak) (.d (.c (v := (.agg _)) rfl (.c (v := (.slice _ _ _)) rfl (.c (v := (.int _ _)) rfl (.c (v := (.slice _ _ _)) rfl .n))))) (fun x47 _ => ?_)
    refine GL.o rfl (S1.not rfl) ?_
    refine GL.dn rfl ?_
    refine GW.toC rfl rfl (fun w8 => ?_) (fun w8 => ?_)
    refine GW.sr rfl rfl ?_
    refine GL.o rfl (S1.mvI rfl) ?_
    refine GL.o rfl (S1.asI rfl) ?_
    refine GL.o rfl (S1.asI rfl) ?_
    refine GL.dn rfl ?_
    refine GW.toRet rfl ?_
    refine GQ.outR ?_
    refine GQ.onR ?_
    refine GQ.onR ?_
    refine GQ.outR ?_
    refine GQ.onR ?_
    refine GQ.retT (_, _) (.tmp rfl rfl (.tmp rfl rfl .nil)) .more rfl .nil trivial
    refine GW.toSkip rfl ?_
    refine GQ.outN ?_
    refine GQ.on ?_
    refine GW.toReg rfl ?_
    refine GL.o rfl (S1.inc rfl rfl (by omega)) ?_
    refine GL.o rfl (S1.mvI rfl) ?_
    refine GL.done rfl ?_
    refine GQ.nextT (j + 1, x45.es, x45.cl) (.c rfl (.c rfl (.c rfl (.c rfl (.c rfl (.c rfl .n)))))) (.cons (.s .z) .tz) ⟨(by first | omega | (dsimp only; omega)), q45.2⟩ (by first | omega | (dsimp only; omega))
    refine GW.toExit rfl ?_
    refine GQ.onE ?_
    refine GQ.onE ?_
    refine GQ.outH ?_
    refine GQ.on ?_
    refine GW.sr rfl rfl ?_
    refine GL.o rfl (S1.asI rfl) ?_
    refine GL.o rfl (S1.asI rfl) ?_
    refine GL.dn rfl ?_
    refine GW.toRet rfl ?_
    refine GQ.retT (_, _) (.tmp rfl rfl (.tmp rfl rfl .nil)) .more rfl .nil trivial
  · have he : e ≠ 0 := q46
    refine GL.o rfl (S1.mvT rfl) ?_
    refine GL.o rfl (S1.ext (v := (.pointer _)) rfl rfl) ?_
    refine GL.o rfl (S1.ext (v := (.int _ _)) rfl rfl) ?_
    refine GL.o rfl (S1.asP rfl) ?_
    refine GL.o rfl (S1.asI rfl) ?_
    refine GL.dn rfl ?_
    refine GW.toSeq rfl ?_
    refine GW.sr rfl rfl ?_
    refine GL.o rfl (S1.mvI rfl) ?_
    refine GL.o rfl (S1.neq rfl rfl) ?_
    refine GL.dn rfl ?_
    refine GW.toD rfl rfl (fun w9 => ?_) (fun w9 => ?_)
    refine GW.sr rfl rfl ?_
    refine GL.o rfl (S1.mvI rfl) ?_
    refine GL.o rfl (S1.asI rfl) ?_
    refine GL.o rfl (S1.asI rfl) ?_
    refine GL.dn rfl ?_
    refine GW.toRet rfl ?_
    refine GQ.onR ?_
    refine GQ.retT (_, _) (.tmp rfl rfl (.tmp rfl rfl .nil)) .more rfl .nil trivial
    refine GW.toSkip rfl ?_
    refine GQ.on ?_
    refine GW.toSeq rfl ?_
    refine GW.sr rfl rfl ?_
    refine GL.o rfl (S1.mvL rfl) ?_
    refine GL.o rfl (S1.len el30 rfl) ?_
    refine GL.o rfl (S1.mvI rfl) ?_
    refine GL.dn rfl ?_
    refine GW.toBlock rfl ?_
    (exfalso; omega)
end
end Go.Proofs.Ytenkebdjlajanaa
namespace Go.Proofs.Ytenkebdjlajanaa
open Go Go.E
set_option maxRecDepth 100000
set_option maxHeartbeats 4000000

structure Vs where
  v : Value
  E : Ents
  m : Nat
  r : List Int
  es : List MapEntry
  cl : Nat

section
variable {hr : RO} {qa wa : Option Addr} {qn qc wn wc bb wr mb c6 c7 c8 : Nat} {lo hi : Int} {ws : List Int}

abbrev M50 (c7 mb : Nat) (v : Value) (es : List MapEntry) (cl : Nat) (E : Ents) : Ents := (c7, .cells [v] none true) :: (mb, .map es cl) :: E
abbrev K50 (c6 c7 c8 : Nat) (qa : Option Addr) (qn qc : Nat) (wa : Option Addr) (wn wc : Nat) (lo hi : Int) (bb wr mb : Nat) (ws : List Int) : Ents :=
  (c6, .cells [.pointer (some ⟨bb, 0, none⟩)] none true) :: (c8, .cells [.func (.func 50) ⟨[]⟩ ⟨[.pointer (some ⟨c6, 0, none⟩), .pointer (some ⟨c7, 0, none⟩), .pointer (some ⟨c8, 0, none⟩)]⟩] none true) :: K42 qa qn qc wa wn wc lo hi bb wr mb ws


theorem ct50 (S : PaOk hr qa qn wn ∧ Cell hr (.sl ly71) (.slice qa qn qc) ∧ Cell hr (.sl ly3) (.slice wa wn wc) ∧ ws.length = qn) : ∀ (n fr : Nat) (l : List Int) (v : Value) (E : Ents) (m : Nat) (r : List Int) (es : List MapEntry) (cl : Nat) (h : EH),
    Hp hr h ((M50 c7 mb v es cl E ++ K50 c6 c7 c8 qa qn qc wa wn wc lo hi bb wr mb ws).map (·.1)) (M50 c7 mb v es cl E ++ K50 c6 c7 c8 qa qn qc wa wn wc lo hi bb wr mb ws) h →
    l.length = 6 → l.getD 0 0 = (fr : Int) → fr ≤ qn → qn - fr < n → NR 1 v E m r → m + gQ hr qa qn ws lo hi (qn - fr) l ≤ 65536 → IMF 6 (V75 qn (ptQ hr qa) (wtQ ws) lo hi) es →
    Ct Try.prog 50 ⟨[.agg ⟨ints l⟩, .pointer (some ⟨c6, 0, none⟩), .pointer (some ⟨c7, 0, none⟩), .pointer (some ⟨c8, 0, none⟩)]⟩ h ((M50 c7 mb v es cl E).map (·.1)) (fun _ : Vs => .tuple #[]) (fun x => NR 1 x.v x.E x.m x.r ∧ x.m = m + gQ hr qa qn ws lo hi (qn - fr) l ∧ IMF 6 (V75 qn (ptQ hr qa) (wtQ ws) lo hi) x.es) (fun x => M50 c7 mb x.v x.es x.cl x.E) := by
  have hc1 := S.2.1
  have hl1 := hc1.le
  have hq16 := S.1.q16
  intro n
  induction n with
  | zero => intro fr l v E m r es cl h H hl h0 hf hm; omega
  | succ n ih =>
    intro fr l v E m r es cl h H hl h0 hf hm nr htot him
    refine Ct.keep (K := K50 c6 c7 c8 qa qn qc wa wn wc lo hi bb wr mb ws) ?_ (fun p hp => H.at_ p (List.mem_append_right _ hp))
    have r1 : nil4 l → gQ hr qa qn ws lo hi (qn - fr) l ≠ 0 → gQ hr qa qn ws lo hi (qn - fr) l = 1 := fun a b => by
      have e : gQ hr qa qn ws lo hi (qn - fr) l = inRg lo hi (l.getD 1 0) := gC_z a
      have := inRg_le (lo := lo) (hi := hi) (L := l.getD 1 0)
      omega
    refine Ct.go Try.func50 rfl rfl co50 (show Hp hr h ((M50 c7 mb v es cl E).map (·.1) ++ (K50 c6 c7 c8 qa qn qc wa wn wc lo hi bb wr mb ws).map (·.1)) _ h from by rw [← List.map_append]; exact H) ?_
    dsimp only [M50, K50]
    refine GW.sr rfl rfl ?_
    refine GL.opN rfl .no (SN.bx (u := .agg ⟨_⟩) rfl .agg) (fun a1 => ?_)
    refine GL.dn rfl ?_
    refine GW.toSeq rfl ?_
    refine GW.sr rfl rfl ?_
    refine GL.o rfl (S1.ld sc72 rfl (.at (.s (.s (.s (.sA .z))))) rfl) ?_
    refine GL.o rfl (S1.ldW ag84 rfl (.at .z) (by simp only [ints_len, List.length_set]; first | omega | assumption)) ?_
    refine GL.call rfl .no fo42 (show Take _ [(mb, _)] _ from (.cons (.s (.s .z)) .nil)) (fun h H => ct42 S (qn + 1) fr _ _ _ _ (H.give (ps := (mb, .map _ _) :: K42 qa qn qc wa wn wc lo hi bb wr mb ws) (.cons (.s (.s .z)) (.cons (.s (.s (.sA (.s (.s .z))))) (.cons (.s (.s (.sA (.s (.s .z))))) .nil)))) hl h0 (by omega) (by omega) (by assumption)) (.d (.c (v := (.pointer _)) rfl (.c (v := (.agg _)) rfl .n))) (fun x42 him42 => ?_)
    refine GL.o rfl (S1.eql rfl rfl) ?_
    refine GL.dn rfl ?_
    refine GW.toD rfl rfl (fun w3 => ?_) (fun w3 => ?_)
    refine GW.toRet rfl ?_
    refine GQ.onR ?_
    refine GQ.retN ⟨v, E, m, r, x42.1, x42.2⟩ .nil .z rfl ⟨nr, (by first | omega | (dsimp only; omega)), him42⟩ (.cons (.s (.s .z)) (.cons .z (.app (.ts .tzA) (.cons (.s .z) (.cons (.s .z) (.cons (.s .z) (.cons (.s .z) .nil)))))))
    refine GW.toSkip rfl ?_
    refine GQ.on ?_
    refine GW.toSeq rfl ?_
    refine GW.sr rfl rfl ?_
    refine GL.o rfl (S1.fa fa84_2 rfl) ?_
    refine GL.o rfl (S1.ldL ag82 rfl (.at (.s .z)) (by omega)) ?_
    refine GL.o rfl (S1.bu0 az82 zc82) ?_
    refine GL.o rfl (S1.eqF fl82 (l' := [0, 0, 0, 0]) rfl rfl (by first | rfl | assumption | (simp only [List.length_take, List.length_drop]; omega)) rfl) ?_
    refine GL.dn rfl ?_
    refine GW.toD rfl rfl (fun w4 => ?_) (fun w4 => ?_)
    refine GW.sr rfl rfl ?_
    refine GL.o rfl (S1.ld sc23 rfl (.at (.s (.s .z))) rfl) ?_
    refine GL.o rfl (S1.fa fa84_1 rfl) ?_
    refine GL.o rfl (S1.ldI sc3 rfl (.at (.s .z)) (by omega)) ?_
    refine GL.opN rfl .no (SN.bs el23 ez23 (.c (v := (.int _ _)) rfl rfl .n) rfl rfl) (fun a5 => ?_)
    refine GL.opN rfl .no (SN.apN (new := [l.getD (0 + 1) 0]) ap23_23 nr rfl (.row rfl (.at .z) rfl) (by decide) (by omega) (.ts (.ts (.ts (.ts .tzA))))) (fun a9 => ?_)
    refine GL.o rfl (S1.st (u := (.slice _ _ _)) sc23 rfl rfl rfl (by repeat constructor) (.s (.s (.s (.s .z))))) ?_
    refine GL.dn rfl ?_
    refine GW.toRet rfl ?_
    refine GQ.onR ?_
    refine GQ.retN ⟨rowS a9 (m + 1), [(a9, opRow (ints (r ++ [l.getD (0 + 1) 0])) 1)], m + 1, r ++ [l.getD (0 + 1) 0], x42.1, x42.2⟩ .nil .z rfl ⟨nr.app (by decide) rfl, (by have := r1 (by assumption) (by omega); dsimp only; omega), him42⟩ (.cons (.s (.s (.s (.s .z)))) (.cons (.s (.s .z)) (.cons .z (.cons (.s (.s .z)) (.cons (.s (.s .z)) (.cons (.s (.s .z)) (.cons (.s (.s .z)) .nil)))))))
    refine GW.toSkip rfl ?_
    refine GQ.on ?_
    have hn4 : ¬nil4 l := by assumption
    refine GW.sr rfl rfl ?_
    refine GL.o rfl (S1.fa fa84_0 rfl) ?_
    refine GL.o rfl (S1.ldI sc3 rfl (.at (.s .z)) (by omega)) ?_
    refine GL.o rfl (S1.asI rfl) ?_
    refine GL.dn rfl ?_
    refine GW.toBlock rfl ?_
    refine GW.toLoop (X := Nat × Vs) (fun x => [(1, .pointer (some ⟨c6, 0, none⟩)), (2, .pointer (some ⟨c7, 0, none⟩)), (3, .pointer (some ⟨c8, 0, none⟩)), (4, .pointer (some ⟨a1, 0, none⟩)), (5, .int .i64 x.1)]) (fun x => (a1, .cells (ints l) none true) :: (M50 c7 mb x.2.v x.2.es x.2.cl x.2.E ++ K50 c6 c7 c8 qa qn qc wa wn wc lo hi bb wr mb ws)) (fun x => fr ≤ x.1 ∧ x.1 ≤ qn ∧ NR 1 x.2.v x.2.E x.2.m x.2.r ∧ x.2.m + gQ hr qa qn ws lo hi (qn - x.1) l = m + gQ hr qa qn ws lo hi (qn - fr) l ∧ IMF 6 (V75 qn (ptQ hr qa) (wtQ ws) lo hi) x.2.es) (fun x => qn - x.1) rfl (fr, ⟨v, E, m, r, x42.1, x42.2⟩) ⟨Nat.le_refl _, hf, nr, rfl, him42⟩ (.c rfl (.c rfl (.c rfl (.c rfl (.c (congrArg (Value.int .i64) h0) .n))))) (.cons (.s .z) (.cons (.s .z) (.cons .z (.app .tzA .tz)))) ?_
    rintro ⟨k, v, E, m2, r, es, cl⟩ f ⟨hk1, hk2, nr, hm2, him⟩
    dsimp only [M50, K50] at hk1 hk2 nr hm2 him ⊢
    have hgp : k < qn → 0 ≤ (tkL (ptQ hr qa) (wtQ ws) l k).getD (2 + (ptQ hr qa k).toNat) 0 → gQ hr qa qn ws lo hi (qn - k) l = gQ hr qa qn ws lo hi (qn - (k + 1)) (tkL (ptQ hr qa) (wtQ ws) l k) + gQ hr qa qn ws lo hi (qn - (k + 1)) l := fun a b => by rw [gQ, gC_s hn4 a, if_pos b]
    have hgn : k < qn → ¬0 ≤ (tkL (ptQ hr qa) (wtQ ws) l k).getD (2 + (ptQ hr qa k).toNat) 0 → gQ hr qa qn ws lo hi (qn - k) l = gQ hr qa qn ws lo hi (qn - (k + 1)) l := fun a b => by rw [gQ, gC_s hn4 a, if_neg b, Nat.zero_add]
    have hgz : k = qn → gQ hr qa qn ws lo hi (qn - k) l = 0 := fun a => by rw [a, Nat.sub_self]; exact gC_0 hn4
    have ht6 : (tkL (ptQ hr qa) (wtQ ws) l k).length = 6 := tkL_len.trans hl
    refine GW.toSeq rfl ?_
    refine GW.sr rfl rfl ?_
    refine GL.o rfl (S1.mvI rfl) ?_
    refine GL.o rfl (S1.ld sc72 rfl (.at (.s (.s (.s (.sA .z))))) rfl) ?_
    refine GL.o rfl (S1.nc rfl) ?_
    refine GL.o rfl (S1.fa fa77_0 rfl) ?_
    refine GL.o rfl (S1.fa fa27_0 rfl) ?_
    refine GL.o rfl (S1.ld sc22 rfl (.at (.s (.s (.s (.sA (.s (.s .z))))))) rfl) ?_
    refine GL.o rfl (S1.len el22 rfl) ?_
    refine GL.o rfl (S1.lss rfl rfl) ?_
    refine GL.dn rfl ?_
    refine GW.toD rfl rfl (fun w10 => ?_) (fun w10 => ?_)
    refine GW.toSkip rfl ?_
    refine GQ.on ?_
    refine GW.toSeq rfl ?_
    refine GW.toBlock rfl ?_
    refine GW.sr rfl rfl ?_
    refine GL.o rfl (S1.ld sc72 rfl (.at (.s (.s (.s (.sA .z))))) rfl) ?_
    refine GL.o rfl (S1.ldW ag84 rfl (.at .z) (by simp only [ints_len, List.length_set]; first | omega | assumption)) ?_
    refine GL.o rfl (S1.mvI rfl) ?_
    refine GL.call rfl .no fo51 .nil (fun h H => ct51 (BkOk.mkH S H (.s (.s (.s (.sA (.s (.s .z)))))) (.s (.s (.s (.sA (.s (.s (.s .z)))))))) hl (by omega)) (.d (.c (v := (.pointer _)) rfl (.c (v := (.agg _)) rfl (.c (v := (.int _ _)) rfl .n)))) (fun _ _ => ?_)
    refine GL.o rfl (S1.mvT rfl) ?_
    refine GL.o rfl (S1.ext (v := (.agg _)) rfl rfl) ?_
    refine GL.o rfl (S1.ext (v := (.bool _)) rfl rfl) ?_
    refine GL.opN rfl .no (SN.al zc84) (fun a12 => ?_)
    refine GL.o rfl (S1.stW ag84 rfl rfl (by first | assumption | (simp only [List.length_set]; first | omega | assumption)) (by first | rfl | (simp only [ints_len, List.length_set]; first | omega | assumption)) .z) ?_
    refine GL.o rfl (S1.asB rfl) ?_
    refine GL.dn rfl ?_
    refine GW.sr rfl rfl ?_
    refine GL.o rfl (S1.mvB rfl) ?_
    refine GL.dn rfl ?_
    refine GW.toD rfl rfl (fun w13 => ?_) (fun w13 => ?_)
    refine GW.toReg rfl ?_
    refine GL.o rfl (S1.ld sc93 rfl (.at (.s (.s (.s (.s (.sA (.s .z))))))) rfl) ?_
    refine GL.o rfl (S1.ldW ag84 rfl (.at .z) (by simp only [ints_len, List.length_set]; first | omega | assumption)) ?_
    refine GL.call rfl .no fo50 (show Take _ (M50 c7 mb v es cl E) _ from (.cons (.s (.s .z)) (.cons (.s (.s .z)) (.ts (.ts .tzA))))) (fun h H => ih (k + 1) _ _ _ _ _ _ _ _ (H.give (ps := M50 c7 mb v es cl E ++ K50 c6 c7 c8 qa qn qc wa wn wc lo hi bb wr mb ws) (.cons (.s (.s .z)) (.cons (.s (.s .z)) (.app (.ts (.ts .tzA)) (.cons (.s (.s .z)) (.cons (.s (.s .z)) (.cons (.s (.s .z)) (.cons (.s (.s .z)) .nil)))))))) (tkL_len.trans hl) (tkL_0 hl) (by omega) (by omega) (by assumption) (by omega) (by assumption)) (.v (fs := []) (cs := [(.pointer _), (.pointer _), (.pointer _)]) rfl (.c (v := (.agg _)) rfl .n)) (fun x50 q50 => ?_)
    refine GL.done rfl ?_
    refine GQ.outN ?_
    refine GQ.on ?_
    refine GW.toReg rfl ?_
    refine GL.o rfl (S1.mvI rfl) ?_
    refine GL.o rfl (S1.inc rfl rfl (by omega)) ?_
    refine GL.o rfl (S1.asI rfl) ?_
    refine GL.done rfl ?_
    refine GQ.nextT (k + 1, x50) (.c rfl (.c rfl (.c rfl (.c rfl (.c rfl .n))))) (.cons (.s (.s (.sA (.s .z)))) (.cons .z (.cons .z (.app .tzA (.cons (.s .z) (.cons (.s .z) (.cons (.s .z) (.cons (.s .z) .nil)))))))) ⟨(by first | omega | (dsimp only; omega)), (by first | omega | (dsimp only; omega)), q50.1, (by have := q50.2.1; dsimp only; omega), q50.2.2⟩ (by first | omega | (dsimp only; omega))
    refine GW.toSkip rfl ?_
    refine GQ.outN ?_
    refine GQ.on ?_
    refine GW.toReg rfl ?_
    refine GL.o rfl (S1.mvI rfl) ?_
    refine GL.o rfl (S1.inc rfl rfl (by omega)) ?_
    refine GL.o rfl (S1.asI rfl) ?_
    refine GL.done rfl ?_
    refine GQ.nextT (k + 1, ⟨v, E, m2, r, es, cl⟩) (.c rfl (.c rfl (.c rfl (.c rfl (.c rfl .n))))) (.cons (.s .z) (.cons (.s .z) (.cons (.s .z) (.app (.ts .tzA) (.cons (.s .z) (.cons (.s .z) (.cons (.s .z) (.cons (.s .z) .nil)))))))) ⟨(by first | omega | (dsimp only; omega)), (by first | omega | (dsimp only; omega)), nr, (by first | omega | (dsimp only; omega)), him⟩ (by first | omega | (dsimp only; omega))
    refine GW.toExit rfl ?_
    refine GQ.onE ?_
    refine GQ.onE ?_
    refine GQ.outH ?_
    refine GQ.retN ⟨v, E, m2, r, es, cl⟩ .nil .z rfl ⟨nr, (by first | omega | (dsimp only; omega)), him⟩ (.cons (.s .z) (.cons (.s .z) (.app (.ts .tzA) (.cons (.s .z) (.cons (.s .z) (.cons (.s .z) (.cons (.s .z) .nil)))))))
end
end Go.Proofs.Ytenkebdjlajanaa
namespace Go.Proofs.Ytenkebdjlajanaa
open Go Go.E
set_option maxRecDepth 100000
set_option maxHeartbeats 4000000

section
variable {h : EH} {hr : RO} {qa wa : Option Addr} {qn qc wn wc : Nat} {lo hi : Int} {many : Int}


theorem ct31 (hR : ∀ b o, hr b = some o → h[b]? = some o) (h1 : Cell hr (.sl ly71) (.slice qa qn qc)) (h2 : Cell hr (.sl ly3) (.slice wa wn wc)) :
    Ct Try.prog 31 ⟨[.agg ⟨[.slice qa qn qc, .slice wa wn wc, .int .i64 lo, .int .i64 hi]⟩, .int .i64 many]⟩ h [] (fun x : Int × Int × Int => .tuple ⟨[.agg ⟨[.int .i64 x.1, .int .i64 x.2.1]⟩, .int .i64 x.2.2]⟩) (fun _ => True) (fun _ => []) := by
  refine Ct.go Try.func31 rfl rfl co31 (Hp.start hR) ?_
  refine GW.sr rfl rfl ?_
  refine GL.opN rfl .no (SN.bx (u := .agg ⟨_⟩) rfl .agg) (fun a1 => ?_)
  refine GL.opN rfl .no (SN.al zc25) (fun a2 => ?_)
  refine GL.o rfl (S1.asI rfl) ?_
  refine GL.dn rfl ?_
  refine GW.sr rfl rfl ?_
  refine GL.o rfl (S1.ldW ag27 rfl (.at (.s .z)) rfl) ?_
  refine GL.call rfl .no fo38 .nil (fun h H => ct38 H.rom h1 h2) (.d (.c (v := (.agg _)) rfl .n)) (fun x38 q38 => ?_)
  rcases x38 with x | e
  · have S : PaOk hr qa qn wn ∧ Cell hr (.sl ly71) (.slice qa qn qc) ∧ Cell hr (.sl ly3) (.slice wa wn wc) ∧ x.ws.length = qn := ⟨q38.1, h1, h2, q38.2⟩
    have hq16 := S.1.q16
    have him0 : IMF 6 (V75 qn (ptQ hr qa) (wtQ x.ws) lo hi) [] := .nil
    have htot : 0 + gQ hr qa qn x.ws lo hi (qn - 0) (bgL hr wa wn) ≤ 65536 := by rw [Nat.zero_add]; exact gC_16 (by omega)
    refine GL.o rfl (S1.mvT rfl) ?_
    refine GL.o rfl (S1.ext (v := (.pointer _)) rfl rfl) ?_
    refine GL.o rfl (S1.ext (v := (.int _ _)) rfl rfl) ?_
    refine GL.opN rfl .no (SN.al zc72) (fun a4 => ?_)
    refine GL.o rfl (S1.st (u := (.pointer _)) sc72 rfl rfl rfl (by repeat constructor) .z) ?_
    refine GL.o rfl (S1.asI rfl) ?_
    refine GL.dn rfl ?_
    refine GW.toSeq rfl ?_
    refine GW.toBlock rfl ?_
    refine GW.sr rfl rfl ?_
    refine GL.o rfl (S1.mvI rfl) ?_
    refine GL.o rfl (S1.neq rfl rfl) ?_
    refine GL.o rfl (S1.asB rfl) ?_
    refine GL.dn rfl ?_
    refine GW.toF rfl rfl ?_
    refine GW.sr rfl rfl ?_
    refine GL.o rfl (S1.mvI rfl) ?_
    refine GL.o rfl (S1.lss rfl rfl) ?_
    refine GL.o rfl (S1.asB rfl) ?_
    refine GL.dn rfl ?_
    refine GW.toD rfl rfl (fun w5 => ?_) (fun w5 => ?_)
    refine GW.sr rfl rfl ?_
    refine GL.o rfl (S1.ldW ag25 rfl (.at (.s (.s (.s (.s .z))))) rfl) ?_
    refine GL.o rfl (S1.stA ag25 rfl rfl rfl rfl (by repeat constructor) (.s (.s (.s (.s .z))))) ?_
    refine GL.o rfl (S1.asI rfl) ?_
    refine GL.dn rfl ?_
    refine GW.toRet rfl ?_
    refine GQ.outR ?_
    refine GQ.onR ?_
    refine GQ.retT (0, 0, _) (.cell rfl rfl (.s (.s (.s (.s .z)))) (loadV_W ag25 rfl) (.tmp rfl rfl .nil)) .more rfl .nil trivial
    refine GW.toSkip rfl ?_
    refine GQ.outN ?_
    refine GQ.on ?_
    obtain ⟨mn, rfl⟩ : ∃ k : Nat, many = (k : Int) := ⟨many.toNat, by omega⟩
    have hmn : 1 ≤ mn := by omega
    refine GW.sr rfl rfl ?_
    refine GL.opN rfl .no (SN.al zc23) (fun a6 => ?_)
    refine GL.dn rfl ?_
    refine GW.sr rfl rfl ?_
    refine GL.opN rfl .no (SN.al zc93) (fun a7 => ?_)
    refine GL.dn rfl ?_
    refine GW.sr rfl rfl ?_
    refine GL.o rfl (S1.mf .n (.c (v := (.pointer _)) rfl (.c (v := (.pointer _)) rfl (.c (v := (.pointer _)) rfl .n)))) ?_
    refine GL.o rfl (S1.st (u := (.func _ _ _)) sc93 rfl rfl rfl (by repeat constructor) .z) ?_
    refine GL.dn rfl ?_
    refine GW.toSeq rfl ?_
    refine GW.toDrw mx rfl ?_
    refine GD.o rfl (S1.ld sc93 rfl (.at .z) rfl) rfl ?_
    refine GD.o rfl (S1.ld sc72 rfl (.at (.s (.s .z))) rfl) rfl ?_
    refine GD.call rfl .no fo43 .nil (fun h H => ct43 (BkOk.mkH S H (.s (.s (.s .z))) (.s (.s (.s (.s .z)))))) (.d (.c (v := (.pointer _)) rfl .n)) (fun _ _ => ?_)
    refine GD.callF rfl .no fo50 (by kernel_rfl) (show Take _ (M50 a6 x.mb nilS [] 0 []) _ from (.cons (.s .z) (.cons (.s (.s (.s (.s .z)))) .nil))) (fun h H => ct50 S (qn + 1) 0 _ _ _ _ _ _ _ _ (H.give (ps := M50 a6 x.mb nilS [] 0 [] ++ K50 a4 a6 a7 qa qn qc wa wn wc lo hi x.bb x.wr x.mb x.ws) (.cons (.s .z) (.cons (.s (.s (.s (.s .z)))) (.cons (.s .z) (.cons .z (.cons .z (.cons .z .nil))))))) bgL_len bgL_0 (by omega) (by omega) .nil htot him0) (.v (fs := []) (cs := [(.pointer _), (.pointer _), (.pointer _)]) rfl (.c (v := (.agg _)) rfl .n)) (fun x50 q50 => ?_)
    refine GD.done rfl ?_
    refine GQ.on ?_
    refine GW.toSeq rfl ?_
    obtain ⟨v, E, m, r, es, cl⟩ := x50
    obtain ⟨nr, hm, him⟩ := q50
    dsimp only [M50] at nr hm him ⊢
    cases nr with
    | nil =>
      refine GW.sr rfl rfl ?_
      refine GL.o rfl (S1.ld sc23 rfl (.at .z) rfl) ?_
      refine GL.o rfl (S1.len el23 rfl) ?_
      refine GL.o rfl (S1.mvI rfl) ?_
      refine GL.o rfl (S1.lss rfl rfl) ?_
      refine GL.dn rfl ?_
      refine GW.toD rfl rfl (fun w10 => ?_) (fun w10 => ?_)
      refine GW.sr rfl rfl ?_
      refine GL.o rfl (S1.ldW ag25 rfl (.at (.s (.s (.s (.s (.s (.s .z))))))) rfl) ?_
      refine GL.o rfl (S1.stA ag25 rfl rfl rfl rfl (by repeat constructor) (.s (.s (.s (.s (.s (.s .z))))))) ?_
      refine GL.o rfl (S1.asI rfl) ?_
      refine GL.dn rfl ?_
      refine GW.toRet rfl ?_
      refine GQ.onR ?_
      refine GQ.retT (0, 0, _) (.cell rfl rfl (.s (.s (.s (.s (.s (.s .z)))))) (loadV_W ag25 rfl) (.tmp rfl rfl .nil)) .more rfl .nil trivial
      refine GW.toSkip rfl ?_
      refine GQ.on ?_
      refine GW.sr rfl rfl ?_
      refine GL.o rfl (S1.ld sc23 rfl (.at .z) rfl) ?_
      (exfalso; omega)
    | @row rb m r hm0 hrl =>
      refine GW.sr rfl rfl ?_
      refine GL.o rfl (S1.ld sc23 rfl (.at .z) rfl) ?_
      refine GL.o rfl (S1.len el23 rfl) ?_
      refine GL.o rfl (S1.mvI rfl) ?_
      refine GL.o rfl (S1.lss rfl rfl) ?_
      refine GL.dn rfl ?_
      refine GW.toD rfl rfl (fun w12 => ?_) (fun w12 => ?_)
      refine GW.sr rfl rfl ?_
      refine GL.o rfl (S1.ldW ag25 rfl (.at (.s (.s (.s (.s (.s (.s (.s .z)))))))) rfl) ?_
      refine GL.o rfl (S1.stA ag25 rfl rfl rfl rfl (by repeat constructor) (.s (.s (.s (.s (.s (.s (.s .z)))))))) ?_
      refine GL.o rfl (S1.asI rfl) ?_
      refine GL.dn rfl ?_
      refine GW.toRet rfl ?_
      refine GQ.onR ?_
      refine GQ.retT (0, 0, _) (.cell rfl rfl (.s (.s (.s (.s (.s (.s (.s .z))))))) (loadV_W ag25 rfl) (.tmp rfl rfl .nil)) .more rfl .nil trivial
      refine GW.toSkip rfl ?_
      refine GQ.on ?_
      refine GW.sr rfl rfl ?_
      refine GL.o rfl (S1.ld sc23 rfl (.at .z) rfl) ?_
      refine GL.call rfl .no fo52 (show Take _ [(rb, _)] _ from (.cons (.s (.s .z)) .nil)) (fun h H => ct52 (H.give (ps := [(rb, opRow (ints r) 1)]) (.cons (.s (.s .z)) .nil)) (by omega) (by omega)) (.d (.c (v := (.slice _ _ _)) rfl .n)) (fun x52 q52 => ?_)
      refine GL.dn rfl ?_
      refine GW.toSeq rfl ?_
      obtain ⟨d, rfl⟩ : ∃ d, m = mn + d := ⟨m - mn, by omega⟩
      have hxl : x52.length = mn + d := by have := q52.1; omega
      have hm16 : mn + d ≤ 65536 := by omega
      refine GW.sr rfl rfl ?_
      refine GL.o rfl (S1.ld sc23 rfl (.at (.s .z)) rfl) ?_
      refine GL.o rfl (S1.ld sc23 rfl (.at (.s .z)) rfl) ?_
      refine GL.o rfl (S1.len el23 rfl) ?_
      refine GL.o rfl (S1.mvI rfl) ?_
      refine GL.o rfl (S1.subN rfl rfl (by omega) (by omega)) ?_
      refine GL.o rfl (S1.inc rfl rfl (by omega)) ?_
      refine GL.o rfl (S1.cutG el23 (.at .z) (by first | assumption | exact .inl rfl | exact .inr rfl) rfl .no (.at rfl) (by omega) (by omega) (by omega) (by omega)) ?_
      refine GL.o rfl (S1.len el23 rfl) ?_
      refine GL.o rfl (S1.mvI rfl) ?_
      refine GL.dn rfl ?_
      refine GW.toBlock rfl ?_
      refine GW.toLoop (X := Nat × Int × Int) (fun y => [(1, .int .i64 mn), (4, .pointer (some ⟨a2, 0, none⟩)), (7, .pointer (some ⟨a6, 0, none⟩)), (44, .slice (some ⟨rb, 0, none⟩) (mn + d - mn + 1) (mn + d)), (45, .int .i64 (mn + d - mn + 1 : Nat)), (46, .int .i64 y.1)]) (fun y => [(rb, .cells (ints x52) (some 1) true), (a6, .cells [rowS rb (mn + d)] none true), (a2, .cells [.int .i64 y.2.1, .int .i64 y.2.2] none true)]) (fun y => y.1 ≤ d + 1) (fun y => d + 1 - y.1) rfl (0, 0, 0) (Nat.zero_le _) (.c rfl (.c rfl (.c rfl (.c rfl (.c rfl (.c rfl .n)))))) (.cons .z (.cons .z (.cons (.s (.s (.s (.s (.s .z))))) .nil))) ?_
      rintro ⟨k, b1, b2⟩ f hk
      dsimp only at hk ⊢
      refine GW.sr rfl rfl ?_
      refine GL.o rfl (S1.lss rfl rfl) ?_
      refine GL.dn rfl ?_
      refine GW.toSeq rfl ?_
      refine GW.toD rfl rfl (fun w14 => ?_) (fun w14 => ?_)
      refine GW.toSkip rfl ?_
      refine GQ.on ?_
      refine GW.toSeq rfl ?_
      refine GW.toBlock rfl ?_
      refine GW.sr rfl rfl ?_
      refine GL.o rfl (S1.mvI rfl) ?_
      refine GL.o rfl (S1.ixN el23 rfl rfl (by omega)) ?_
      refine GL.o rfl (S1.ldI sc3 rfl (.at .z) (by omega)) ?_
      refine GL.o rfl (S1.asI rfl) ?_
      refine GL.o rfl (S1.asI rfl) ?_
      refine GL.dn rfl ?_
      refine GW.sr rfl rfl ?_
      refine GL.o rfl (S1.mvI rfl) ?_
      refine GL.o rfl (S1.ld sc23 rfl (.at (.s .z)) rfl) ?_
      refine GL.o rfl (S1.mvI rfl) ?_
      refine GL.o rfl (S1.mvI rfl) ?_
      refine GL.o rfl (S1.addN rfl rfl (by omega)) ?_
      refine GL.o rfl (S1.dec1 rfl rfl (by omega) (by omega)) ?_
      refine GL.o rfl (S1.ixN el23 rfl rfl (by omega)) ?_
      refine GL.o rfl (S1.ldI sc3 rfl (.at .z) (by omega)) ?_
      refine GL.o rfl (S1.bu zc25 bo25 (.c (v := (.int _ _)) rfl (.one rfl) fz25_0 rfl (by repeat constructor) (.c (v := (.int _ _)) rfl (.one rfl) fz25_1 rfl (by repeat constructor) .n))) ?_
      refine GL.opN rfl .no (SN.al zc25) (fun a15 => ?_)
      refine GL.o rfl (S1.stA ag25 rfl rfl rfl rfl (by repeat constructor) .z) ?_
      refine GL.dn rfl ?_
      refine GW.sr rfl rfl ?_
      refine GL.o rfl (S1.mvI rfl) ?_
      refine GL.o rfl (S1.eql rfl rfl) ?_
      refine GL.o rfl (S1.mvB rfl) ?_
      refine GL.splitD 62 rfl (fun w16 => ?_) (fun w16 => ?_)
      refine GL.skip rfl (.not rfl rfl rfl) ?_
      refine GL.skip rfl (.not rfl rfl rfl) ?_
      refine GL.skip rfl (.not rfl rfl rfl) ?_
      refine GL.skip rfl (.not rfl rfl rfl) ?_
      refine GL.skip rfl (.not rfl rfl rfl) ?_
      refine GL.skip rfl (.not rfl rfl rfl) ?_
      refine GL.skip rfl (.not rfl rfl rfl) ?_
      refine GL.skip rfl (.not rfl rfl rfl) ?_
      refine GL.skip rfl (.not rfl rfl rfl) ?_
      refine GL.skip rfl (.not rfl rfl rfl) ?_
      refine GL.skip rfl (.not rfl rfl rfl) ?_
      refine GL.o rfl (S1.pickT (v := (.bool _)) rfl rfl) ?_
      refine GL.dn rfl ?_
      refine GW.toT rfl rfl ?_
      refine GW.toReg rfl ?_
      refine GL.o rfl (S1.ldW ag25 rfl (.at .z) rfl) ?_
      refine GL.o rfl (S1.stA ag25 rfl rfl rfl rfl (by repeat constructor) (.s (.s (.s .z)))) ?_
      refine GL.done rfl ?_
      refine GQ.outN ?_
      refine GQ.on ?_
      refine GW.toReg rfl ?_
      refine GL.o rfl (S1.inc rfl rfl (by omega)) ?_
      refine GL.o rfl (S1.mvI rfl) ?_
      refine GL.done rfl ?_
      refine GQ.nextT (k + 1, _, _) (.c rfl (.c rfl (.c rfl (.c rfl (.c rfl (.c rfl .n)))))) (.cons (.s .z) (.cons (.s .z) (.cons (.s .z) .nil))) (by first | omega | (dsimp only; omega)) (by first | omega | (dsimp only; omega))
      refine GL.one rfl (.yes rfl rfl rfl) (S1.fa fa25_1 rfl) ?_
      refine GL.one rfl (.yes rfl rfl rfl) (S1.ld sc3 rfl (.at .z) rfl) ?_
      refine GL.one rfl (.yes rfl rfl rfl) (S1.fa fa25_0 rfl) ?_
      refine GL.one rfl (.yes rfl rfl rfl) (S1.ld sc3 rfl (.at .z) rfl) ?_
      refine GL.one rfl (.yes rfl rfl rfl) (S1.sub rfl rfl) ?_
      refine GL.one rfl (.yes rfl rfl rfl) (S1.fa fa25_1 rfl) ?_
      refine GL.one rfl (.yes rfl rfl rfl) (S1.ld sc3 rfl (.at (.s (.s (.s .z)))) rfl) ?_
      refine GL.one rfl (.yes rfl rfl rfl) (S1.fa fa25_0 rfl) ?_
      refine GL.one rfl (.yes rfl rfl rfl) (S1.ld sc3 rfl (.at (.s (.s (.s .z)))) rfl) ?_
      refine GL.one rfl (.yes rfl rfl rfl) (S1.sub rfl rfl) ?_
      refine GL.one rfl (.yes rfl rfl rfl) (S1.lss rfl rfl) ?_
      refine GL.o rfl (S1.pickF (v := (.bool _)) rfl rfl) ?_
      refine GL.dn rfl ?_
      refine GW.toD rfl rfl (fun w17 => ?_) (fun w17 => ?_)
      refine GW.toReg rfl ?_
      refine GL.o rfl (S1.ldW ag25 rfl (.at .z) rfl) ?_
      refine GL.o rfl (S1.stA ag25 rfl rfl rfl rfl (by repeat constructor) (.s (.s (.s .z)))) ?_
      refine GL.done rfl ?_
      refine GQ.outN ?_
      refine GQ.on ?_
      refine GW.toReg rfl ?_
      refine GL.o rfl (S1.inc rfl rfl (by omega)) ?_
      refine GL.o rfl (S1.mvI rfl) ?_
      refine GL.done rfl ?_
      refine GQ.nextT (k + 1, _, _) (.c rfl (.c rfl (.c rfl (.c rfl (.c rfl (.c rfl .n)))))) (.cons (.s .z) (.cons (.s .z) (.cons (.s .z) .nil))) (by first | omega | (dsimp only; omega)) (by first | omega | (dsimp only; omega))
      refine GW.toSkip rfl ?_
      refine GQ.outN ?_
      refine GQ.on ?_
      refine GW.toReg rfl ?_
      refine GL.o rfl (S1.inc rfl rfl (by omega)) ?_
      refine GL.o rfl (S1.mvI rfl) ?_
      refine GL.done rfl ?_
      refine GQ.nextT (k + 1, b1, b2) (.c rfl (.c rfl (.c rfl (.c rfl (.c rfl (.c rfl .n)))))) (.cons (.s .z) (.cons (.s .z) (.cons (.s .z) .nil))) (by first | omega | (dsimp only; omega)) (by first | omega | (dsimp only; omega))
      refine GW.toExit rfl ?_
      refine GQ.onE ?_
      refine GQ.onE ?_
      refine GQ.outH ?_
      refine GQ.on ?_
      refine GW.sr rfl rfl ?_
      refine GL.o rfl (S1.ldW ag25 rfl (.at (.s (.s .z))) rfl) ?_
      refine GL.o rfl (S1.stA ag25 rfl rfl rfl rfl (by repeat constructor) (.s (.s .z))) ?_
      refine GL.o rfl (S1.asI rfl) ?_
      refine GL.dn rfl ?_
      refine GW.toRet rfl ?_
      refine GQ.retT (_, _, 0) (.cell rfl rfl (.s (.s .z)) (loadV_W ag25 rfl) (.tmp rfl rfl .nil)) .more rfl .nil trivial
  · have he : e ≠ 0 := q38
    refine GL.o rfl (S1.mvT rfl) ?_
    refine GL.o rfl (S1.ext (v := (.pointer _)) rfl rfl) ?_
    refine GL.o rfl (S1.ext (v := (.int _ _)) rfl rfl) ?_
    refine GL.opN rfl .no (SN.al zc72) (fun a18 => ?_)
    refine GL.o rfl (S1.st (u := (.pointer _)) sc72 rfl rfl rfl (by repeat constructor) .z) ?_
    refine GL.o rfl (S1.asI rfl) ?_
    refine GL.dn rfl ?_
    refine GW.toSeq rfl ?_
    refine GW.toBlock rfl ?_
    refine GW.sr rfl rfl ?_
    refine GL.o rfl (S1.mvI rfl) ?_
    refine GL.o rfl (S1.neq rfl rfl) ?_
    refine GL.o rfl (S1.asB rfl) ?_
    refine GL.dn rfl ?_
    refine GW.toD rfl rfl (fun w19 => ?_) (fun w19 => ?_)
    refine GW.sr rfl rfl ?_
    refine GL.o rfl (S1.ldW ag25 rfl (.at (.s .z)) rfl) ?_
    refine GL.o rfl (S1.mvI rfl) ?_
    refine GL.o rfl (S1.stA ag25 rfl rfl rfl rfl (by repeat constructor) (.s .z)) ?_
    refine GL.o rfl (S1.asI rfl) ?_
    refine GL.dn rfl ?_
    refine GW.toRet rfl ?_
    refine GQ.outR ?_
    refine GQ.onR ?_
    refine GQ.retT (0, 0, _) (.cell rfl rfl (.s .z) (loadV_W ag25 rfl) (.tmp rfl rfl .nil)) .more rfl .nil trivial
    refine GW.sr rfl rfl ?_
    refine GL.o rfl (S1.mvI rfl) ?_
    refine GL.o rfl (S1.lss rfl rfl) ?_
    refine GL.o rfl (S1.asB rfl) ?_
    refine GL.dn rfl ?_
    refine GW.toD rfl rfl (fun w20 => ?_) (fun w20 => ?_)
    refine GW.sr rfl rfl ?_
    refine GL.o rfl (S1.ldW ag25 rfl (.at (.s .z)) rfl) ?_
    refine GL.o rfl (S1.stA ag25 rfl rfl rfl rfl (by repeat constructor) (.s .z)) ?_
    refine GL.o rfl (S1.asI rfl) ?_
    refine GL.dn rfl ?_
    refine GW.toRet rfl ?_
    refine GQ.outR ?_
    refine GQ.onR ?_
    (exfalso; omega)
    refine GW.toSkip rfl ?_
    refine GQ.outN ?_
    refine GQ.on ?_
    refine GW.sr rfl rfl ?_
    refine GL.opN rfl .no (SN.al zc23) (fun a21 => ?_)
    refine GL.dn rfl ?_
    refine GW.sr rfl rfl ?_
    refine GL.opN rfl .no (SN.al zc93) (fun a22 => ?_)
    refine GL.dn rfl ?_
    refine GW.sr rfl rfl ?_
    refine GL.o rfl (S1.mf .n (.c (v := (.pointer _)) rfl (.c (v := (.pointer _)) rfl (.c (v := (.pointer _)) rfl .n)))) ?_
    refine GL.o rfl (S1.st (u := (.func _ _ _)) sc93 rfl rfl rfl (by repeat constructor) .z) ?_
    refine GL.dn rfl ?_
    refine GW.toSeq rfl ?_
    refine GW.toDrw mx rfl ?_
    refine GD.o rfl (S1.ld sc93 rfl (.at .z) rfl) rfl ?_
    refine GD.o rfl (S1.ld sc72 rfl (.at (.s (.s .z))) rfl) rfl ?_
    (exfalso; omega)
end
end Go.Proofs.Ytenkebdjlajanaa
namespace Go.Proofs.Ytenkebdjlajanaa
open Go Go.E
set_option maxRecDepth 100000
set_option maxHeartbeats 4000000

section
variable {h : EH} {hr : RO} {qa wa na : Option Addr} {qn qc wn wc nn nc : Nat} {lo hi : Int} {r c m : Int}

theorem ct37m {a : Option Addr} {n c : Nat} (hR : ∀ b o, hr b = some o → h[b]? = some o) (hc : Cell hr (.sl ly3) (.slice a n c)) :
    Ct Try.prog 37 ⟨[.int .i64 lo, .int .i64 hi, .slice a n c]⟩ h [] (fun r : Bool => .bool r) (fun r => r = false → ∀ k, k < n → outB lo hi (ie hr a (k * 1 + 0)) = false) (fun _ => []) := by
  have hl := hc.le
  rcases Nat.eq_zero_or_pos n with h0 | h0
  · subst h0
    exact (ct37 (vs := []) (opn := none) (wr := true) (b := 0) (o := 0) (x := fun _ => 0) (by omega) (fun q => absurd q (by omega))).mono fun r q => ⟨r, rfl, fun _ k hk => absurd hk (by omega), rfl⟩
  · obtain ⟨e1, ⟨opn, wr, e2, _⟩, _⟩ := hc.hit h0
    exact (ct37 (vs := rv hr a) (x := fun k => ie hr a (k * 1 + 0)) (by omega) (fun _ => ⟨e1, hR _ _ e2, fun k hk => hc.atE hk (d := 0) (l := .int .i64) rfl⟩)).mono fun r q => ⟨r, rfl, q.1, rfl⟩

theorem ct47v {s : Int} {pv xv : Value} (hR : ∀ b o, hr b = some o → h[b]? = some o) (hc : 1 ≤ c ∧ c ≤ 6) (h2 : Cell hr (.sl wy23) pv) (h3 : Cell hr (.sl wy3) xv) (hs : 0 ≤ s ∧ s ≤ sn pv) :
    Ct Try.prog 47 ⟨[.agg ⟨[.int .i64 r, .int .i64 c, .int .i64 m]⟩, pv, .int .i64 s, xv]⟩ h [] (fun x : Bool => .bool x) (fun _ => True) (fun _ => []) := by
  obtain ⟨pa, pn, pc, rfl⟩ : ∃ a n m, pv = .slice a n m := by cases h2 <;> exact ⟨_, _, _, rfl⟩
  obtain ⟨xa, xn, xc, rfl⟩ : ∃ a n m, xv = .slice a n m := by cases h3 <;> exact ⟨_, _, _, rfl⟩
  exact ct47 hR hc hs h2 h3

theorem _root_.Go.E.NNR.sn {v : Value} {E : Ents} {n : Nat} {ps : List IRw} (o : NNR v E n ps) : Go.E.sn v = n := by cases o <;> rfl

structure Dw where
  v : Value
  E : Ents
  ps : List IRw
  I : Ents
  es : List MapEntry
  cl : Nat


theorem ct24 (hR : ∀ b o, hr b = some o → h[b]? = some o) (h1 : Cell hr (.sl ly71) (.slice qa qn qc)) (h2 : Cell hr (.sl ly3) (.slice wa wn wc)) (h3 : Cell hr (.sl ly3) (.slice na nn nc)) :
    Ct Try.prog 24 ⟨[.agg ⟨[.slice qa qn qc, .slice wa wn wc, .int .i64 lo, .int .i64 hi]⟩, .agg ⟨[.int .i64 r, .int .i64 c, .int .i64 m]⟩, .slice na nn nc]⟩ h [] (fun x : Value × Ents × Nat × List IRw × Int => .tuple ⟨[x.1, .int .i64 x.2.2.2.2]⟩) (fun x => NNR x.1 x.2.1 x.2.2.1 x.2.2.2.1 ∧ (∀ p ∈ x.2.2.2.1, IRwOk 16 p) ∧ x.2.2.1 ≤ 30) (fun x => x.2.1 ++ inn x.2.2.2.1) := by
  have hl3 := h3.le
  refine Ct.go Try.func24 rfl rfl co24 (Hp.start hR) ?_
  refine GW.sr rfl rfl ?_
  refine GL.opN rfl .no (SN.bx (u := .agg ⟨_⟩) rfl .agg) (fun a1 => ?_)
  refine GL.opN rfl .no (SN.bx (u := .agg ⟨_⟩) rfl .agg) (fun a2 => ?_)
  refine GL.o rfl (S1.asL rfl) ?_
  refine GL.o rfl (S1.asI rfl) ?_
  refine GL.dn rfl ?_
  refine GW.toScope rfl ?_
  refine GW.sr rfl rfl ?_
  refine GL.o rfl (S1.ldW ag27 rfl (.at (.s .z)) rfl) ?_
  refine GL.o rfl (S1.ldW ag29 rfl (.at .z) rfl) ?_
  refine GL.o rfl (S1.mvL rfl) ?_
  refine GL.o rfl (S1.len el23 rfl) ?_
  refine GL.call rfl .no fo46 .nil (fun h H => ct46 H.rom h1 h2) (.d (.c (v := (.agg _)) rfl (.c (v := (.agg _)) rfl (.c (v := (.int _ _)) rfl .n)))) (fun x46 q46 => ?_)
  rcases x46 with x | e
  · have S : PaOk hr qa qn wn ∧ Cell hr (.sl ly71) (.slice qa qn qc) ∧ Cell hr (.sl ly3) (.slice wa wn wc) ∧ x.ws.length = qn := ⟨q46.1.1, h1, h2, q46.1.2⟩
    have hc6 := q46.2.1
    have hs30 := q46.2.2
    have hq16 := S.1.q16
    have him0 : IMF 6 (V75 qn (ptQ hr qa) (wtQ x.ws) lo hi) [] := .nil
    have htot : gQ hr qa qn x.ws lo hi (qn - 0) (bgL hr wa wn) ≤ 65536 := gC_16 (by omega)
    refine GL.o rfl (S1.mvT rfl) ?_
    refine GL.o rfl (S1.ext (v := (.pointer _)) rfl rfl) ?_
    refine GL.o rfl (S1.ext (v := (.int _ _)) rfl rfl) ?_
    refine GL.o rfl (S1.asP rfl) ?_
    refine GL.o rfl (S1.asI rfl) ?_
    refine GL.dn rfl ?_
    refine GW.toSeq rfl ?_
    refine GW.toBlock rfl ?_
    refine GW.sr rfl rfl ?_
    refine GL.o rfl (S1.mvI rfl) ?_
    refine GL.o rfl (S1.neq rfl rfl) ?_
    refine GL.o rfl (S1.asB rfl) ?_
    refine GL.dn rfl ?_
    refine GW.toF rfl rfl ?_
    refine GW.sr rfl rfl ?_
    refine GL.o rfl (S1.mvL rfl) ?_
    refine GL.call rfl .no fo37 .nil (fun h H => ct37m H.rom h3) (.d (.c (v := (.int _ _)) rfl (.c (v := (.int _ _)) rfl (.c (v := (.slice _ _ _)) rfl .n)))) (fun r37 q37 => ?_)
    refine GL.o rfl (S1.asB rfl) ?_
    refine GL.dn rfl ?_
    refine GW.toC rfl rfl (fun w5 => ?_) (fun w5 => ?_)
    refine GW.sr rfl rfl ?_
    refine GL.o rfl (S1.asL rfl) ?_
    refine GL.o rfl (S1.asI rfl) ?_
    refine GL.dn rfl ?_
    refine GW.toRet rfl ?_
    refine GQ.outR ?_
    refine GQ.onR ?_
    refine GQ.retT (nilS, [], 0, [], _) (.tmp rfl rfl (.tmp rfl rfl .nil)) .more rfl .nil ⟨.nil, by simp, Nat.zero_le _⟩
    refine GW.toSkip rfl ?_
    refine GQ.outN ?_
    refine GQ.on ?_
    refine GW.sr rfl rfl ?_
    refine GL.o rfl (S1.mvP rfl) ?_
    refine GL.o rfl (S1.mvP rfl) ?_
    refine GL.call rfl .no fo43 .nil (fun h H => ct43 (BkOk.mkH S H .z (.s .z))) (.d (.c (v := (.pointer _)) rfl .n)) (fun _ _ => ?_)
    refine GL.call rfl .no fo42 (show Take _ [(x.mb, _)] _ from (.cons (.s (.s .z)) .nil)) (fun h H => ct42 S (qn + 1) 0 _ _ _ _ (H.give (ps := (x.mb, .map _ _) :: K42 qa qn qc wa wn wc lo hi x.bb x.wr x.mb x.ws) (.cons (.s (.s .z)) (.cons .z (.cons .z .nil)))) bgL_len bgL_0 (by omega) (by omega) (by assumption)) (.d (.c (v := (.pointer _)) rfl (.c (v := (.agg _)) rfl .n))) (fun x42 him42 => ?_)
    refine GL.o rfl (S1.asI rfl) ?_
    refine GL.dn rfl ?_
    refine GW.toSeq rfl ?_
    refine GW.sr rfl rfl ?_
    refine GL.o rfl (S1.mvI rfl) ?_
    refine GL.o rfl (S1.eql rfl rfl) ?_
    refine GL.dn rfl ?_
    refine GW.toD rfl rfl (fun w8 => ?_) (fun w8 => ?_)
    refine GW.sr rfl rfl ?_
    refine GL.o rfl (S1.asL rfl) ?_
    refine GL.o rfl (S1.asI rfl) ?_
    refine GL.dn rfl ?_
    refine GW.toRet rfl ?_
    refine GQ.onR ?_
    refine GQ.retT (nilS, [], 0, [], _) (.tmp rfl rfl (.tmp rfl rfl .nil)) .more rfl .nil ⟨.nil, by simp, Nat.zero_le _⟩
    refine GW.toSkip rfl ?_
    refine GQ.on ?_
    refine GW.toSeq rfl ?_
    refine GW.toLabel rfl ?_
    refine GQ.on ?_
    refine GW.toSeq rfl ?_
    refine GW.sr rfl rfl ?_
    refine GL.o rfl (S1.mvL rfl) ?_
    refine GL.o rfl (S1.len el23 rfl) ?_
    refine GL.o rfl (S1.mvI rfl) ?_
    refine GL.dn rfl ?_
    refine GW.toBlock rfl ?_
    have hq37 : ∀ k, k < nn → 0 ≤ ie hr na (k * 1 + 0) ∧ ie hr na (k * 1 + 0) ≤ 1000000000 := fun k hk => outB_f (q37 (by assumption) k hk)
    have hT0 : 0 < gQ hr qa qn x.ws lo hi (qn - 0) (bgL hr wa wn) := by omega
    refine GW.toLoop (X := Nat × Dw) (fun y => [(4, .pointer (some ⟨a2, 0, none⟩)), (6, y.2.v), (8, .pointer (some ⟨x.bb, 0, none⟩)), (9, .int .i64 (gQ hr qa qn x.ws lo hi (qn - 0) (bgL hr wa wn) : Nat)), (35, .slice na nn nc), (36, .int .i64 nn), (37, .int .i64 y.1)]) (fun y => (a2, .cells [.int .i64 r, .int .i64 c, .int .i64 m] none true) :: (x.mb, .map y.2.es y.2.cl) :: (x.bb, KB qa qn qc wa wn wc lo hi x.wr x.mb) :: (x.wr, opRow (ints x.ws) 1) :: (y.2.E ++ y.2.I)) (fun y => y.1 ≤ nn ∧ NNR y.2.v y.2.E y.1 y.2.ps ∧ (∀ p ∈ y.2.ps, IRwOk 16 p) ∧ y.2.I = inn y.2.ps ∧ IMF 6 (V75 qn (ptQ hr qa) (wtQ x.ws) lo hi) y.2.es) (fun y => nn - y.1) rfl (0, ⟨nilS, [], [], [], x42.1, x42.2⟩) ⟨Nat.zero_le _, .nil, by simp, rfl, him42⟩ (.c rfl (.c rfl (.c rfl (.c rfl (.c rfl (.c rfl (.c rfl .n))))))) (.cons (.s (.s (.s .z))) (.cons .z (.cons .z (.cons .z .nil)))) ?_
    rintro ⟨k, v, E, ps, I, es, cl⟩ f ⟨hk, no, hps, hI, him⟩
    dsimp only at hk no hps hI him ⊢
    subst hI
    have hkq := hq37 k
    refine GW.sr rfl rfl ?_
    refine GL.o rfl (S1.lss rfl rfl) ?_
    refine GL.dn rfl ?_
    refine GW.toSeq rfl ?_
    refine GW.toD rfl rfl (fun w9 => ?_) (fun w9 => ?_)
    refine GW.toSkip rfl ?_
    refine GQ.on ?_
    refine GW.toSeq rfl ?_
    refine GW.toBlock rfl ?_
    refine GW.sr rfl rfl ?_
    refine GL.o rfl (S1.mvI rfl) ?_
    refine GL.o rfl (S1.ixR el23 h3 rfl rfl (by omega)) ?_
    refine GL.o rfl (S1.ldCI sc3 (z := 1) h3 rfl (m := k) (by omega) rfl (d := 0) rfl rfl) ?_
    refine GL.o rfl (S1.asI rfl) ?_
    refine GL.o rfl (S1.asI rfl) ?_
    refine GL.dn rfl ?_
    refine GW.toSeq rfl ?_
    refine GW.sr rfl rfl ?_
    refine GL.o rfl (S1.mvI rfl) ?_
    refine GL.o rfl (S1.mvI rfl) ?_
    refine GL.dn rfl ?_
    refine GW.toBlock rfl ?_
    rotate_left
    refine GW.toExit rfl ?_
    refine GQ.onE ?_
    refine GQ.onE ?_
    refine GQ.outH ?_
    refine GQ.on ?_
    refine GW.sr rfl rfl ?_
    refine GL.o rfl (S1.mv (v := (v)) rfl) ?_
    refine GL.o rfl (S1.as (v := (v)) rfl) ?_
    refine GL.o rfl (S1.asI rfl) ?_
    refine GL.dn rfl ?_
    refine GW.toRet rfl ?_
    refine GQ.retT (v, E, k, ps, 0) (.tmp rfl rfl (.tmp rfl rfl .nil)) .more rfl (.app (.ts (.ts (.ts (.ts .tzA)))) (.ts (.ts (.ts (.ts .tz))))) ⟨no, hps, by dsimp only; omega⟩
    have hk0 := hkq (by omega)
    have hnum : ∀ j : Nat, 0 ≤ (ie hr na (k * 1 + 0) + (j : Int)).tmod ((gQ hr qa qn x.ws lo hi (qn - 0) (bgL hr wa wn) : Nat) : Int) ∧ (ie hr na (k * 1 + 0) + (j : Int)).tmod ((gQ hr qa qn x.ws lo hi (qn - 0) (bgL hr wa wn) : Nat) : Int) < ((gQ hr qa qn x.ws lo hi (qn - 0) (bgL hr wa wn) : Nat) : Int) := fun j => ⟨Int.tmod_nonneg _ (by omega), Int.tmod_lt_of_pos _ (by omega)⟩
    refine GW.toLoop (X := Nat × List MapEntry × Nat) (fun y => [(4, .pointer (some ⟨a2, 0, none⟩)), (6, v), (8, .pointer (some ⟨x.bb, 0, none⟩)), (9, .int .i64 (gQ hr qa qn x.ws lo hi (qn - 0) (bgL hr wa wn) : Nat)), (10, .int .i64 k), (11, .int .i64 (ie hr na (k * 1 + 0))), (35, .slice na nn nc), (36, .int .i64 nn), (37, .int .i64 k), (42, .int .i64 (gQ hr qa qn x.ws lo hi (qn - 0) (bgL hr wa wn) : Nat)), (43, .int .i64 y.1)]) (fun y => (a2, .cells [.int .i64 r, .int .i64 c, .int .i64 m] none true) :: (x.mb, .map y.2.1 y.2.2) :: (x.bb, KB qa qn qc wa wn wc lo hi x.wr x.mb) :: (x.wr, opRow (ints x.ws) 1) :: (E ++ inn ps)) (fun y => y.1 ≤ gQ hr qa qn x.ws lo hi (qn - 0) (bgL hr wa wn) ∧ IMF 6 (V75 qn (ptQ hr qa) (wtQ x.ws) lo hi) y.2.1) (fun y => gQ hr qa qn x.ws lo hi (qn - 0) (bgL hr wa wn) - y.1) rfl (0, es, cl) ⟨Nat.zero_le _, him⟩ (.c rfl (.c rfl (.c rfl (.c rfl (.c rfl (.c rfl (.c rfl (.c rfl (.c rfl (.c rfl (.c rfl .n))))))))))) .tz ?_
    rintro ⟨j, es, cl⟩ f ⟨hj, him⟩
    dsimp only at hj him ⊢
    refine GW.sr rfl rfl ?_
    refine GL.o rfl (S1.lss rfl rfl) ?_
    refine GL.dn rfl ?_
    refine GW.toSeq rfl ?_
    refine GW.toD rfl rfl (fun w10 => ?_) (fun w10 => ?_)
    refine GW.toSkip rfl ?_
    refine GQ.on ?_
    refine GW.toSeq rfl ?_
    refine GW.toBlock rfl ?_
    refine GW.sr rfl rfl ?_
    refine GL.o rfl (S1.mvI rfl) ?_
    refine GL.o rfl (S1.asI rfl) ?_
    refine GL.dn rfl ?_
    refine GW.sr rfl rfl ?_
    refine GL.o rfl (S1.mvP rfl) ?_
    refine GL.o rfl (S1.mvI rfl) ?_
    refine GL.o rfl (S1.mvI rfl) ?_
    refine GL.o rfl (S1.addI rfl rfl (by omega) (by omega)) ?_
    refine GL.o rfl (S1.mvI rfl) ?_
    refine GL.o rfl (S1.rem rfl rfl (by omega)) ?_
    refine GL.call rfl .no fo44 (show Take _ [(x.mb, _)] _ from (.cons (.s .z) .nil)) (fun h H => ct44 S (H.give (ps := (x.mb, .map _ _) :: K42 qa qn qc wa wn wc lo hi x.bb x.wr x.mb x.ws) (.cons (.s .z) (.cons (.s .z) (.cons (.s .z) .nil)))) (by assumption) (hnum j).1 (hnum j).2) (.d (.c (v := (.pointer _)) rfl (.c (v := (.int _ _)) rfl .n))) (fun x44 q44 => ?_)
    refine GL.o rfl (S1.as (v := (x44.fst.1)) rfl) ?_
    refine GL.dn rfl ?_
    refine GW.sr rfl rfl ?_
    refine GL.o rfl (S1.ldW ag29 rfl (.at (.s (.sA .z))) rfl) ?_
    refine GL.o rfl (S1.mv (v := (v)) rfl) ?_
    refine GL.o rfl (S1.mvI rfl) ?_
    refine GL.o rfl (S1.mv (v := (x44.fst.1)) rfl) ?_
    refine GL.call rfl .no fo47 .nil (fun h H => ct47v (H.asRom .nil (fun _ h => h)).rom hc6 (NNR.cell no hps (by decide) rfl (by simp [wy3]) (by omega) H.nd (fun p hp => by simp [hp]) (fun p hp => by simp [hp])) ((q44.1.or rfl (by simp [wy3]) (by have := q44.2.1; omega)).cell H.nd (fun p hp => by simp [hp])) ⟨by omega, by rw [no.sn]; omega⟩) (.d (.c (v := (.agg _)) rfl (.c (v := (v)) rfl (.c (v := (.int _ _)) rfl (.c (v := (x44.fst.1)) rfl .n))))) (fun x47 _ => ?_)
    refine GL.dn rfl ?_
    refine GW.toC rfl rfl (fun w13 => ?_) (fun w13 => ?_)
    refine GW.sr rfl rfl ?_
    refine GL.o rfl (S1.mv (v := (v)) rfl) ?_
    refine GL.o rfl (S1.mv (v := (x44.fst.1)) rfl) ?_
    rotate_left
    refine GW.toSkip rfl ?_
    refine GQ.outN ?_
    refine GQ.on ?_
    refine GW.toReg rfl ?_
    refine GL.o rfl (S1.inc rfl rfl (by omega)) ?_
    refine GL.o rfl (S1.mvI rfl) ?_
    refine GL.done rfl ?_
    refine GQ.nextT (j + 1, x44.2.1, x44.2.2) (.c rfl (.c rfl (.c rfl (.c rfl (.c rfl (.c rfl (.c rfl (.c rfl (.c rfl (.c rfl (.c rfl .n))))))))))) (.cons (.s (.sA .z)) (.cons .z (.cons (.sA .z) (.cons (.sA .z) (.app (.skA .tzA) (.skA .tz)))))) ⟨(by first | omega | (dsimp only; omega)), q44.2.2⟩ (by first | omega | (dsimp only; omega))
    refine GW.toExit rfl ?_
    refine GQ.onE ?_
    refine GQ.onE ?_
    refine GQ.outH ?_
    refine GQ.on ?_
    refine GW.sr rfl rfl ?_
    refine GL.o rfl (S1.asL rfl) ?_
    refine GL.o rfl (S1.asI rfl) ?_
    refine GL.dn rfl ?_
    refine GW.toRet rfl ?_
    refine GQ.outR ?_
    refine GQ.onR ?_
    refine GQ.onR ?_
    refine GQ.outR ?_
    refine GQ.onR ?_
    refine GQ.retT (nilS, [], 0, [], _) (.tmp rfl rfl (.tmp rfl rfl .nil)) .more rfl .nil ⟨.nil, by simp, Nat.zero_le _⟩
    refine GL.opN rfl .no (SN.bs el30 ez30 (.c (v := x44.1.v) rfl q44.1.okv .n) rfl rfl) (fun b1 => ?_)
    refine GL.opN rfl .no (SN.apNN (p := ⟨x44.1.v, x44.1.E, x44.1.m, x44.1.l⟩) ap30_30 no rfl (.row rfl (.at .z) rfl) (by omega) q44.1.okv (.ts (.ts (.skA (.ts (.ts (.ts .tzA))))))) (fun b2 => ?_)
    have hps' : ∀ p ∈ ps ++ [(⟨x44.1.v, x44.1.E, x44.1.m, x44.1.l⟩ : IRw)], IRwOk 16 p := fun p hp => by
      rcases List.mem_append.1 hp with h | h
      · exact hps p h
      · rw [List.mem_singleton.1 h]; exact ⟨q44.1, q44.2.1⟩
    have hI' : x44.1.E ++ inn ps = inn (ps ++ [(⟨x44.1.v, x44.1.E, x44.1.m, x44.1.l⟩ : IRw)]) := by rw [inn_snoc]
    refine GL.o rfl (S1.asL rfl) ?_
    refine GL.dn rfl ?_
    refine GW.toExit rfl ?_
    refine GQ.outM rfl ?_
    refine GQ.onE ?_
    refine GQ.onE ?_
    refine GQ.outM rfl ?_
    refine GQ.onE ?_
    refine GQ.outH ?_
    refine GQ.on ?_
    refine GW.toReg rfl ?_
    refine GL.o rfl (S1.inc rfl rfl (by omega)) ?_
    refine GL.o rfl (S1.mvI rfl) ?_
    refine GL.done rfl ?_
    refine GQ.nextT (k + 1, ⟨rowS b2 (k + 1), [(b2, opRow ((ps ++ [(⟨x44.1.v, x44.1.E, x44.1.m, x44.1.l⟩ : IRw)]).map (·.v)) 1)], ps ++ [(⟨x44.1.v, x44.1.E, x44.1.m, x44.1.l⟩ : IRw)], x44.1.E ++ inn ps, x44.2.1, x44.2.2⟩) (.c rfl (.c rfl (.c rfl (.c rfl (.c rfl (.c rfl (.c rfl .n))))))) (show Take _ ((a2, _) :: (x.mb, _) :: (x.bb, _) :: (x.wr, _) :: (b2, _) :: (x44.1.E ++ inn ps)) _ from (.cons (.s (.s (.s (.sA .z)))) (.cons (.s (.s .z)) (.cons (.s (.s (.sA .z))) (.cons (.s (.s (.sA .z))) (.cons .z (.app (.ts .tzA) (.ts .tz)))))))) ⟨(by first | omega | (dsimp only; omega)), no.app, hps', hI', q44.2.2⟩ (by first | omega | (dsimp only; omega))
  · have he : e ≠ 0 := q46
    refine GL.o rfl (S1.mvT rfl) ?_
    refine GL.o rfl (S1.ext (v := (.pointer _)) rfl rfl) ?_
    refine GL.o rfl (S1.ext (v := (.int _ _)) rfl rfl) ?_
    refine GL.o rfl (S1.asP rfl) ?_
    refine GL.o rfl (S1.asI rfl) ?_
    refine GL.dn rfl ?_
    refine GW.toSeq rfl ?_
    refine GW.toBlock rfl ?_
    refine GW.sr rfl rfl ?_
    refine GL.o rfl (S1.mvI rfl) ?_
    refine GL.o rfl (S1.neq rfl rfl) ?_
    refine GL.o rfl (S1.asB rfl) ?_
    refine GL.dn rfl ?_
    refine GW.toD rfl rfl (fun w17 => ?_) (fun w17 => ?_)
    refine GW.sr rfl rfl ?_
    refine GL.o rfl (S1.mvI rfl) ?_
    refine GL.o rfl (S1.asL rfl) ?_
    refine GL.o rfl (S1.asI rfl) ?_
    refine GL.dn rfl ?_
    refine GW.toRet rfl ?_
    refine GQ.outR ?_
    refine GQ.onR ?_
    refine GQ.retT (nilS, [], 0, [], _) (.tmp rfl rfl (.tmp rfl rfl .nil)) .more rfl .nil ⟨.nil, by simp, Nat.zero_le _⟩
    refine GW.sr rfl rfl ?_
    refine GL.o rfl (S1.mvL rfl) ?_
    refine GL.call rfl .no fo37 .nil (fun h H => ct37m H.rom h3) (.d (.c (v := (.int _ _)) rfl (.c (v := (.int _ _)) rfl (.c (v := (.slice _ _ _)) rfl .n)))) (fun r37 q37 => ?_)
    refine GL.o rfl (S1.asB rfl) ?_
    refine GL.dn rfl ?_
    refine GW.toC rfl rfl (fun w19 => ?_) (fun w19 => ?_)
    refine GW.sr rfl rfl ?_
    refine GL.o rfl (S1.asL rfl) ?_
    refine GL.o rfl (S1.asI rfl) ?_
    refine GL.dn rfl ?_
    refine GW.toRet rfl ?_
    refine GQ.outR ?_
    refine GQ.onR ?_
    (exfalso; omega)
    refine GW.toSkip rfl ?_
    refine GQ.outN ?_
    refine GQ.on ?_
    refine GW.sr rfl rfl ?_
    refine GL.o rfl (S1.mvP rfl) ?_
    refine GL.o rfl (S1.mvP rfl) ?_
    (exfalso; omega)
end
end Go.Proofs.Ytenkebdjlajanaa
namespace Go.Proofs.Ytenkebdjlajanaa
open Go Go.E
set_option maxRecDepth 100000
set_option maxHeartbeats 4000000

def inR (qs : List (Value × Ents × Nat)) : Ents := qs.flatMap (·.2.1)

section
variable {h : EH}

theorem cw15o {b o : Nat} {bs : List Value} {opn : Option Nat} {v : Value} {E : Ents} {m : Nat} (hv : bs[o]? = some v) (hO : OR wy3 v E m) (H : Hp (fun _ => none) h (b :: E.map (·.1)) ((b, .cells bs opn true) :: E) h) :
    Ct Try.prog 15 ⟨[.pointer (some ⟨b, o, none⟩)]⟩ h (b :: E.map (·.1)) (fun _ : Ents => .tuple #[]) (fun E' => OR wy3 v E' m) (fun E' => (b, .cells bs opn true) :: E') := by
  obtain ⟨a, cp, rfl⟩ := hO.eta
  refine Ct.go Try.func15 rfl rfl co15 H ?_
  refine GW.toReg rfl ?_
  refine GL.o rfl (S1.mvP rfl) ?_
  refine GL.o rfl (S1.nc rfl) ?_
  refine GL.o rfl (S1.ld sc23 rfl (.at .z) (hv)) ?_
  refine GL.call rfl .no fo40 (ps := E) (.ts .tz) (fun h' H' => cw40 h' _ E m _ hO fo41 we41 (H'.give (ps := E) (.ts .tz))) (.d (.c rfl (.c rfl .n))) (fun E' q => ?_)
  refine GL.done rfl ?_
  refine GQ.retN _ .nil .z rfl ?_ (.cons (.sA .z) .tz)
  (simp [*]; done)

theorem cw49z : Ct Try.prog 49 ⟨[nilS, .func (.func 15) ⟨[]⟩ ⟨[]⟩]⟩ h [] (fun _ : Unit => .tuple #[]) (fun _ => True) (fun _ => []) := by
  refine Ct.go Try.func49 rfl rfl co49 (Hp.start (hr := fun _ => none) (by simp)) ?_
  refine GW.sr rfl rfl ?_
  refine GL.o rfl (S1.asI rfl) ?_
  refine GL.dn rfl ?_
  refine GW.toBlock rfl ?_
  refine GW.toLoop (X := Unit) (fun _ => [(0, nilS), (1, .func (.func 15) ⟨[]⟩ ⟨[]⟩), (4, .int .i64 0)]) (fun _ => []) (fun _ => True) (fun _ => 0) rfl () trivial (.c rfl (.c rfl (.c rfl .n))) .nil ?_
  rintro ⟨⟩ f _
  refine GW.toSeq rfl ?_
  refine GW.sr rfl rfl ?_
  refine GL.o rfl (S1.mvI rfl) ?_
  refine GL.o rfl (S1.mvL rfl) ?_
  refine GL.o rfl (S1.len el30 rfl) ?_
  refine GL.o rfl (S1.lss rfl rfl) ?_
  refine GL.dn rfl ?_
  refine GW.toF rfl rfl ?_
  refine GW.toExit rfl ?_
  refine GQ.onE ?_
  refine GQ.onE ?_
  refine GQ.outH ?_
  refine GQ.retN () .nil .z ?_ ?_ .nil
  rfl
  exact trivial

theorem cw49n {R n : Nat} {vs : List Value} {opn : Option Nat} {qs : List (Value × Ents × Nat)} {J : Ents} (hn : n ≤ 1073741824) (hvs : vs = qs.map (·.1)) (hq : qs.length = n) (hO : ∀ q ∈ qs, OR wy3 q.1 q.2.1 q.2.2) (hJ : J.Perm (inR qs)) (H : Hp (fun _ => none) h (((R, .cells vs opn true) :: J : Ents).map (·.1)) ((R, .cells vs opn true) :: J) h) :
    Ct Try.prog 49 ⟨[.slice (some ⟨R, 0, none⟩) n n, .func (.func 15) ⟨[]⟩ ⟨[]⟩]⟩ h (((R, .cells vs opn true) :: J : Ents).map (·.1)) (fun _ : Unit => .tuple #[]) (fun _ => True) (fun _ => []) := by
  have hvl : vs.length = n := by rw [hvs, List.length_map]; exact hq
  refine Ct.go Try.func49 rfl rfl co49 (H.perm (hJ.cons _)) ?_
  refine GW.sr rfl rfl ?_
  refine GL.o rfl (S1.asI rfl) ?_
  refine GL.dn rfl ?_
  refine GW.toBlock rfl ?_
  refine GW.toLoop (X := Nat × List (Value × Ents × Nat) × Ents) (fun x => [(0, .slice (some ⟨R, 0, none⟩) n n), (1, .func (.func 15) ⟨[]⟩ ⟨[]⟩), (4, .int .i64 x.1)]) (fun x => (R, .cells vs opn true) :: (inR x.2.1 ++ x.2.2)) (fun x => x.1 + x.2.1.length = n ∧ vs.drop x.1 = x.2.1.map (·.1) ∧ ∀ q ∈ x.2.1, OR wy3 q.1 q.2.1 q.2.2) (fun x => n - x.1) rfl (0, qs, []) ⟨by dsimp only; omega, hvs, hO⟩ (.c rfl (.c rfl (.c rfl .n))) (show Take _ ((R, .cells vs opn true) :: (inR qs ++ [])) _ from by rw [List.append_nil]; exact .cons .z .tz) ?_
  rintro ⟨k, rs, D⟩ f ⟨hk, hd, hO⟩
  dsimp only at hk hd hO ⊢
  cases rs with
  | nil =>
    have hkn : k = n := hk
    refine GW.toSeq rfl ?_
    refine GW.sr rfl rfl ?_
    refine GL.o rfl (S1.mvI rfl) ?_
    refine GL.o rfl (S1.mvL rfl) ?_
    refine GL.o rfl (S1.len el30 rfl) ?_
    refine GL.o rfl (S1.lss rfl rfl) ?_
    refine GL.dn rfl ?_
    refine GW.toD rfl rfl (fun w1 => ?_) (fun w1 => ?_)
    refine GW.toSkip rfl ?_
    refine GQ.on ?_
    refine GW.toSeq rfl ?_
    refine GW.toBlock rfl ?_
    refine GW.toReg rfl ?_
    refine GL.o rfl (S1.mvF rfl) ?_
    refine GL.o rfl (S1.mvL rfl) ?_
    refine GL.o rfl (S1.mvI rfl) ?_
    refine GL.o rfl (S1.ixN el30 rfl rfl (by omega)) ?_
    (exfalso; omega)
    refine GW.toExit rfl ?_
    refine GQ.onE ?_
    refine GQ.onE ?_
    refine GQ.outH ?_
    refine GQ.retN () .nil .z ?_ ?_ .nil
    rfl
    exact trivial
  | cons q rs =>
    have hk' : k + (rs.length + 1) = n := hk
    have hv : vs[0 + k * 1]? = some q.1 := by
      have := congrArg List.head? hd
      simpa using this
    rw [show inR (q :: rs) ++ D = q.2.1 ++ (inR rs ++ D) by simp [inR]]
    refine GW.toSeq rfl ?_
    refine GW.sr rfl rfl ?_
    refine GL.o rfl (S1.mvI rfl) ?_
    refine GL.o rfl (S1.mvL rfl) ?_
    refine GL.o rfl (S1.len el30 rfl) ?_
    refine GL.o rfl (S1.lss rfl rfl) ?_
    refine GL.dn rfl ?_
    refine GW.toD rfl rfl (fun w3 => ?_) (fun w3 => ?_)
    refine GW.toSkip rfl ?_
    refine GQ.on ?_
    refine GW.toSeq rfl ?_
    refine GW.toBlock rfl ?_
    refine GW.toReg rfl ?_
    refine GL.o rfl (S1.mvF rfl) ?_
    refine GL.o rfl (S1.mvL rfl) ?_
    refine GL.o rfl (S1.mvI rfl) ?_
    refine GL.o rfl (S1.ixN el30 rfl rfl (by omega)) ?_
    refine GL.call rfl .no fo15 (show Take _ ((R, _) :: q.2.1) _ from (.cons .z .tzA)) (fun h H => cw15o (bs := vs) (o := 0 + k * 1) hv (hO _ (.head _)) (H.give (ps := (R, _) :: q.2.1) (.cons .z .tzA))) (.v (fs := []) (cs := []) rfl (.c (v := (.pointer _)) rfl .n)) (fun E' _ => ?_)
    refine GL.done rfl ?_
    refine GQ.outN ?_
    refine GQ.on ?_
    refine GW.toReg rfl ?_
    refine GL.o rfl (S1.mvI rfl) ?_
    refine GL.o rfl (S1.inc rfl rfl (by omega)) ?_
    refine GL.o rfl (S1.asI rfl) ?_
    refine GL.done rfl ?_
    refine GQ.nextT (k + 1, rs, E' ++ D) (.c rfl (.c rfl (.c rfl .n))) (show Take _ ((R, .cells vs opn true) :: (inR rs ++ (E' ++ D))) _ from (.cons .z (.app (.skA .tzA) (.app .tzA .tz)))) ⟨by dsimp only; omega, by dsimp only; rw [← List.tail_drop, hd]; rfl, fun q hq => hO q (.tail _ hq)⟩ (by dsimp only; omega)
    refine GW.toExit rfl ?_
    refine GQ.onE ?_
    refine GQ.onE ?_
    refine GQ.outH ?_
    refine GQ.retN () .nil .z ?_ ?_ .nil
    rfl
    exact trivial
end
end Go.Proofs.Ytenkebdjlajanaa
