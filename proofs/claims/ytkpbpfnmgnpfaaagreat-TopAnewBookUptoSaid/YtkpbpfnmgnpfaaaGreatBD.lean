/- B21: contracts: weather. -/
import Derived.Test.YtkpbpfnmgnpfaaaGreatBC
set_option linter.all false
set_option linter.constructorNameAsVariable false
set_option linter.unusedSimpArgs false
set_option linter.unusedVariables false
set_option linter.unusedSectionVars false
set_option linter.unnecessarySimpa false
namespace Go.Proofs.YtkpbpfnmgnpfaaaGreat
open Go Go.E
set_option maxRecDepth 100000
set_option maxHeartbeats 1000000

section
variable {hr : RO} {s : Sch}


theorem ct106 (hln : s.ln ≤ 1073741824) (hc : Cell hr (.sl ly74) (.slice s.ca s.cn s.cc)) : BkH hr 106 s := by
  intro h b y e0 e1 e2 e3 e4 e5 e6 e7 e8 e9 e10 hI hm hp H
  obtain ⟨mb, sr, ar, cl, m, p, tm, ev, lv, kv, pv, lE, kE, pE, ls, kl, ps, si, ac, es⟩ := y
  obtain ⟨n1, n2, n3, lo, hsi, hac, him⟩ := hI
  simp only at hm hp n1 n2 n3 lo hsi hac him
  dsimp only [MB] at H
  have hcl := hc.le
  refine Cp.goC Tryz.func106 rfl rfl co106 H ?_
  refine GW.toSeq rfl ?_
  refine GW.toReg rfl ?_
  refine GL.opN rfl .no (SN.bx (u := (.pointer _)) rfl (.one rfl)) (fun a1 => ?_)
  refine GL.opN rfl .no (SN.bx (u := .agg ⟨_⟩) rfl .agg) (fun a2 => ?_)
  refine GL.done rfl ?_
  refine GQ.on ?_
  refine GW.toSeq rfl ?_
  refine GW.toReg rfl ?_
  refine GL.one rfl .no (S1.fa fa117_7 rfl) ?_
  refine GL.one rfl .no (S1.ld sc3 rfl (.at .z) rfl) ?_
  refine GL.opN rfl .no (SN.bs el32 ez32 (.c (v := (.int _ _)) rfl rfl .n) rfl rfl) (fun a3 => ?_)
  refine GL.call rfl .no fo31 .nil (fun h H => ct31_1 (H.get (by repeat first | exact .z | apply At.s | apply At.sA))) (.d (.c (v := (.int _ _)) rfl (.c (v := (.int _ _)) rfl (.c (v := (.slice _ _ _)) rfl .n)))) (fun _ _ => ?_)
  refine GL.one rfl .no (S1.not rfl) ?_
  refine GL.one rfl .no (S1.mv (v := (.bool _)) rfl) ?_
  refine GL.split 11 rfl (fun w6 => ?_) (fun w6 => ?_)
  refine GL.one rfl (.yes rfl rfl rfl) (S1.fa fa117_8 rfl) ?_
  refine GL.one rfl (.yes rfl rfl rfl) (S1.ld sc3 rfl (.at (.s .z)) rfl) ?_
  refine GL.opN rfl (.yes rfl rfl rfl) (SN.bs el32 ez32 (.c (v := (.int _ _)) rfl rfl .n) rfl rfl) (fun a7 => ?_)
  refine GL.call rfl (.yes rfl rfl rfl) fo31 .nil (fun h H => ct31_1 (H.get (by repeat first | exact .z | apply At.s | apply At.sA))) (.d (.c (v := (.int _ _)) rfl (.c (v := (.int _ _)) rfl (.c (v := (.slice _ _ _)) rfl .n)))) (fun _ _ => ?_)
  refine GL.one rfl (.yes rfl rfl rfl) (S1.not rfl) ?_
  refine GL.one rfl .no (S1.pickT (v := (.bool _)) rfl rfl) ?_
  refine GL.callP rfl .no fo85 .nil (fun h H => ct85) (.d (.c (v := (.bool _)) rfl (.c (v := (.int _ _)) rfl .n))) (fun _ q10 => ?_) (fun e10 q10 => ?_)
  refine GL.done rfl ?_
  refine GQ.on ?_
  refine GW.toSeq rfl ?_
  refine GW.toDrw mx rfl ?_
  refine GD.one rfl .no (S1.ld sc80 rfl (.at (.s (.s (.s .z)))) rfl) rfl ?_
  refine GD.one rfl .no (S1.nc rfl) rfl ?_
  refine GD.one rfl .no (S1.fa fa85_2 rfl) rfl ?_
  refine GD.one rfl .no (S1.ld sc83 rfl (.at (.s (.s (.s (.s .z))))) rfl) rfl ?_
  refine GD.one rfl .no (S1.fa fa117_7 rfl) rfl ?_
  refine GD.one rfl .no (S1.ld sc3 rfl (.at (.s (.s .z))) rfl) rfl ?_
  refine GD.opX rfl .no (SX.lk mp83 rfl rfl (.at (.s (.s (.s (.s (.s .z)))))) (by assumption)) rfl (fun v11 _ => ?_)
  refine GD.one rfl .no (S1.fa fa117_8 rfl) rfl ?_
  refine GD.one rfl .no (S1.ld sc3 rfl (.at (.s (.s .z))) rfl) rfl ?_
  refine GD.one rfl .no (S1.shl rfl rfl (by simp only [outB_ok] at *; omega)) rfl ?_
  refine GD.one rfl .no (S1.bits rfl rfl rfl) rfl ?_
  refine GD.mu rfl .no mp83 rfl rfl rfl (by kernel_rfl) (.s (.s (.s (.s (.s .z))))) (by assumption) (fun es12 cl12 im12 => ?_)
  refine GD.done rfl ?_
  refine GQ.on ?_
  refine GW.toSeq rfl ?_
  refine GW.toReg rfl ?_
  refine GL.one rfl .no (S1.ld sc80 rfl (.at (.s (.s (.s (.s .z))))) rfl) ?_
  refine GL.call rfl .no fo102 .nil (fun h H => ct102) (.d (.c (v := (.pointer _)) rfl .n)) (fun x13 _ => ?_)
  refine GL.done rfl ?_
  refine GQ.on ?_
  refine GW.toBlock rfl ?_
  rotate_left
  refine GQ.onP ?_
  refine GQ.toB ?_
  refine GQ.pan (_, ⟨mb, sr, ar, cl, m, p, tm, ev, lv, kv, pv, lE, kE, pE, ls, kl, ps, si, ac, es⟩) rfl ⟨⟨n1, n2, n3, lo, hsi, hac, him⟩, Nat.le_succ _, Nat.le_add_right _ _⟩ (by repeat first | exact .nil | exact Take.tz | apply Take.cons (by repeat first | exact .z | apply Rem.s | apply Rem.sA) | apply Take.app (by repeat first | exact .nil | exact Take.tzA | exact Take.tz | apply Take.ts | apply Take.skA) | exact Take.tzA | apply Take.ts | apply Take.skA)
  refine GL.skip rfl (.not rfl rfl rfl) ?_
  refine GL.skip rfl (.not rfl rfl rfl) ?_
  refine GL.skip rfl (.not rfl rfl rfl) ?_
  refine GL.skip rfl (.not rfl rfl rfl) ?_
  refine GL.skip rfl (.not rfl rfl rfl) ?_
  refine GL.one rfl .no (S1.pickF (v := (.bool _)) rfl rfl) ?_
  refine GL.callP rfl .no fo85 .nil (fun h H => ct85) (.d (.c (v := (.bool _)) rfl (.c (v := (.int _ _)) rfl .n))) (fun _ q14 => ?_) (fun e14 q14 => ?_)
  exact absurd q14 (by decide)
  refine GQ.onP ?_
  refine GQ.toB ?_
  refine GQ.pan (_, ⟨mb, sr, ar, cl, m, p, tm, ev, lv, kv, pv, lE, kE, pE, ls, kl, ps, si, ac, es⟩) rfl ⟨⟨n1, n2, n3, lo, hsi, hac, him⟩, Nat.le_succ _, Nat.le_add_right _ _⟩ (by repeat first | exact .nil | exact Take.tz | apply Take.cons (by repeat first | exact .z | apply Rem.s | apply Rem.sA) | apply Take.app (by repeat first | exact .nil | exact Take.tzA | exact Take.tz | apply Take.ts | apply Take.skA) | exact Take.tzA | apply Take.ts | apply Take.skA)
  have im12 : IM es12 := by assumption
  cases n1 with
  | nil =>
    refine GW.toRange (Y := Unit) (M := fun _ => (b, .cells (bkC s nilS kv (.slice (some ⟨sr, 0, none⟩) s.cn s.cn) (.slice (some ⟨ar, 0, none⟩) (s.ln + 4) (s.ln + 4)) pv mb tm ev) none true) :: (mb, .map es12 cl12) :: (a2, .cells (EvC e0 e1 e2 e3 e4 e5 e6 e7 e8 e9 e10) none true) :: (a1, .cells [.pointer (some ⟨b, 0, none⟩)] none true) :: (sr, .cells (ints si) none true) :: (ar, .cells (ints ac) none true) :: (kE ++ pE)) (R := fun _ ex => ex = .normal) rfl rfl fo111 (fun k2 k3 d l h1 H1 => ?_) (fun d y ex hR => ?_)
    · generalize hlp : newLoop _ _ _ _ _ _ = lp0 at H1
      refine WF.mono (ct111n (l := l) (bx := x13) (H1.get (by repeat first | exact .z | apply At.s | apply At.sA)) (H1.get (by repeat first | exact .z | apply At.s | apply At.sA))) fun o h2 q => ?_
      cases o with
      | pan v => exact q.elim
      | ret v =>
        obtain ⟨y, rfl, hR, hP⟩ := q
        have H2 := H1.callT (ps := []) .nil hP
        simp only [List.append_eq, List.append_assoc, List.nil_append, List.append_nil, List.cons_append] at H2
        exact ⟨(), lp0, .normal, by subst hlp; rfl, by subst hlp; simp [newLoop], rfl, H2.sub (by repeat first | exact .nil | exact Take.tz | apply Take.cons (by repeat first | exact .z | apply Rem.s | apply Rem.sA) | apply Take.app (by repeat first | exact .nil | exact Take.tzA | exact Take.tz | apply Take.ts | apply Take.skA) | exact Take.tzA | apply Take.ts | apply Take.skA)⟩
    · subst hR
      refine GQ.outN ?_
      refine GQ.toC (by repeat first | exact .z | apply Rem.s | apply Rem.sA) ?_
      refine GQ.ret ⟨mb, sr, ar, cl12, 0, p, tm, ev, nilS, kv, pv, [], kE, pE, [], kl, ps, si, ac, es12⟩ .nil .z rfl ⟨⟨.nil, n2, n3, lo, hsi, hac, im12⟩, Nat.le_succ _, Nat.le_add_right _ _⟩ (by repeat first | exact .nil | exact Take.tz | apply Take.cons (by repeat first | exact .z | apply Rem.s | apply Rem.sA) | apply Take.app (by repeat first | exact .nil | exact Take.tzA | exact Take.tz | apply Take.ts | apply Take.skA) | exact Take.tzA | apply Take.ts | apply Take.skA)
  | @row lr m l0 h1' h2' =>
    refine GW.toRange (Y := List Int) (M := fun ls' => M111 x13 b lr m mb s kv (.slice (some ⟨sr, 0, none⟩) s.cn s.cn) (.slice (some ⟨ar, 0, none⟩) (s.ln + 4) (s.ln + 4)) pv tm ev ls' ((mb, .map es12 cl12) :: (a2, .cells (EvC e0 e1 e2 e3 e4 e5 e6 e7 e8 e9 e10) none true) :: (a1, .cells [.pointer (some ⟨b, 0, none⟩)] none true) :: (sr, .cells (ints si) none true) :: (ar, .cells (ints ac) none true) :: (kE ++ pE))) (R := fun ls' ex => ex = .normal ∧ LsOk s ls' m) rfl rfl fo111 (fun k2 k3 d l h1 H1 => ?_) (fun d ls' ex hR => ?_)
    · generalize hlp : newLoop _ _ _ _ _ _ = lp0 at H1
      have H1' := H1.give (ps := M111 x13 b lr m mb s kv (.slice (some ⟨sr, 0, none⟩) s.cn s.cn) (.slice (some ⟨ar, 0, none⟩) (s.ln + 4) (s.ln + 4)) pv tm ev ls ((l, .loop lp0) :: (mb, .map es12 cl12) :: (a2, .cells (EvC e0 e1 e2 e3 e4 e5 e6 e7 e8 e9 e10) none true) :: (a1, .cells [.pointer (some ⟨b, 0, none⟩)] none true) :: [])) (by repeat first | exact .nil | exact Take.tz | apply Take.cons (by repeat first | exact .z | apply Rem.s | apply Rem.sA) | apply Take.app (by repeat first | exact .nil | exact Take.tzA | exact Take.tz | apply Take.ts | apply Take.skA) | exact Take.tzA | apply Take.ts | apply Take.skA)
      refine WF.mono (ct111 (bx := x13) (l := l) (Y := Loop × List Int) (fun y => y.2) (fun y => (l, .loop y.1) :: (mb, .map es12 cl12) :: (a2, .cells (EvC e0 e1 e2 e3 e4 e5 e6 e7 e8 e9 e10) none true) :: (a1, .cells [.pointer (some ⟨b, 0, none⟩)] none true) :: []) [l, mb, a2, a1] (fun y => y.1 = lp0 ∧ LsOk s y.2 m) (fun _ => False) (by omega) (fun _ hy => hy.2.1) (fun _ => rfl) (fun i' y h hi hy hst H => ?_) (lp0, ls) ⟨rfl, lo⟩ H1') fun o h2 q => ?_
      · obtain ⟨lp, ls'⟩ := y
        obtain ⟨hy, lo'⟩ := hy
        simp only at hy lo' hst
        have hl' := lo'.1
        have ho := lo'.2 i' hi
        rw [← Nat.zero_add (i' * 5)] at ho
        obtain ⟨_, hx1, _, _⟩ := ho
        subst hy
        subst hlp
        dsimp only at H
        refine Rt.go H (r := (.s (.s (.s .z)))) (by simp only [newLoop, Array.size_ofFn]) rfl (newLoop_f rfl) k2 ?_
        clear H1 H1'
        refine GW.toReg rfl ?_
        refine GL.one rfl .no (S1.as (v := (.int _ _)) rfl) ?_
        refine GL.done rfl ?_
        refine GQ.body (.s (.s (.s .z))) rfl k3 ?_
        refine GW.toBlock rfl ?_
        refine GW.toSeq rfl ?_
        refine GW.toReg rfl ?_
        refine GL.one rfl .no (S1.ld sc80 rfl (.at (.s (.s (.s (.s (.s (.s .z))))))) rfl) ?_
        refine GL.one rfl .no (S1.nc rfl) ?_
        refine GL.one rfl .no (S1.fa fa85_1 rfl) ?_
        refine GL.one rfl .no (S1.fa fa49_0 rfl) ?_
        refine GL.one rfl .no (S1.ld sc47 rfl (.at (.s (.s .z))) rfl) ?_
        refine GL.one rfl .no (S1.mv (v := (.int _ _)) rfl) ?_
        refine GL.one rfl .no (S1.ixN el47 rfl rfl (by omega)) ?_
        refine GL.one rfl .no (S1.ldP5 ag102 rfl (.at (.s (.s (.s .z)))) (by omega)) ?_
        refine GL.opN rfl .no (SN.al zc102) (fun a15 => ?_)
        refine GL.one rfl .no (S1.stA ag102 rfl rfl rfl rfl (by repeat constructor) .z) ?_
        refine GL.done rfl ?_
        refine GQ.on ?_
        refine GW.toSeq rfl ?_
        refine GW.toDrw mx rfl ?_
        refine GD.one rfl .no (S1.fa fa102_2 rfl) rfl ?_
        refine GD.one rfl .no (S1.ld sc3 rfl (.at .z) rfl) rfl ?_
        refine GD.one rfl .no (S1.quo rfl rfl (by omega)) rfl ?_
        refine GD.one rfl .no (S1.fa fa117_7 rfl) rfl ?_
        refine GD.one rfl .no (S1.ld sc3 rfl (.at (.s (.s (.s (.s (.s (.s .z))))))) rfl) rfl ?_
        refine GD.one rfl .no (S1.eql rfl rfl) rfl ?_
        refine GD.one rfl .no (S1.mv (v := (.bool _)) rfl) rfl ?_
        refine GD.splitD 47 rfl (fun w16 => ?_) (fun w16 => ?_)
        refine GD.one rfl (.yes rfl rfl rfl) (S1.fa fa102_2 rfl) rfl ?_
        refine GD.one rfl (.yes rfl rfl rfl) (S1.ld sc3 rfl (.at .z) rfl) rfl ?_
        refine GD.one rfl (.yes rfl rfl rfl) (S1.fa fa117_1 rfl) rfl ?_
        refine GD.one rfl (.yes rfl rfl rfl) (S1.ld sc3 rfl (.at (.s (.s (.s (.s (.s (.s .z))))))) rfl) rfl ?_
        refine GD.one rfl (.yes rfl rfl rfl) (S1.gtr rfl rfl) rfl ?_
        refine GD.one rfl .no (S1.pickT (v := (.bool _)) rfl rfl) rfl ?_
        refine GD.one rfl .no (S1.mv (v := (.bool _)) rfl) rfl ?_
        refine GD.splitD 54 rfl (fun w17 => ?_) (fun w17 => ?_)
        refine GD.one rfl (.yes rfl rfl rfl) (S1.ld sc80 rfl (.at (.s (.s (.s (.s (.s (.s (.s .z)))))))) rfl) rfl ?_
        refine GD.one rfl (.yes rfl rfl rfl) (S1.nc rfl) rfl ?_
        refine GD.one rfl (.yes rfl rfl rfl) (S1.fa fa85_0 rfl) rfl ?_
        refine GD.one rfl (.yes rfl rfl rfl) (S1.fa fa28_1 rfl) rfl ?_
        refine GD.one rfl (.yes rfl rfl rfl) (S1.ld sc23 rfl (.at (.s (.s (.s .z)))) rfl) rfl ?_
        refine GD.one rfl (.yes rfl rfl rfl) (S1.fa fa102_1 rfl) rfl ?_
        refine GD.one rfl (.yes rfl rfl rfl) (S1.ld sc3 rfl (.at .z) rfl) rfl ?_
        refine GD.one rfl (.yes rfl rfl rfl) (S1.ixRI el23 hc rfl rfl (by omega)) rfl ?_
        refine GD.one rfl (.yes rfl rfl rfl) (S1.fa fa74_3 rfl) rfl ?_
        refine GD.one rfl (.yes rfl rfl rfl) (S1.ldCI sc3 (z := 4) hc rfl (m := (ls'.getD (0 + i' * 5 + 1) 0).toNat) (by omega) rfl (d := 3) rfl rfl) rfl ?_
        refine GD.one rfl (.yes rfl rfl rfl) (S1.fa fa117_8 rfl) rfl ?_
        refine GD.one rfl (.yes rfl rfl rfl) (S1.ld sc3 rfl (.at (.s (.s (.s (.s (.s (.s .z))))))) rfl) rfl ?_
        refine GD.one rfl (.yes rfl rfl rfl) (S1.shr rfl rfl (by simp only [outB_ok] at *; omega)) rfl ?_
        refine GD.one rfl (.yes rfl rfl rfl) (S1.bits rfl rfl rfl) rfl ?_
        refine GD.one rfl (.yes rfl rfl rfl) (S1.eql rfl rfl) rfl ?_
        refine GD.one rfl .no (S1.pickT (v := (.bool _)) rfl rfl) rfl ?_
        refine GD.done rfl ?_
        refine GQ.on ?_
        refine GW.toD rfl rfl (fun w18 => ?_) (fun w18 => ?_)
        refine GW.toReg rfl ?_
        refine GL.one rfl .no (S1.ld sc80 rfl (.at (.s (.s (.s (.s (.s (.s (.s .z)))))))) rfl) ?_
        refine GL.one rfl .no (S1.mv (v := (.int _ _)) rfl) ?_
        refine GL.call rfl .no fo115 (show Take _ [(b, _), (mb, _), (lr, _)] _ from (by repeat first | exact .nil | exact Take.tz | apply Take.cons (by repeat first | exact .z | apply Rem.s | apply Rem.sA) | apply Take.app (by repeat first | exact .nil | exact Take.tzA | exact Take.tz | apply Take.ts | apply Take.skA) | exact Take.tzA | apply Take.ts | apply Take.skA)) (fun h H => ct115 hc (by omega) im12 lo' hi (H.give (show Take _ [(b, _), (mb, _), (lr, _)] _ from (by repeat first | exact .nil | exact Take.tz | apply Take.cons (by repeat first | exact .z | apply Rem.s | apply Rem.sA) | apply Take.app (by repeat first | exact .nil | exact Take.tzA | exact Take.tz | apply Take.ts | apply Take.skA) | exact Take.tzA | apply Take.ts | apply Take.skA)))) (.d (.c (v := (.pointer _)) rfl (.c (v := (.int _ _)) rfl .n))) (fun ls2 lo2 => ?_)
        refine GL.done rfl ?_
        refine GQ.outN ?_
        refine GQ.rN (true, _, _) (by repeat first | exact .z | apply Rem.s | apply Rem.sA) rfl ⟨rfl, lo2⟩ (by repeat first | exact .nil | exact Take.tz | apply Take.cons (by repeat first | exact .z | apply Rem.s | apply Rem.sA) | apply Take.app (by repeat first | exact .nil | exact Take.tzA | exact Take.tz | apply Take.ts | apply Take.skA) | exact Take.tzA | apply Take.ts | apply Take.skA)
        refine GW.toSkip rfl ?_
        refine GQ.outN ?_
        refine GQ.rN (true, _, _) (by repeat first | exact .z | apply Rem.s | apply Rem.sA) rfl ⟨rfl, lo'⟩ (by repeat first | exact .nil | exact Take.tz | apply Take.cons (by repeat first | exact .z | apply Rem.s | apply Rem.sA) | apply Take.app (by repeat first | exact .nil | exact Take.tzA | exact Take.tz | apply Take.ts | apply Take.skA) | exact Take.tzA | apply Take.ts | apply Take.skA)
        refine GD.skip rfl (.not rfl rfl rfl) ?_
        refine GD.skip rfl (.not rfl rfl rfl) ?_
        refine GD.skip rfl (.not rfl rfl rfl) ?_
        refine GD.skip rfl (.not rfl rfl rfl) ?_
        refine GD.skip rfl (.not rfl rfl rfl) ?_
        refine GD.skip rfl (.not rfl rfl rfl) ?_
        refine GD.skip rfl (.not rfl rfl rfl) ?_
        refine GD.skip rfl (.not rfl rfl rfl) ?_
        refine GD.skip rfl (.not rfl rfl rfl) ?_
        refine GD.skip rfl (.not rfl rfl rfl) ?_
        refine GD.skip rfl (.not rfl rfl rfl) ?_
        refine GD.skip rfl (.not rfl rfl rfl) ?_
        refine GD.skip rfl (.not rfl rfl rfl) ?_
        refine GD.skip rfl (.not rfl rfl rfl) ?_
        refine GD.skip rfl (.not rfl rfl rfl) ?_
        refine GD.one rfl .no (S1.pickF (v := (.bool _)) rfl rfl) rfl ?_
        refine GD.done rfl ?_
        refine GQ.on ?_
        refine GW.toF rfl rfl ?_
        refine GW.toSkip rfl ?_
        refine GQ.outN ?_
        refine GQ.rN (true, _, _) (by repeat first | exact .z | apply Rem.s | apply Rem.sA) rfl ⟨rfl, lo'⟩ (by repeat first | exact .nil | exact Take.tz | apply Take.cons (by repeat first | exact .z | apply Rem.s | apply Rem.sA) | apply Take.app (by repeat first | exact .nil | exact Take.tzA | exact Take.tz | apply Take.ts | apply Take.skA) | exact Take.tzA | apply Take.ts | apply Take.skA)
        refine GD.skip rfl (.not rfl rfl rfl) ?_
        refine GD.skip rfl (.not rfl rfl rfl) ?_
        refine GD.skip rfl (.not rfl rfl rfl) ?_
        refine GD.skip rfl (.not rfl rfl rfl) ?_
        refine GD.skip rfl (.not rfl rfl rfl) ?_
        refine GD.one rfl .no (S1.pickF (v := (.bool _)) rfl rfl) rfl ?_
        refine GD.one rfl .no (S1.mv (v := (.bool _)) rfl) rfl ?_
        refine GD.skip rfl (.not rfl rfl rfl) ?_
        refine GD.skip rfl (.not rfl rfl rfl) ?_
        refine GD.skip rfl (.not rfl rfl rfl) ?_
        refine GD.skip rfl (.not rfl rfl rfl) ?_
        refine GD.skip rfl (.not rfl rfl rfl) ?_
        refine GD.skip rfl (.not rfl rfl rfl) ?_
        refine GD.skip rfl (.not rfl rfl rfl) ?_
        refine GD.skip rfl (.not rfl rfl rfl) ?_
        refine GD.skip rfl (.not rfl rfl rfl) ?_
        refine GD.skip rfl (.not rfl rfl rfl) ?_
        refine GD.skip rfl (.not rfl rfl rfl) ?_
        refine GD.skip rfl (.not rfl rfl rfl) ?_
        refine GD.skip rfl (.not rfl rfl rfl) ?_
        refine GD.skip rfl (.not rfl rfl rfl) ?_
        refine GD.skip rfl (.not rfl rfl rfl) ?_
        refine GD.one rfl .no (S1.pickF (v := (.bool _)) rfl rfl) rfl ?_
        refine GD.done rfl ?_
        refine GQ.on ?_
        refine GW.toF rfl rfl ?_
        refine GW.toSkip rfl ?_
        refine GQ.outN ?_
        refine GQ.rN (true, _, _) (by repeat first | exact .z | apply Rem.s | apply Rem.sA) rfl ⟨rfl, lo'⟩ (by repeat first | exact .nil | exact Take.tz | apply Take.cons (by repeat first | exact .z | apply Rem.s | apply Rem.sA) | apply Take.app (by repeat first | exact .nil | exact Take.tzA | exact Take.tz | apply Take.ts | apply Take.skA) | exact Take.tzA | apply Take.ts | apply Take.skA)
      · cases o with
        | pan v => exact q.elim
        | ret v =>
          obtain ⟨y, rfl, hR, hP⟩ := q
          have H2 := H1.callT (ps := M111 x13 b lr m mb s kv (.slice (some ⟨sr, 0, none⟩) s.cn s.cn) (.slice (some ⟨ar, 0, none⟩) (s.ln + 4) (s.ln + 4)) pv tm ev ls ((l, .loop lp0) :: (mb, .map es12 cl12) :: (a2, .cells (EvC e0 e1 e2 e3 e4 e5 e6 e7 e8 e9 e10) none true) :: (a1, .cells [.pointer (some ⟨b, 0, none⟩)] none true) :: [])) (by repeat first | exact .nil | exact Take.tz | apply Take.cons (by repeat first | exact .z | apply Rem.s | apply Rem.sA) | apply Take.app (by repeat first | exact .nil | exact Take.tzA | exact Take.tz | apply Take.ts | apply Take.skA) | exact Take.tzA | apply Take.ts | apply Take.skA) hP
          simp only [List.append_eq, List.append_assoc, List.nil_append, List.append_nil, List.cons_append] at H2
          rcases hR with hR | hR
          · exact ⟨y.2, y.1, .normal, by rw [hR.1]; subst hlp; rfl, by rw [hR.1]; subst hlp; simp [newLoop], ⟨rfl, hR.2⟩, H2.sub (by repeat first | exact .nil | exact Take.tz | apply Take.cons (by repeat first | exact .z | apply Rem.s | apply Rem.sA) | apply Take.app (by repeat first | exact .nil | exact Take.tzA | exact Take.tz | apply Take.ts | apply Take.skA) | exact Take.tzA | apply Take.ts | apply Take.skA)⟩
          · exact hR.elim
    · obtain ⟨rfl, lo'⟩ := hR
      refine GQ.outN ?_
      refine GQ.toC (by repeat first | exact .z | apply Rem.s | apply Rem.sA) ?_
      refine GQ.ret ⟨mb, sr, ar, cl12, m, p, tm, ev, rowS lr m, kv, pv, [(lr, opRow (ints ls') 5)], kE, pE, ls', kl, ps, si, ac, es12⟩ .nil .z rfl ⟨⟨.row h1' lo'.1, n2, n3, lo', hsi, hac, im12⟩, Nat.le_succ _, Nat.le_add_right _ _⟩ (by repeat first | exact .nil | exact Take.tz | apply Take.cons (by repeat first | exact .z | apply Rem.s | apply Rem.sA) | apply Take.app (by repeat first | exact .nil | exact Take.tzA | exact Take.tz | apply Take.ts | apply Take.skA) | exact Take.tzA | apply Take.ts | apply Take.skA)
end
end Go.Proofs.YtkpbpfnmgnpfaaaGreat
namespace Go.Proofs.YtkpbpfnmgnpfaaaGreat
open Go Go.E
set_option maxRecDepth 100000

abbrev KF : List Value := [.func (.func 104) #[] #[], .func (.func 105) #[] #[], .func (.func 106) #[] #[], .func (.func 107) #[] #[], .func (.func 108) #[] #[], .func (.func 109) #[] #[], .func (.func 110) #[] #[]]
theorem ct100 {h : EH} : Ct Tryz.prog 100 ⟨[]⟩ h [] (fun _ : Unit => .agg ⟨KF⟩) (fun _ => True) (fun _ => []) := by
  refine Ct.go Tryz.func100 rfl rfl co100 (Hp.start (hr := fun _ => none) (by simp)) ?_
  refine GW.toSeq rfl ?_
  refine GW.toReg rfl ?_
  refine GL.opN rfl .no (SN.al zc154) (fun a1 => ?_)
  refine GL.done rfl ?_
  refine GQ.on ?_
  refine GW.toSeq rfl ?_
  refine GW.toReg rfl ?_
  refine GL.one rfl .no (S1.bua az154 (.c (v := (.func _ _ _)) rfl rfl (.c (v := (.func _ _ _)) rfl rfl (.c (v := (.func _ _ _)) rfl rfl (.c (v := (.func _ _ _)) rfl rfl (.c (v := (.func _ _ _)) rfl rfl (.c (v := (.func _ _ _)) rfl rfl (.c (v := (.func _ _ _)) rfl rfl .n))))))) rfl) ?_
  refine GL.one rfl .no (S1.stA ag154 rfl rfl rfl rfl (by repeat constructor) .z) ?_
  refine GL.done rfl ?_
  refine GQ.on ?_
  refine GW.toRet rfl ?_
  exact GQ.ret () (.cell rfl rfl .z (by rw [loadV_ag ag154 (by decide)]; rfl) .nil) .one rfl trivial .nil

section
variable {h : EH} {hr : RO} {x : Nat} {L : Ents} {F : List Nat}

theorem df84n : ∃ h1 rc1, SndDef Tryz.prog 84 ⟨[.pointer (some ⟨x, 0, none⟩)]⟩ h none h1 rc1 ∧ (h1 = h ∧ rc1 = none) := by
  refine Df.go Tryz.func84 rfl rfl co84 (C := fun h' => h' = h) (Q' := fun h1 rc1 => h1 = h ∧ rc1 = none) rfl ?_
  refine GW.toSeq rfl ?_
  refine GW.toReg rfl ?_
  refine GL.recover rfl .no ?_
  refine GL.one rfl .no (S1.as (v := .nilIface) rfl) ?_
  refine GL.done rfl ?_
  refine GQ.on ?_
  refine GW.toSeq rfl ?_
  refine GW.toReg rfl ?_
  refine GL.one rfl .no (S1.mv (v := .nilIface) rfl) ?_
  refine GL.one rfl .no (S1.bin (v := .bool false) (by kernel_rfl)) ?_
  refine GL.done rfl ?_
  refine GQ.on ?_
  refine GW.toF rfl rfl ?_
  refine GW.toSkip rfl ?_
  exact GQ.defN rfl (fun _ e => ⟨e, rfl⟩)

theorem df84 {h0 : EH} {v0 e : Int} (H : Hp hr h0 F ((x, .cells [.int .i64 v0] none true) :: L) h) : ∃ h1 rc1, SndDef Tryz.prog 84 ⟨[.pointer (some ⟨x, 0, none⟩)]⟩ h (some (.iface 38 (.int .i64 e), false)) h1 rc1 ∧ (Hp hr h0 F ((x, .cells [.int .i64 e] none true) :: L) h1 ∧ rc1 = some (.iface 38 (.int .i64 e), true)) := by
  refine Df.go Tryz.func84 rfl rfl co84 (C := Hp hr h0 F ((x, .cells [.int .i64 v0] none true) :: L)) (Q' := fun h1 rc1 => Hp hr h0 F ((x, .cells [.int .i64 e] none true) :: L) h1 ∧ rc1 = some (.iface 38 (.int .i64 e), true)) H ?_
  refine GW.toSeq rfl ?_
  refine GW.toReg rfl ?_
  refine GL.recover rfl .no ?_
  refine GL.one rfl .no (S1.as (v := (.iface _ _)) rfl) ?_
  refine GL.done rfl ?_
  refine GQ.on ?_
  refine GW.toSeq rfl ?_
  refine GW.toReg rfl ?_
  refine GL.one rfl .no (S1.mv (v := (.iface _ _)) rfl) ?_
  refine GL.one rfl .no (S1.bin (v := .bool true) (by kernel_rfl)) ?_
  refine GL.done rfl ?_
  refine GQ.on ?_
  refine GW.toT rfl rfl ?_
  refine GW.toReg rfl ?_
  refine GL.one rfl .no (S1.mv (v := (.iface _ _)) rfl) ?_
  refine GL.one rfl .no (S1.ta ni38 rfl) ?_
  refine GL.one rfl .no (S1.st (u := (.int _ _)) sc38 rfl rfl rfl (by repeat constructor) .z) ?_
  refine GL.done rfl ?_
  exact GQ.defN rfl (fun _ e => ⟨e, rfl⟩)
end
end Go.Proofs.YtkpbpfnmgnpfaaaGreat
namespace Go.Proofs.YtkpbpfnmgnpfaaaGreat
open Go Go.E
set_option maxRecDepth 100000

theorem ct49 {h : EH} {hr : RO} {F : List Nat} {L : Ents} {g : Nat} {cs : List Value} {Z : Type} {M : Z → Ents} {R : Z → Prop} {S : Int × Z → Prop} (H : Hp hr h F L h) (hf : fnOk Tryz.prog g = true)
    (c : ∀ h', Hp hr h' (L.map (·.1)) L h' → Cp Tryz.prog g ⟨cs⟩ h' (L.map (·.1)) (fun _ : Z => .tuple #[]) R M (fun w : Int × Z => .iface 38 (.int .i64 w.1)) S (fun w => M w.2)) :
    Ct Tryz.prog 49 ⟨[.func (.func g) ⟨[]⟩ ⟨cs⟩]⟩ h F (fun w : Int × Z => .int .i64 w.1) (fun w => (w.1 = 0 ∧ R w.2) ∨ S w) (fun w => M w.2) := by
  refine WF.goE Tryz.func49 rfl rfl co49 H ?_
  refine GW.toSeq rfl ?_
  refine GW.toReg rfl ?_
  refine GL.opN rfl .no (SN.al zc38) (fun a1 => ?_)
  refine GL.done rfl ?_
  refine GQ.on ?_
  refine GW.toSeq rfl ?_
  refine GW.toReg rfl ?_
  refine GL.one rfl .no (S1.mf .n (.c (v := (.pointer _)) rfl .n)) ?_
  refine GL.defer rfl .no rfl ?_
  refine GL.done rfl ?_
  refine GQ.on ?_
  refine GW.toSeq rfl ?_
  refine GW.toReg rfl ?_
  refine GL.one rfl .no (S1.mv (v := (.func _ _ _)) rfl) ?_
  refine GL.callP (ps := L) (L1 := [(a1, .cells [.int .i64 0] none true)]) rfl .no hf (by repeat first | exact .nil | exact Take.tz | apply Take.cons (by repeat first | exact .z | apply Rem.s | apply Rem.sA) | apply Take.app (by repeat first | exact .nil | exact Take.tzA | exact Take.tz | apply Take.ts | apply Take.skA) | exact Take.tzA | apply Take.ts | apply Take.skA) (fun h' H' => c h' (H'.give (ps := L) (L1 := [(a1, .cells [.int .i64 0] none true)]) (by repeat first | exact .nil | exact Take.tz | apply Take.cons (by repeat first | exact .z | apply Rem.s | apply Rem.sA) | apply Take.app (by repeat first | exact .nil | exact Take.tzA | exact Take.tz | apply Take.ts | apply Take.skA) | exact Take.tzA | apply Take.ts | apply Take.skA))) (.v (fs := []) (cs := cs) rfl .n) (fun z hR => ?_) (fun w hS => ?_)
  · refine GL.done rfl ?_
    refine GQ.on ?_
    refine GW.toSeq rfl ?_
    refine GW.toReg rfl ?_
    refine GL.one rfl .no (S1.st (u := (.int _ _)) sc38 rfl rfl rfl (by repeat constructor) (.sA .z)) ?_
    refine GL.done rfl ?_
    refine GQ.on ?_
    refine GW.toRet rfl ?_
    refine GQ.endD (pm := none) (rc1 := none) (C' := Hp hr h F (M z ++ [(a1, .cells [.int .i64 0] none true)])) rfl fo84 rfl (fun h' H' => ?_) (GQ.ret (0, z) (.cell rfl rfl (.sA .z) (loadV_sc sc38 rfl) .nil) .one rfl (.inl ⟨rfl, hR⟩) (by repeat first | exact .nil | exact Take.tz | apply Take.cons (by repeat first | exact .z | apply Rem.s | apply Rem.sA) | apply Take.app (by repeat first | exact .nil | exact Take.tzA | exact Take.tz | apply Take.ts | apply Take.skA) | exact Take.tzA | apply Take.ts | apply Take.skA))
    obtain ⟨h1, rc1, s, rfl, rfl⟩ := df84n (h := h') (x := a1)
    exact ⟨_, by simpa using s, H'⟩
  · refine GQ.onP ?_
    refine GQ.endD (pm := some (.iface 38 (.int .i64 w.1))) (rc1 := some (.iface 38 (.int .i64 w.1), true)) (C' := Hp hr h F ((a1, .cells [.int .i64 w.1] none true) :: M w.2)) rfl fo84 rfl (fun h' H' => ?_) (GQ.ret w (.cell rfl rfl .z (loadV_sc sc38 rfl) .nil) .one rfl (.inr hS) (by repeat first | exact .nil | exact Take.tz | apply Take.cons (by repeat first | exact .z | apply Rem.s | apply Rem.sA) | apply Take.app (by repeat first | exact .nil | exact Take.tzA | exact Take.tz | apply Take.ts | apply Take.skA) | exact Take.tzA | apply Take.ts | apply Take.skA))
    obtain ⟨h1, rc1, s, H1, rfl⟩ := df84 (e := w.1) (H'.perm List.perm_append_comm)
    exact ⟨_, by simpa using s, H1⟩
end Go.Proofs.YtkpbpfnmgnpfaaaGreat
namespace Go.Proofs.YtkpbpfnmgnpfaaaGreat
open Go Go.E
set_option maxRecDepth 100000
set_option maxHeartbeats 1000000

theorem u154 : Tryz.prog.underlying 154 = some (.array 7 153) := by kernel_rfl
theorem s153 : scD Tryz.prog 153 = true := by kernel_rfl

section
variable {h : EH} {hr : RO} {s : Sch} {q0 q1 q2 b : Nat} {y : BkS} {i e0 e1 e2 e3 e4 e5 e6 e7 e8 e9 e10 : Int}

abbrev M99 (q0 q1 q2 b : Nat) (s : Sch) (i e0 e1 e2 e3 e4 e5 e6 e7 e8 e9 e10 : Int) (y : BkS) : Ents :=
  (q0, .cells (EvC e0 e1 e2 e3 e4 e5 e6 e7 e8 e9 e10) none true) :: (q1, .cells [.pointer (some ⟨b, 0, none⟩)] none true) :: (q2, .cells [.int .i64 i] none true) :: MB b s y

theorem ct99 (hln : s.ln ≤ 1073741824) (hcn : s.cn ≤ 1073741824) (hL : Cell hr (.sl ly9) (.slice s.la s.ln s.lc)) (hc : Cell hr (.sl ly74) (.slice s.ca s.cn s.cc)) (hT : Cell hr (.sl ly78) (.slice s.ta s.tn s.tc))
    (hI : BkI s y) (hm : y.m < 1073741824) (hp : y.p + 2 ≤ 1073741824) (H : Hp hr h ((M99 q0 q1 q2 b s i e0 e1 e2 e3 e4 e5 e6 e7 e8 e9 e10 y).map (·.1)) (M99 q0 q1 q2 b s i e0 e1 e2 e3 e4 e5 e6 e7 e8 e9 e10 y) h) :
    Cp Tryz.prog 99 ⟨[.pointer (some ⟨q0, 0, none⟩), .pointer (some ⟨q1, 0, none⟩), .pointer (some ⟨q2, 0, none⟩)]⟩ h ((M99 q0 q1 q2 b s i e0 e1 e2 e3 e4 e5 e6 e7 e8 e9 e10 y).map (·.1)) (fun _ : BkS => .tuple #[]) (fun z => BkI s z ∧ z.m ≤ y.m + 1 ∧ z.p ≤ y.p + 2) (fun z => M99 q0 q1 q2 b s i e0 e1 e2 e3 e4 e5 e6 e7 e8 e9 e10 z)
      (fun w : Int × BkS => .iface 38 (.int .i64 w.1)) (fun w => BkI s w.2 ∧ w.2.m ≤ y.m + 1 ∧ w.2.p ≤ y.p + 2) (fun w => M99 q0 q1 q2 b s i e0 e1 e2 e3 e4 e5 e6 e7 e8 e9 e10 w.2) := by
  obtain ⟨mb, sr, ar, cl, m, p, tm, ev, lv, kv, pv, lE, kE, pE, ls, kl, ps, si, ac, es⟩ := y
  obtain ⟨n1, n2, n3, lo, hsi, hac, him⟩ := hI
  simp only at hm hp n1 n2 n3 lo hsi hac him
  refine Cp.go Tryz.func99 rfl rfl co99 H ?_
  dsimp only [M99, MB]
  refine GW.toSeq rfl ?_
  refine GW.toReg rfl ?_
  refine GL.one rfl .no (S1.fa fa117_0 rfl) ?_
  refine GL.one rfl .no (S1.ld sc3 rfl (.at .z) rfl) ?_
  refine GL.opN rfl .no (SN.bs el32 ez32 (.c (v := (.int _ _)) rfl rfl .n) rfl rfl) (fun a1 => ?_)
  refine GL.call rfl .no fo31 .nil (fun h H => ct31_1 (H.get (by repeat first | exact .z | apply At.s | apply At.sA))) (.d (.c (v := (.int _ _)) rfl (.c (v := (.int _ _)) rfl (.c (v := (.slice _ _ _)) rfl .n)))) (fun _ _ => ?_)
  refine GL.one rfl .no (S1.not rfl) ?_
  refine GL.callP rfl .no fo85 .nil (fun h H => ct85) (.d (.c (v := (.bool _)) rfl (.c (v := (.int _ _)) rfl .n))) (fun _ q4 => ?_) (fun e4 q4 => ?_)
  refine GL.done rfl ?_
  refine GQ.on ?_
  refine GW.toSeq rfl ?_
  refine GW.toDrw mx rfl ?_
  refine GD.one rfl .no (S1.ld sc80 rfl (.at (.s (.s .z))) rfl) rfl ?_
  refine GD.one rfl .no (S1.nc rfl) rfl ?_
  refine GD.one rfl .no (S1.fa fa85_4 rfl) rfl ?_
  refine GD.one rfl .no (S1.ld sc3 rfl (.at (.s (.s (.s (.s .z))))) rfl) rfl ?_
  refine GD.one rfl .no (S1.fa fa117_1 rfl) rfl ?_
  refine GD.one rfl .no (S1.ld sc3 rfl (.at (.s .z)) rfl) rfl ?_
  refine GD.opN rfl .no (SN.bs el32 ez32 (.c (v := (.int _ _)) rfl rfl .n) rfl rfl) rfl (fun a5 => ?_)
  refine GD.call rfl .no fo31 .nil (fun h H => ct31_1 (H.get (by repeat first | exact .z | apply At.s | apply At.sA))) (.d (.c (v := (.int _ _)) rfl (.c (v := (.int _ _)) rfl (.c (v := (.slice _ _ _)) rfl .n)))) (fun _ _ => ?_)
  refine GD.one rfl .no (S1.not rfl) rfl ?_
  refine GD.callP rfl rfl .no fo85 .nil (fun h H => ct85) (.d (.c (v := (.bool _)) rfl (.c (v := (.int _ _)) rfl .n))) (fun _ q8 => ?_) (fun e8 q8 => ?_)
  refine GD.done rfl ?_
  refine GQ.on ?_
  refine GW.toSeq rfl ?_
  refine GW.toReg rfl ?_
  refine GL.one rfl .no (S1.ld sc80 rfl (.at (.s (.s (.s .z)))) rfl) ?_
  refine GL.one rfl .no (S1.ld sc3 rfl (.at (.s (.s (.s (.s .z))))) rfl) ?_
  refine GL.one rfl .no (S1.nc rfl) ?_
  refine GL.one rfl .no (S1.fa fa85_5 rfl) ?_
  refine GL.one rfl .no (S1.st (u := (.int _ _)) sc3 rfl rfl rfl (by repeat constructor) (.s (.s (.s (.s (.s .z)))))) ?_
  refine GL.done rfl ?_
  refine GQ.on ?_
  refine GW.toSeq rfl ?_
  refine GW.toDrw mx rfl ?_
  refine GD.call rfl .no fo100 .nil (fun h H => ct100) (.d .n) (fun _ _ => ?_)
  refine GD.one rfl .no (S1.fa fa117_0 rfl) rfl ?_
  refine GD.one rfl .no (S1.ld sc3 rfl (.at (.s (.s .z))) rfl) rfl ?_
  rotate_left
  refine GQ.onP ?_
  refine GQ.pan (_, ⟨mb, sr, ar, cl, m, p, tm, ev, lv, kv, pv, lE, kE, pE, ls, kl, ps, si, ac, es⟩) rfl ⟨⟨n1, n2, n3, lo, hsi, hac, him⟩, Nat.le_succ _, Nat.le_add_right _ _⟩ (by repeat first | exact .nil | exact Take.tz | apply Take.asc | apply Take.cons (by repeat first | exact .z | apply Rem.s | apply Rem.asc | apply Rem.sA) | apply Take.app (by repeat first | exact .nil | exact Take.tzA | exact Take.tz | apply Take.asc | apply Take.ts | apply Take.skA) | exact Take.tzA | apply Take.ts | apply Take.skA)
  refine GQ.onP ?_
  refine GQ.pan (_, ⟨mb, sr, ar, cl, m, p, tm, ev, lv, kv, pv, lE, kE, pE, ls, kl, ps, si, ac, es⟩) rfl ⟨⟨n1, n2, n3, lo, hsi, hac, him⟩, Nat.le_succ _, Nat.le_add_right _ _⟩ (by repeat first | exact .nil | exact Take.tz | apply Take.asc | apply Take.cons (by repeat first | exact .z | apply Rem.s | apply Rem.asc | apply Rem.sA) | apply Take.app (by repeat first | exact .nil | exact Take.tzA | exact Take.tz | apply Take.asc | apply Take.ts | apply Take.skA) | exact Take.tzA | apply Take.ts | apply Take.skA)
  have h06 : e0 = 0 ∨ e0 = 1 ∨ e0 = 2 ∨ e0 = 3 ∨ e0 = 4 ∨ e0 = 5 ∨ e0 = 6 := by simp only [outB_ok] at *; omega
  rcases h06 with rfl | rfl | rfl | rfl | rfl | rfl | rfl
  · refine GD.one rfl .no (S1.ixa (j := 0) u154 s153 rfl rfl (by decide) rfl) rfl ?_
    refine GD.one rfl .no (S1.ld sc80 rfl (.at (.s (.s (.s .z)))) rfl) rfl ?_
    refine GD.one rfl .no (S1.ldW ag117 rfl (.at (.s (.s .z))) rfl) rfl ?_
    refine GD.callPF rfl rfl .no fo104 (by kernel_rfl) (show Take _ (MB b s ⟨mb, sr, ar, cl, m, p, tm, i, lv, kv, pv, lE, kE, pE, ls, kl, ps, si, ac, es⟩) _ from (by repeat first | exact .nil | exact Take.tz | apply Take.asc | apply Take.cons (by repeat first | exact .z | apply Rem.s | apply Rem.asc | apply Rem.sA) | apply Take.app (by repeat first | exact .nil | exact Take.tzA | exact Take.tz | apply Take.asc | apply Take.ts | apply Take.skA) | exact Take.tzA | apply Take.ts | apply Take.skA)) (fun h H => ct104 hc hln _ b ⟨mb, sr, ar, cl, m, p, tm, i, lv, kv, pv, lE, kE, pE, ls, kl, ps, si, ac, es⟩ _ _ _ _ _ _ _ _ _ _ _ ⟨n1, n2, n3, lo, hsi, hac, him⟩ hm hp (H.give (show Take _ (MB b s ⟨mb, sr, ar, cl, m, p, tm, i, lv, kv, pv, lE, kE, pE, ls, kl, ps, si, ac, es⟩) _ from (by repeat first | exact .nil | exact Take.tz | apply Take.asc | apply Take.cons (by repeat first | exact .z | apply Rem.s | apply Rem.asc | apply Rem.sA) | apply Take.app (by repeat first | exact .nil | exact Take.tzA | exact Take.tz | apply Take.asc | apply Take.ts | apply Take.skA) | exact Take.tzA | apply Take.ts | apply Take.skA)))) (.v (fs := []) (cs := []) rfl (.c (v := (.pointer _)) rfl (.c (v := (.agg _)) rfl .n))) (fun z q => ?_) (fun w q => ?_)
    refine GD.done rfl ?_
    refine GQ.on ?_
    refine GW.toReg rfl ?_
    refine GL.one rfl .no (S1.ld sc80 rfl (.at (.s (.s (.s (.s (.sA (.s (.s (.s .z))))))))) rfl) ?_
    refine GL.one rfl .no (S1.fa fa117_1 rfl) ?_
    refine GL.one rfl .no (S1.ld sc3 rfl (.at (.s (.s (.s (.s (.sA (.s (.s .z)))))))) rfl) ?_
    refine GL.one rfl .no (S1.nc rfl) ?_
    refine GL.one rfl .no (S1.fa fa85_4 rfl) ?_
    refine GL.one rfl .no (S1.st (u := (.int _ _)) sc3 rfl rfl rfl (by repeat constructor) .z) ?_
    refine GL.done rfl ?_
    refine GQ.retN ⟨z.mb, z.sr, z.ar, z.cl, z.m, z.p, e1, z.ev, z.lv, z.kv, z.pv, z.lE, z.kE, z.pE, z.ls, z.kl, z.ps, z.si, z.ac, z.es⟩ .nil .z rfl ⟨⟨q.1.n1, q.1.n2, q.1.n3, q.1.lo, q.1.si, q.1.ac, q.1.im⟩, q.2⟩ (by repeat first | exact .nil | exact Take.tz | apply Take.asc | apply Take.cons (by repeat first | exact .z | apply Rem.s | apply Rem.asc | apply Rem.sA) | apply Take.app (by repeat first | exact .nil | exact Take.tzA | exact Take.tz | apply Take.asc | apply Take.ts | apply Take.skA) | exact Take.tzA | apply Take.ts | apply Take.skA)
    refine GQ.onP ?_
    refine GQ.pan _ rfl ?_ (by repeat first | exact .nil | exact Take.tz | apply Take.asc | apply Take.cons (by repeat first | exact .z | apply Rem.s | apply Rem.asc | apply Rem.sA) | apply Take.app (by repeat first | exact .nil | exact Take.tzA | exact Take.tz | apply Take.asc | apply Take.ts | apply Take.skA) | exact Take.tzA | apply Take.ts | apply Take.skA)
    assumption
  · refine GD.one rfl .no (S1.ixa (j := 1) u154 s153 rfl rfl (by decide) rfl) rfl ?_
    refine GD.one rfl .no (S1.ld sc80 rfl (.at (.s (.s (.s .z)))) rfl) rfl ?_
    refine GD.one rfl .no (S1.ldW ag117 rfl (.at (.s (.s .z))) rfl) rfl ?_
    refine GD.callPF rfl rfl .no fo105 (by kernel_rfl) (show Take _ (MB b s ⟨mb, sr, ar, cl, m, p, tm, i, lv, kv, pv, lE, kE, pE, ls, kl, ps, si, ac, es⟩) _ from (by repeat first | exact .nil | exact Take.tz | apply Take.asc | apply Take.cons (by repeat first | exact .z | apply Rem.s | apply Rem.asc | apply Rem.sA) | apply Take.app (by repeat first | exact .nil | exact Take.tzA | exact Take.tz | apply Take.asc | apply Take.ts | apply Take.skA) | exact Take.tzA | apply Take.ts | apply Take.skA)) (fun h H => ct105 hln hL hc hT _ b ⟨mb, sr, ar, cl, m, p, tm, i, lv, kv, pv, lE, kE, pE, ls, kl, ps, si, ac, es⟩ _ _ _ _ _ _ _ _ _ _ _ ⟨n1, n2, n3, lo, hsi, hac, him⟩ hm hp (H.give (show Take _ (MB b s ⟨mb, sr, ar, cl, m, p, tm, i, lv, kv, pv, lE, kE, pE, ls, kl, ps, si, ac, es⟩) _ from (by repeat first | exact .nil | exact Take.tz | apply Take.asc | apply Take.cons (by repeat first | exact .z | apply Rem.s | apply Rem.asc | apply Rem.sA) | apply Take.app (by repeat first | exact .nil | exact Take.tzA | exact Take.tz | apply Take.asc | apply Take.ts | apply Take.skA) | exact Take.tzA | apply Take.ts | apply Take.skA)))) (.v (fs := []) (cs := []) rfl (.c (v := (.pointer _)) rfl (.c (v := (.agg _)) rfl .n))) (fun z q => ?_) (fun w q => ?_)
    refine GD.done rfl ?_
    refine GQ.on ?_
    refine GW.toReg rfl ?_
    refine GL.one rfl .no (S1.ld sc80 rfl (.at (.s (.s (.s (.s (.sA (.s (.s (.s .z))))))))) rfl) ?_
    refine GL.one rfl .no (S1.fa fa117_1 rfl) ?_
    refine GL.one rfl .no (S1.ld sc3 rfl (.at (.s (.s (.s (.s (.sA (.s (.s .z)))))))) rfl) ?_
    refine GL.one rfl .no (S1.nc rfl) ?_
    refine GL.one rfl .no (S1.fa fa85_4 rfl) ?_
    refine GL.one rfl .no (S1.st (u := (.int _ _)) sc3 rfl rfl rfl (by repeat constructor) .z) ?_
    refine GL.done rfl ?_
    refine GQ.retN ⟨z.mb, z.sr, z.ar, z.cl, z.m, z.p, e1, z.ev, z.lv, z.kv, z.pv, z.lE, z.kE, z.pE, z.ls, z.kl, z.ps, z.si, z.ac, z.es⟩ .nil .z rfl ⟨⟨q.1.n1, q.1.n2, q.1.n3, q.1.lo, q.1.si, q.1.ac, q.1.im⟩, q.2⟩ (by repeat first | exact .nil | exact Take.tz | apply Take.asc | apply Take.cons (by repeat first | exact .z | apply Rem.s | apply Rem.asc | apply Rem.sA) | apply Take.app (by repeat first | exact .nil | exact Take.tzA | exact Take.tz | apply Take.asc | apply Take.ts | apply Take.skA) | exact Take.tzA | apply Take.ts | apply Take.skA)
    refine GQ.onP ?_
    refine GQ.pan _ rfl ?_ (by repeat first | exact .nil | exact Take.tz | apply Take.asc | apply Take.cons (by repeat first | exact .z | apply Rem.s | apply Rem.asc | apply Rem.sA) | apply Take.app (by repeat first | exact .nil | exact Take.tzA | exact Take.tz | apply Take.asc | apply Take.ts | apply Take.skA) | exact Take.tzA | apply Take.ts | apply Take.skA)
    assumption
  · refine GD.one rfl .no (S1.ixa (j := 2) u154 s153 rfl rfl (by decide) rfl) rfl ?_
    refine GD.one rfl .no (S1.ld sc80 rfl (.at (.s (.s (.s .z)))) rfl) rfl ?_
    refine GD.one rfl .no (S1.ldW ag117 rfl (.at (.s (.s .z))) rfl) rfl ?_
    refine GD.callPF rfl rfl .no fo106 (by kernel_rfl) (show Take _ (MB b s ⟨mb, sr, ar, cl, m, p, tm, i, lv, kv, pv, lE, kE, pE, ls, kl, ps, si, ac, es⟩) _ from (by repeat first | exact .nil | exact Take.tz | apply Take.asc | apply Take.cons (by repeat first | exact .z | apply Rem.s | apply Rem.asc | apply Rem.sA) | apply Take.app (by repeat first | exact .nil | exact Take.tzA | exact Take.tz | apply Take.asc | apply Take.ts | apply Take.skA) | exact Take.tzA | apply Take.ts | apply Take.skA)) (fun h H => ct106 hln hc _ b ⟨mb, sr, ar, cl, m, p, tm, i, lv, kv, pv, lE, kE, pE, ls, kl, ps, si, ac, es⟩ _ _ _ _ _ _ _ _ _ _ _ ⟨n1, n2, n3, lo, hsi, hac, him⟩ hm hp (H.give (show Take _ (MB b s ⟨mb, sr, ar, cl, m, p, tm, i, lv, kv, pv, lE, kE, pE, ls, kl, ps, si, ac, es⟩) _ from (by repeat first | exact .nil | exact Take.tz | apply Take.asc | apply Take.cons (by repeat first | exact .z | apply Rem.s | apply Rem.asc | apply Rem.sA) | apply Take.app (by repeat first | exact .nil | exact Take.tzA | exact Take.tz | apply Take.asc | apply Take.ts | apply Take.skA) | exact Take.tzA | apply Take.ts | apply Take.skA)))) (.v (fs := []) (cs := []) rfl (.c (v := (.pointer _)) rfl (.c (v := (.agg _)) rfl .n))) (fun z q => ?_) (fun w q => ?_)
    refine GD.done rfl ?_
    refine GQ.on ?_
    refine GW.toReg rfl ?_
    refine GL.one rfl .no (S1.ld sc80 rfl (.at (.s (.s (.s (.s (.sA (.s (.s (.s .z))))))))) rfl) ?_
    refine GL.one rfl .no (S1.fa fa117_1 rfl) ?_
    refine GL.one rfl .no (S1.ld sc3 rfl (.at (.s (.s (.s (.s (.sA (.s (.s .z)))))))) rfl) ?_
    refine GL.one rfl .no (S1.nc rfl) ?_
    refine GL.one rfl .no (S1.fa fa85_4 rfl) ?_
    refine GL.one rfl .no (S1.st (u := (.int _ _)) sc3 rfl rfl rfl (by repeat constructor) .z) ?_
    refine GL.done rfl ?_
    refine GQ.retN ⟨z.mb, z.sr, z.ar, z.cl, z.m, z.p, e1, z.ev, z.lv, z.kv, z.pv, z.lE, z.kE, z.pE, z.ls, z.kl, z.ps, z.si, z.ac, z.es⟩ .nil .z rfl ⟨⟨q.1.n1, q.1.n2, q.1.n3, q.1.lo, q.1.si, q.1.ac, q.1.im⟩, q.2⟩ (by repeat first | exact .nil | exact Take.tz | apply Take.asc | apply Take.cons (by repeat first | exact .z | apply Rem.s | apply Rem.asc | apply Rem.sA) | apply Take.app (by repeat first | exact .nil | exact Take.tzA | exact Take.tz | apply Take.asc | apply Take.ts | apply Take.skA) | exact Take.tzA | apply Take.ts | apply Take.skA)
    refine GQ.onP ?_
    refine GQ.pan _ rfl ?_ (by repeat first | exact .nil | exact Take.tz | apply Take.asc | apply Take.cons (by repeat first | exact .z | apply Rem.s | apply Rem.asc | apply Rem.sA) | apply Take.app (by repeat first | exact .nil | exact Take.tzA | exact Take.tz | apply Take.asc | apply Take.ts | apply Take.skA) | exact Take.tzA | apply Take.ts | apply Take.skA)
    assumption
  · refine GD.one rfl .no (S1.ixa (j := 3) u154 s153 rfl rfl (by decide) rfl) rfl ?_
    refine GD.one rfl .no (S1.ld sc80 rfl (.at (.s (.s (.s .z)))) rfl) rfl ?_
    refine GD.one rfl .no (S1.ldW ag117 rfl (.at (.s (.s .z))) rfl) rfl ?_
    refine GD.callPF rfl rfl .no fo107 (by kernel_rfl) (show Take _ (MB b s ⟨mb, sr, ar, cl, m, p, tm, i, lv, kv, pv, lE, kE, pE, ls, kl, ps, si, ac, es⟩) _ from (by repeat first | exact .nil | exact Take.tz | apply Take.asc | apply Take.cons (by repeat first | exact .z | apply Rem.s | apply Rem.asc | apply Rem.sA) | apply Take.app (by repeat first | exact .nil | exact Take.tzA | exact Take.tz | apply Take.asc | apply Take.ts | apply Take.skA) | exact Take.tzA | apply Take.ts | apply Take.skA)) (fun h H => ct107 hln hc _ b ⟨mb, sr, ar, cl, m, p, tm, i, lv, kv, pv, lE, kE, pE, ls, kl, ps, si, ac, es⟩ _ _ _ _ _ _ _ _ _ _ _ ⟨n1, n2, n3, lo, hsi, hac, him⟩ hm hp (H.give (show Take _ (MB b s ⟨mb, sr, ar, cl, m, p, tm, i, lv, kv, pv, lE, kE, pE, ls, kl, ps, si, ac, es⟩) _ from (by repeat first | exact .nil | exact Take.tz | apply Take.asc | apply Take.cons (by repeat first | exact .z | apply Rem.s | apply Rem.asc | apply Rem.sA) | apply Take.app (by repeat first | exact .nil | exact Take.tzA | exact Take.tz | apply Take.asc | apply Take.ts | apply Take.skA) | exact Take.tzA | apply Take.ts | apply Take.skA)))) (.v (fs := []) (cs := []) rfl (.c (v := (.pointer _)) rfl (.c (v := (.agg _)) rfl .n))) (fun z q => ?_) (fun w q => ?_)
    refine GD.done rfl ?_
    refine GQ.on ?_
    refine GW.toReg rfl ?_
    refine GL.one rfl .no (S1.ld sc80 rfl (.at (.s (.s (.s (.s (.sA (.s (.s (.s .z))))))))) rfl) ?_
    refine GL.one rfl .no (S1.fa fa117_1 rfl) ?_
    refine GL.one rfl .no (S1.ld sc3 rfl (.at (.s (.s (.s (.s (.sA (.s (.s .z)))))))) rfl) ?_
    refine GL.one rfl .no (S1.nc rfl) ?_
    refine GL.one rfl .no (S1.fa fa85_4 rfl) ?_
    refine GL.one rfl .no (S1.st (u := (.int _ _)) sc3 rfl rfl rfl (by repeat constructor) .z) ?_
    refine GL.done rfl ?_
    refine GQ.retN ⟨z.mb, z.sr, z.ar, z.cl, z.m, z.p, e1, z.ev, z.lv, z.kv, z.pv, z.lE, z.kE, z.pE, z.ls, z.kl, z.ps, z.si, z.ac, z.es⟩ .nil .z rfl ⟨⟨q.1.n1, q.1.n2, q.1.n3, q.1.lo, q.1.si, q.1.ac, q.1.im⟩, q.2⟩ (by repeat first | exact .nil | exact Take.tz | apply Take.asc | apply Take.cons (by repeat first | exact .z | apply Rem.s | apply Rem.asc | apply Rem.sA) | apply Take.app (by repeat first | exact .nil | exact Take.tzA | exact Take.tz | apply Take.asc | apply Take.ts | apply Take.skA) | exact Take.tzA | apply Take.ts | apply Take.skA)
    refine GQ.onP ?_
    refine GQ.pan _ rfl ?_ (by repeat first | exact .nil | exact Take.tz | apply Take.asc | apply Take.cons (by repeat first | exact .z | apply Rem.s | apply Rem.asc | apply Rem.sA) | apply Take.app (by repeat first | exact .nil | exact Take.tzA | exact Take.tz | apply Take.asc | apply Take.ts | apply Take.skA) | exact Take.tzA | apply Take.ts | apply Take.skA)
    assumption
  · refine GD.one rfl .no (S1.ixa (j := 4) u154 s153 rfl rfl (by decide) rfl) rfl ?_
    refine GD.one rfl .no (S1.ld sc80 rfl (.at (.s (.s (.s .z)))) rfl) rfl ?_
    refine GD.one rfl .no (S1.ldW ag117 rfl (.at (.s (.s .z))) rfl) rfl ?_
    refine GD.callPF rfl rfl .no fo108 (by kernel_rfl) (show Take _ (MB b s ⟨mb, sr, ar, cl, m, p, tm, i, lv, kv, pv, lE, kE, pE, ls, kl, ps, si, ac, es⟩) _ from (by repeat first | exact .nil | exact Take.tz | apply Take.asc | apply Take.cons (by repeat first | exact .z | apply Rem.s | apply Rem.asc | apply Rem.sA) | apply Take.app (by repeat first | exact .nil | exact Take.tzA | exact Take.tz | apply Take.asc | apply Take.ts | apply Take.skA) | exact Take.tzA | apply Take.ts | apply Take.skA)) (fun h H => ct108 hln hcn _ b ⟨mb, sr, ar, cl, m, p, tm, i, lv, kv, pv, lE, kE, pE, ls, kl, ps, si, ac, es⟩ _ _ _ _ _ _ _ _ _ _ _ ⟨n1, n2, n3, lo, hsi, hac, him⟩ hm hp (H.give (show Take _ (MB b s ⟨mb, sr, ar, cl, m, p, tm, i, lv, kv, pv, lE, kE, pE, ls, kl, ps, si, ac, es⟩) _ from (by repeat first | exact .nil | exact Take.tz | apply Take.asc | apply Take.cons (by repeat first | exact .z | apply Rem.s | apply Rem.asc | apply Rem.sA) | apply Take.app (by repeat first | exact .nil | exact Take.tzA | exact Take.tz | apply Take.asc | apply Take.ts | apply Take.skA) | exact Take.tzA | apply Take.ts | apply Take.skA)))) (.v (fs := []) (cs := []) rfl (.c (v := (.pointer _)) rfl (.c (v := (.agg _)) rfl .n))) (fun z q => ?_) (fun w q => ?_)
    refine GD.done rfl ?_
    refine GQ.on ?_
    refine GW.toReg rfl ?_
    refine GL.one rfl .no (S1.ld sc80 rfl (.at (.s (.s (.s (.s (.sA (.s (.s (.s .z))))))))) rfl) ?_
    refine GL.one rfl .no (S1.fa fa117_1 rfl) ?_
    refine GL.one rfl .no (S1.ld sc3 rfl (.at (.s (.s (.s (.s (.sA (.s (.s .z)))))))) rfl) ?_
    refine GL.one rfl .no (S1.nc rfl) ?_
    refine GL.one rfl .no (S1.fa fa85_4 rfl) ?_
    refine GL.one rfl .no (S1.st (u := (.int _ _)) sc3 rfl rfl rfl (by repeat constructor) .z) ?_
    refine GL.done rfl ?_
    refine GQ.retN ⟨z.mb, z.sr, z.ar, z.cl, z.m, z.p, e1, z.ev, z.lv, z.kv, z.pv, z.lE, z.kE, z.pE, z.ls, z.kl, z.ps, z.si, z.ac, z.es⟩ .nil .z rfl ⟨⟨q.1.n1, q.1.n2, q.1.n3, q.1.lo, q.1.si, q.1.ac, q.1.im⟩, q.2⟩ (by repeat first | exact .nil | exact Take.tz | apply Take.asc | apply Take.cons (by repeat first | exact .z | apply Rem.s | apply Rem.asc | apply Rem.sA) | apply Take.app (by repeat first | exact .nil | exact Take.tzA | exact Take.tz | apply Take.asc | apply Take.ts | apply Take.skA) | exact Take.tzA | apply Take.ts | apply Take.skA)
    refine GQ.onP ?_
    refine GQ.pan _ rfl ?_ (by repeat first | exact .nil | exact Take.tz | apply Take.asc | apply Take.cons (by repeat first | exact .z | apply Rem.s | apply Rem.asc | apply Rem.sA) | apply Take.app (by repeat first | exact .nil | exact Take.tzA | exact Take.tz | apply Take.asc | apply Take.ts | apply Take.skA) | exact Take.tzA | apply Take.ts | apply Take.skA)
    assumption
  · refine GD.one rfl .no (S1.ixa (j := 5) u154 s153 rfl rfl (by decide) rfl) rfl ?_
    refine GD.one rfl .no (S1.ld sc80 rfl (.at (.s (.s (.s .z)))) rfl) rfl ?_
    refine GD.one rfl .no (S1.ldW ag117 rfl (.at (.s (.s .z))) rfl) rfl ?_
    refine GD.callPF rfl rfl .no fo109 (by kernel_rfl) (show Take _ (MB b s ⟨mb, sr, ar, cl, m, p, tm, i, lv, kv, pv, lE, kE, pE, ls, kl, ps, si, ac, es⟩) _ from (by repeat first | exact .nil | exact Take.tz | apply Take.asc | apply Take.cons (by repeat first | exact .z | apply Rem.s | apply Rem.asc | apply Rem.sA) | apply Take.app (by repeat first | exact .nil | exact Take.tzA | exact Take.tz | apply Take.asc | apply Take.ts | apply Take.skA) | exact Take.tzA | apply Take.ts | apply Take.skA)) (fun h H => ct109 hln _ b ⟨mb, sr, ar, cl, m, p, tm, i, lv, kv, pv, lE, kE, pE, ls, kl, ps, si, ac, es⟩ _ _ _ _ _ _ _ _ _ _ _ ⟨n1, n2, n3, lo, hsi, hac, him⟩ hm hp (H.give (show Take _ (MB b s ⟨mb, sr, ar, cl, m, p, tm, i, lv, kv, pv, lE, kE, pE, ls, kl, ps, si, ac, es⟩) _ from (by repeat first | exact .nil | exact Take.tz | apply Take.asc | apply Take.cons (by repeat first | exact .z | apply Rem.s | apply Rem.asc | apply Rem.sA) | apply Take.app (by repeat first | exact .nil | exact Take.tzA | exact Take.tz | apply Take.asc | apply Take.ts | apply Take.skA) | exact Take.tzA | apply Take.ts | apply Take.skA)))) (.v (fs := []) (cs := []) rfl (.c (v := (.pointer _)) rfl (.c (v := (.agg _)) rfl .n))) (fun z q => ?_) (fun w q => ?_)
    refine GD.done rfl ?_
    refine GQ.on ?_
    refine GW.toReg rfl ?_
    refine GL.one rfl .no (S1.ld sc80 rfl (.at (.s (.s (.s (.s (.sA (.s (.s (.s .z))))))))) rfl) ?_
    refine GL.one rfl .no (S1.fa fa117_1 rfl) ?_
    refine GL.one rfl .no (S1.ld sc3 rfl (.at (.s (.s (.s (.s (.sA (.s (.s .z)))))))) rfl) ?_
    refine GL.one rfl .no (S1.nc rfl) ?_
    refine GL.one rfl .no (S1.fa fa85_4 rfl) ?_
    refine GL.one rfl .no (S1.st (u := (.int _ _)) sc3 rfl rfl rfl (by repeat constructor) .z) ?_
    refine GL.done rfl ?_
    refine GQ.retN ⟨z.mb, z.sr, z.ar, z.cl, z.m, z.p, e1, z.ev, z.lv, z.kv, z.pv, z.lE, z.kE, z.pE, z.ls, z.kl, z.ps, z.si, z.ac, z.es⟩ .nil .z rfl ⟨⟨q.1.n1, q.1.n2, q.1.n3, q.1.lo, q.1.si, q.1.ac, q.1.im⟩, q.2⟩ (by repeat first | exact .nil | exact Take.tz | apply Take.asc | apply Take.cons (by repeat first | exact .z | apply Rem.s | apply Rem.asc | apply Rem.sA) | apply Take.app (by repeat first | exact .nil | exact Take.tzA | exact Take.tz | apply Take.asc | apply Take.ts | apply Take.skA) | exact Take.tzA | apply Take.ts | apply Take.skA)
    refine GQ.onP ?_
    refine GQ.pan _ rfl ?_ (by repeat first | exact .nil | exact Take.tz | apply Take.asc | apply Take.cons (by repeat first | exact .z | apply Rem.s | apply Rem.asc | apply Rem.sA) | apply Take.app (by repeat first | exact .nil | exact Take.tzA | exact Take.tz | apply Take.asc | apply Take.ts | apply Take.skA) | exact Take.tzA | apply Take.ts | apply Take.skA)
    assumption
  · refine GD.one rfl .no (S1.ixa (j := 6) u154 s153 rfl rfl (by decide) rfl) rfl ?_
    refine GD.one rfl .no (S1.ld sc80 rfl (.at (.s (.s (.s .z)))) rfl) rfl ?_
    refine GD.one rfl .no (S1.ldW ag117 rfl (.at (.s (.s .z))) rfl) rfl ?_
    refine GD.callPF rfl rfl .no fo110 (by kernel_rfl) (show Take _ (MB b s ⟨mb, sr, ar, cl, m, p, tm, i, lv, kv, pv, lE, kE, pE, ls, kl, ps, si, ac, es⟩) _ from (by repeat first | exact .nil | exact Take.tz | apply Take.asc | apply Take.cons (by repeat first | exact .z | apply Rem.s | apply Rem.asc | apply Rem.sA) | apply Take.app (by repeat first | exact .nil | exact Take.tzA | exact Take.tz | apply Take.asc | apply Take.ts | apply Take.skA) | exact Take.tzA | apply Take.ts | apply Take.skA)) (fun h H => ct110 hln _ b ⟨mb, sr, ar, cl, m, p, tm, i, lv, kv, pv, lE, kE, pE, ls, kl, ps, si, ac, es⟩ _ _ _ _ _ _ _ _ _ _ _ ⟨n1, n2, n3, lo, hsi, hac, him⟩ hm hp (H.give (show Take _ (MB b s ⟨mb, sr, ar, cl, m, p, tm, i, lv, kv, pv, lE, kE, pE, ls, kl, ps, si, ac, es⟩) _ from (by repeat first | exact .nil | exact Take.tz | apply Take.asc | apply Take.cons (by repeat first | exact .z | apply Rem.s | apply Rem.asc | apply Rem.sA) | apply Take.app (by repeat first | exact .nil | exact Take.tzA | exact Take.tz | apply Take.asc | apply Take.ts | apply Take.skA) | exact Take.tzA | apply Take.ts | apply Take.skA)))) (.v (fs := []) (cs := []) rfl (.c (v := (.pointer _)) rfl (.c (v := (.agg _)) rfl .n))) (fun z q => ?_) (fun w q => ?_)
    refine GD.done rfl ?_
    refine GQ.on ?_
    refine GW.toReg rfl ?_
    refine GL.one rfl .no (S1.ld sc80 rfl (.at (.s (.s (.s (.s (.sA (.s (.s (.s .z))))))))) rfl) ?_
    refine GL.one rfl .no (S1.fa fa117_1 rfl) ?_
    refine GL.one rfl .no (S1.ld sc3 rfl (.at (.s (.s (.s (.s (.sA (.s (.s .z)))))))) rfl) ?_
    refine GL.one rfl .no (S1.nc rfl) ?_
    refine GL.one rfl .no (S1.fa fa85_4 rfl) ?_
    refine GL.one rfl .no (S1.st (u := (.int _ _)) sc3 rfl rfl rfl (by repeat constructor) .z) ?_
    refine GL.done rfl ?_
    refine GQ.retN ⟨z.mb, z.sr, z.ar, z.cl, z.m, z.p, e1, z.ev, z.lv, z.kv, z.pv, z.lE, z.kE, z.pE, z.ls, z.kl, z.ps, z.si, z.ac, z.es⟩ .nil .z rfl ⟨⟨q.1.n1, q.1.n2, q.1.n3, q.1.lo, q.1.si, q.1.ac, q.1.im⟩, q.2⟩ (by repeat first | exact .nil | exact Take.tz | apply Take.asc | apply Take.cons (by repeat first | exact .z | apply Rem.s | apply Rem.asc | apply Rem.sA) | apply Take.app (by repeat first | exact .nil | exact Take.tzA | exact Take.tz | apply Take.asc | apply Take.ts | apply Take.skA) | exact Take.tzA | apply Take.ts | apply Take.skA)
    refine GQ.onP ?_
    refine GQ.pan _ rfl ?_ (by repeat first | exact .nil | exact Take.tz | apply Take.asc | apply Take.cons (by repeat first | exact .z | apply Rem.s | apply Rem.asc | apply Rem.sA) | apply Take.app (by repeat first | exact .nil | exact Take.tzA | exact Take.tz | apply Take.asc | apply Take.ts | apply Take.skA) | exact Take.tzA | apply Take.ts | apply Take.skA)
    assumption
end
end Go.Proofs.YtkpbpfnmgnpfaaaGreat
namespace Go.Proofs.YtkpbpfnmgnpfaaaGreat
open Go Go.E
set_option maxRecDepth 100000
set_option maxHeartbeats 1000000

section
variable {h : EH} {hr : RO} {s : Sch} {b : Nat} {y : BkS} {i e0 e1 e2 e3 e4 e5 e6 e7 e8 e9 e10 : Int}

theorem ct76 (hln : s.ln ≤ 1073741824) (hcn : s.cn ≤ 1073741824) (hL : Cell hr (.sl ly9) (.slice s.la s.ln s.lc)) (hc : Cell hr (.sl ly74) (.slice s.ca s.cn s.cc)) (hT : Cell hr (.sl ly78) (.slice s.ta s.tn s.tc))
    (hI : BkI s y) (hm : y.m < 1073741824) (hp : y.p + 2 ≤ 1073741824) (H : Hp hr h ((MB b s y).map (·.1)) (MB b s y) h) :
    Ct Tryz.prog 76 ⟨[.pointer (some ⟨b, 0, none⟩), .int .i64 i, .agg ⟨EvC e0 e1 e2 e3 e4 e5 e6 e7 e8 e9 e10⟩]⟩ h ((MB b s y).map (·.1)) (fun w : Int × BkS => .int .i64 w.1) (fun w => BkI s w.2 ∧ w.2.m ≤ y.m + 1 ∧ w.2.p ≤ y.p + 2) (fun w => MB b s w.2) := by
  refine Ct.go Tryz.func76 rfl rfl co76 H ?_
  refine GW.toSeq rfl ?_
  refine GW.toReg rfl ?_
  refine GL.opN rfl .no (SN.bx (u := (.pointer _)) rfl (.one rfl)) (fun a1 => ?_)
  refine GL.opN rfl .no (SN.bx (u := (.int _ _)) rfl (.one rfl)) (fun a2 => ?_)
  refine GL.opN rfl .no (SN.bx (u := .agg ⟨_⟩) rfl .agg) (fun a3 => ?_)
  refine GL.one rfl .no (S1.as (v := (.int _ _)) rfl) ?_
  refine GL.done rfl ?_
  refine GQ.on ?_
  refine GW.toSeq rfl ?_
  refine GW.toReg rfl ?_
  refine GL.one rfl .no (S1.mf .n (.c (v := (.pointer _)) rfl (.c (v := (.pointer _)) rfl (.c (v := (.pointer _)) rfl .n)))) ?_
  refine GL.call (X := Int × BkS) (V := fun w => .int .i64 w.1) (R := fun w => (w.1 = 0 ∧ (BkI s w.2 ∧ w.2.m ≤ y.m + 1 ∧ w.2.p ≤ y.p + 2)) ∨ (BkI s w.2 ∧ w.2.m ≤ y.m + 1 ∧ w.2.p ≤ y.p + 2)) (M := fun w => M99 a3 a1 a2 b s i e0 e1 e2 e3 e4 e5 e6 e7 e8 e9 e10 w.2) (ps := M99 a3 a1 a2 b s i e0 e1 e2 e3 e4 e5 e6 e7 e8 e9 e10 y) rfl .no fo49 (by repeat first | exact .nil | exact Take.tz | apply Take.asc | apply Take.cons (by repeat first | exact .z | apply Rem.s | apply Rem.asc | apply Rem.sA) | apply Take.app (by repeat first | exact .nil | exact Take.tzA | exact Take.tz | apply Take.asc | apply Take.ts | apply Take.skA) | exact Take.tzA | apply Take.ts | apply Take.skA)
    (fun h' H' => ct49 (H'.give (ps := M99 a3 a1 a2 b s i e0 e1 e2 e3 e4 e5 e6 e7 e8 e9 e10 y) (by repeat first | exact .nil | exact Take.tz | apply Take.asc | apply Take.cons (by repeat first | exact .z | apply Rem.s | apply Rem.asc | apply Rem.sA) | apply Take.app (by repeat first | exact .nil | exact Take.tzA | exact Take.tz | apply Take.asc | apply Take.ts | apply Take.skA) | exact Take.tzA | apply Take.ts | apply Take.skA)) fo99 (fun h2 H2 => ct99 hln hcn hL hc hT hI hm hp H2)) (.d (.c (v := .func _ ⟨[]⟩ ⟨[_, _, _]⟩) rfl .n)) (fun w q => ?_)
  refine GL.one rfl .no (S1.as (v := (.int _ _)) rfl) ?_
  refine GL.done rfl ?_
  refine GQ.on ?_
  refine GW.toRet rfl ?_
  refine GQ.ret _ (.tmp (v := (.int _ _)) rfl rfl .nil) .one rfl ?_ (by repeat first | exact .nil | exact Take.tz | apply Take.asc | apply Take.cons (by repeat first | exact .z | apply Rem.s | apply Rem.asc | apply Rem.sA) | apply Take.app (by repeat first | exact .nil | exact Take.tzA | exact Take.tz | apply Take.asc | apply Take.ts | apply Take.skA) | exact Take.tzA | apply Take.ts | apply Take.skA)
  exact q.elim (fun q => q.2) id
end
end Go.Proofs.YtkpbpfnmgnpfaaaGreat
namespace Go.Proofs.YtkpbpfnmgnpfaaaGreat
open Go Go.E
set_option maxRecDepth 100000
set_option maxHeartbeats 1000000

theorem ints_rep {n : Nat} {x : Int} : List.replicate n (Value.int .i64 x) = ints (List.replicate n x) := by simp [ints]

section
variable {h : EH} {hr : RO} {s : Sch} {n : Nat}

abbrev V75 : Int ⊕ (Nat × BkS) → Value := fun x => match x with | .inl e => .tuple ⟨[.pointer none, .int .i64 e]⟩ | .inr (b, _) => .tuple ⟨[.pointer (some ⟨b, 0, none⟩), .int .i64 0]⟩
abbrev M75 (s : Sch) : Int ⊕ (Nat × BkS) → Ents := fun x => match x with | .inl _ => [] | .inr (b, y) => MB b s y
abbrev R75 (s : Sch) (n : Nat) : Int ⊕ (Nat × BkS) → Prop := fun x => match x with | .inl e => e ≠ 0 | .inr (_, y) => BkI s y ∧ y.m = 0 ∧ y.p = 0 ∧ n ≤ 60 ∧ s.ln ≤ 8 ∧ s.cn ≤ 5

theorem ct75 (hR : ∀ b o, hr b = some o → h[b]? = some o) (hL : Cell hr (.sl ly9) (.slice s.la s.ln s.lc)) (hc : Cell hr (.sl ly74) (.slice s.ca s.cn s.cc)) (hT : Cell hr (.sl ly78) (.slice s.ta s.tn s.tc)) :
    Ct Tryz.prog 75 ⟨[.agg ⟨[.slice s.la s.ln s.lc, .slice s.ca s.cn s.cc, .int .i64 s.x1, .int .i64 s.x2, .int .i64 s.x3, .int .i64 s.x4, .slice s.ta s.tn s.tc]⟩, .int .i64 (n : Int)]⟩ h [] V75 (R75 s n) (M75 s) := by
  have hl1 := hL.le
  have hl2 := hc.le
  have hl3 := hT.le
  refine Ct.go Tryz.func75 rfl rfl co75 (Hp.start hR) ?_
  refine GW.toSeq rfl ?_
  refine GW.toReg rfl ?_
  refine GL.opN rfl .no (SN.bx (u := .agg ⟨_⟩) rfl .agg) (fun a1 => ?_)
  refine GL.one rfl .no (S1.as (v := (.pointer _)) rfl) ?_
  refine GL.one rfl .no (S1.as (v := (.int _ _)) rfl) ?_
  refine GL.done rfl ?_
  refine GQ.on ?_
  refine GW.toSeq rfl ?_
  refine GW.toSeq rfl ?_
  refine GW.toReg rfl ?_
  refine GL.one rfl .no (S1.ldW ag28 rfl (.at .z) rfl) ?_
  refine GL.call rfl .no fo7 .nil (fun h H => ct7 H.rom hL hc hT) (.d (.c (v := (.agg _)) rfl .n)) (fun ⟨u2, v2, w2⟩ r2 => ?_)
  refine GL.one rfl .no (S1.mv (v := (.tuple _)) rfl) ?_
  refine GL.one rfl .no (S1.ext (v := (.int _ _)) rfl rfl) ?_
  refine GL.one rfl .no (S1.ext (v := (.int _ _)) rfl rfl) ?_
  refine GL.one rfl .no (S1.ext (v := (.int _ _)) rfl rfl) ?_
  refine GL.one rfl .no (S1.as (v := (.int _ _)) rfl) ?_
  refine GL.one rfl .no (S1.as (v := (.int _ _)) rfl) ?_
  refine GL.one rfl .no (S1.as (v := (.int _ _)) rfl) ?_
  refine GL.done rfl ?_
  refine GQ.on ?_
  refine GW.toSeq rfl ?_
  refine GW.toReg rfl ?_
  refine GL.one rfl .no (S1.mv (v := (.int _ _)) rfl) ?_
  refine GL.one rfl .no (S1.neq rfl rfl) ?_
  refine GL.done rfl ?_
  refine GQ.on ?_
  refine GW.toD rfl rfl (fun w3 => ?_) (fun w3 => ?_)
  refine GW.toSeq rfl ?_
  refine GW.toReg rfl ?_
  refine GL.one rfl .no (S1.mv (v := (.int _ _)) rfl) ?_
  refine GL.one rfl .no (S1.as (v := (.pointer _)) rfl) ?_
  refine GL.one rfl .no (S1.as (v := (.int _ _)) rfl) ?_
  refine GL.done rfl ?_
  refine GQ.on ?_
  refine GW.toRet rfl ?_
  refine GQ.onR ?_
  refine GQ.ret (.inl _) (.tmp (v := .pointer none) rfl rfl (.tmp (v := .int _ _) rfl rfl .nil)) .more rfl ?_ .nil
  assumption
  refine GW.toSkip rfl ?_
  refine GQ.on ?_
  refine GW.toSeq rfl ?_
  refine GW.toSeq rfl ?_
  refine GW.toReg rfl ?_
  refine GL.one rfl .no (S1.mv (v := (.int _ _)) rfl) ?_
  refine GL.one rfl .no (S1.gtr rfl rfl) ?_
  refine GL.done rfl ?_
  refine GQ.on ?_
  refine GW.toD rfl rfl (fun w4 => ?_) (fun w4 => ?_)
  refine GW.toSeq rfl ?_
  refine GW.toReg rfl ?_
  refine GL.one rfl .no (S1.as (v := (.pointer _)) rfl) ?_
  refine GL.one rfl .no (S1.as (v := (.int _ _)) rfl) ?_
  refine GL.done rfl ?_
  refine GQ.on ?_
  refine GW.toRet rfl ?_
  refine GQ.onR ?_
  refine GQ.ret (.inl _) (.tmp (v := .pointer none) rfl rfl (.tmp (v := .int _ _) rfl rfl .nil)) .more rfl ?_ .nil
  omega
  refine GW.toSkip rfl ?_
  refine GQ.on ?_
  refine GW.toSeq rfl ?_
  refine GW.toReg rfl ?_
  refine GL.one rfl .no (S1.ldW ag28 rfl (.at .z) rfl) ?_
  refine GL.opN rfl .no (SN.mm) (fun a5 => ?_)
  refine GL.one rfl .no (S1.bu zc85 bo85 (.c (v := .agg ⟨_⟩) rfl .agg fz85_0 rfl (by repeat constructor) (.c (v := (.map _)) rfl (.one rfl) fz85_2 rfl (by repeat constructor) .n))) ?_
  refine GL.opN rfl .no (SN.bx (u := .agg ⟨_⟩) rfl .agg) (fun a6 => ?_)
  refine GL.one rfl .no (S1.as (v := (.pointer _)) rfl) ?_
  refine GL.done rfl ?_
  refine GQ.on ?_
  refine GW.toSeq rfl ?_
  refine GW.toSeq rfl ?_
  refine GW.toReg rfl ?_
  refine GL.one rfl .no (S1.fa fa28_1 rfl) ?_
  refine GL.one rfl .no (S1.ld sc23 rfl (.at (.s (.s .z))) rfl) ?_
  refine GL.one rfl .no (S1.len el23 rfl) ?_
  refine GL.one rfl .no (S1.mv (v := (.int _ _)) rfl) ?_
  refine GL.done rfl ?_
  refine GQ.on ?_
  refine GW.toBlock rfl ?_
  have hck := r2 (by simp only at w3 ⊢; omega)
  refine GW.toLoop (fun x : Nat × Value × Ents × List Int => [(2, .pointer (some ⟨a1, 0, none⟩)), (9, .pointer (some ⟨a6, 0, none⟩)), (28, .slice s.ca s.cn s.cc), (29, .int .i64 s.cn), (30, .int .i64 x.1)])
    (fun x => (a6, .cells (bkC s nilS x.2.1 nilS nilS nilS a5 0 0) none true) :: (a5, .map [] 0) :: (a1, .cells [.slice s.la s.ln s.lc, .slice s.ca s.cn s.cc, .int .i64 s.x1, .int .i64 s.x2, .int .i64 s.x3, .int .i64 s.x4, .slice s.ta s.tn s.tc] none true) :: x.2.2.1)
    (fun x => x.1 ≤ s.cn ∧ NR 1 x.2.1 x.2.2.1 x.1 x.2.2.2) (fun x => s.cn - x.1) rfl (0, nilS, [], []) ⟨Nat.zero_le _, .nil⟩ (.c rfl (.c rfl (.c rfl (.c rfl (.c rfl .n))))) (.cons .z (.cons .z (.cons .z .nil))) ?_
  rintro ⟨i, kv, kE, kl⟩ f ⟨hi0, n2⟩
  simp only at hi0 n2
  cases n2 with
  | nil =>
    refine GW.toSeq rfl ?_
    refine GW.toReg rfl ?_
    refine GL.one rfl .no (S1.lss rfl rfl) ?_
    refine GL.done rfl ?_
    refine GQ.on ?_
    refine GW.toSeq rfl ?_
    refine GW.toD rfl rfl (fun w7 => ?_) (fun w7 => ?_)
    refine GW.toSkip rfl ?_
    refine GQ.on ?_
    refine GW.toSeq rfl ?_
    refine GW.toBlock rfl ?_
    refine GW.toSeq rfl ?_
    refine GW.toReg rfl ?_
    refine GL.one rfl .no (S1.ixR el23 hc rfl rfl (by omega)) ?_
    refine GL.one rfl .no (S1.ldE ag74 hc rfl (m := (0, Go.E.nilS, [], []).fst) (by omega) rfl le74) ?_
    refine GL.opN rfl .no (SN.al zc74) (fun a8 => ?_)
    refine GL.one rfl .no (S1.stA ag74 rfl rfl rfl rfl (by repeat constructor) .z) ?_
    refine GL.done rfl ?_
    refine GQ.on ?_
    refine GW.toDrw mx rfl ?_
    refine GD.one rfl .no (S1.mv (v := (.pointer _)) rfl) rfl ?_
    refine GD.one rfl .no (S1.mv (v := (.pointer _)) rfl) rfl ?_
    refine GD.one rfl .no (S1.nc rfl) rfl ?_
    refine GD.one rfl .no (S1.fa fa85_1 rfl) rfl ?_
    refine GD.one rfl .no (S1.fa fa49_1 rfl) rfl ?_
    refine GD.one rfl .no (S1.ld sc32 rfl (.at (.s .z)) rfl) rfl ?_
    refine GD.one rfl .no (S1.fa fa74_1 rfl) rfl ?_
    refine GD.one rfl .no (S1.ld sc3 rfl (.at .z) rfl) rfl ?_
    refine GD.opN rfl .no (SN.bs el32 ez32 (.c (v := (.int _ _)) rfl rfl .n) rfl rfl) rfl (fun a9 => ?_)
    refine GD.loudN rfl .no (SN.ap0 ap32_32 rfl (.row rfl (.at .z) rfl) (by omega) (by omega)) rfl rfl (by kernel_rfl) (fun a11 => ?_)
    refine GD.one rfl .no (S1.nc rfl) rfl ?_
    refine GD.one rfl .no (S1.fa fa85_1 rfl) rfl ?_
    refine GD.one rfl .no (S1.fa fa49_1 rfl) rfl ?_
    refine GD.loud rfl .no (S1.st (u := (.slice _ _ _)) sc32 rfl rfl rfl (by repeat constructor) (.s (.s (.s .z)))) rfl rfl (by kernel_rfl) ?_
    refine GD.done rfl ?_
    refine GQ.outN ?_
    refine GQ.on ?_
    refine GW.toReg rfl ?_
    refine GL.one rfl .no (S1.inc rfl rfl (by omega)) ?_
    refine GL.one rfl .no (S1.mv (v := (.int _ _)) rfl) ?_
    refine GL.done rfl ?_
    refine GQ.next (1, rowS _ 1, [(_, opRow (ints [_]) 1)], [_]) ⟨by simp only; omega, .row (by omega) rfl⟩ (by simp only; omega) (.c rfl (.c rfl (.c rfl (.c rfl (.c rfl .n))))) (.cons (.s (.s (.s .z))) (.cons (.s (.s (.s .z))) (.cons (.s (.s (.s .z))) (.cons .z .nil))))
    refine GW.toExit rfl ?_
    refine GQ.onE ?_
    refine GQ.onE ?_
    refine GQ.outH ?_
    refine GQ.on ?_
    refine GW.toSeq rfl ?_
    refine GW.toDrwW [a6] mx rfl (fun _ H => InL.go (.c .z .n) H) ?_
    refine GE.one rfl .no (S1.mv (v := (.pointer _)) rfl) rfl (.f (by kernel_rfl)) ?_
    refine GE.one rfl .no (S1.mv (v := (.pointer _)) rfl) rfl (.f (by kernel_rfl)) ?_
    refine GE.one rfl .no (S1.fa fa28_1 rfl) rfl (.f (by kernel_rfl)) ?_
    refine GE.one rfl .no (S1.ld sc23 rfl (.at (.s (.s .z))) rfl) rfl (.f (by kernel_rfl)) ?_
    refine GE.one rfl .no (S1.len el23 rfl) rfl (.f (by kernel_rfl)) ?_
    refine GE.opN rfl .no (SN.ms ze32 el32 rfl rfl rfl (by omega)) rfl (.f (by kernel_rfl)) (fun a12 => ?_)
    refine GE.one rfl .no (S1.fa fa28_0 rfl) rfl (.f (by kernel_rfl)) ?_
    refine GE.one rfl .no (S1.ld sc22 rfl (.at (.s (.s (.s .z)))) rfl) rfl (.b rfl (fun _ H => NoW.go (by repeat first | exact .n | apply NoW.c (.s (.r (.s .z)))) H)) ?_
    refine GE.one rfl .no (S1.len el22 rfl) rfl (.n rfl) ?_
    refine GE.one rfl .no (S1.addN (n := 4) rfl rfl (by omega)) rfl (.f (by kernel_rfl)) ?_
    refine GE.opN rfl .no (SN.ms ze32 el32 rfl rfl rfl (by omega)) rfl (.n rfl) (fun a13 => ?_)
    refine GE.one rfl .no (S1.nc rfl) rfl (.f (by kernel_rfl)) ?_
    refine GE.one rfl .no (S1.fa fa85_1 rfl) rfl (.f (by kernel_rfl)) ?_
    refine GE.one rfl .no (S1.fa fa49_2 rfl) rfl (.f (by kernel_rfl)) ?_
    refine GE.loud rfl .no (S1.st (u := (.slice _ _ _)) sc32 rfl rfl rfl (by repeat constructor) (.s (.s .z))) rfl rfl (by first | exact .w rfl (by simp) | exact .n rfl) ?_
    refine GE.one rfl .no (S1.nc rfl) rfl (.f (by kernel_rfl)) ?_
    refine GE.one rfl .no (S1.fa fa85_1 rfl) rfl (.f (by kernel_rfl)) ?_
    refine GE.one rfl .no (S1.fa fa49_3 rfl) rfl (.f (by kernel_rfl)) ?_
    refine GE.loud rfl .no (S1.st (u := (.slice _ _ _)) sc32 rfl rfl rfl (by repeat constructor) (.s (.s .z))) rfl rfl (.f (by kernel_rfl)) ?_
    refine GE.done rfl ?_
    refine GQ.on ?_
    refine GW.toSeq rfl ?_
    refine GW.toReg rfl ?_
    refine GL.one rfl .no (S1.mv (v := (.pointer _)) rfl) ?_
    refine GL.one rfl .no (S1.as (v := (.pointer _)) rfl) ?_
    refine GL.one rfl .no (S1.as (v := (.int _ _)) rfl) ?_
    refine GL.done rfl ?_
    refine GQ.on ?_
    refine GW.toRet rfl ?_
    have e0 : s.cn = 0 := by simp only at *; omega
    simp only [ints_rep]
    refine GQ.ret (.inr (a6, ⟨a5, a12, a13, 0, 0, 0, 0, 0, nilS, nilS, nilS, [], [], [], [], [], [], List.replicate s.cn 0, List.replicate (s.ln + 4) 0, []⟩)) (.tmp (v := .pointer _) rfl rfl (.tmp (v := .int _ _) rfl rfl .nil)) .more rfl ⟨⟨.nil, by rw [e0]; exact .nil, .nil, LsOk.nil, by simp, by simp, IM.nil⟩, rfl, rfl, by omega, hck.1, hck.2.1⟩ (.cons (.s (.s .z)) (.cons (.s (.s .z)) (.cons (.s .z) (.cons .z .nil))))
  | @row r i l h1 h2 =>
    refine GW.toSeq rfl ?_
    refine GW.toReg rfl ?_
    refine GL.one rfl .no (S1.lss rfl rfl) ?_
    refine GL.done rfl ?_
    refine GQ.on ?_
    refine GW.toSeq rfl ?_
    refine GW.toD rfl rfl (fun w14 => ?_) (fun w14 => ?_)
    refine GW.toSkip rfl ?_
    refine GQ.on ?_
    refine GW.toSeq rfl ?_
    refine GW.toBlock rfl ?_
    refine GW.toSeq rfl ?_
    refine GW.toReg rfl ?_
    refine GL.one rfl .no (S1.ixR el23 hc rfl rfl (by omega)) ?_
    refine GL.one rfl .no (S1.ldE ag74 hc rfl (m := (i, Go.E.rowS r i, [(r, Go.E.opRow (Go.E.ints kl) 1)], kl).fst) (by omega) rfl le74) ?_
    refine GL.opN rfl .no (SN.al zc74) (fun a15 => ?_)
    refine GL.one rfl .no (S1.stA ag74 rfl rfl rfl rfl (by repeat constructor) .z) ?_
    refine GL.done rfl ?_
    refine GQ.on ?_
    refine GW.toDrw mx rfl ?_
    refine GD.one rfl .no (S1.mv (v := (.pointer _)) rfl) rfl ?_
    refine GD.one rfl .no (S1.mv (v := (.pointer _)) rfl) rfl ?_
    refine GD.one rfl .no (S1.nc rfl) rfl ?_
    refine GD.one rfl .no (S1.fa fa85_1 rfl) rfl ?_
    refine GD.one rfl .no (S1.fa fa49_1 rfl) rfl ?_
    refine GD.one rfl .no (S1.ld sc32 rfl (.at (.s .z)) rfl) rfl ?_
    refine GD.one rfl .no (S1.fa fa74_1 rfl) rfl ?_
    refine GD.one rfl .no (S1.ld sc3 rfl (.at .z) rfl) rfl ?_
    refine GD.opN rfl .no (SN.bs el32 ez32 (.c (v := (.int _ _)) rfl rfl .n) rfl rfl) rfl (fun a16 => ?_)
    refine GD.loudN rfl .no (SN.apO ap32_32 rfl (.row rfl (.at .z) rfl) (by omega) (by omega) rfl (.s (.s (.s (.s (.s .z))))) (by first | rfl | omega | (rw [ints_len]; omega) | (rw [strs_len]; omega))) rfl rfl (by kernel_rfl) (fun a18 => ?_)
    refine GD.one rfl .no (S1.nc rfl) rfl ?_
    refine GD.one rfl .no (S1.fa fa85_1 rfl) rfl ?_
    refine GD.one rfl .no (S1.fa fa49_1 rfl) rfl ?_
    refine GD.loud rfl .no (S1.st (u := (.slice _ _ _)) sc32 rfl rfl rfl (by repeat constructor) (.s (.s (.s .z)))) rfl rfl (by kernel_rfl) ?_
    refine GD.done rfl ?_
    refine GQ.outN ?_
    refine GQ.on ?_
    refine GW.toReg rfl ?_
    refine GL.one rfl .no (S1.inc rfl rfl (by omega)) ?_
    refine GL.one rfl .no (S1.mv (v := (.int _ _)) rfl) ?_
    refine GL.done rfl ?_
    refine GQ.next (i + 1, rowS _ (i + 1), [(_, opRow (ints kl ++ [.int .i64 _]) 1)], kl ++ [_]) ⟨by simp only; omega, .rowA rfl (by omega) (by rw [h2]; simp only [List.length_cons, List.length_nil]; omega)⟩ (by simp only; omega) (.c rfl (.c rfl (.c rfl (.c rfl (.c rfl .n))))) (.cons (.s (.s (.s .z))) (.cons (.s (.s (.s .z))) (.cons (.s (.s (.s .z))) (.cons .z .nil))))
    refine GW.toExit rfl ?_
    refine GQ.onE ?_
    refine GQ.onE ?_
    refine GQ.outH ?_
    refine GQ.on ?_
    refine GW.toSeq rfl ?_
    refine GW.toDrwW [a6] mx rfl (fun _ H => InL.go (.c .z .n) H) ?_
    refine GE.one rfl .no (S1.mv (v := (.pointer _)) rfl) rfl (.f (by kernel_rfl)) ?_
    refine GE.one rfl .no (S1.mv (v := (.pointer _)) rfl) rfl (.f (by kernel_rfl)) ?_
    refine GE.one rfl .no (S1.fa fa28_1 rfl) rfl (.f (by kernel_rfl)) ?_
    refine GE.one rfl .no (S1.ld sc23 rfl (.at (.s (.s .z))) rfl) rfl (.f (by kernel_rfl)) ?_
    refine GE.one rfl .no (S1.len el23 rfl) rfl (.f (by kernel_rfl)) ?_
    refine GE.opN rfl .no (SN.ms ze32 el32 rfl rfl rfl (by omega)) rfl (.f (by kernel_rfl)) (fun a19 => ?_)
    refine GE.one rfl .no (S1.fa fa28_0 rfl) rfl (.f (by kernel_rfl)) ?_
    refine GE.one rfl .no (S1.ld sc22 rfl (.at (.s (.s (.s .z)))) rfl) rfl (.b rfl (fun _ H => NoW.go (by repeat first | exact .n | apply NoW.c (.s (.r (.s .z)))) H)) ?_
    refine GE.one rfl .no (S1.len el22 rfl) rfl (.n rfl) ?_
    refine GE.one rfl .no (S1.addN (n := 4) rfl rfl (by omega)) rfl (.f (by kernel_rfl)) ?_
    refine GE.opN rfl .no (SN.ms ze32 el32 rfl rfl rfl (by omega)) rfl (.n rfl) (fun a20 => ?_)
    refine GE.one rfl .no (S1.nc rfl) rfl (.f (by kernel_rfl)) ?_
    refine GE.one rfl .no (S1.fa fa85_1 rfl) rfl (.f (by kernel_rfl)) ?_
    refine GE.one rfl .no (S1.fa fa49_2 rfl) rfl (.f (by kernel_rfl)) ?_
    refine GE.loud rfl .no (S1.st (u := (.slice _ _ _)) sc32 rfl rfl rfl (by repeat constructor) (.s (.s .z))) rfl rfl (by first | exact .w rfl (by simp) | exact .n rfl) ?_
    refine GE.one rfl .no (S1.nc rfl) rfl (.f (by kernel_rfl)) ?_
    refine GE.one rfl .no (S1.fa fa85_1 rfl) rfl (.f (by kernel_rfl)) ?_
    refine GE.one rfl .no (S1.fa fa49_3 rfl) rfl (.f (by kernel_rfl)) ?_
    refine GE.loud rfl .no (S1.st (u := (.slice _ _ _)) sc32 rfl rfl rfl (by repeat constructor) (.s (.s .z))) rfl rfl (.f (by kernel_rfl)) ?_
    refine GE.done rfl ?_
    refine GQ.on ?_
    refine GW.toSeq rfl ?_
    refine GW.toReg rfl ?_
    refine GL.one rfl .no (S1.mv (v := (.pointer _)) rfl) ?_
    refine GL.one rfl .no (S1.as (v := (.pointer _)) rfl) ?_
    refine GL.one rfl .no (S1.as (v := (.int _ _)) rfl) ?_
    refine GL.done rfl ?_
    refine GQ.on ?_
    refine GW.toRet rfl ?_
    have e0 : s.cn = i := by simp only at *; omega
    simp only [ints_rep]
    refine GQ.ret (.inr (a6, ⟨a5, a19, a20, 0, 0, 0, 0, 0, nilS, rowS r i, nilS, [], [(r, opRow (ints kl) 1)], [], [], kl, [], List.replicate s.cn 0, List.replicate (s.ln + 4) 0, []⟩)) (.tmp (v := .pointer _) rfl rfl (.tmp (v := .int _ _) rfl rfl .nil)) .more rfl ⟨⟨.nil, by rw [e0]; exact .row h1 h2, .nil, LsOk.nil, by simp, by simp, IM.nil⟩, rfl, rfl, by omega, hck.1, hck.2.1⟩ (.cons (.s (.s .z)) (.cons (.s (.s .z)) (.cons (.s .z) (.cons .z (.cons (.s .z) .nil)))))

end
end Go.Proofs.YtkpbpfnmgnpfaaaGreat
namespace Go.Proofs.YtkpbpfnmgnpfaaaGreat
open Go Go.E
set_option maxRecDepth 100000
set_option maxHeartbeats 1000000

section
variable {h : EH} {hr : RO} {s : Sch} {ea : Option Addr} {en ec : Nat}


abbrev V37 : Int ⊕ (Nat × BkS × Value × Ents × Nat × List Int) → Value := fun x => match x with | .inl e => .tuple ⟨[.pointer none, nilS, .int .i64 e]⟩ | .inr (b, _, ev, _) => .tuple ⟨[.pointer (some ⟨b, 0, none⟩), ev, .int .i64 0]⟩
abbrev M37 (s : Sch) : Int ⊕ (Nat × BkS × Value × Ents × Nat × List Int) → Ents := fun x => match x with | .inl _ => [] | .inr (b, y, _, eE, _) => MB b s y ++ eE
abbrev R37 (s : Sch) (en : Nat) : Int ⊕ (Nat × BkS × Value × Ents × Nat × List Int) → Prop := fun x => match x with | .inl e => e ≠ 0 | .inr (_, y, ev, eE, n, el) => BkI s y ∧ y.m ≤ 60 ∧ y.p ≤ 120 ∧ NR 1 ev eE n el ∧ n = en ∧ en ≤ 60 ∧ s.ln ≤ 8 ∧ s.cn ≤ 5

theorem ct37 (hR : ∀ b o, hr b = some o → h[b]? = some o) (hL : Cell hr (.sl ly9) (.slice s.la s.ln s.lc)) (hc : Cell hr (.sl ly74) (.slice s.ca s.cn s.cc)) (hT : Cell hr (.sl ly78) (.slice s.ta s.tn s.tc)) (hE : Cell hr (.sl ly117) (.slice ea en ec)) :
    Ct Tryz.prog 37 ⟨[.agg ⟨[.slice s.la s.ln s.lc, .slice s.ca s.cn s.cc, .int .i64 s.x1, .int .i64 s.x2, .int .i64 s.x3, .int .i64 s.x4, .slice s.ta s.tn s.tc]⟩, .slice ea en ec]⟩ h [] V37 (R37 s en) (M37 s) := by
  have hl1 := hL.le
  have hl2 := hc.le
  have hl3 := hT.le
  have hl4 := hE.le
  refine Ct.go Tryz.func37 rfl rfl co37 (Hp.start hR) ?_
  refine GW.toSeq rfl ?_
  refine GW.toReg rfl ?_
  refine GL.opN rfl .no (SN.bx (u := .agg ⟨_⟩) rfl .agg) (fun a1 => ?_)
  refine GL.one rfl .no (S1.as (v := (.pointer _)) rfl) ?_
  refine GL.one rfl .no (S1.as (v := (.slice _ _ _)) rfl) ?_
  refine GL.one rfl .no (S1.as (v := (.int _ _)) rfl) ?_
  refine GL.done rfl ?_
  refine GQ.on ?_
  refine GW.toSeq rfl ?_
  refine GW.toSeq rfl ?_
  refine GW.toReg rfl ?_
  refine GL.one rfl .no (S1.ldW ag28 rfl (.at .z) rfl) ?_
  refine GL.one rfl .no (S1.mv (v := (.slice _ _ _)) rfl) ?_
  refine GL.one rfl .no (S1.len el29 rfl) ?_
  refine GL.call rfl .no fo75 .nil (fun h H => ct75 (n := en) H.rom hL hc hT) (.d (.c (v := (.agg _)) rfl (.c (v := (.int _ _)) rfl .n))) (fun x2 => match x2 with | .inl e2 => fun q2 => ?_ | .inr (b2, y2) => fun q2 => ?_)
  refine GL.one rfl .no (S1.mv (v := (.tuple _)) rfl) ?_
  refine GL.one rfl .no (S1.ext (v := (.pointer _)) rfl rfl) ?_
  refine GL.one rfl .no (S1.ext (v := (.int _ _)) rfl rfl) ?_
  refine GL.one rfl .no (S1.as (v := (.pointer _)) rfl) ?_
  refine GL.one rfl .no (S1.as (v := (.int _ _)) rfl) ?_
  refine GL.done rfl ?_
  refine GQ.on ?_
  refine GW.toSeq rfl ?_
  refine GW.toReg rfl ?_
  refine GL.one rfl .no (S1.mv (v := (.int _ _)) rfl) ?_
  refine GL.one rfl .no (S1.neq rfl rfl) ?_
  refine GL.done rfl ?_
  refine GQ.on ?_
  refine GW.toD rfl rfl (fun w3 => ?_) (fun w3 => ?_)
  refine GW.toSeq rfl ?_
  refine GW.toReg rfl ?_
  refine GL.one rfl .no (S1.mv (v := (.int _ _)) rfl) ?_
  refine GL.one rfl .no (S1.as (v := (.pointer _)) rfl) ?_
  refine GL.one rfl .no (S1.as (v := (.slice _ _ _)) rfl) ?_
  refine GL.one rfl .no (S1.as (v := (.int _ _)) rfl) ?_
  refine GL.done rfl ?_
  refine GQ.on ?_
  refine GW.toRet rfl ?_
  refine GQ.onR ?_
  refine GQ.ret (.inl _) (.tmp (v := .pointer none) rfl rfl (.tmp (v := .slice none _ _) rfl rfl (.tmp (v := .int _ _) rfl rfl .nil))) .more rfl ?_ .nil
  assumption
  refine GW.toSkip rfl ?_
  refine GQ.on ?_
  refine GW.toSeq rfl ?_
  refine GW.toSeq rfl ?_
  refine GW.toReg rfl ?_
  refine GL.one rfl .no (S1.mv (v := (.slice _ _ _)) rfl) ?_
  refine GL.one rfl .no (S1.len el29 rfl) ?_
  refine GL.one rfl .no (S1.mv (v := (.int _ _)) rfl) ?_
  refine GL.done rfl ?_
  refine GQ.on ?_
  refine GW.toBlock rfl ?_
  exact absurd (show (_ : Int) ≠ 0 from by assumption) (by assumption)
  refine GL.one rfl .no (S1.mv (v := (.tuple _)) rfl) ?_
  refine GL.one rfl .no (S1.ext (v := (.pointer _)) rfl rfl) ?_
  refine GL.one rfl .no (S1.ext (v := (.int _ _)) rfl rfl) ?_
  refine GL.one rfl .no (S1.as (v := (.pointer _)) rfl) ?_
  refine GL.one rfl .no (S1.as (v := (.int _ _)) rfl) ?_
  refine GL.done rfl ?_
  refine GQ.on ?_
  refine GW.toSeq rfl ?_
  refine GW.toReg rfl ?_
  refine GL.one rfl .no (S1.mv (v := (.int _ _)) rfl) ?_
  refine GL.one rfl .no (S1.neq rfl rfl) ?_
  refine GL.done rfl ?_
  refine GQ.on ?_
  refine GW.toF rfl rfl ?_
  refine GW.toSkip rfl ?_
  refine GQ.on ?_
  refine GW.toSeq rfl ?_
  refine GW.toSeq rfl ?_
  refine GW.toReg rfl ?_
  refine GL.one rfl .no (S1.mv (v := (.slice _ _ _)) rfl) ?_
  refine GL.one rfl .no (S1.len el29 rfl) ?_
  refine GL.one rfl .no (S1.mv (v := (.int _ _)) rfl) ?_
  refine GL.done rfl ?_
  refine GQ.on ?_
  refine GW.toBlock rfl ?_
  obtain ⟨hI2, hm2, hp2, hn, hck⟩ := q2
  refine GW.toLoop (fun x : Nat × BkS × Value × Ents × List Int => [(4, .pointer (some ⟨b2, 0, none⟩)), (5, x.2.2.1), (19, .slice ea en ec), (20, .int .i64 en), (21, .int .i64 x.1)])
    (fun x => (a1, .cells [.slice s.la s.ln s.lc, .slice s.ca s.cn s.cc, .int .i64 s.x1, .int .i64 s.x2, .int .i64 s.x3, .int .i64 s.x4, .slice s.ta s.tn s.tc] none true) :: (MB b2 s x.2.1 ++ x.2.2.2.1))
    (fun x => x.1 ≤ en ∧ BkI s x.2.1 ∧ x.2.1.m ≤ x.1 ∧ x.2.1.p ≤ 2 * x.1 ∧ NR 1 x.2.2.1 x.2.2.2.1 x.1 x.2.2.2.2) (fun x => en - x.1) rfl (0, y2, nilS, [], []) ⟨Nat.zero_le _, hI2, by simp only; omega, by simp only; omega, .nil⟩ (.c rfl (.c rfl (.c rfl (.c rfl (.c rfl .n))))) (by simp only [List.append_nil]; exact (.cons (.s (.s (.s (.s (.asc (.sA (.asc (.sA (.sA .z))))))))) (.cons .z (.cons .z (.cons .z (.cons .z (.app .tzA (.app .tzA .tzA)))))))) ?_
  rintro ⟨i, y, ev, eE, el⟩ f ⟨hi0, hI, hm, hp, n5⟩
  simp only at hi0 hI hm hp n5
  cases n5 with
  | nil =>
    refine GW.toSeq rfl ?_
    refine GW.toReg rfl ?_
    refine GL.one rfl .no (S1.lss rfl rfl) ?_
    refine GL.done rfl ?_
    refine GQ.on ?_
    refine GW.toSeq rfl ?_
    refine GW.toD rfl rfl (fun w4 => ?_) (fun w4 => ?_)
    refine GW.toSkip rfl ?_
    refine GQ.on ?_
    refine GW.toSeq rfl ?_
    refine GW.toBlock rfl ?_
    refine GW.toSeq rfl ?_
    refine GW.toReg rfl ?_
    refine GL.one rfl .no (S1.mv (v := (.int _ _)) rfl) ?_
    refine GL.one rfl .no (S1.ixR el29 hE rfl rfl (by omega)) ?_
    refine GL.one rfl .no (S1.ldE ag117 hE rfl (m := (0, y, Go.E.nilS, [], []).fst) (by omega) rfl le117) ?_
    refine GL.opN rfl .no (SN.al zc117) (fun a5 => ?_)
    refine GL.one rfl .no (S1.as (v := (.int _ _)) rfl) ?_
    refine GL.one rfl .no (S1.stA ag117 rfl rfl rfl rfl (by repeat constructor) .z) ?_
    refine GL.done rfl ?_
    refine GQ.on ?_
    refine GW.toReg rfl ?_
    refine GL.one rfl .no (S1.mv (v := (.slice _ _ _)) rfl) ?_
    refine GL.one rfl .no (S1.mv (v := (.pointer _)) rfl) ?_
    refine GL.one rfl .no (S1.mv (v := (.int _ _)) rfl) ?_
    refine GL.one rfl .no (S1.ldW ag117 rfl (.at .z) rfl) ?_
    refine GL.call rfl .no fo76 (show Take _ (MB b2 s y) _ from (.cons (.s (.s .z)) (.cons (.s (.s .z)) (.cons (.s (.s .z)) (.cons (.s (.s .z)) (.app (.ts (.ts (.asc .tzA))) (.app (.ts (.ts (.asc .tzA))) (.ts (.ts .tzA))))))))) (fun h H => ct76 (by omega) (by omega) hL hc hT hI (by omega) (by omega) (H.give (show Take _ (MB b2 s y) _ from (.cons (.s (.s .z)) (.cons (.s (.s .z)) (.cons (.s (.s .z)) (.cons (.s (.s .z)) (.app (.ts (.ts (.asc .tzA))) (.app (.ts (.ts (.asc .tzA))) (.ts (.ts .tzA))))))))))) (.d (.c (v := (.pointer _)) rfl (.c (v := (.int _ _)) rfl (.c (v := (.agg _)) rfl .n)))) (fun wr ⟨qr, ur, vr⟩ => ?_)
    refine GL.opN rfl .no (SN.bs el46 ez46 (.c (v := (.int _ _)) rfl rfl .n) rfl rfl) (fun a7 => ?_)
    refine GL.opN rfl .no (SN.ap0 ap46_46 rfl (.row rfl (.at .z) rfl) (by omega) (by omega)) (fun a10 => ?_)
    refine GL.one rfl .no (S1.as (v := (.slice _ _ _)) rfl) ?_
    refine GL.done rfl ?_
    refine GQ.outN ?_
    refine GQ.on ?_
    refine GW.toReg rfl ?_
    refine GL.one rfl .no (S1.inc rfl rfl (by omega)) ?_
    refine GL.one rfl .no (S1.mv (v := (.int _ _)) rfl) ?_
    refine GL.done rfl ?_
    refine GQ.next (1, wr.2, rowS _ 1, [(_, opRow (ints [_]) 1)], [_]) ⟨by simp only; omega, by assumption, by simp only; omega, by simp only; omega, .row (by omega) rfl⟩ (by simp only; omega) (.c rfl (.c rfl (.c rfl (.c rfl (.c rfl .n))))) (.cons (.s (.s (.s (.s (.s (.s (.asc (.sA (.asc (.sA (.sA (.s .z)))))))))))) (.cons (.s (.s .z)) (.cons (.s (.s .z)) (.cons (.s (.s .z)) (.cons (.s (.s .z)) (.ascE (.app (.ts (.ts .tzA)) (.ascE (.app (.ts (.ts .tzA)) (.app (.ts (.ts .tzA)) (.cons .z .nil)))))))))))
    refine GW.toExit rfl ?_
    refine GQ.onE ?_
    refine GQ.onE ?_
    refine GQ.outH ?_
    refine GQ.on ?_
    refine GW.toSeq rfl ?_
    refine GW.toReg rfl ?_
    refine GL.one rfl .no (S1.mv (v := (.pointer _)) rfl) ?_
    refine GL.one rfl .no (S1.mv (v := (.slice _ _ _)) rfl) ?_
    refine GL.one rfl .no (S1.as (v := (.pointer _)) rfl) ?_
    refine GL.one rfl .no (S1.as (v := (.slice _ _ _)) rfl) ?_
    refine GL.one rfl .no (S1.as (v := (.int _ _)) rfl) ?_
    refine GL.done rfl ?_
    refine GQ.on ?_
    refine GW.toRet rfl ?_
    refine GQ.ret (.inr (b2, y, nilS, [], 0, [])) (.tmp (v := .pointer _) rfl rfl (.tmp (v := .slice _ _ _) rfl rfl (.tmp (v := .int _ _) rfl rfl .nil))) .more rfl ⟨hI, by omega, by omega, .nil, by simp only at *; omega, by omega, hck⟩ (.cons (.s .z) (.cons (.s .z) (.cons (.s .z) (.cons (.s .z) (.ascE (.app (.ts (.asc .tzA)) (.ascE (.app (.ts (.asc .tzA)) (.app (.ts .tzA) .nil)))))))))
  | @row r i l h1 h2 =>
    refine GW.toSeq rfl ?_
    refine GW.toReg rfl ?_
    refine GL.one rfl .no (S1.lss rfl rfl) ?_
    refine GL.done rfl ?_
    refine GQ.on ?_
    refine GW.toSeq rfl ?_
    refine GW.toD rfl rfl (fun w11 => ?_) (fun w11 => ?_)
    refine GW.toSkip rfl ?_
    refine GQ.on ?_
    refine GW.toSeq rfl ?_
    refine GW.toBlock rfl ?_
    refine GW.toSeq rfl ?_
    refine GW.toReg rfl ?_
    refine GL.one rfl .no (S1.mv (v := (.int _ _)) rfl) ?_
    refine GL.one rfl .no (S1.ixR el29 hE rfl rfl (by omega)) ?_
    refine GL.one rfl .no (S1.ldE ag117 hE rfl (m := (i, y, Go.E.rowS r i, [(r, Go.E.opRow (Go.E.ints el) 1)], el).fst) (by omega) rfl le117) ?_
    refine GL.opN rfl .no (SN.al zc117) (fun a12 => ?_)
    refine GL.one rfl .no (S1.as (v := (.int _ _)) rfl) ?_
    refine GL.one rfl .no (S1.stA ag117 rfl rfl rfl rfl (by repeat constructor) .z) ?_
    refine GL.done rfl ?_
    refine GQ.on ?_
    refine GW.toReg rfl ?_
    refine GL.one rfl .no (S1.mv (v := (.slice _ _ _)) rfl) ?_
    refine GL.one rfl .no (S1.mv (v := (.pointer _)) rfl) ?_
    refine GL.one rfl .no (S1.mv (v := (.int _ _)) rfl) ?_
    refine GL.one rfl .no (S1.ldW ag117 rfl (.at .z) rfl) ?_
    refine GL.call rfl .no fo76 (show Take _ (MB b2 s y) _ from (.cons (.s (.s .z)) (.cons (.s (.s .z)) (.cons (.s (.s .z)) (.cons (.s (.s .z)) (.app (.ts (.ts (.asc .tzA))) (.app (.ts (.ts (.asc .tzA))) (.ts (.ts .tzA))))))))) (fun h H => ct76 (by omega) (by omega) hL hc hT hI (by omega) (by omega) (H.give (show Take _ (MB b2 s y) _ from (.cons (.s (.s .z)) (.cons (.s (.s .z)) (.cons (.s (.s .z)) (.cons (.s (.s .z)) (.app (.ts (.ts (.asc .tzA))) (.app (.ts (.ts (.asc .tzA))) (.ts (.ts .tzA))))))))))) (.d (.c (v := (.pointer _)) rfl (.c (v := (.int _ _)) rfl (.c (v := (.agg _)) rfl .n)))) (fun wr ⟨qr, ur, vr⟩ => ?_)
    refine GL.opN rfl .no (SN.bs el46 ez46 (.c (v := (.int _ _)) rfl rfl .n) rfl rfl) (fun a14 => ?_)
    refine GL.opN rfl .no (SN.apO ap46_46 rfl (.row rfl (.at .z) rfl) (by omega) (by omega) rfl (.s (.s (.s (.s (.s (.sA (.s (.s .z)))))))) (by first | rfl | omega | (rw [ints_len]; omega) | (rw [strs_len]; omega))) (fun a17 => ?_)
    refine GL.one rfl .no (S1.as (v := (.slice _ _ _)) rfl) ?_
    refine GL.done rfl ?_
    refine GQ.outN ?_
    refine GQ.on ?_
    refine GW.toReg rfl ?_
    refine GL.one rfl .no (S1.inc rfl rfl (by omega)) ?_
    refine GL.one rfl .no (S1.mv (v := (.int _ _)) rfl) ?_
    refine GL.done rfl ?_
    refine GQ.next (i + 1, wr.2, rowS _ (i + 1), [(_, opRow (ints el ++ [.int .i64 _]) 1)], el ++ [_]) ⟨by simp only; omega, by assumption, by simp only; omega, by simp only; omega, .rowA rfl (by omega) (by rw [h2]; simp only [List.length_cons, List.length_nil]; omega)⟩ (by simp only; omega) (.c rfl (.c rfl (.c rfl (.c rfl (.c rfl .n))))) (.cons (.s (.s (.s (.s (.s (.s (.asc (.sA (.asc (.sA (.sA (.s .z)))))))))))) (.cons (.s (.s .z)) (.cons (.s (.s .z)) (.cons (.s (.s .z)) (.cons (.s (.s .z)) (.ascE (.app (.ts (.ts .tzA)) (.ascE (.app (.ts (.ts .tzA)) (.app (.ts (.ts .tzA)) (.cons .z .nil)))))))))))
    refine GW.toExit rfl ?_
    refine GQ.onE ?_
    refine GQ.onE ?_
    refine GQ.outH ?_
    refine GQ.on ?_
    refine GW.toSeq rfl ?_
    refine GW.toReg rfl ?_
    refine GL.one rfl .no (S1.mv (v := (.pointer _)) rfl) ?_
    refine GL.one rfl .no (S1.mv (v := (.slice _ _ _)) rfl) ?_
    refine GL.one rfl .no (S1.as (v := (.pointer _)) rfl) ?_
    refine GL.one rfl .no (S1.as (v := (.slice _ _ _)) rfl) ?_
    refine GL.one rfl .no (S1.as (v := (.int _ _)) rfl) ?_
    refine GL.done rfl ?_
    refine GQ.on ?_
    refine GW.toRet rfl ?_
    refine GQ.ret (.inr (b2, y, rowS r i, [(r, opRow (ints el) 1)], i, el)) (.tmp (v := .pointer _) rfl rfl (.tmp (v := .slice _ _ _) rfl rfl (.tmp (v := .int _ _) rfl rfl .nil))) .more rfl ⟨hI, by omega, by omega, .row h1 h2, by simp only at *; omega, by omega, hck⟩ (.cons (.s .z) (.cons (.s .z) (.cons (.s .z) (.cons (.s .z) (.ascE (.app (.ts (.asc .tzA)) (.ascE (.app (.ts (.asc .tzA)) (.app (.ts .tzA) (.cons (.s .z) .nil))))))))))
end
end Go.Proofs.YtkpbpfnmgnpfaaaGreat
namespace Go.Proofs.YtkpbpfnmgnpfaaaGreat
open Go Go.E
set_option maxRecDepth 100000
set_option maxHeartbeats 1000000

section
variable {h : EH} {hr : RO} {s : Sch} {ea : Option Addr} {en ec : Nat}

theorem wy102i : ∀ l ∈ wy102, l = .int .i64 false := by simp [wy102]
theorem wy97i : ∀ l ∈ wy97, l = .int .i64 false := by simp [wy97]
theorem wy38i : ∀ l ∈ wy38, l = .int .i64 false := by simp [wy38]
theorem wy3i : ∀ l ∈ wy3, l = .int .i64 false := by simp [wy3]

structure X14 where
  (v0 v1 v2 v3 v4 : Value) (E0 E1 E2 E3 E4 : Ents) (m0 m1 m2 m3 m4 : Nat) (e : Int)
abbrev V14 (x : X14) : Value := .tuple ⟨[x.v0, .agg ⟨[x.v1, x.v2, x.v3, x.v4]⟩, .int .i64 x.e]⟩
abbrev R14 (x : X14) : Prop := OR wy38 x.v0 x.E0 x.m0 ∧ OR wy102 x.v1 x.E1 x.m1 ∧ OR wy3 x.v2 x.E2 x.m2 ∧ OR wy3 x.v3 x.E3 x.m3 ∧ OR wy3 x.v4 x.E4 x.m4 ∧ x.m0 ≤ 60 ∧ x.m1 ≤ 60 ∧ x.m2 ≤ 60 ∧ x.m3 ≤ 60 ∧ x.m4 ≤ 60
abbrev M14 (x : X14) : Ents := x.E0 ++ (x.E1 ++ (x.E2 ++ (x.E3 ++ x.E4)))

theorem ct14 (hR : ∀ b o, hr b = some o → h[b]? = some o) (hL : Cell hr (.sl ly9) (.slice s.la s.ln s.lc)) (hc : Cell hr (.sl ly74) (.slice s.ca s.cn s.cc)) (hT : Cell hr (.sl ly78) (.slice s.ta s.tn s.tc)) (hE : Cell hr (.sl ly117) (.slice ea en ec)) :
    Ct Tryz.prog 14 ⟨[.agg ⟨[.slice s.la s.ln s.lc, .slice s.ca s.cn s.cc, .int .i64 s.x1, .int .i64 s.x2, .int .i64 s.x3, .int .i64 s.x4, .slice s.ta s.tn s.tc]⟩, .slice ea en ec]⟩ h [] V14 R14 M14 := by
  refine Ct.go Tryz.func14 rfl rfl co14 (Hp.start hR) ?_
  refine GW.toSeq rfl ?_
  refine GW.toReg rfl ?_
  refine GL.opN rfl .no (SN.bx (u := .agg ⟨_⟩) rfl .agg) (fun a1 => ?_)
  refine GL.one rfl .no (S1.as (v := (.slice _ _ _)) rfl) ?_
  refine GL.opN rfl .no (SN.al zc49) (fun a2 => ?_)
  refine GL.one rfl .no (S1.as (v := (.int _ _)) rfl) ?_
  refine GL.done rfl ?_
  refine GQ.on ?_
  refine GW.toSeq rfl ?_
  refine GW.toReg rfl ?_
  refine GL.one rfl .no (S1.ldW ag28 rfl (.at (.s .z)) rfl) ?_
  refine GL.one rfl .no (S1.mv (v := (.slice _ _ _)) rfl) ?_
  refine GL.call rfl .no fo37 .nil (fun h H => ct37 H.rom hL hc hT hE) (.d (.c (v := (.agg _)) rfl (.c (v := (.slice _ _ _)) rfl .n))) (fun x3 => match x3 with | .inl e3 => fun q3 => ?_ | .inr (b, y, ev, eE, n, el) => fun ⟨⟨n1, n2, n3, lo, hsi, hac, him⟩, hm, hp, n5, hn, he, hk⟩ => ?_)
  refine GL.one rfl .no (S1.mv (v := (.tuple _)) rfl) ?_
  refine GL.one rfl .no (S1.ext (v := (.pointer _)) rfl rfl) ?_
  refine GL.one rfl .no (S1.ext (v := (.slice _ _ _)) rfl rfl) ?_
  refine GL.one rfl .no (S1.ext (v := (.int _ _)) rfl rfl) ?_
  refine GL.one rfl .no (S1.as (v := (.pointer _)) rfl) ?_
  refine GL.one rfl .no (S1.as (v := (.slice _ _ _)) rfl) ?_
  refine GL.one rfl .no (S1.as (v := (.int _ _)) rfl) ?_
  refine GL.done rfl ?_
  refine GQ.on ?_
  refine GW.toSeq rfl ?_
  refine GW.toSeq rfl ?_
  refine GW.toReg rfl ?_
  refine GL.one rfl .no (S1.mv (v := (.int _ _)) rfl) ?_
  refine GL.one rfl .no (S1.neq rfl rfl) ?_
  refine GL.done rfl ?_
  refine GQ.on ?_
  refine GW.toD rfl rfl (fun w4 => ?_) (fun w4 => ?_)
  refine GW.toSeq rfl ?_
  refine GW.toReg rfl ?_
  refine GL.one rfl .no (S1.bu zc49 bo49 .n) ?_
  refine GL.one rfl .no (S1.mv (v := (.int _ _)) rfl) ?_
  refine GL.one rfl .no (S1.as (v := (.slice _ _ _)) rfl) ?_
  refine GL.one rfl .no (S1.stA ag49 rfl rfl rfl rfl (by repeat constructor) .z) ?_
  refine GL.one rfl .no (S1.as (v := (.int _ _)) rfl) ?_
  refine GL.done rfl ?_
  refine GQ.on ?_
  refine GW.toRet rfl ?_
  refine GQ.onR ?_
  refine GQ.ret ⟨nilS, nilS, nilS, nilS, nilS, [], [], [], [], [], 0, 0, 0, 0, 0, _⟩ (.tmp (v := .slice _ _ _) rfl rfl (.cell rfl rfl .z (loadV_W ag49 rfl) (.tmp (v := .int _ _) rfl rfl .nil))) .more rfl ⟨.nil, .nil, .nil, .nil, .nil, Nat.zero_le _, Nat.zero_le _, Nat.zero_le _, Nat.zero_le _, Nat.zero_le _⟩ .nil
  refine GW.toSkip rfl ?_
  refine GQ.on ?_
  refine GW.toSeq rfl ?_
  refine GW.toDrw mx rfl ?_
  refine GD.one rfl .no (S1.mv (v := (.slice _ _ _)) rfl) rfl ?_
  refine GD.one rfl .no (S1.mv (v := (.pointer _)) rfl) rfl ?_
  exact absurd (show (_ : Int) ≠ 0 from by assumption) (by assumption)
  refine GL.one rfl .no (S1.mv (v := (.tuple _)) rfl) ?_
  refine GL.one rfl .no (S1.ext (v := (.pointer _)) rfl rfl) ?_
  refine GL.one rfl .no (S1.ext (v := _) rfl rfl) ?_
  refine GL.one rfl .no (S1.ext (v := (.int _ _)) rfl rfl) ?_
  refine GL.one rfl .no (S1.as (v := (.pointer _)) rfl) ?_
  refine GL.one rfl .no (S1.as (v := _) rfl) ?_
  refine GL.one rfl .no (S1.as (v := (.int _ _)) rfl) ?_
  refine GL.done rfl ?_
  refine GQ.on ?_
  refine GW.toSeq rfl ?_
  refine GW.toSeq rfl ?_
  refine GW.toReg rfl ?_
  refine GL.one rfl .no (S1.mv (v := (.int _ _)) rfl) ?_
  refine GL.one rfl .no (S1.neq rfl rfl) ?_
  refine GL.done rfl ?_
  refine GQ.on ?_
  refine GW.toF rfl rfl ?_
  refine GW.toSkip rfl ?_
  refine GQ.on ?_
  refine GW.toSeq rfl ?_
  refine GW.toDrw mx rfl ?_
  refine GD.one rfl .no (S1.mv (v := _) rfl) rfl ?_
  refine GD.one rfl .no (S1.mv (v := (.pointer _)) rfl) rfl ?_
  refine GD.one rfl .no (S1.nc rfl) rfl ?_
  refine GD.one rfl .no (S1.fa fa85_1 rfl) rfl ?_
  refine GD.one rfl .no (S1.ldA ag49 rfl (.at .z) (by repeat constructor)) rfl ?_
  refine GD.one rfl .no (S1.as (v := _) rfl) rfl ?_
  refine GD.loud rfl .no (S1.stA ag49 rfl rfl rfl (by simp only [List.all_cons, List.all_nil, Bool.and_true, Bool.and_eq_true]; and_intros; all_goals first | rfl | (apply NR.okv; assumption) | (apply OR.okv; assumption)) (by repeat constructor) (.s (.s (.s (.s (.sA .z)))))) rfl rfl (by kernel_rfl) ?_
  refine GD.one rfl .no (S1.as (v := (.int _ _)) rfl) rfl ?_
  refine GD.done rfl ?_
  refine GQ.on ?_
  refine GW.toRet rfl ?_
  refine GQ.ret ⟨ev, y.lv, y.kv, .slice (some ⟨y.sr, 0, none⟩) s.cn s.cn, .slice (some ⟨y.ar, 0, none⟩) (s.ln + 4) (s.ln + 4), eE, y.lE, y.kE, [(y.sr, .cells (ints y.si) none true)], [(y.ar, .cells (ints y.ac) none true)], n, y.m, s.cn, s.cn, s.ln + 4, 0⟩ (.tmp (v := ev) rfl rfl (.cell rfl rfl (.s (.s (.s (.s (.asc (.asc (.sA (.asc (.sA (.sA (.sA .z))))))))))) (loadV_W ag49 rfl) (.tmp (v := .int _ _) rfl rfl .nil))) .more rfl ⟨n5.or rfl wy38i (by omega), n1.or rfl wy102i (by omega), n2.or rfl wy3i (by omega), .ints (by rw [hsi]; exact (Nat.mul_one _).symm) (by omega) (.inl rfl) wy3i, .ints (by rw [hac]; exact (Nat.mul_one _).symm) (by omega) (.inl rfl) wy3i, (by dsimp only; omega), (by dsimp only; omega), (by dsimp only; omega), (by dsimp only; omega), (by dsimp only; omega)⟩ (.app (.ts (.ts (.ts (.ts (.asc (.asc (.skA (.asc (.skA (.skA .tzA)))))))))) (.app (.ts (.ts (.ts (.ts .tzA)))) (.app (.ts (.ts (.ts (.ts .tzA)))) (.cons (.s (.s .z)) (.cons (.s (.s .z)) .nil)))))

theorem ct21 (hR : ∀ b o, hr b = some o → h[b]? = some o) (hL : Cell hr (.sl ly9) (.slice s.la s.ln s.lc)) (hc : Cell hr (.sl ly74) (.slice s.ca s.cn s.cc)) (hT : Cell hr (.sl ly78) (.slice s.ta s.tn s.tc)) (hE : Cell hr (.sl ly117) (.slice ea en ec)) :
    Ct Tryz.prog 21 ⟨[.agg ⟨[.slice s.la s.ln s.lc, .slice s.ca s.cn s.cc, .int .i64 s.x1, .int .i64 s.x2, .int .i64 s.x3, .int .i64 s.x4, .slice s.ta s.tn s.tc]⟩, .slice ea en ec]⟩ h [] (fun x : Value × Ents × Nat × Int => .tuple ⟨[x.1, .int .i64 x.2.2.2]⟩) (fun x => OR wy97 x.1 x.2.1 x.2.2.1 ∧ x.2.2.1 ≤ 120) (fun x => x.2.1) := by
  refine Ct.go Tryz.func21 rfl rfl co21 (Hp.start hR) ?_
  refine GW.toSeq rfl ?_
  refine GW.toReg rfl ?_
  refine GL.opN rfl .no (SN.bx (u := .agg ⟨_⟩) rfl .agg) (fun a1 => ?_)
  refine GL.one rfl .no (S1.as (v := (.slice _ _ _)) rfl) ?_
  refine GL.one rfl .no (S1.as (v := (.int _ _)) rfl) ?_
  refine GL.done rfl ?_
  refine GQ.on ?_
  refine GW.toSeq rfl ?_
  refine GW.toReg rfl ?_
  refine GL.one rfl .no (S1.ldW ag28 rfl (.at .z) rfl) ?_
  refine GL.one rfl .no (S1.mv (v := (.slice _ _ _)) rfl) ?_
  refine GL.call rfl .no fo37 .nil (fun h H => ct37 H.rom hL hc hT hE) (.d (.c (v := (.agg _)) rfl (.c (v := (.slice _ _ _)) rfl .n))) (fun x2 => match x2 with | .inl e2 => fun q2 => ?_ | .inr (b, y, ev, eE, n, el) => fun ⟨⟨n1, n2, n3, lo, hsi, hac, him⟩, hm, hp, n5, hn, he, hk⟩ => ?_)
  refine GL.one rfl .no (S1.mv (v := (.tuple _)) rfl) ?_
  refine GL.one rfl .no (S1.ext (v := (.pointer _)) rfl rfl) ?_
  refine GL.one rfl .no (S1.ext (v := (.slice _ _ _)) rfl rfl) ?_
  refine GL.one rfl .no (S1.ext (v := (.int _ _)) rfl rfl) ?_
  refine GL.one rfl .no (S1.as (v := (.pointer _)) rfl) ?_
  refine GL.one rfl .no (S1.as (v := (.slice _ _ _)) rfl) ?_
  refine GL.one rfl .no (S1.as (v := (.int _ _)) rfl) ?_
  refine GL.done rfl ?_
  refine GQ.on ?_
  refine GW.toSeq rfl ?_
  refine GW.toSeq rfl ?_
  refine GW.toReg rfl ?_
  refine GL.one rfl .no (S1.mv (v := (.int _ _)) rfl) ?_
  refine GL.one rfl .no (S1.neq rfl rfl) ?_
  refine GL.done rfl ?_
  refine GQ.on ?_
  refine GW.toD rfl rfl (fun w3 => ?_) (fun w3 => ?_)
  refine GW.toSeq rfl ?_
  refine GW.toReg rfl ?_
  refine GL.one rfl .no (S1.mv (v := (.int _ _)) rfl) ?_
  refine GL.one rfl .no (S1.as (v := (.slice _ _ _)) rfl) ?_
  refine GL.one rfl .no (S1.as (v := (.int _ _)) rfl) ?_
  refine GL.done rfl ?_
  refine GQ.on ?_
  refine GW.toRet rfl ?_
  refine GQ.onR ?_
  refine GQ.ret (nilS, [], 0, _) (.tmp (v := .slice _ _ _) rfl rfl (.tmp (v := .int _ _) rfl rfl .nil)) .more rfl ⟨.nil, Nat.zero_le _⟩ .nil
  refine GW.toSkip rfl ?_
  refine GQ.on ?_
  refine GW.toSeq rfl ?_
  refine GW.toReg rfl ?_
  refine GL.one rfl .no (S1.mv (v := (.pointer _)) rfl) ?_
  exact absurd (show (_ : Int) ≠ 0 from by assumption) (by assumption)
  refine GL.one rfl .no (S1.mv (v := (.tuple _)) rfl) ?_
  refine GL.one rfl .no (S1.ext (v := (.pointer _)) rfl rfl) ?_
  refine GL.one rfl .no (S1.ext (v := _) rfl rfl) ?_
  refine GL.one rfl .no (S1.ext (v := (.int _ _)) rfl rfl) ?_
  refine GL.one rfl .no (S1.as (v := (.pointer _)) rfl) ?_
  refine GL.one rfl .no (S1.as (v := _) rfl) ?_
  refine GL.one rfl .no (S1.as (v := (.int _ _)) rfl) ?_
  refine GL.done rfl ?_
  refine GQ.on ?_
  refine GW.toSeq rfl ?_
  refine GW.toSeq rfl ?_
  refine GW.toReg rfl ?_
  refine GL.one rfl .no (S1.mv (v := (.int _ _)) rfl) ?_
  refine GL.one rfl .no (S1.neq rfl rfl) ?_
  refine GL.done rfl ?_
  refine GQ.on ?_
  refine GW.toF rfl rfl ?_
  refine GW.toSkip rfl ?_
  refine GQ.on ?_
  refine GW.toSeq rfl ?_
  refine GW.toReg rfl ?_
  refine GL.one rfl .no (S1.mv (v := (.pointer _)) rfl) ?_
  refine GL.one rfl .no (S1.nc rfl) ?_
  refine GL.one rfl .no (S1.fa fa85_3 rfl) ?_
  refine GL.one rfl .no (S1.ld sc58 rfl (.at .z) rfl) ?_
  refine GL.one rfl .no (S1.as (v := _) rfl) ?_
  refine GL.one rfl .no (S1.as (v := (.int _ _)) rfl) ?_
  refine GL.done rfl ?_
  refine GQ.on ?_
  refine GW.toRet rfl ?_
  refine GQ.ret (y.pv, y.pE, y.p, 0) (.tmp (v := y.pv) rfl rfl (.tmp (v := .int _ _) rfl rfl .nil)) .more rfl ⟨n3.or rfl wy97i (by omega), hp⟩ (.ts (.ts (.ts (.ts (.asc (.asc (.skA (.asc (.skA .tzA)))))))))
end
end Go.Proofs.YtkpbpfnmgnpfaaaGreat
namespace Go.Proofs.YtkpbpfnmgnpfaaaGreat
open Go Go.E
set_option maxRecDepth 100000
set_option maxHeartbeats 1000000

section
variable {h : EH} {hr : RO} {s : Sch} {ea : Option Addr} {en ec q0 q1 b : Nat} {x0 x1 x2 x3 x4 : Int} {y : BkS} {e1 e2 e3 e4 : Int}

abbrev M50 (q0 q1 b : Nat) (s : Sch) (y : BkS) (x0 x1 x2 x3 x4 : Int) : Ents := (q0, .cells [.pointer (some ⟨b, 0, none⟩)] none true) :: (q1, .cells (L5 x0 x1 x2 x3 x4) none true) :: MB b s y
theorem ct50 (hc : Cell hr (.sl ly74) (.slice s.ca s.cn s.cc)) (hln : s.ln ≤ 1073741824) (hm : y.m ≤ 60) (hI : BkI s y) (H : Hp hr h ((M50 q0 q1 b s y x0 x1 x2 x3 x4).map (·.1)) (M50 q0 q1 b s y x0 x1 x2 x3 x4) h) :
    Cp Tryz.prog 50 ⟨[.pointer (some ⟨q0, 0, none⟩), .pointer (some ⟨q1, 0, none⟩)]⟩ h ((M50 q0 q1 b s y x0 x1 x2 x3 x4).map (·.1)) (fun _ : Unit => .tuple #[]) (fun _ => True) (fun _ => M50 q0 q1 b s y x0 x1 x2 x3 x4) (fun w : Int × Unit => .iface 38 (.int .i64 w.1)) (fun _ => True) (fun _ => M50 q0 q1 b s y x0 x1 x2 x3 x4) := by
  refine Cp.go Tryz.func50 rfl rfl co50 H ?_
  dsimp only [M50, MB]
  refine GW.toDrw mx rfl ?_
  refine GD.one rfl .no (S1.ld sc80 rfl (.at .z) rfl) rfl ?_
  refine GD.one rfl .no (S1.ldW ag102 rfl (.at (.s .z)) rfl) rfl ?_
  refine GD.one rfl .no (S1.ld sc80 rfl (.at .z) rfl) rfl ?_
  refine GD.one rfl .no (S1.nc rfl) rfl ?_
  refine GD.one rfl .no (S1.fa fa85_4 rfl) rfl ?_
  refine GD.one rfl .no (S1.ld sc3 rfl (.at (.s (.s .z))) rfl) rfl ?_
  refine GD.callPF rfl rfl .no fo51 (by kernel_rfl) (show Take _ ((b, _) :: (y.mb, _) :: y.lE) _ from (.cons (.s (.s .z)) (.cons (.s (.s .z)) (.ts (.ts (.ts (.ts .tzA))))))) (fun h H => ct51 hc hln (by omega) hI.im hI.n1 (H.give (show Take _ ((b, _) :: (y.mb, _) :: y.lE) _ from (.cons (.s (.s .z)) (.cons (.s (.s .z)) (.ts (.ts (.ts (.ts .tzA))))))))) (.d (.c (v := (.pointer _)) rfl (.c (v := (.agg _)) rfl (.c (v := (.int _ _)) rfl .n)))) (fun _ q1 => ?_) (fun e1 _ => ?_)
  refine GD.done rfl ?_
  refine GQ.retN () .nil .z ?_ ?_ (.cons (.s (.s (.sA .z))) (.cons (.s (.s (.sA .z))) (.cons .z (.cons .z (.cons (.sA .z) (.cons (.sA .z) (.app .tzA (.app .tzA .tz))))))))
  rfl
  exact trivial
  refine GQ.pan (_, ()) rfl trivial (.cons (.s (.s (.sA .z))) (.cons (.s (.s (.sA .z))) (.cons .z (.cons .z (.cons (.sA .z) (.cons (.sA .z) (.app .tzA (.app .tzA .tz))))))))

theorem ct26 (hR : ∀ b o, hr b = some o → h[b]? = some o) (hL : Cell hr (.sl ly9) (.slice s.la s.ln s.lc)) (hc : Cell hr (.sl ly74) (.slice s.ca s.cn s.cc)) (hT : Cell hr (.sl ly78) (.slice s.ta s.tn s.tc)) (hE : Cell hr (.sl ly117) (.slice ea en ec)) :
    Ct Tryz.prog 26 ⟨[.agg ⟨[.slice s.la s.ln s.lc, .slice s.ca s.cn s.cc, .int .i64 s.x1, .int .i64 s.x2, .int .i64 s.x3, .int .i64 s.x4, .slice s.ta s.tn s.tc]⟩, .slice ea en ec, .int .i64 e1, .int .i64 e2, .int .i64 e3, .int .i64 e4]⟩ h [] (fun x : Int × Int => .tuple ⟨[.int .i64 x.1, .int .i64 x.2]⟩) (fun _ => True) (fun _ => []) := by
  have hl1 := hL.le
  have hl2 := hc.le
  refine Ct.go Tryz.func26 rfl rfl co26 (Hp.start hR) ?_
  refine GW.toSeq rfl ?_
  refine GW.toReg rfl ?_
  refine GL.opN rfl .no (SN.bx (u := .agg ⟨_⟩) rfl .agg) (fun a1 => ?_)
  refine GL.one rfl .no (S1.as (v := (.int _ _)) rfl) ?_
  refine GL.one rfl .no (S1.as (v := (.int _ _)) rfl) ?_
  refine GL.done rfl ?_
  refine GQ.on ?_
  refine GW.toSeq rfl ?_
  refine GW.toReg rfl ?_
  refine GL.one rfl .no (S1.ldW ag28 rfl (.at .z) rfl) ?_
  refine GL.one rfl .no (S1.mv (v := (.slice _ _ _)) rfl) ?_
  refine GL.call rfl .no fo37 .nil (fun h H => ct37 H.rom hL hc hT hE) (.d (.c (v := (.agg _)) rfl (.c (v := (.slice _ _ _)) rfl .n))) (fun x2 => match x2 with | .inl e2 => fun q2 => ?_ | .inr (b, y, ev, eE, n, el) => fun ⟨hI, hm, hp, n5, hn, he, hk⟩ => ?_)
  refine GL.one rfl .no (S1.mv (v := (.tuple _)) rfl) ?_
  refine GL.one rfl .no (S1.ext (v := (.pointer _)) rfl rfl) ?_
  refine GL.one rfl .no (S1.ext (v := (.slice _ _ _)) rfl rfl) ?_
  refine GL.one rfl .no (S1.ext (v := (.int _ _)) rfl rfl) ?_
  refine GL.opN rfl .no (SN.al zc80) (fun a3 => ?_)
  refine GL.one rfl .no (S1.st (u := (.pointer _)) sc80 rfl rfl rfl (by repeat constructor) .z) ?_
  refine GL.one rfl .no (S1.as (v := (.slice _ _ _)) rfl) ?_
  refine GL.one rfl .no (S1.as (v := (.int _ _)) rfl) ?_
  refine GL.done rfl ?_
  refine GQ.on ?_
  refine GW.toSeq rfl ?_
  refine GW.toBlock rfl ?_
  refine GW.toSeq rfl ?_
  refine GW.toReg rfl ?_
  refine GL.one rfl .no (S1.mv (v := (.int _ _)) rfl) ?_
  refine GL.one rfl .no (S1.neq rfl rfl) ?_
  refine GL.one rfl .no (S1.as (v := (.bool _)) rfl) ?_
  refine GL.done rfl ?_
  refine GQ.on ?_
  refine GW.toD rfl rfl (fun w4 => ?_) (fun w4 => ?_)
  refine GW.toSeq rfl ?_
  refine GW.toReg rfl ?_
  refine GL.one rfl .no (S1.mv (v := (.int _ _)) rfl) ?_
  refine GL.one rfl .no (S1.as (v := (.int _ _)) rfl) ?_
  refine GL.one rfl .no (S1.as (v := (.int _ _)) rfl) ?_
  refine GL.done rfl ?_
  refine GQ.on ?_
  refine GW.toRet rfl ?_
  refine GQ.outR ?_
  refine GQ.onR ?_
  refine GQ.ret (_, _) (.tmp (v := (.int _ _)) rfl rfl (.tmp (v := (.int _ _)) rfl rfl .nil)) .more rfl ?_ .nil
  exact trivial
  refine GW.toSeq rfl ?_
  refine GW.toReg rfl ?_
  refine GL.one rfl .no (S1.fa fa28_0 rfl) ?_
  refine GL.one rfl .no (S1.ld sc22 rfl (.at (.s .z)) rfl) ?_
  refine GL.one rfl .no (S1.len el22 rfl) ?_
  refine GL.one rfl .no (S1.dec1 rfl rfl (by omega) (by omega)) ?_
  refine GL.one rfl .no (S1.mv (v := (.int _ _)) rfl) ?_
  refine GL.opN rfl .no (SN.bs el32 ez32 (.c (v := (.int _ _)) rfl rfl .n) rfl rfl) (fun a5 => ?_)
  refine GL.call rfl .no fo31 .nil (fun h H => ct31_1 (H.get .z)) (.d (.c (v := (.int _ _)) rfl (.c (v := (.int _ _)) rfl (.c (v := (.slice _ _ _)) rfl .n)))) (fun _ _ => ?_)
  refine GL.one rfl .no (S1.mv (v := (.bool _)) rfl) ?_
  refine GL.split 37 rfl (fun w8 => ?_) (fun w8 => ?_)
  refine GL.skip rfl (.not rfl rfl rfl) ?_
  refine GL.skip rfl (.not rfl rfl rfl) ?_
  refine GL.skip rfl (.not rfl rfl rfl) ?_
  refine GL.skip rfl (.not rfl rfl rfl) ?_
  refine GL.skip rfl (.not rfl rfl rfl) ?_
  refine GL.skip rfl (.not rfl rfl rfl) ?_
  refine GL.skip rfl (.not rfl rfl rfl) ?_
  refine GL.one rfl .no (S1.pickT (v := (.bool _)) rfl rfl) ?_
  refine GL.one rfl .no (S1.as (v := (.bool _)) rfl) ?_
  refine GL.done rfl ?_
  refine GQ.on ?_
  refine GW.toT rfl rfl ?_
  refine GW.toSeq rfl ?_
  refine GW.toReg rfl ?_
  refine GL.one rfl .no (S1.as (v := (.int _ _)) rfl) ?_
  refine GL.one rfl .no (S1.as (v := (.int _ _)) rfl) ?_
  refine GL.done rfl ?_
  refine GQ.on ?_
  refine GW.toRet rfl ?_
  refine GQ.outR ?_
  refine GQ.onR ?_
  refine GQ.ret (_, _) (.tmp (v := (.int _ _)) rfl rfl (.tmp (v := (.int _ _)) rfl rfl .nil)) .more rfl ?_ .nil
  exact trivial
  refine GL.one rfl (.yes rfl rfl rfl) (S1.fa fa28_1 rfl) ?_
  refine GL.one rfl (.yes rfl rfl rfl) (S1.ld sc23 rfl (.at (.s (.s .z))) rfl) ?_
  refine GL.one rfl (.yes rfl rfl rfl) (S1.len el23 rfl) ?_
  refine GL.one rfl (.yes rfl rfl rfl) (S1.dec1 rfl rfl (by omega) (by omega)) ?_
  refine GL.one rfl (.yes rfl rfl rfl) (S1.mv (v := (.int _ _)) rfl) ?_
  refine GL.opN rfl (.yes rfl rfl rfl) (SN.bs el32 ez32 (.c (v := (.int _ _)) rfl rfl .n) rfl rfl) (fun a9 => ?_)
  refine GL.call rfl (.yes rfl rfl rfl) fo31 .nil (fun h H => ct31_1 (H.get .z)) (.d (.c (v := (.int _ _)) rfl (.c (v := (.int _ _)) rfl (.c (v := (.slice _ _ _)) rfl .n)))) (fun _ _ => ?_)
  refine GL.one rfl .no (S1.pickF (v := (.bool _)) rfl rfl) ?_
  refine GL.one rfl .no (S1.as (v := (.bool _)) rfl) ?_
  refine GL.done rfl ?_
  refine GQ.on ?_
  refine GW.toC rfl rfl (fun w12 => ?_) (fun w12 => ?_)
  refine GW.toSeq rfl ?_
  refine GW.toReg rfl ?_
  refine GL.one rfl .no (S1.as (v := (.int _ _)) rfl) ?_
  refine GL.one rfl .no (S1.as (v := (.int _ _)) rfl) ?_
  refine GL.done rfl ?_
  refine GQ.on ?_
  refine GW.toRet rfl ?_
  refine GQ.outR ?_
  refine GQ.onR ?_
  refine GQ.ret (_, _) (.tmp (v := (.int _ _)) rfl rfl (.tmp (v := (.int _ _)) rfl rfl .nil)) .more rfl ?_ .nil
  exact trivial
  refine GW.toSeq rfl ?_
  refine GW.toReg rfl ?_
  refine GL.one rfl .no (S1.mv (v := (.int _ _)) rfl) ?_
  refine GL.opN rfl .no (SN.bs el32 ez32 (.c (v := (.int _ _)) rfl rfl .n) rfl rfl) (fun a13 => ?_)
  refine GL.call rfl .no fo31 .nil (fun h H => ct31_1 (H.get .z)) (.d (.c (v := (.int _ _)) rfl (.c (v := (.int _ _)) rfl (.c (v := (.slice _ _ _)) rfl .n)))) (fun _ _ => ?_)
  refine GL.one rfl .no (S1.mv (v := (.bool _)) rfl) ?_
  refine GL.split 50 rfl (fun w16 => ?_) (fun w16 => ?_)
  refine GL.skip rfl (.not rfl rfl rfl) ?_
  refine GL.skip rfl (.not rfl rfl rfl) ?_
  refine GL.skip rfl (.not rfl rfl rfl) ?_
  refine GL.one rfl .no (S1.pickT (v := (.bool _)) rfl rfl) ?_
  refine GL.one rfl .no (S1.as (v := (.bool _)) rfl) ?_
  refine GL.done rfl ?_
  refine GQ.on ?_
  refine GW.toT rfl rfl ?_
  refine GW.toSeq rfl ?_
  refine GW.toReg rfl ?_
  refine GL.one rfl .no (S1.as (v := (.int _ _)) rfl) ?_
  refine GL.one rfl .no (S1.as (v := (.int _ _)) rfl) ?_
  refine GL.done rfl ?_
  refine GQ.on ?_
  refine GW.toRet rfl ?_
  refine GQ.outR ?_
  refine GQ.onR ?_
  refine GQ.ret (_, _) (.tmp (v := (.int _ _)) rfl rfl (.tmp (v := (.int _ _)) rfl rfl .nil)) .more rfl ?_ .nil
  exact trivial
  refine GL.one rfl (.yes rfl rfl rfl) (S1.mv (v := (.int _ _)) rfl) ?_
  refine GL.opN rfl (.yes rfl rfl rfl) (SN.bs el32 ez32 (.c (v := (.int _ _)) rfl rfl .n) rfl rfl) (fun a17 => ?_)
  refine GL.call rfl (.yes rfl rfl rfl) fo31 .nil (fun h H => ct31_1 (H.get .z)) (.d (.c (v := (.int _ _)) rfl (.c (v := (.int _ _)) rfl (.c (v := (.slice _ _ _)) rfl .n)))) (fun _ _ => ?_)
  refine GL.one rfl .no (S1.pickF (v := (.bool _)) rfl rfl) ?_
  refine GL.one rfl .no (S1.as (v := (.bool _)) rfl) ?_
  refine GL.done rfl ?_
  refine GQ.on ?_
  refine GW.toC rfl rfl (fun w20 => ?_) (fun w20 => ?_)
  refine GW.toSeq rfl ?_
  refine GW.toReg rfl ?_
  refine GL.one rfl .no (S1.as (v := (.int _ _)) rfl) ?_
  refine GL.one rfl .no (S1.as (v := (.int _ _)) rfl) ?_
  refine GL.done rfl ?_
  refine GQ.on ?_
  refine GW.toRet rfl ?_
  refine GQ.outR ?_
  refine GQ.onR ?_
  refine GQ.ret (_, _) (.tmp (v := (.int _ _)) rfl rfl (.tmp (v := (.int _ _)) rfl rfl .nil)) .more rfl ?_ .nil
  exact trivial
  refine GW.toSkip rfl ?_
  refine GQ.outN ?_
  refine GQ.on ?_
  refine GW.toSeq rfl ?_
  refine GW.toSeq rfl ?_
  refine GW.toReg rfl ?_
  refine GL.one rfl .no (S1.mv (v := (.int _ _)) rfl) ?_
  refine GL.one rfl .no (S1.mv (v := (.int _ _)) rfl) ?_
  refine GL.one rfl .no (S1.mv (v := (.int _ _)) rfl) ?_
  refine GL.one rfl .no (S1.mv (v := (.int _ _)) rfl) ?_
  refine GL.one rfl .no (S1.bu zc102 bo102 (.c (v := (.int _ _)) rfl (.one rfl) fz102_0 rfl (by repeat constructor) (.c (v := (.int _ _)) rfl (.one rfl) fz102_1 rfl (by repeat constructor) (.c (v := (.int _ _)) rfl (.one rfl) fz102_2 rfl (by repeat constructor) (.c (v := (.int _ _)) rfl (.one rfl) fz102_3 rfl (by repeat constructor) .n))))) ?_
  refine GL.opN rfl .no (SN.al zc102) (fun a21 => ?_)
  refine GL.one rfl .no (S1.stA ag102 rfl rfl rfl rfl (by repeat constructor) .z) ?_
  refine GL.done rfl ?_
  refine GQ.on ?_
  refine GW.toBlock rfl ?_
  exact absurd (show (_ : Int) ≠ 0 from by assumption) (by assumption)
  refine GL.one rfl .no (S1.mv (v := (.tuple _)) rfl) ?_
  refine GL.one rfl .no (S1.ext (v := (.pointer _)) rfl rfl) ?_
  refine GL.one rfl .no (S1.ext (v := _) rfl rfl) ?_
  refine GL.one rfl .no (S1.ext (v := (.int _ _)) rfl rfl) ?_
  refine GL.opN rfl .no (SN.al zc80) (fun a22 => ?_)
  refine GL.one rfl .no (S1.st (u := (.pointer _)) sc80 rfl rfl rfl (by repeat constructor) .z) ?_
  refine GL.one rfl .no (S1.as (v := _) rfl) ?_
  refine GL.one rfl .no (S1.as (v := (.int _ _)) rfl) ?_
  refine GL.done rfl ?_
  refine GQ.on ?_
  refine GW.toSeq rfl ?_
  refine GW.toBlock rfl ?_
  refine GW.toSeq rfl ?_
  refine GW.toReg rfl ?_
  refine GL.one rfl .no (S1.mv (v := (.int _ _)) rfl) ?_
  refine GL.one rfl .no (S1.neq rfl rfl) ?_
  refine GL.one rfl .no (S1.as (v := (.bool _)) rfl) ?_
  refine GL.done rfl ?_
  refine GQ.on ?_
  refine GW.toF rfl rfl ?_
  refine GW.toSeq rfl ?_
  refine GW.toReg rfl ?_
  refine GL.one rfl .no (S1.fa fa28_0 rfl) ?_
  refine GL.one rfl .no (S1.ld sc22 rfl (.at (.s (.s (.s (.s (.s (.sA .z))))))) rfl) ?_
  refine GL.one rfl .no (S1.len el22 rfl) ?_
  refine GL.one rfl .no (S1.subI rfl rfl (by omega) (by omega)) ?_
  refine GL.one rfl .no (S1.mv (v := (.int _ _)) rfl) ?_
  refine GL.opN rfl .no (SN.bs el32 ez32 (.c (v := (.int _ _)) rfl rfl .n) rfl rfl) (fun a23 => ?_)
  refine GL.call rfl .no fo31 .nil (fun h H => ct31_1 (H.get .z)) (.d (.c (v := (.int _ _)) rfl (.c (v := (.int _ _)) rfl (.c (v := (.slice _ _ _)) rfl .n)))) (fun _ _ => ?_)
  refine GL.one rfl .no (S1.mv (v := (.bool _)) rfl) ?_
  refine GL.split 37 rfl (fun w26 => ?_) (fun w26 => ?_)
  refine GL.skip rfl (.not rfl rfl rfl) ?_
  refine GL.skip rfl (.not rfl rfl rfl) ?_
  refine GL.skip rfl (.not rfl rfl rfl) ?_
  refine GL.skip rfl (.not rfl rfl rfl) ?_
  refine GL.skip rfl (.not rfl rfl rfl) ?_
  refine GL.skip rfl (.not rfl rfl rfl) ?_
  refine GL.skip rfl (.not rfl rfl rfl) ?_
  refine GL.one rfl .no (S1.pickT (v := (.bool _)) rfl rfl) ?_
  refine GL.one rfl .no (S1.as (v := (.bool _)) rfl) ?_
  refine GL.done rfl ?_
  refine GQ.on ?_
  refine GW.toT rfl rfl ?_
  refine GW.toSeq rfl ?_
  refine GW.toReg rfl ?_
  refine GL.one rfl .no (S1.as (v := (.int _ _)) rfl) ?_
  refine GL.one rfl .no (S1.as (v := (.int _ _)) rfl) ?_
  refine GL.done rfl ?_
  refine GQ.on ?_
  refine GW.toRet rfl ?_
  refine GQ.outR ?_
  refine GQ.onR ?_
  refine GQ.ret (_, _) (.tmp (v := (.int _ _)) rfl rfl (.tmp (v := (.int _ _)) rfl rfl .nil)) .more rfl ?_ .nil
  exact trivial
  refine GL.one rfl (.yes rfl rfl rfl) (S1.fa fa28_1 rfl) ?_
  refine GL.one rfl (.yes rfl rfl rfl) (S1.ld sc23 rfl (.at (.s (.s (.s (.s (.s (.s (.sA .z)))))))) rfl) ?_
  refine GL.one rfl (.yes rfl rfl rfl) (S1.len el23 rfl) ?_
  refine GL.one rfl (.yes rfl rfl rfl) (S1.subI rfl rfl (by omega) (by omega)) ?_
  refine GL.one rfl (.yes rfl rfl rfl) (S1.mv (v := (.int _ _)) rfl) ?_
  refine GL.opN rfl (.yes rfl rfl rfl) (SN.bs el32 ez32 (.c (v := (.int _ _)) rfl rfl .n) rfl rfl) (fun a27 => ?_)
  refine GL.call rfl (.yes rfl rfl rfl) fo31 .nil (fun h H => ct31_1 (H.get .z)) (.d (.c (v := (.int _ _)) rfl (.c (v := (.int _ _)) rfl (.c (v := (.slice _ _ _)) rfl .n)))) (fun _ _ => ?_)
  refine GL.one rfl .no (S1.pickF (v := (.bool _)) rfl rfl) ?_
  refine GL.one rfl .no (S1.as (v := (.bool _)) rfl) ?_
  refine GL.done rfl ?_
  refine GQ.on ?_
  refine GW.toC rfl rfl (fun w30 => ?_) (fun w30 => ?_)
  refine GW.toSeq rfl ?_
  refine GW.toReg rfl ?_
  refine GL.one rfl .no (S1.as (v := (.int _ _)) rfl) ?_
  refine GL.one rfl .no (S1.as (v := (.int _ _)) rfl) ?_
  refine GL.done rfl ?_
  refine GQ.on ?_
  refine GW.toRet rfl ?_
  refine GQ.outR ?_
  refine GQ.onR ?_
  refine GQ.ret (_, _) (.tmp (v := (.int _ _)) rfl rfl (.tmp (v := (.int _ _)) rfl rfl .nil)) .more rfl ?_ .nil
  exact trivial
  refine GW.toSeq rfl ?_
  refine GW.toReg rfl ?_
  refine GL.one rfl .no (S1.mv (v := (.int _ _)) rfl) ?_
  refine GL.opN rfl .no (SN.bs el32 ez32 (.c (v := (.int _ _)) rfl rfl .n) rfl rfl) (fun a31 => ?_)
  refine GL.call rfl .no fo31 .nil (fun h H => ct31_1 (H.get .z)) (.d (.c (v := (.int _ _)) rfl (.c (v := (.int _ _)) rfl (.c (v := (.slice _ _ _)) rfl .n)))) (fun _ _ => ?_)
  refine GL.one rfl .no (S1.mv (v := (.bool _)) rfl) ?_
  refine GL.split 50 rfl (fun w34 => ?_) (fun w34 => ?_)
  refine GL.skip rfl (.not rfl rfl rfl) ?_
  refine GL.skip rfl (.not rfl rfl rfl) ?_
  refine GL.skip rfl (.not rfl rfl rfl) ?_
  refine GL.one rfl .no (S1.pickT (v := (.bool _)) rfl rfl) ?_
  refine GL.one rfl .no (S1.as (v := (.bool _)) rfl) ?_
  refine GL.done rfl ?_
  refine GQ.on ?_
  refine GW.toT rfl rfl ?_
  refine GW.toSeq rfl ?_
  refine GW.toReg rfl ?_
  refine GL.one rfl .no (S1.as (v := (.int _ _)) rfl) ?_
  refine GL.one rfl .no (S1.as (v := (.int _ _)) rfl) ?_
  refine GL.done rfl ?_
  refine GQ.on ?_
  refine GW.toRet rfl ?_
  refine GQ.outR ?_
  refine GQ.onR ?_
  refine GQ.ret (_, _) (.tmp (v := (.int _ _)) rfl rfl (.tmp (v := (.int _ _)) rfl rfl .nil)) .more rfl ?_ .nil
  exact trivial
  refine GL.one rfl (.yes rfl rfl rfl) (S1.mv (v := (.int _ _)) rfl) ?_
  refine GL.opN rfl (.yes rfl rfl rfl) (SN.bs el32 ez32 (.c (v := (.int _ _)) rfl rfl .n) rfl rfl) (fun a35 => ?_)
  refine GL.call rfl (.yes rfl rfl rfl) fo31 .nil (fun h H => ct31_1 (H.get .z)) (.d (.c (v := (.int _ _)) rfl (.c (v := (.int _ _)) rfl (.c (v := (.slice _ _ _)) rfl .n)))) (fun _ _ => ?_)
  refine GL.one rfl .no (S1.pickF (v := (.bool _)) rfl rfl) ?_
  refine GL.one rfl .no (S1.as (v := (.bool _)) rfl) ?_
  refine GL.done rfl ?_
  refine GQ.on ?_
  refine GW.toC rfl rfl (fun w38 => ?_) (fun w38 => ?_)
  refine GW.toSeq rfl ?_
  refine GW.toReg rfl ?_
  refine GL.one rfl .no (S1.as (v := (.int _ _)) rfl) ?_
  refine GL.one rfl .no (S1.as (v := (.int _ _)) rfl) ?_
  refine GL.done rfl ?_
  refine GQ.on ?_
  refine GW.toRet rfl ?_
  refine GQ.outR ?_
  refine GQ.onR ?_
  refine GQ.ret (_, _) (.tmp (v := (.int _ _)) rfl rfl (.tmp (v := (.int _ _)) rfl rfl .nil)) .more rfl ?_ .nil
  exact trivial
  refine GW.toSkip rfl ?_
  refine GQ.outN ?_
  refine GQ.on ?_
  refine GW.toSeq rfl ?_
  refine GW.toSeq rfl ?_
  refine GW.toReg rfl ?_
  refine GL.one rfl .no (S1.mv (v := (.int _ _)) rfl) ?_
  refine GL.one rfl .no (S1.mv (v := (.int _ _)) rfl) ?_
  refine GL.one rfl .no (S1.mv (v := (.int _ _)) rfl) ?_
  refine GL.one rfl .no (S1.mv (v := (.int _ _)) rfl) ?_
  refine GL.one rfl .no (S1.bu zc102 bo102 (.c (v := (.int _ _)) rfl (.one rfl) fz102_0 rfl (by repeat constructor) (.c (v := (.int _ _)) rfl (.one rfl) fz102_1 rfl (by repeat constructor) (.c (v := (.int _ _)) rfl (.one rfl) fz102_2 rfl (by repeat constructor) (.c (v := (.int _ _)) rfl (.one rfl) fz102_3 rfl (by repeat constructor) .n))))) ?_
  refine GL.opN rfl .no (SN.al zc102) (fun a39 => ?_)
  refine GL.one rfl .no (S1.stA ag102 rfl rfl rfl rfl (by repeat constructor) .z) ?_
  refine GL.done rfl ?_
  refine GQ.on ?_
  refine GW.toBlock rfl ?_
  have h34 := outB_f w34
  refine GW.toLoop (fun x : Nat × Int => [(14, .pointer (some ⟨a22, 0, none⟩)), (17, .pointer (some ⟨x.1, 0, none⟩))]) (fun x => M50 a22 x.1 b s y e1 e2 x.2 e4 0) (fun x => 0 ≤ x.2 ∧ x.2 ≤ 4801) (fun x => (4801 - x.2).toNat) rfl (a39, e3) ⟨by simp only; omega, by simp only; omega⟩ (.c rfl (.c rfl .n)) (.cons (.s (.s (.s (.s (.s .z))))) (.cons .z (.cons (.s (.s (.s (.s .z)))) (.cons (.s (.s (.s (.s .z)))) (.cons (.s (.s (.s (.s .z)))) (.cons (.s (.s (.s (.s .z)))) (.app (.ts (.ts (.ts (.ts (.asc (.asc .tzA)))))) (.app (.ts (.ts (.ts (.ts (.asc .tzA))))) (.ts (.ts (.ts (.ts .tzA)))))))))))) ?_
  rintro ⟨q, st⟩ f ⟨hs1, hs2⟩
  simp only at hs1 hs2
  dsimp only [M50, MB]
  refine GW.toSeq rfl ?_
  refine GW.toSeq rfl ?_
  refine GW.toReg rfl ?_
  refine GL.one rfl .no (S1.fa fa102_2 rfl) ?_
  refine GL.one rfl .no (S1.ld sc3 rfl (.at (.s .z)) rfl) ?_
  refine GL.one rfl .no (S1.leq rfl rfl) ?_
  refine GL.done rfl ?_
  refine GQ.on ?_
  refine GW.toD rfl rfl (fun w40 => ?_) (fun w40 => ?_)
  refine GW.toSkip rfl ?_
  refine GQ.on ?_
  refine GW.toSeq rfl ?_
  refine GW.toBlock rfl ?_
  refine GW.toSeq rfl ?_
  refine GW.toReg rfl ?_
  refine GL.one rfl .no (S1.mf .n (.c (v := (.pointer _)) rfl (.c (v := (.pointer _)) rfl .n))) ?_
  rotate_left
  refine GW.toExit rfl ?_
  refine GQ.onE ?_
  refine GQ.onE ?_
  refine GQ.outH ?_
  refine GQ.on ?_
  refine GW.toSeq rfl ?_
  refine GW.toReg rfl ?_
  refine GL.one rfl .no (S1.as (v := (.int _ _)) rfl) ?_
  refine GL.one rfl .no (S1.as (v := (.int _ _)) rfl) ?_
  refine GL.done rfl ?_
  refine GQ.on ?_
  refine GW.toRet rfl ?_
  refine GQ.ret (_, _) (.tmp (v := (.int _ _)) rfl rfl (.tmp (v := (.int _ _)) rfl rfl .nil)) .more rfl ?_ .nil
  exact trivial
  refine GL.call (X := Int × Unit) (V := fun w => .int .i64 w.1) (R := fun w => (w.1 = 0 ∧ True) ∨ True) (M := fun _ => M50 a22 q b s y e1 e2 st e4 0) (ps := M50 a22 q b s y e1 e2 st e4 0) (L1 := []) rfl .no fo49 .tz
    (fun h' H' => ct49 (H'.give (ps := M50 a22 q b s y e1 e2 st e4 0) (L1 := []) .tz) fo50 (fun h2 H2 => ct50 hc (by omega) hm hI H2)) (.d (.c (v := .func _ ⟨[]⟩ ⟨[_, _]⟩) rfl .n)) (fun w _ => ?_)
  refine GL.one rfl .no (S1.eql rfl rfl) ?_
  refine GL.done rfl ?_
  refine GQ.on ?_
  refine GW.toD rfl rfl (fun w42 => ?_) (fun w42 => ?_)
  refine GW.toSeq rfl ?_
  refine GW.toReg rfl ?_
  refine GL.one rfl .no (S1.fa fa102_2 rfl) ?_
  refine GL.one rfl .no (S1.ld sc3 rfl (.at (.s .z)) rfl) ?_
  refine GL.one rfl .no (S1.as (v := (.int _ _)) rfl) ?_
  refine GL.one rfl .no (S1.as (v := (.int _ _)) rfl) ?_
  refine GL.done rfl ?_
  refine GQ.on ?_
  refine GW.toRet rfl ?_
  refine GQ.outR ?_
  refine GQ.onR ?_
  refine GQ.onR ?_
  refine GQ.outR ?_
  refine GQ.onR ?_
  refine GQ.ret (_, _) (.tmp (v := (.int _ _)) rfl rfl (.tmp (v := (.int _ _)) rfl rfl .nil)) .more rfl ?_ .nil
  exact trivial
  refine GW.toSkip rfl ?_
  refine GQ.outN ?_
  refine GQ.on ?_
  refine GW.toSeq rfl ?_
  refine GW.toSeq rfl ?_
  refine GW.toReg rfl ?_
  refine GL.one rfl .no (S1.ldW ag102 rfl (.at (.s .z)) rfl) ?_
  refine GL.done rfl ?_
  refine GQ.on ?_
  refine GW.toReg rfl ?_
  refine GL.opN rfl .no (SN.al zc102) (fun a43 => ?_)
  refine GL.one rfl .no (S1.stA ag102 rfl rfl rfl rfl (by repeat constructor) .z) ?_
  refine GL.done rfl ?_
  refine GQ.on ?_
  refine GW.toReg rfl ?_
  refine GL.one rfl .no (S1.fa fa102_2 rfl) ?_
  refine GL.one rfl .no (S1.ld sc3 rfl (.at .z) rfl) ?_
  refine GL.one rfl .no (S1.addI rfl rfl (by omega) (by omega)) ?_
  refine GL.one rfl .no (S1.fa fa102_2 rfl) ?_
  refine GL.one rfl .no (S1.st (u := (.int _ _)) sc3 rfl rfl rfl (by repeat constructor) .z) ?_
  refine GL.done rfl ?_
  refine GQ.next (_, st + 1) ⟨(by dsimp only; omega), (by dsimp only; omega)⟩ (by dsimp only; omega) (.c rfl (.c rfl .n)) (.cons (.s .z) (.cons .z (.cons (.s .z) (.cons (.s .z) (.cons (.s .z) (.cons (.s .z) (.app (.ts (.asc .tzA)) (.app (.ts (.asc .tzA)) (.ts .tzA)))))))))
end
end Go.Proofs.YtkpbpfnmgnpfaaaGreat
namespace Go.Proofs.YtkpbpfnmgnpfaaaGreat
open Go Go.E
set_option maxRecDepth 100000
set_option maxHeartbeats 1000000

section
variable {h : EH} {hr : RO} {b : Nat} {v0 v1 v2 v3 v4 : Value} {E0 E1 E2 E3 E4 : Ents} {m0 m1 m2 m3 m4 : Nat}
theorem cw19 (o1 : OR wy102 v1 E1 m1) (o2 : OR wy3 v2 E2 m2) (o3 : OR wy3 v3 E3 m3) (o4 : OR wy3 v4 E4 m4) (H : Hp (fun _ => none) h (((b, .cells [v1, v2, v3, v4] none true) :: (E1 ++ (E2 ++ (E3 ++ E4))) : Ents).map (·.1)) ((b, .cells [v1, v2, v3, v4] none true) :: (E1 ++ (E2 ++ (E3 ++ E4)))) h) :
    Ct Tryz.prog 19 ⟨[.pointer (some ⟨b, 0, none⟩)]⟩ h (((b, .cells [v1, v2, v3, v4] none true) :: (E1 ++ (E2 ++ (E3 ++ E4))) : Ents).map (·.1)) (fun _ : Unit => .tuple #[]) (fun _ => True) (fun _ => []) := by
  refine Ct.go Tryz.func19 rfl rfl co19 H ?_
  refine GW.toSeq rfl ?_
  refine GW.toReg rfl ?_
  refine GL.one rfl .no (S1.mv (v := (.pointer _)) rfl) ?_
  refine GL.one rfl .no (S1.nc rfl) ?_
  refine GL.one rfl .no (S1.fa fa49_0 rfl) ?_
  refine GL.call rfl .no fo43 (show Take _ ((b, _) :: E1) _ from (.cons .z .tzA)) (fun h H => cw43 _ _ _ _ _ _ _ rfl o1 (H.give (show Take _ ((b, _) :: E1) _ from (.cons .z .tzA)))) (.d (.c (v := (.pointer _)) rfl .n)) (fun E1' p1 => ?_)
  refine GL.done rfl ?_
  refine GQ.on ?_
  refine GW.toSeq rfl ?_
  refine GW.toReg rfl ?_
  refine GL.one rfl .no (S1.mv (v := (.pointer _)) rfl) ?_
  refine GL.one rfl .no (S1.nc rfl) ?_
  refine GL.one rfl .no (S1.fa fa49_1 rfl) ?_
  refine GL.call rfl .no fo44 (show Take _ ((b, _) :: E2) _ from (.cons .z (.skA .tzA))) (fun h H => cw44 _ _ _ _ _ _ _ rfl o2 (H.give (show Take _ ((b, _) :: E2) _ from (.cons .z (.skA .tzA))))) (.d (.c (v := (.pointer _)) rfl .n)) (fun E2' p2 => ?_)
  refine GL.done rfl ?_
  refine GQ.on ?_
  refine GW.toSeq rfl ?_
  refine GW.toReg rfl ?_
  refine GL.one rfl .no (S1.mv (v := (.pointer _)) rfl) ?_
  refine GL.one rfl .no (S1.nc rfl) ?_
  refine GL.one rfl .no (S1.fa fa49_2 rfl) ?_
  refine GL.call rfl .no fo44 (show Take _ ((b, _) :: E3) _ from (.cons .z (.skA (.skA .tzA)))) (fun h H => cw44 _ _ _ _ _ _ _ rfl o3 (H.give (show Take _ ((b, _) :: E3) _ from (.cons .z (.skA (.skA .tzA)))))) (.d (.c (v := (.pointer _)) rfl .n)) (fun E3' p3 => ?_)
  refine GL.done rfl ?_
  refine GQ.on ?_
  refine GW.toReg rfl ?_
  refine GL.one rfl .no (S1.mv (v := (.pointer _)) rfl) ?_
  refine GL.one rfl .no (S1.nc rfl) ?_
  refine GL.one rfl .no (S1.fa fa49_3 rfl) ?_
  refine GL.call rfl .no fo44 (show Take _ ((b, _) :: E4) _ from (.cons .z (.skA (.skA (.skA .tz))))) (fun h H => cw44 _ _ _ _ _ _ _ rfl o4 (H.give (show Take _ ((b, _) :: E4) _ from (.cons .z (.skA (.skA (.skA .tz))))))) (.d (.c (v := (.pointer _)) rfl .n)) (fun E4' p4 => ?_)
  refine GL.done rfl ?_
  refine GQ.retN () .nil .z ?_ ?_ .nil
  rfl
  exact trivial

variable {b0 b1 : Nat}
abbrev B13 (x : Nat × Nat × X14) : Ents := (x.1, .cells [x.2.2.v0] none true) :: (x.2.1, .cells [x.2.2.v1, x.2.2.v2, x.2.2.v3, x.2.2.v4] none true) :: M14 x.2.2
theorem ct17 (x : Nat × Nat × X14) (q : R14 x.2.2) (H : Hp (fun _ => none) h ((B13 x).map (·.1)) (B13 x) h) :
    Ct Tryz.prog 17 ⟨[.pointer (some ⟨x.1, 0, none⟩), .pointer (some ⟨x.2.1, 0, none⟩)]⟩ h ((B13 x).map (·.1)) (fun _ : Unit => .tuple #[]) (fun _ => True) (fun _ => []) := by
  obtain ⟨b0, b1, v0, v1, v2, v3, v4, E0, E1, E2, E3, E4, m0, m1, m2, m3, m4, e⟩ := x
  obtain ⟨o0, o1, o2, o3, o4, _⟩ := q
  dsimp only [B13, M14] at H o0 o1 o2 o3 o4 ⊢
  refine Ct.go Tryz.func17 rfl rfl co17 H ?_
  refine GW.toSeq rfl ?_
  refine GW.toReg rfl ?_
  refine GL.call rfl .no fo18 (show Take _ ((b0, _) :: E0) _ from (.cons .z (.ts .tzA))) (fun h H => cw18 _ _ _ _ _ _ _ rfl o0 (H.give (show Take _ ((b0, _) :: E0) _ from (.cons .z (.ts .tzA))))) (.d (.c (v := (.pointer _)) rfl .n)) (fun E0' p0 => ?_)
  refine GL.done rfl ?_
  refine GQ.on ?_
  refine GW.toReg rfl ?_
  refine GL.call rfl .no fo19 (show Take _ ((b1, _) :: (E1 ++ (E2 ++ (E3 ++ E4)))) _ from (.cons (.s (.sA .z)) (.app (.ts (.skA .tzA)) (.app (.ts (.skA .tzA)) (.app (.ts (.skA .tzA)) (.ts (.skA .tz))))))) (fun h H => cw19 o1 o2 o3 o4 (H.give (show Take _ ((b1, _) :: (E1 ++ (E2 ++ (E3 ++ E4)))) _ from (.cons (.s (.sA .z)) (.app (.ts (.skA .tzA)) (.app (.ts (.skA .tzA)) (.app (.ts (.skA .tzA)) (.ts (.skA .tz))))))))) (.d (.c (v := (.pointer _)) rfl .n)) (fun _ _ => ?_)
  refine GL.done rfl ?_
  refine GQ.retN () .nil .z ?_ ?_ .nil
  rfl
  exact trivial

abbrev B20 (x : Nat × Value × Ents × Nat) : Ents := (x.1, .cells [x.2.1] none true) :: x.2.2.1
theorem ct23 (x : Nat × Value × Ents × Nat) (o0 : OR wy97 x.2.1 x.2.2.1 x.2.2.2) (H : Hp (fun _ => none) h ((B20 x).map (·.1)) (B20 x) h) :
    Ct Tryz.prog 23 ⟨[.pointer (some ⟨x.1, 0, none⟩)]⟩ h ((B20 x).map (·.1)) (fun _ : Unit => .tuple #[]) (fun _ => True) (fun _ => []) := by
  obtain ⟨b0, v0, E0, m0⟩ := x
  dsimp only [B20] at H o0 ⊢
  refine Ct.go Tryz.func23 rfl rfl co23 H ?_
  refine GW.toReg rfl ?_
  refine GL.call rfl .no fo24 (show Take _ ((b0, _) :: E0) _ from .tz) (fun h H => cw24 _ _ _ _ _ _ _ rfl o0 (H.give (show Take _ ((b0, _) :: E0) _ from .tz))) (.d (.c (v := (.pointer _)) rfl .n)) (fun E0' p0 => ?_)
  refine GL.done rfl ?_
  refine GQ.retN () .nil .z ?_ ?_ .nil
  rfl
  exact trivial
end
end Go.Proofs.YtkpbpfnmgnpfaaaGreat
namespace Go.Proofs.YtkpbpfnmgnpfaaaGreat
open Go Go.E
set_option maxRecDepth 100000
set_option maxHeartbeats 1000000

section
variable {h : EH} {hr : RO} {s : Sch} {xb hb : Nat} {ea : Option Addr} {en ec : Nat} {x5 x6 x7 x8 x9 : Int}


theorem p16 {v1 v2 v3 v4 : Value} {E1 E2 E3 E4 : Ents} {m1 m2 m3 m4 : Nat} (o1 : OR wy102 v1 E1 m1) (o2 : OR wy3 v2 E2 m2) (o3 : OR wy3 v3 E3 m3) (o4 : OR wy3 v4 E4 m4) (hn : ((E1 ++ (E2 ++ (E3 ++ E4)) : Ents).map (·.1)).Nodup) :
    PutCt Tryz.prog (roOf (E1 ++ (E2 ++ (E3 ++ E4)))) 16 [.agg ⟨[v1, v2, v3, v4]⟩] (4 + m1 * 5 + m2 + m3 + m4) (4 + m1 * 5 + m2 + m3 + m4) := by
  have c1 := o1.cell hn (fun p hp => by simp [hp])
  have c2 := o2.cell hn (fun p hp => by simp [hp])
  have c3 := o3.cell hn (fun p hp => by simp [hp])
  have c4 := o4.cell hn (fun p hp => by simp [hp])
  obtain ⟨a1, rfl⟩ := o1.eta
  obtain ⟨a2, rfl⟩ := o2.eta
  obtain ⟨a3, rfl⟩ := o3.eta
  obtain ⟨a4, rfl⟩ := o4.eta
  have := ct16 c1 c2 c3 c4
  rw [o1.bk rfl, o2.bk rfl, o3.bk rfl, o4.bk rfl, show wy102.length = 5 from rfl, show wy3.length = 1 from rfl] at this
  exact this.le (by omega) (by omega)

theorem ct13 (hL : Cell hr (.sl ly9) (.slice s.la s.ln s.lc)) (hc : Cell hr (.sl ly74) (.slice s.ca s.cn s.cc)) (hT : Cell hr (.sl ly78) (.slice s.ta s.tn s.tc)) (hE : Cell hr (.sl ly117) (.slice ea en ec))
    (G : GoodA hr (xsB s.la s.ln s.lc s.ca s.cn s.cc s.x1 s.x2 s.x3 s.x4 s.ta s.tn s.tc x5 x6 ea en ec x7 x8 x9) zero2 xb hb h) : ClW Tryz.prog 13 17 1000 hb xb h (fun x => [.pointer (some ⟨x.1, 0, none⟩), .pointer (some ⟨x.2.1, 0, none⟩)]) B13 (fun x => R14 x.2.2) := by
  have p := PS.nn
  have hx := G.x
  have hne : xb ∉ [hb] := by simpa using G.ne
  have e0 : ([] : List Int).length = 0 := rfl
  have e1 : ([] : List ByteArray).length = 0 := rfl
  refine Ct.go Tryz.func13 rfl rfl co13 (Hp.start1 G.rom G.z G.zo) ?_
  refine GW.toSeq rfl ?_
  refine GW.toReg rfl ?_
  refine GL.one rfl .no (S1.as (v := .nilFunc) rfl) ?_
  refine GL.done rfl ?_
  refine GQ.on ?_
  refine GW.toSeq rfl ?_
  refine GW.toReg rfl ?_
  refine GL.one rfl .no (S1.fa fa31_0 rfl) ?_
  refine GL.one rfl .no (S1.ldA ag28 rfl (.old hx (by simp_all)) (by repeat constructor)) ?_
  refine GL.one rfl .no (S1.fa fa31_3 rfl) ?_
  refine GL.one rfl .no (S1.ld sc29 rfl (.old hx (by simp_all)) rfl) ?_
  refine GL.call rfl .no fo14 .nil (fun h H => ct14 (s := s) H.rom hL hc hT hE) (.d (.c (v := (.agg _)) rfl (.c (v := (.slice _ _ _)) rfl .n))) (fun x ⟨o0, o1, o2, o3, o4, l0, l1, l2, l3, l4⟩ => ?_)
  refine GL.one rfl .no (S1.mv (v := (.tuple _)) rfl) ?_
  refine GL.one rfl .no (S1.ext (v := (x.1)) rfl rfl) ?_
  refine GL.one rfl .no (S1.ext (v := (.agg _)) rfl rfl) ?_
  refine GL.one rfl .no (S1.ext (v := (.int _ _)) rfl rfl) ?_
  refine GL.opN rfl .no (SN.al zc46) (fun a2 => ?_)
  refine GL.opN rfl .no (SN.al zc49) (fun a3 => ?_)
  refine GL.one rfl .no (S1.st (u := (x.1)) sc46 rfl rfl (by first | (apply NR.okv; assumption) | (apply OR.okv; assumption)) (by repeat constructor) (.s .z)) ?_
  refine GL.one rfl .no (S1.stA ag49 rfl rfl rfl (by simp only [List.all_cons, List.all_nil, Bool.and_true, Bool.and_eq_true]; and_intros; all_goals first | rfl | (apply NR.okv; assumption) | (apply OR.okv; assumption)) (by repeat constructor) .z) ?_
  refine GL.one rfl .no (S1.as (v := (.int _ _)) rfl) ?_
  refine GL.done rfl ?_
  refine GQ.on ?_
  refine GW.toSeq rfl ?_
  refine GW.toReg rfl ?_
  refine GL.one rfl .no (S1.mv (v := (.pointer _)) rfl) ?_
  refine GL.one rfl .no (S1.ld sc46 rfl (.at (.s .z)) rfl) ?_
  refine GL.putB (B := x.E0) rfl .no fo15 p (.cons (.s (.s (.asc (.sA (.asc (.sA (.asc (.sA (.asc (.sA (.sA .z))))))))))) .nil) (.ts (.ts .tzA)) (o0.put (z := 1) rfl rfl (fun _ _ _ _ h => ct15 h) (fun _ h => h)) (by omega) (by omega) (.d (.c (v := (.pointer _)) rfl (.c (v := (x.1)) rfl .n))) (fun vn4 vs4 E4 ns4 ss4 p4 lN4 lS4 => ?_)
  refine GL.done rfl ?_
  refine GQ.on ?_
  refine GW.toSeq rfl ?_
  refine GW.toReg rfl ?_
  refine GL.one rfl .no (S1.mv (v := (.pointer _)) rfl) ?_
  refine GL.one rfl .no (S1.ldW ag49 rfl (.at .z) rfl) ?_
  refine GL.putB (B := x.E1 ++ (x.E2 ++ (x.E3 ++ x.E4))) rfl .no fo16 p4 (.cons (.s (.s (.asc (.sA (.asc (.sA (.asc (.sA (.asc (.sA (.asc (.sA .z)))))))))))) (.ts (.ts (.skA (.skA (.skA (.skA (.skA .tz)))))))) (.app (.ts (.ts (.skA .tzA))) (.app (.ts (.ts (.skA .tzA))) (.app (.ts (.ts (.skA .tzA))) (.ts (.ts (.skA .tzA)))))) (fun hn => p16 o1 o2 o3 o4 hn) (by omega) (by omega) (.d (.c (v := (.pointer _)) rfl (.c (v := (.agg _)) rfl .n))) (fun vn5 vs5 E5 ns5 ss5 p5 lN5 lS5 => ?_)
  refine GL.done rfl ?_
  refine GQ.on ?_
  refine GW.toSeq rfl ?_
  refine GW.toReg rfl ?_
  refine GL.one rfl .no (S1.mv (v := (.pointer _)) rfl) ?_
  refine GL.one rfl .no (S1.mv (v := (.int _ _)) rfl) ?_
  refine GL.put rfl .no fo9 (ct9) p5 (.cons (.s (.s (.asc (.sA (.asc (.sA (.asc (.sA (.asc (.sA (.asc (.sA .z)))))))))))) (.ts (.ts (.skA (.skA (.skA (.skA (.skA .tz)))))))) (by omega) (by omega) (.d (.c (v := (.pointer _)) rfl (.c (v := (.int _ _)) rfl .n))) (fun vn6 vs6 E6 ns6 ss6 p6 lN6 lS6 => ?_)
  refine GL.done rfl ?_
  refine GQ.on ?_
  refine GW.toSeq rfl ?_
  refine GW.toReg rfl ?_
  refine GL.one rfl .no (S1.mf .n (.c (v := (.pointer _)) rfl (.c (v := (.pointer _)) rfl .n))) ?_
  refine GL.one rfl .no (S1.as (v := (.func _ _ _)) rfl) ?_
  refine GL.done rfl ?_
  refine GQ.on ?_
  refine GW.toRet rfl ?_
  refine GQ.ret ((_, _, _, _, _), (a2, a3, x)) (.tmp (v := (.func _ _ _)) rfl rfl .nil) .one rfl ⟨⟨p6, by dsimp only; omega, by dsimp only; omega⟩, ⟨o0, o1, o2, o3, o4, l0, l1, l2, l3, l4⟩⟩ (.cons (.s (.s (.asc (.sA (.asc (.sA (.asc (.sA (.asc (.sA (.asc (.sA .z)))))))))))) (.app (.ts (.ts (.skA (.skA (.skA (.skA (.skA .tz))))))) (.cons (.s .z) (.cons .z (.app .tzA (.app .tzA (.app .tzA (.app .tzA .tzA))))))))

theorem ct20 (hL : Cell hr (.sl ly9) (.slice s.la s.ln s.lc)) (hc : Cell hr (.sl ly74) (.slice s.ca s.cn s.cc)) (hT : Cell hr (.sl ly78) (.slice s.ta s.tn s.tc)) (hE : Cell hr (.sl ly117) (.slice ea en ec))
    (G : GoodA hr (xsB s.la s.ln s.lc s.ca s.cn s.cc s.x1 s.x2 s.x3 s.x4 s.ta s.tn s.tc x5 x6 ea en ec x7 x8 x9) zero2 xb hb h) : ClW Tryz.prog 20 23 1000 hb xb h (fun x => [.pointer (some ⟨x.1, 0, none⟩)]) B20 (fun x => OR wy97 x.2.1 x.2.2.1 x.2.2.2) := by
  have p := PS.nn
  have hx := G.x
  have hne : xb ∉ [hb] := by simpa using G.ne
  have e0 : ([] : List Int).length = 0 := rfl
  have e1 : ([] : List ByteArray).length = 0 := rfl
  refine Ct.go Tryz.func20 rfl rfl co20 (Hp.start1 G.rom G.z G.zo) ?_
  refine GW.toSeq rfl ?_
  refine GW.toReg rfl ?_
  refine GL.one rfl .no (S1.as (v := .nilFunc) rfl) ?_
  refine GL.done rfl ?_
  refine GQ.on ?_
  refine GW.toSeq rfl ?_
  refine GW.toReg rfl ?_
  refine GL.one rfl .no (S1.fa fa31_0 rfl) ?_
  refine GL.one rfl .no (S1.ldA ag28 rfl (.old hx (by simp_all)) (by repeat constructor)) ?_
  refine GL.one rfl .no (S1.fa fa31_3 rfl) ?_
  refine GL.one rfl .no (S1.ld sc29 rfl (.old hx (by simp_all)) rfl) ?_
  refine GL.call rfl .no fo21 .nil (fun h H => ct21 (s := s) H.rom hL hc hT hE) (.d (.c (v := (.agg _)) rfl (.c (v := (.slice _ _ _)) rfl .n))) (fun x ⟨o0, l0⟩ => ?_)
  refine GL.one rfl .no (S1.mv (v := (.tuple _)) rfl) ?_
  refine GL.one rfl .no (S1.ext (v := (x.1)) rfl rfl) ?_
  refine GL.one rfl .no (S1.ext (v := (.int _ _)) rfl rfl) ?_
  refine GL.opN rfl .no (SN.al zc58) (fun a2 => ?_)
  refine GL.one rfl .no (S1.st (u := (x.1)) sc58 rfl rfl (by first | (apply NR.okv; assumption) | (apply OR.okv; assumption)) (by repeat constructor) .z) ?_
  refine GL.one rfl .no (S1.as (v := (.int _ _)) rfl) ?_
  refine GL.done rfl ?_
  refine GQ.on ?_
  refine GW.toSeq rfl ?_
  refine GW.toReg rfl ?_
  refine GL.one rfl .no (S1.mv (v := (.pointer _)) rfl) ?_
  refine GL.one rfl .no (S1.ld sc58 rfl (.at .z) rfl) ?_
  refine GL.putB (B := x.2.1) rfl .no fo22 p (.cons (.s (.sA .z)) .nil) (.ts .tzA) (o0.put (z := 4) rfl rfl (fun _ _ _ _ h => ct22 h) (fun _ h => h)) (by omega) (by omega) (.d (.c (v := (.pointer _)) rfl (.c (v := (x.1)) rfl .n))) (fun vn3 vs3 E3 ns3 ss3 p3 lN3 lS3 => ?_)
  refine GL.done rfl ?_
  refine GQ.on ?_
  refine GW.toSeq rfl ?_
  refine GW.toReg rfl ?_
  refine GL.one rfl .no (S1.mv (v := (.pointer _)) rfl) ?_
  refine GL.one rfl .no (S1.mv (v := (.int _ _)) rfl) ?_
  refine GL.put rfl .no fo9 (ct9) p3 (.cons (.s (.asc (.sA .z))) (.ts (.skA .tz))) (by omega) (by omega) (.d (.c (v := (.pointer _)) rfl (.c (v := (.int _ _)) rfl .n))) (fun vn4 vs4 E4 ns4 ss4 p4 lN4 lS4 => ?_)
  refine GL.done rfl ?_
  refine GQ.on ?_
  refine GW.toSeq rfl ?_
  refine GW.toReg rfl ?_
  refine GL.one rfl .no (S1.mf .n (.c (v := (.pointer _)) rfl .n)) ?_
  refine GL.one rfl .no (S1.as (v := (.func _ _ _)) rfl) ?_
  refine GL.done rfl ?_
  refine GQ.on ?_
  refine GW.toRet rfl ?_
  refine GQ.ret ((_, _, _, _, _), (a2, x.1, x.2.1, x.2.2.1)) (.tmp (v := (.func _ _ _)) rfl rfl .nil) .one rfl ⟨⟨p4, by dsimp only; omega, by dsimp only; omega⟩, o0⟩ (.cons (.s (.asc (.sA .z))) (.app (.ts (.skA .tz)) (.cons .z .tzA)))

theorem ct25 (hL : Cell hr (.sl ly9) (.slice s.la s.ln s.lc)) (hc : Cell hr (.sl ly74) (.slice s.ca s.cn s.cc)) (hT : Cell hr (.sl ly78) (.slice s.ta s.tn s.tc)) (hE : Cell hr (.sl ly117) (.slice ea en ec))
    (G : GoodA hr (xsB s.la s.ln s.lc s.ca s.cn s.cc s.x1 s.x2 s.x3 s.x4 s.ta s.tn s.tc x5 x6 ea en ec x7 x8 x9) zero2 xb hb h) : ClN Tryz.prog 25 10 1000 hb xb h := by
  have p := PS.nn
  have hx := G.x
  have hne : xb ∉ [hb] := by simpa using G.ne
  have e0 : ([] : List Int).length = 0 := rfl
  have e1 : ([] : List ByteArray).length = 0 := rfl
  refine Ct.go Tryz.func25 rfl rfl co25 (Hp.start1 G.rom G.z G.zo) ?_
  refine GW.toSeq rfl ?_
  refine GW.toReg rfl ?_
  refine GL.one rfl .no (S1.as (v := .nilFunc) rfl) ?_
  refine GL.done rfl ?_
  refine GQ.on ?_
  refine GW.toSeq rfl ?_
  refine GW.toReg rfl ?_
  refine GL.one rfl .no (S1.fa fa31_0 rfl) ?_
  refine GL.one rfl .no (S1.ldA ag28 rfl (.old hx (by simp_all)) (by repeat constructor)) ?_
  refine GL.one rfl .no (S1.fa fa31_3 rfl) ?_
  refine GL.one rfl .no (S1.ld sc29 rfl (.old hx (by simp_all)) rfl) ?_
  refine GL.one rfl .no (S1.fa fa31_4 rfl) ?_
  refine GL.one rfl .no (S1.ld sc3 rfl (.old hx (by simp_all)) rfl) ?_
  refine GL.one rfl .no (S1.fa fa31_5 rfl) ?_
  refine GL.one rfl .no (S1.ld sc3 rfl (.old hx (by simp_all)) rfl) ?_
  refine GL.one rfl .no (S1.fa fa31_6 rfl) ?_
  refine GL.one rfl .no (S1.ld sc3 rfl (.old hx (by simp_all)) rfl) ?_
  refine GL.one rfl .no (S1.fa fa31_1 rfl) ?_
  refine GL.one rfl .no (S1.ld sc3 rfl (.old hx (by simp_all)) rfl) ?_
  refine GL.call rfl .no fo26 .nil (fun h H => ct26 (s := s) H.rom hL hc hT hE) (.d (.c (v := (.agg _)) rfl (.c (v := (.slice _ _ _)) rfl (.c (v := (.int _ _)) rfl (.c (v := (.int _ _)) rfl (.c (v := (.int _ _)) rfl (.c (v := (.int _ _)) rfl .n))))))) (fun ⟨u1, v1⟩ _ => ?_)
  refine GL.one rfl .no (S1.mv (v := (.tuple _)) rfl) ?_
  refine GL.one rfl .no (S1.ext (v := (.int _ _)) rfl rfl) ?_
  refine GL.one rfl .no (S1.ext (v := (.int _ _)) rfl rfl) ?_
  refine GL.one rfl .no (S1.as (v := (.int _ _)) rfl) ?_
  refine GL.one rfl .no (S1.as (v := (.int _ _)) rfl) ?_
  refine GL.done rfl ?_
  refine GQ.on ?_
  refine GW.toSeq rfl ?_
  refine GW.toReg rfl ?_
  refine GL.one rfl .no (S1.mv (v := (.pointer _)) rfl) ?_
  refine GL.one rfl .no (S1.mv (v := (.int _ _)) rfl) ?_
  refine GL.put rfl .no fo8 (ct8) p (.cons .z .nil) (by omega) (by omega) (.d (.c (v := (.pointer _)) rfl (.c (v := (.int _ _)) rfl .n))) (fun vn2 vs2 E2 ns2 ss2 p2 lN2 lS2 => ?_)
  refine GL.done rfl ?_
  refine GQ.on ?_
  refine GW.toSeq rfl ?_
  refine GW.toReg rfl ?_
  refine GL.one rfl .no (S1.mv (v := (.pointer _)) rfl) ?_
  refine GL.one rfl .no (S1.mv (v := (.int _ _)) rfl) ?_
  refine GL.put rfl .no fo9 (ct9) p2 (.cons .z .tz) (by omega) (by omega) (.d (.c (v := (.pointer _)) rfl (.c (v := (.int _ _)) rfl .n))) (fun vn3 vs3 E3 ns3 ss3 p3 lN3 lS3 => ?_)
  refine GL.done rfl ?_
  refine GQ.on ?_
  refine GW.toSeq rfl ?_
  refine GW.toReg rfl ?_
  refine GL.one rfl .no (S1.as (v := (.func _ _ _)) rfl) ?_
  refine GL.done rfl ?_
  refine GQ.on ?_
  refine GW.toRet rfl ?_
  refine GQ.ret (_, _, _, _, _) (.tmp (v := (.func _ _ _)) rfl rfl .nil) .one rfl ⟨p3, by dsimp only; omega, by dsimp only; omega⟩ (.cons .z (.app .tz .nil))
end
end Go.Proofs.YtkpbpfnmgnpfaaaGreat
