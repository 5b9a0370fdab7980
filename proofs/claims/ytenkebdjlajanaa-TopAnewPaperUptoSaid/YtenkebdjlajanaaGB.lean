/-
  G6: CALLS TWICE: what a call comes to does not depend on where it runs (by the frame); the heap of numbers and strings.
-/
import Derived.Test.YtenkebdjlajanaaGA
import Derived.Test.YtenkebdjlajanaaRows
import Derived.WalkKit
import Derived.ProofKit
import Derived.OpenShut
import Derived.JoinedCond
set_option linter.all false
set_option linter.constructorNameAsVariable false
set_option linter.unusedSimpArgs false
set_option linter.unusedVariables false
set_option linter.unusedSectionVars false
set_option linter.unnecessarySimpa false
namespace Go.E
open Go

theorem Take.tz {E : Ents} : Take E E [] := by
  induction E with
  | nil => exact .nil
  | cons p E ih => exact .cons .z ih
theorem Take.ts {x : Nat × EObj} {L E L' : Ents} (t : Take L E L') : Take (x :: L) E (x :: L') := by
  induction t with
  | nil => exact .nil
  | cons r _ ih => exact .cons (.s r) ih

section
variable {hr : RO} {h0 : EH} {F : List Nat} {L L1 L' ps N : Ents} {h h' : EH}

theorem Hp.perm (H : Hp hr h0 F L h) (p : L.Perm L') : Hp hr h0 F L' h :=
  ⟨H.old, H.len, fun q hq => H.at_ q (p.symm.mem_iff.1 hq), (p.map (·.1)).nodup_iff.1 H.nd, fun q hq => H.own q (p.symm.mem_iff.1 hq), H.rom, fun q hq => H.off q (p.symm.mem_iff.1 hq)⟩

theorem Hp.give (H : Hp hr h0 F L h) (t : Take L ps L1) : Hp hr h (ps.map (·.1)) ps h := by
  have G := H.sub t
  exact ⟨fun _ _ e _ => e, Nat.le_refl _, G.at_, G.nd, fun p hp => .inl (List.mem_map_of_mem hp), G.rom, G.off⟩

theorem Hp.callT (H : Hp hr h0 F L h) (t : Take L ps L1) (q : Post (ps.map (·.1)) h h' N) : Hp hr h0 F (L1 ++ N) h' := (H.call t q).perm List.perm_append_comm
end

section
variable {P : Program} {N : Nat} {ro : Option Nat} {f : Nat → Value} {ds : List Deferred} {rc : Option (Value × Bool)} {C : EH → Prop} {Q : Ex → St → Prop}
variable {ops : Array Oper} {i : Nat} {d : Option Nat} {op : Op} {ty : TypeId} {pos : String} {aft : Array Edge} {gd : Option (Nat × Bool)} {hr : RO} {h0 : EH} {F : List Nat} {L L1 ps : Ents}

theorem GL.callT {g : FuncId} {args : List Value} {X : Type} {V : X → Value} {R : X → Prop} {M : X → Ents} (hi : ops.toList[i]? = some ⟨d, op, ty, pos, aft, gd⟩) (hw : Want N ops f gd true) (hfn : fnOk P g = true)
    (t : Take L ps L1) (ct : ∀ h, Hp hr h0 F L h → Ct P g ⟨args⟩ h (ps.map (·.1)) V R M) (hc : CallOf f op g args)
    (k : ∀ x, R x → GL P N ro ops (i + 1) (setT f d (V x)) ds rc (Hp hr h0 F (L1 ++ M x)) Q) : GL P N ro ops i f ds rc (Hp hr h0 F L) Q :=
  .call hi hw hfn t ct hc fun x hR => .weaken (fun _ H => H.perm List.perm_append_comm) (k x hR)

theorem GL.callG {g : FuncId} {args : List Value} {X : Type} {V : X → Value} {R : X → Prop} {C' : X → EH → Prop} (hi : ops.toList[i]? = some ⟨d, op, ty, pos, aft, gd⟩) (hw : Want N ops f gd true) (hfn : fnOk P g = true)
    (ct : ∀ h, C h → WF P g ⟨args⟩ h (backTo (fun v h' => ∃ x, v = V x ∧ R x ∧ C' x h') (fun _ _ => False))) (hc : CallOf f op g args)
    (k : ∀ x, R x → GL P N ro ops (i + 1) (setT f d (V x)) ds rc (C' x) Q) : GL P N ro ops i f ds rc C Q := by
  intro hk h hC
  rw [Array.getElem?_toList] at hi
  refine WO.call hi hw.want (regOk_op hk hi) hc.eq hfn (WF.mono (ct h hC) fun o h' q => ?_)
  cases o with
  | ret v =>
    obtain ⟨x, rfl, hR, hP⟩ := q
    exact k x hR hk h' hP
  | pan v => exact q.elim
end

def Fix (hr : RO) (v : Value) : Prop := ∀ σ : Nat → Option Nat, (∀ b o, hr b = some o → σ b = some b) → ren σ v = v
def ClosedR (hr : RO) : Prop := ∀ b o, hr b = some o → ∃ vs opn wr, o = .cells vs opn wr ∧ ∀ v ∈ vs, Fix hr v

theorem Cell.fix {hr : RO} {l : Lay} {v : Value} (c : Cell hr l v) : Fix hr v := by
  intro σ hσ
  cases c with
  | int => rfl
  | bool => rfl
  | str => rfl
  | nil => rfl
  | sle => simp only [ren, renAt]
  | @sl _ b off n c vs opn wr hb => simp only [ren, renAt, hσ b _ hb, Option.map_some]

structure GoodA (hr : RO) (xs zs : List Value) (xb hb : Nat) (h : EH) : Prop where
  rom : ∀ b o, hr b = some o → h[b]? = some o
  x : h[xb]? = some (.cells xs none true)
  z : h[hb]? = some (.cells zs none true)
  xo : hr xb = none
  zo : hr hb = none
  ne : xb ≠ hb

noncomputable def σ0 (hr : RO) (xb hb xb' hb' : Nat) : Nat → Option Nat := fun b => if b = xb then some xb' else if b = hb then some hb' else if (hr b).isSome then some b else none

theorem renL_fix {hr : RO} {vs : List Value} {σ : Nat → Option Nat} (hσ : ∀ b o, hr b = some o → σ b = some b) (h : ∀ v ∈ vs, Fix hr v) : vs.map (ren σ) = vs := by
  induction vs with
  | nil => rfl
  | cons v vs ih => rw [List.map_cons, h v (.head _) σ hσ, ih fun w hw => h w (.tail _ hw)]

theorem σ0_rom {hr : RO} {xb hb xb' hb' : Nat} {xs zs : List Value} {h : EH} (g : GoodA hr xs zs xb hb h) : ∀ b o, hr b = some o → σ0 hr xb hb xb' hb' b = some b := by
  intro b o e
  have h1 : b ≠ xb := by rintro rfl; rw [g.xo] at e; cases e
  have h2 : b ≠ hb := by rintro rfl; rw [g.zo] at e; cases e
  simp only [σ0, if_neg h1, if_neg h2, e, Option.isSome_some, if_true]

theorem σ0_lies {hr : RO} {xs zs : List Value} {xb hb xb' hb' : Nat} {h H : EH} (hcl : ClosedR hr) (hx : ∀ v ∈ xs, Fix hr v) (hz : ∀ v ∈ zs, Fix hr v) (g : GoodA hr xs zs xb hb h) (G : GoodA hr xs zs xb' hb' H) : Lies (σ0 hr xb hb xb' hb') h H := by
  have hσ := σ0_rom (xb' := xb') (hb' := hb') g
  constructor
  · intro b c e
    simp only [σ0] at e
    split at e
    · rename_i hb1
      cases e; subst hb1
      exact ⟨_, H.length, g.x, by rw [G.x]; simp only [renObj]; rw [renL_fix hσ hx], Nat.le_refl _⟩
    · split at e
      · rename_i hb2
        cases e; subst hb2
        exact ⟨_, H.length, g.z, by rw [G.z]; simp only [renObj]; rw [renL_fix hσ hz], Nat.le_refl _⟩
      · split at e
        · rename_i hs
          cases e
          obtain ⟨o, ho⟩ := Option.isSome_iff_exists.1 hs
          obtain ⟨vs, opn, wr, rfl, hv⟩ := hcl _ _ ho
          exact ⟨_, H.length, g.rom _ _ ho, by rw [G.rom _ _ ho]; simp only [renObj]; rw [renL_fix hσ hv], Nat.le_refl _⟩
        · cases e
  · intro b b' c e e'
    simp only [σ0] at e e'
    have inR : ∀ b c, ¬ b = xb → ¬ b = hb → (if (hr b).isSome = true then some b else none) = some c → b = c ∧ ∃ o, hr c = some o := by
      intro b c _ _ e
      split at e
      · rename_i hs
        cases e
        obtain ⟨o, ho⟩ := Option.isSome_iff_exists.1 hs
        exact ⟨rfl, o, ho⟩
      · cases e
    have hxn := G.xo
    have hzn := G.zo
    have hne := G.ne
    by_cases h1 : b = xb <;> by_cases h1' : b' = xb
    · rw [h1, h1']
    · rw [if_pos h1] at e; rw [if_neg h1'] at e'; cases e
      by_cases h2' : b' = hb
      · rw [if_pos h2'] at e'; cases e'; exact absurd rfl hne
      · rw [if_neg h2'] at e'
        obtain ⟨_, o, ho⟩ := inR _ _ h1' h2' e'
        rw [hxn] at ho; cases ho
    · rw [if_neg h1] at e; rw [if_pos h1'] at e'; cases e'
      by_cases h2 : b = hb
      · rw [if_pos h2] at e; cases e; exact absurd rfl hne
      · rw [if_neg h2] at e
        obtain ⟨_, o, ho⟩ := inR _ _ h1 h2 e
        rw [hxn] at ho; cases ho
    · rw [if_neg h1] at e; rw [if_neg h1'] at e'
      by_cases h2 : b = hb <;> by_cases h2' : b' = hb
      · rw [h2, h2']
      · rw [if_pos h2] at e; rw [if_neg h2'] at e'; cases e
        obtain ⟨_, o, ho⟩ := inR _ _ h1' h2' e'
        rw [hzn] at ho; cases ho
      · rw [if_neg h2] at e; rw [if_pos h2'] at e'; cases e'
        obtain ⟨_, o, ho⟩ := inR _ _ h1 h2 e
        rw [hzn] at ho; cases ho
      · rw [if_neg h2] at e; rw [if_neg h2'] at e'
        obtain ⟨q1, _⟩ := inR _ _ h1 h2 e
        obtain ⟨q2, _⟩ := inR _ _ h1' h2' e'
        rw [q1, q2]

structure Step (σ : Nat → Option Nat) (h H : EH) (σ' : Nat → Option Nat) (h' H' : EH) : Prop where
  lies : Lies σ' h' H'
  le : ∀ b c, σ b = some c → σ' b = some c
  new : ∀ b, h.length ≤ b → b < h'.length → ∃ c, σ' b = some c ∧ H.length ≤ c
  fresh : ∀ b c, σ' b = some c → σ b = some c ∨ H.length ≤ c
  out : ∀ c o, (∀ b, σ b ≠ some c) → H[c]? = some o → H'[c]? = some o
  len : H.length ≤ H'.length

theorem Step.of {σ : Nat → Option Nat} {h h' H : EH} (L : Lies σ h H) (hl : h.length ≤ h'.length) : Step σ h H (σAfter σ h h' H) h' (HAfter σ h h' H) := by
  refine ⟨L.after hl, fun b c e => ?_, fun b h1 h2 => ?_, fun b c e => ?_, fun c o hno hc => HAfter_out hno hc, by rw [HAfter_len]; omega⟩
  · obtain ⟨o, _, ho, _⟩ := L.obj b c e
    simp only [σAfter, if_pos (get_lt ho)]; exact e
  · exact ⟨H.length + (b - h.length), by simp only [σAfter, if_neg (show ¬ b < h.length by omega), if_pos h2], by omega⟩
  · simp only [σAfter] at e
    split at e
    · exact .inl e
    · split at e
      · cases e; exact .inr (by omega)
      · cases e

theorem Step.trans {σ σ' σ'' : Nat → Option Nat} {h H h' H' h'' H'' : EH} (a : Step σ h H σ' h' H') (b : Step σ' h' H' σ'' h'' H'') (hl : h.length ≤ h'.length) : Step σ h H σ'' h'' H'' := by
  refine ⟨b.lies, fun x c e => b.le _ _ (a.le _ _ e), fun x h1 h2 => ?_, fun x c e => ?_, fun c o hno hc => ?_, Nat.le_trans a.len b.len⟩
  · by_cases hx : x < h'.length
    · obtain ⟨c, q1, q2⟩ := a.new x h1 hx
      exact ⟨c, b.le _ _ q1, q2⟩
    · obtain ⟨c, q1, q2⟩ := b.new x (by omega) h2
      exact ⟨c, q1, Nat.le_trans a.len q2⟩
  · rcases b.fresh x c e with h1 | h1
    · exact a.fresh x c h1
    · exact .inr (Nat.le_trans a.len h1)
  · refine b.out c o (fun x e => ?_) (a.out c o hno hc)
    rcases a.fresh x c e with h1 | h1
    · exact hno x h1
    · have := get_lt hc; omega

def strs (l : List ByteArray) : List Value := l.map Value.string

inductive Rw (lo : Nat) (h : EH) : Value → List Value → Prop
  | nil : Rw lo h (.slice none 0 0) []
  | row {r : Nat} {cs : List Value} (hr : h[r]? = some (opRow cs 1)) (hn : cs ≠ []) (hlo : lo ≤ r) : Rw lo h (.slice (some ⟨r, 0, none⟩) cs.length cs.length) cs

def HS (lo : Nat) (h : EH) (hb : Nat) (ns : List Int) (ss : List ByteArray) : Prop := ∃ vn vs, h[hb]? = some (.cells [vn, vs] none true) ∧ Rw lo h vn (ints ns) ∧ Rw lo h vs (strs ss)

theorem ints_ren {σ : Nat → Option Nat} {l : List Int} : (ints l).map (ren σ) = ints l := by
  simp only [ints, List.map_map]; rfl
theorem strs_ren {σ : Nat → Option Nat} {l : List ByteArray} : (strs l).map (ren σ) = strs l := by
  simp only [strs, List.map_map]; rfl

theorem Rw.step {σ σ' : Nat → Option Nat} {h H h' H' : EH} (s : Step σ h H σ' h' H') {v : Value} {cs : List Value} (hcs : cs.map (ren σ') = cs) (r : Rw h.length h' v cs) : Rw H.length H' (ren σ' v) cs := by
  cases r with
  | nil => exact .nil
  | @row r _ hr hn hlo =>
    obtain ⟨c, q1, q2⟩ := s.new r hlo (get_lt hr)
    obtain ⟨o, z, ho, hH, _⟩ := s.lies.obj r c q1
    rw [hr] at ho; cases ho
    have : ren σ' (.slice (some ⟨r, 0, none⟩) cs.length cs.length) = .slice (some ⟨c, 0, none⟩) cs.length cs.length := by simp only [ren, renAt, q1, Option.map_some]
    rw [this]
    simp only [opRow, renObj, hcs] at hH
    exact .row hH hn q2

theorem HS.step {σ σ' : Nat → Option Nat} {h H h' H' : EH} (s : Step σ h H σ' h' H') {hb hb' : Nat} {ns : List Int} {ss : List ByteArray} (hσ : σ hb = some hb') (r : HS h.length h' hb ns ss) : HS H.length H' hb' ns ss := by
  obtain ⟨vn, vs, e, r1, r2⟩ := r
  obtain ⟨o, z, ho, hH, _⟩ := s.lies.obj hb hb' (s.le _ _ hσ)
  rw [e] at ho; cases ho
  exact ⟨ren σ' vn, ren σ' vs, hH, r1.step s ints_ren, r2.step s strs_ren⟩

def Keep (hb : Nat) (h h' : EH) : Prop := ∀ b o, h[b]? = some o → b ≠ hb → h'[b]? = some o

theorem keep_step {hr : RO} {xs zs : List Value} {xb hb xb' hb' : Nat} {h H h' H' : EH} {σ' : Nat → Option Nat} (hcl : ClosedR hr) (hx : ∀ v ∈ xs, Fix hr v) (hz : ∀ v ∈ zs, Fix hr v) (gd : GoodA hr xs zs xb hb h) (Gd : GoodA hr xs zs xb' hb' H) (s : Step (σ0 hr xb hb xb' hb') h H σ' h' H') (k : Keep hb h h') : Keep hb' H H' := by
  intro b o hb1 hne
  have L0 := σ0_lies hcl hx hz gd Gd
  have hσz : σ0 hr xb hb xb' hb' hb = some hb' := by simp only [σ0, if_neg (Ne.symm gd.ne), if_true]
  by_cases hin : ∃ b0, σ0 hr xb hb xb' hb' b0 = some b
  · obtain ⟨b0, e0⟩ := hin
    obtain ⟨o0, z0, g1, g2, _⟩ := L0.obj _ _ e0
    have e2 := s.le _ _ e0
    obtain ⟨o2, z2, q1, q2, _⟩ := s.lies.obj _ _ e2
    have hσ := σ0_rom (xb' := xb') (hb' := hb') gd
    have hσ2 : ∀ b o, hr b = some o → _ := fun b o e => s.le _ _ (hσ b o e)
    have hb0 : b0 ≠ hb := by
      rintro rfl
      rw [hσz] at e0; cases e0
      exact hne rfl
    rw [k b0 o0 g1 hb0] at q1; cases q1
    have hcell : ∃ vs opn wr, o0 = .cells vs opn wr ∧ ∀ v ∈ vs, Fix hr v := by
      by_cases h1 : b0 = xb
      · subst h1
        rw [gd.x] at g1; cases g1
        exact ⟨xs, none, true, rfl, hx⟩
      · simp only [σ0, if_neg h1, if_neg hb0] at e0
        split at e0
        · rename_i hs
          obtain ⟨o', ho'⟩ := Option.isSome_iff_exists.1 hs
          rw [gd.rom _ _ ho'] at g1; cases g1
          exact hcl _ _ ho'
        · cases e0
    obtain ⟨vs, opn, wr, rfl, hv⟩ := hcell
    simp only [renObj] at g2 q2
    rw [renL_fix hσ hv] at g2
    rw [renL_fix hσ2 hv] at q2
    rw [hb1] at g2; cases g2
    exact q2
  · exact s.out b o (fun b0 e0 => hin ⟨b0, e0⟩) hb1

def Twice (P : Program) (g xb hb : Nat) (h : EH) (ns : List Int) (ss : List ByteArray) : Prop :=
  ∃ fw cs h1 v2 h2, fnOk P fw = true ∧ SndFn P g #[.pointer (some ⟨hb, 0, none⟩), .pointer (some ⟨xb, 0, none⟩)] h (.ret (.func (.func fw) #[] cs)) h1 ∧ SndFn P fw cs h1 (.ret v2) h2 ∧
    h.length ≤ h1.length ∧ h1.length ≤ h2.length ∧ HS h.length h1 hb ns ss ∧ HS h.length h2 hb ns ss ∧ Keep hb h h1 ∧ Keep hb h h2

theorem Twice.any {P : Program} {g : Nat} {hr : RO} {xs zs : List Value} (hcl : ClosedR hr) (hx : ∀ v ∈ xs, Fix hr v) (hz : ∀ v ∈ zs, Fix hr v) (c : ∀ xb hb h, GoodA hr xs zs xb hb h → ∃ ns ss, Twice P g xb hb h ns ss) : ∃ ns ss, ∀ xb hb h, GoodA hr xs zs xb hb h → Twice P g xb hb h ns ss := by
  by_cases hex : ∃ xb hb h, GoodA hr xs zs xb hb h
  · obtain ⟨xb, hb, h, gd⟩ := hex
    obtain ⟨ns, ss, fw, cs, h1, v2, h2, k0, k1, k2, k3, k4, k5, k5', k6, k6'⟩ := c xb hb h gd
    refine ⟨ns, ss, fun xb' hb' H Gd => ?_⟩
    have L0 := σ0_lies hcl hx hz gd Gd
    have s1 := Step.of (h' := h1) L0 k3
    have f1 := k1.frame L0
    have s2 := Step.of (h' := h2) s1.lies k4
    have f2 := k2.frame s1.lies
    have s := s1.trans s2 k3
    have hσx : σ0 hr xb hb xb' hb' xb = some xb' := by simp only [σ0, if_true]
    have hσz : σ0 hr xb hb xb' hb' hb = some hb' := by simp only [σ0, if_neg (Ne.symm gd.ne), if_true]
    have ha : renA (σ0 hr xb hb xb' hb') #[.pointer (some ⟨hb, 0, none⟩), .pointer (some ⟨xb, 0, none⟩)] = #[.pointer (some ⟨hb', 0, none⟩), .pointer (some ⟨xb', 0, none⟩)] := by
      simp only [renA, renL, ren, renAt, hσx, hσz, Option.map_some]
    rw [ha] at f1
    exact ⟨fw, _, _, _, _, k0, f1, f2, s1.len, s2.len, k5.step s1 hσz, k5'.step s hσz, keep_step hcl hx hz gd Gd s1 k6, keep_step hcl hx hz gd Gd s k6'⟩
  · exact ⟨[], [], fun xb hb h gd => absurd ⟨xb, hb, h, gd⟩ hex⟩

def Once (P : Program) (g : Nat) (a : List Value) (hb : Nat) (h : EH) (ns : List Int) (ss : List ByteArray) : Prop :=
  ∃ v1 h1, SndFn P g ⟨a ++ [.pointer (some ⟨hb, 0, none⟩)]⟩ h (.ret v1) h1 ∧ h.length ≤ h1.length ∧ HS h.length h1 hb ns ss ∧ Keep hb h h1

theorem Once.any {P : Program} {g : Nat} {hr : RO} {xs zs a : List Value} (hcl : ClosedR hr) (hx : ∀ v ∈ xs, Fix hr v) (hz : ∀ v ∈ zs, Fix hr v) (hav : ∀ v ∈ a, Fix hr v) (c : ∀ xb hb h, GoodA hr xs zs xb hb h → ∃ ns ss, Once P g a hb h ns ss) : ∃ ns ss, ∀ xb hb h, GoodA hr xs zs xb hb h → Once P g a hb h ns ss := by
  by_cases hex : ∃ xb hb h, GoodA hr xs zs xb hb h
  · obtain ⟨xb, hb, h, gd⟩ := hex
    obtain ⟨ns, ss, v1, h1, k1, k3, k5, k6⟩ := c xb hb h gd
    refine ⟨ns, ss, fun xb' hb' H Gd => ?_⟩
    have L0 := σ0_lies hcl hx hz gd Gd
    have s1 := Step.of (h' := h1) L0 k3
    have f1 := k1.frame L0
    have hσz : σ0 hr xb hb xb' hb' hb = some hb' := by simp only [σ0, if_neg (Ne.symm gd.ne), if_true]
    have ha : renA (σ0 hr xb hb xb' hb') ⟨a ++ [.pointer (some ⟨hb, 0, none⟩)]⟩ = ⟨a ++ [.pointer (some ⟨hb', 0, none⟩)]⟩ := by
      simp only [renA, renL_eq, List.map_append, List.map_cons, List.map_nil, ren, renAt, hσz, Option.map_some]
      rw [renL_fix (σ0_rom gd) hav]
    rw [ha] at f1
    exact ⟨_, _, f1, s1.len, k5.step s1 hσz, keep_step hcl hx hz gd Gd s1 k6⟩
  · exact ⟨[], [], fun xb hb h gd => absurd ⟨xb, hb, h, gd⟩ hex⟩

section
variable {P : Program} {N : Nat} {ro : Option Nat} {f : Nat → Value} {ds : List Deferred} {rc : Option (Value × Bool)} {C : EH → Prop} {Q : Ex → St → Prop} {ops : Array Oper} {i : Nat}
theorem GL.ex {Y : Type} {C : Y → EH → Prop} (k : ∀ y, GL P N ro ops i f ds rc (C y) Q) : GL P N ro ops i f ds rc (fun h => ∃ y, C y h) Q := fun hk h ⟨y, hC⟩ => k y hk h hC
theorem GW.ex {c : Code} {Y : Type} {C : Y → EH → Prop} (k : ∀ y, GW P N ro c f ds rc (C y) Q) : GW P N ro c f ds rc (fun h => ∃ y, C y h) Q := fun hk h ⟨y, hC⟩ => k y hk h hC
theorem GQ.weaken {ex : Ex} {C' : EH → Prop} (hc : ∀ h, C h → C' h) (g : GQ ex f ds rc C' Q) : GQ ex f ds rc C Q := fun h hC => g h (hc h hC)
end

def Qrow (h : EH) (a : Option Addr) (cs : List Value) : Prop := 0 < cs.length → ∃ b, a = some ⟨b, 0, none⟩ ∧ h[b]? = some (opRow cs 1)

theorem Rw.slice {lo : Nat} {h : EH} {v : Value} {cs : List Value} (r : Rw lo h v cs) : ∃ a, v = .slice a cs.length cs.length ∧ Qrow h a cs := by
  cases r with
  | nil => exact ⟨none, rfl, fun h => by simp at h⟩
  | row hr hn hlo => exact ⟨_, rfl, fun _ => ⟨_, rfl, hr⟩⟩

theorem Rw.keep {lo lo' hb : Nat} {h h' : EH} {v : Value} {cs : List Value} (r : Rw lo h v cs) (k : Keep hb h h') (hlo : hb < lo) (hl : lo' ≤ lo) : Rw lo' h' v cs := by
  cases r with
  | nil => exact .nil
  | row hr hn h1 => exact .row (k _ _ hr (by omega)) hn (by omega)

theorem HS.keep {lo lo' hb hb2 : Nat} {h h' : EH} {ns : List Int} {ss : List ByteArray} (s : HS lo h hb ns ss) (k : Keep hb2 h h') (hne : hb ≠ hb2) (hlo : hb2 < lo) (hl : lo' ≤ lo) : HS lo' h' hb ns ss := by
  obtain ⟨vn, vs, e, r1, r2⟩ := s
  exact ⟨vn, vs, k _ _ e hne, r1.keep k hlo hl, r2.keep k hlo hl⟩
end Go.E
namespace Go.E
open Go

abbrev nilS : Value := .slice none 0 0
abbrev rowS (r n : Nat) : Value := .slice (some ⟨r, 0, none⟩) n n

inductive PS : Value → Value → Ents → List Int → List ByteArray → Prop
  | nn : PS nilS nilS [] [] []
  | rn {r : Nat} {ns : List Int} (h : ns ≠ []) : PS (rowS r ns.length) nilS [(r, opRow (ints ns) 1)] ns []
  | nr {r : Nat} {ss : List ByteArray} (h : ss ≠ []) : PS nilS (rowS r ss.length) [(r, opRow (strs ss) 1)] [] ss
  | rr {r q : Nat} {ns : List Int} {ss : List ByteArray} (h : ns ≠ []) (h' : ss ≠ []) : PS (rowS r ns.length) (rowS q ss.length) [(r, opRow (ints ns) 1), (q, opRow (strs ss) 1)] ns ss

theorem strs_len {l : List ByteArray} : (strs l).length = l.length := by simp [strs]
theorem strs_get {l : List ByteArray} {k : Nat} (h : k < l.length) : (strs l)[k]? = some (.string (l.getD k .empty)) := by
  simp [strs, List.getD_eq_getElem?_getD, h]
theorem ints_app {l m : List Int} : ints (l ++ m) = ints l ++ ints m := by simp [ints]
theorem ints_ne {l : List Int} (h : l ≠ []) : ints l ≠ [] := by cases l <;> simp_all [ints]
theorem strs_ne {l : List ByteArray} (h : l ≠ []) : strs l ≠ [] := by cases l <;> simp_all [strs]

theorem PS.hs {vn vs : Value} {E : Ents} {ns : List Int} {ss : List ByteArray} (p : PS vn vs E ns ss) {lo hb : Nat} {h : EH} (hh : h[hb]? = some (.cells [vn, vs] none true)) (hE : ∀ q ∈ E, h[q.1]? = some q.2) (hlo : ∀ q ∈ E, lo ≤ q.1) : HS lo h hb ns ss := by
  refine ⟨vn, vs, hh, ?_, ?_⟩
  · cases p with
    | nn => exact .nil
    | nr => exact .nil
    | @rn r ns hne => have := Rw.row (hE _ (.head _)) (ints_ne hne) (hlo _ (.head _)); rwa [ints_len] at this
    | @rr r q ns ss hne _ => have := Rw.row (hE _ (.head _)) (ints_ne hne) (hlo _ (.head _)); rwa [ints_len] at this
  · cases p with
    | nn => exact .nil
    | rn => exact .nil
    | @nr r ss hne => have := Rw.row (hE _ (.head _)) (strs_ne hne) (hlo _ (.head _)); rwa [strs_len] at this
    | @rr r q ns ss _ hne => have := Rw.row (hE _ (.tail _ (.head _))) (strs_ne hne) (hlo _ (.tail _ (.head _))); rwa [strs_len] at this

theorem PS.rnA {r n : Nat} {ns : List Int} {x : Int} (en : n = ns.length + 1) : PS (rowS r n) nilS [(r, opRow (ints ns ++ [.int .i64 x]) 1)] (ns ++ [x]) [] := by
  have := PS.rn (r := r) (ns := ns ++ [x]) (by simp)
  rw [ints_app, show ints [x] = [.int .i64 x] from rfl] at this
  subst en; simpa using this
theorem PS.rrA {r q n m : Nat} {ns : List Int} {ss : List ByteArray} {x : Int} (h : ss ≠ []) (en : n = ns.length + 1) (em : m = ss.length) : PS (rowS r n) (rowS q m) [(r, opRow (ints ns ++ [.int .i64 x]) 1), (q, opRow (strs ss) 1)] (ns ++ [x]) ss := by
  have := PS.rr (r := r) (q := q) (ns := ns ++ [x]) (by simp) h
  rw [ints_app, show ints [x] = [.int .i64 x] from rfl] at this
  subst en em; simpa using this
def PutCt (P : Program) (hr : RO) (g : FuncId) (xs : List Value) (wN wS : Nat) : Prop :=
  ∀ (h : EH) (hb : Nat) (vn vs : Value) (E : Ents) (ns : List Int) (ss : List ByteArray), Hp hr h (hb :: E.map (·.1)) ((hb, .cells [vn, vs] none true) :: E) h → PS vn vs E ns ss → ns.length + wN ≤ 1073741824 → ss.length + wS ≤ 1073741824 →
    Ct P g ⟨.pointer (some ⟨hb, 0, none⟩) :: xs⟩ h (hb :: E.map (·.1)) (fun _ : Value × Value × Ents × List Int × List ByteArray => .tuple #[])
      (fun y => PS y.1 y.2.1 y.2.2.1 y.2.2.2.1 y.2.2.2.2 ∧ y.2.2.2.1.length ≤ ns.length + wN ∧ y.2.2.2.2.length ≤ ss.length + wS) (fun y => (hb, .cells [y.1, y.2.1] none true) :: y.2.2.1)

section
variable {P : Program} {N : Nat} {ro : Option Nat} {f : Nat → Value} {ds : List Deferred} {rc : Option (Value × Bool)} {C : EH → Prop} {Q : Ex → St → Prop}
variable {ops : Array Oper} {i : Nat} {d : Option Nat} {op : Op} {ty : TypeId} {pos : String} {aft : Array Edge} {gd : Option (Nat × Bool)} {hr : RO} {h0 : EH} {F : List Nat} {L L1 : Ents}

theorem GL.put {g hb : Nat} {xs : List Value} {wN wS : Nat} {vn vs : Value} {E : Ents} {ns : List Int} {ss : List ByteArray} (hi : ops.toList[i]? = some ⟨d, op, ty, pos, aft, gd⟩) (hw : Want N ops f gd true) (hfn : fnOk P g = true)
    (pc : PutCt P hr g xs wN wS) (p : PS vn vs E ns ss) (t : Take L ((hb, .cells [vn, vs] none true) :: E) L1) (l1 : ns.length + wN ≤ 1073741824) (l2 : ss.length + wS ≤ 1073741824) (hc : CallOf f op g (.pointer (some ⟨hb, 0, none⟩) :: xs))
    (k : ∀ vn' vs' E' ns' ss', PS vn' vs' E' ns' ss' → ns'.length ≤ ns.length + wN → ss'.length ≤ ss.length + wS → GL P N ro ops (i + 1) (setT f d (.tuple #[])) ds rc (Hp hr h0 F (L1 ++ ((hb, .cells [vn', vs'] none true) :: E'))) Q) : GL P N ro ops i f ds rc (Hp hr h0 F L) Q :=
  GL.callT hi hw hfn t (fun h H => pc h hb vn vs E ns ss (H.give t) p l1 l2) hc fun ⟨_, _, _, _, _⟩ ⟨q1, q2, q3⟩ => k _ _ _ _ _ q1 q2 q3

theorem GQ.putEnd {fn : Func} {hb : Nat} {vn vs : Value} {E : Ents} {ns ns0 : List Int} {ss ss0 : List ByteArray} {wN wS : Nat} {W : Value → EH → Prop} (hres : fn.results.toList = []) (p : PS vn vs E ns ss) (l1 : ns.length ≤ ns0.length + wN) (l2 : ss.length ≤ ss0.length + wS) (t : Take L ((hb, .cells [vn, vs] none true) :: E) L1) :
    GQ .normal f [] rc (Hp hr h0 F L) (bodyQ P fn (backTo (fun v h' => ∃ y : Value × Value × Ents × List Int × List ByteArray, v = .tuple #[] ∧ (PS y.1 y.2.1 y.2.2.1 y.2.2.2.1 y.2.2.2.2 ∧ y.2.2.2.1.length ≤ ns0.length + wN ∧ y.2.2.2.2.length ≤ ss0.length + wS) ∧ Post F h0 h' ((hb, .cells [y.1, y.2.1] none true) :: y.2.2.1)) W)) :=
  GQ.retN (X := Value × Value × Ents × List Int × List ByteArray) (V := fun _ => .tuple #[]) (R := fun y => PS y.1 y.2.1 y.2.2.1 y.2.2.2.1 y.2.2.2.2 ∧ y.2.2.2.1.length ≤ ns0.length + wN ∧ y.2.2.2.2.length ≤ ss0.length + wS) (M := fun y => (hb, .cells [y.1, y.2.1] none true) :: y.2.2.1) (fn := fn)
    (vn, vs, E, ns, ss) (vs := []) (by rw [hres]; exact .nil) .z rfl ⟨p, l1, l2⟩ t
end
def sumTo (w : Nat → Nat) : Nat → Nat
  | 0 => 0
  | k + 1 => sumTo w k + w k
theorem sumTo_mono {w : Nat → Nat} {k n : Nat} (h : k ≤ n) : sumTo w k ≤ sumTo w n := by
  induction n with
  | zero => have : k = 0 := by omega
            subst this; exact Nat.le_refl _
  | succ n ih =>
    by_cases e : k = n + 1
    · subst e; exact Nat.le_refl _
    · exact Nat.le_trans (ih (by omega)) (by simp only [sumTo]; omega)
theorem sumTo_const {c n : Nat} : sumTo (fun _ => c) n = n * c := by
  induction n with
  | zero => simp [sumTo]
  | succ n ih => simp only [sumTo, ih, Nat.succ_mul]

theorem PutCt.le {P : Program} {hr : RO} {g : FuncId} {xs : List Value} {wN wS wN' wS' : Nat} (p : PutCt P hr g xs wN wS) (h1 : wN ≤ wN') (h2 : wS ≤ wS') : PutCt P hr g xs wN' wS' := by
  intro h hb vn vs E ns ss H q l1 l2
  exact (p h hb vn vs E ns ss H q (by omega) (by omega)).mono fun y ⟨a, b, c⟩ => ⟨y, rfl, ⟨a, by omega, by omega⟩, rfl⟩
end Go.E
namespace Go.E
open Go

variable {P : Program} {hr : RO}

abbrev zero2 : List Value := [.slice none 0 0, .slice none 0 0]

theorem Hp.start1 {h : EH} {b : Nat} {o : EObj} (hR : ∀ b o, hr b = some o → h[b]? = some o) (hb : h[b]? = some o) (ho : hr b = none) : Hp hr h [b] [(b, o)] h :=
  ⟨fun _ _ e _ => e, Nat.le_refl _, by simpa using hb, by simp, by simp, hR, by simpa using ho⟩

theorem ps_hs {vn vs : Value} {E B : Ents} {ns : List Int} {ss : List ByteArray} {h h' : EH} {hb : Nat} (p : PS vn vs E ns ss) (q : Post [hb] h h' ((hb, .cells [vn, vs] none true) :: (E ++ B))) : HS h.length h' hb ns ss := by
  refine p.hs (q.at_ _ (.head _)) (fun e he => q.at_ _ (.tail _ (List.mem_append_left _ he))) fun e he => ?_
  rcases q.own e (.tail _ (List.mem_append_left _ he)) with h1 | h1
  · exfalso
    simp only [List.mem_singleton] at h1
    have := q.nd
    simp only [List.map_cons, List.nodup_cons] at this
    exact this.1 (h1 ▸ List.mem_map_of_mem (List.mem_append_left _ he))
  · exact h1

theorem once_of {g hb wN wS : Nat} {a : List Value} {h : EH} (c : Ct P g ⟨a ++ [.pointer (some ⟨hb, 0, none⟩)]⟩ h [hb] (fun _ : Value × Value × Ents × List Int × List ByteArray => .tuple #[])
      (fun y => PS y.1 y.2.1 y.2.2.1 y.2.2.2.1 y.2.2.2.2 ∧ y.2.2.2.1.length ≤ ([] : List Int).length + wN ∧ y.2.2.2.2.length ≤ ([] : List ByteArray).length + wS) (fun y => (hb, .cells [y.1, y.2.1] none true) :: y.2.2.1)) : ∃ ns ss, (ns.length ≤ wN ∧ ss.length ≤ wS) ∧ Once P g a hb h ns ss := by
  obtain ⟨out, h', s, q⟩ := c
  cases out with
  | pan v => exact q.elim
  | ret v =>
    obtain ⟨⟨vn, vs, E, ns, ss⟩, rfl, ⟨p, l1, l2⟩, q⟩ := q
    have q' : Post [hb] h h' ((hb, .cells [vn, vs] none true) :: (E ++ [])) := by simpa using q
    exact ⟨ns, ss, ⟨by simpa using l1, by simpa using l2⟩, _, h', s, q.len, ps_hs p q', fun b o e hne => q.old b o e (by simpa using hne)⟩

theorem twice_of {g hb xb wN wS : Nat} {h : EH} {X : Type} {V : X → Value} {R : X → Prop} {M : X → Ents} (fw : X → Nat) (cs : X → List Value) (vn vs : X → Value) (E B : X → Ents) (ns : X → List Int) (ss : X → List ByteArray)
    (c : Ct P g ⟨[.pointer (some ⟨hb, 0, none⟩), .pointer (some ⟨xb, 0, none⟩)]⟩ h [hb] V R M) (hV : ∀ y, V y = .func (.func (fw y)) ⟨[]⟩ ⟨cs y⟩) (hM : ∀ y, M y = (hb, .cells [vn y, vs y] none true) :: (E y ++ B y))
    (hP : ∀ y, R y → PS (vn y) (vs y) (E y) (ns y) (ss y) ∧ (ns y).length ≤ wN ∧ (ss y).length ≤ wS) (hf : ∀ y, R y → fnOk P (fw y) = true)
    (hw : ∀ y h1, R y → Hp (fun _ => none) h1 ((B y).map (·.1)) (B y) h1 → Ct P (fw y) ⟨cs y⟩ h1 ((B y).map (·.1)) (fun v : Value => v) (fun _ => True) (fun _ => [])) :
    ∃ ns ss, (ns.length ≤ wN ∧ ss.length ≤ wS) ∧ Twice P g xb hb h ns ss := by
  obtain ⟨out, h1, s1, q⟩ := c
  cases out with
  | pan v => exact q.elim
  | ret v =>
    obtain ⟨y, rfl, hR, q⟩ := q
    obtain ⟨p, l1, l2⟩ := hP y hR
    rw [hM y] at q
    rw [hV y] at s1
    have hsub : ∀ e ∈ B y, e ∈ (hb, EObj.cells [vn y, vs y] none true) :: (E y ++ B y) := fun e he => .tail _ (List.mem_append_right _ he)
    have hnd := q.nd
    simp only [List.map_cons, List.map_append, List.nodup_cons, List.nodup_append, List.mem_append] at hnd
    have hlo : ∀ e ∈ B y, h.length ≤ e.1 := fun e he => by
      rcases q.own e (hsub e he) with h2 | h2
      · simp only [List.mem_singleton] at h2
        exact absurd (.inr (h2 ▸ List.mem_map_of_mem he)) hnd.1
      · exact h2
    have H1 : Hp (fun _ => none) h1 ((B y).map (·.1)) (B y) h1 := ⟨fun _ _ e _ => e, Nat.le_refl _, fun e he => q.at_ e (hsub e he), hnd.2.2.1, fun e he => .inl (List.mem_map_of_mem he), by simp, by simp⟩
    obtain ⟨out2, h2, s2, q2⟩ := hw y h1 hR H1
    cases out2 with
    | pan v => exact q2.elim
    | ret v2 =>
      obtain ⟨_, rfl, _, q2⟩ := q2
      have k1 : Keep hb h h1 := fun b o e hne => q.old b o e (by simpa using hne)
      have k12 : ∀ b o, h1[b]? = some o → b ∉ (B y).map (·.1) → h2[b]? = some o := q2.old
      have hs1 := ps_hs p q
      have hbB : hb ∉ (B y).map (·.1) := fun hm => hnd.1 (.inr hm)
      have hEB : ∀ e ∈ E y, e.1 ∉ (B y).map (·.1) := fun e he hm => hnd.2.2.2 _ (List.mem_map_of_mem he) _ hm rfl
      have hs2 : HS h.length h2 hb (ns y) (ss y) := by
        refine p.hs (k12 _ _ (q.at_ _ (.head _)) hbB) (fun e he => k12 _ _ (q.at_ e (.tail _ (List.mem_append_left _ he))) (hEB e he)) fun e he => ?_
        rcases q.own e (.tail _ (List.mem_append_left _ he)) with h1 | h1
        · simp only [List.mem_singleton] at h1
          exact absurd (.inl (h1 ▸ List.mem_map_of_mem he)) hnd.1
        · exact h1
      refine ⟨_, _, ⟨l1, l2⟩, fw y, ⟨cs y⟩, h1, v2, h2, hf y hR, s1, s2, q.len, q2.len, hs1, hs2, k1, fun b o e hne => k12 _ _ (k1 _ _ e hne) fun hm => ?_⟩
      obtain ⟨e', he', rfl⟩ := List.mem_map.1 hm
      have := hlo e' he'
      have := get_lt e
      omega

theorem Twice.anyB {g : Nat} {xs zs : List Value} {K : Nat} (hcl : ClosedR hr) (hx : ∀ v ∈ xs, Fix hr v) (hz : ∀ v ∈ zs, Fix hr v) (c : ∀ xb hb h, GoodA hr xs zs xb hb h → ∃ ns ss, (ns.length ≤ K ∧ ss.length ≤ K) ∧ Twice P g xb hb h ns ss) :
    ∃ ns ss, (ns.length ≤ K ∧ ss.length ≤ K) ∧ ∀ xb hb h, GoodA hr xs zs xb hb h → Twice P g xb hb h ns ss := by
  by_cases hex : ∃ xb hb h, GoodA hr xs zs xb hb h
  · obtain ⟨xb, hb, h, gd⟩ := hex
    obtain ⟨ns, ss, hl, fw, cs, h1, v2, h2, k0, k1, k2, k3, k4, k5, k5', k6, k6'⟩ := c xb hb h gd
    refine ⟨ns, ss, hl, fun xb' hb' H Gd => ?_⟩
    have L0 := σ0_lies hcl hx hz gd Gd
    have s1 := Step.of (h' := h1) L0 k3
    have f1 := k1.frame L0
    have s2 := Step.of (h' := h2) s1.lies k4
    have f2 := k2.frame s1.lies
    have s := s1.trans s2 k3
    have hσx : σ0 hr xb hb xb' hb' xb = some xb' := by simp only [σ0, if_true]
    have hσz : σ0 hr xb hb xb' hb' hb = some hb' := by simp only [σ0, if_neg (Ne.symm gd.ne), if_true]
    have ha : renA (σ0 hr xb hb xb' hb') #[.pointer (some ⟨hb, 0, none⟩), .pointer (some ⟨xb, 0, none⟩)] = #[.pointer (some ⟨hb', 0, none⟩), .pointer (some ⟨xb', 0, none⟩)] := by
      simp only [renA, renL, ren, renAt, hσx, hσz, Option.map_some]
    rw [ha] at f1
    exact ⟨fw, _, _, _, _, k0, f1, f2, s1.len, s2.len, k5.step s1 hσz, k5'.step s hσz, keep_step hcl hx hz gd Gd s1 k6, keep_step hcl hx hz gd Gd s k6'⟩
  · exact ⟨[], [], ⟨Nat.zero_le _, Nat.zero_le _⟩, fun xb hb h gd => absurd ⟨xb, hb, h, gd⟩ hex⟩

theorem Once.anyB {g : Nat} {xs zs a : List Value} {K : Nat} (hcl : ClosedR hr) (hx : ∀ v ∈ xs, Fix hr v) (hz : ∀ v ∈ zs, Fix hr v) (hav : ∀ v ∈ a, Fix hr v) (c : ∀ xb hb h, GoodA hr xs zs xb hb h → ∃ ns ss, (ns.length ≤ K ∧ ss.length ≤ K) ∧ Once P g a hb h ns ss) :
    ∃ ns ss, (ns.length ≤ K ∧ ss.length ≤ K) ∧ ∀ xb hb h, GoodA hr xs zs xb hb h → Once P g a hb h ns ss := by
  by_cases hex : ∃ xb hb h, GoodA hr xs zs xb hb h
  · obtain ⟨xb, hb, h, gd⟩ := hex
    obtain ⟨ns, ss, hl, v1, h1, k1, k3, k5, k6⟩ := c xb hb h gd
    refine ⟨ns, ss, hl, fun xb' hb' H Gd => ?_⟩
    have L0 := σ0_lies hcl hx hz gd Gd
    have s1 := Step.of (h' := h1) L0 k3
    have f1 := k1.frame L0
    have hσz : σ0 hr xb hb xb' hb' hb = some hb' := by simp only [σ0, if_neg (Ne.symm gd.ne), if_true]
    have ha : renA (σ0 hr xb hb xb' hb') ⟨a ++ [.pointer (some ⟨hb, 0, none⟩)]⟩ = ⟨a ++ [.pointer (some ⟨hb', 0, none⟩)]⟩ := by
      simp only [renA, renL_eq, List.map_append, List.map_cons, List.map_nil, ren, renAt, hσz, Option.map_some]
      rw [renL_fix (σ0_rom gd) hav]
    rw [ha] at f1
    exact ⟨_, _, f1, s1.len, k5.step s1 hσz, keep_step hcl hx hz gd Gd s1 k6⟩
  · exact ⟨[], [], ⟨Nat.zero_le _, Nat.zero_le _⟩, fun xb hb h gd => absurd ⟨xb, hb, h, gd⟩ hex⟩

end Go.E
namespace Go.E
open Go

def IM (es : List MapEntry) : Prop := ∀ e ∈ es, ∃ k v : Int, e.key = .int .i64 k ∧ e.val = .int .i64 v

theorem IM.nil : IM [] := by intro e h; cases h

section
variable {P : Program} {N : Nat} {ro : Option Nat} {f : Nat → Value} {ds : List Deferred} {rc : Option (Value × Bool)} {C C' : EH → Prop} {Q : Ex → St → Prop}
variable {ops : Array Oper} {i : Nat} {d : Option Nat} {op : Op} {ty : TypeId} {pos : String} {aft : Array Edge} {gd : Option (Nat × Bool)} {hr : RO} {h0 : EH} {F : List Nat} {L L1 ps : Ents}

theorem Hp.putR {b : Nat} {o o' : EObj} {h : EH} (H : Hp hr h0 F L h) (r : Rem L (b, o) L1) : Hp hr h0 F ((b, o') :: L1) (h.set b o') := (H.perm r.perm).set .z

theorem GW.toRange {c : Code} {x : Operand} {pr : Array Tmp} {g : FuncId} {cs : List Value} {Y : Type} {M : Y → Ents} {R : Y → Ex → Prop} (e : c = .rangeFunc x pr (cL c) (cR c)) (hx : ev f x = .func (.func g) ⟨[]⟩ ⟨cs⟩) (hf : fnOk P g = true)
    (it : codeOk N (cL c) = true → codeOk N (cR c) = true → ∀ d l h1, Hp hr h0 F ((l, .loop (newLoop N f pr (cL c) (cR c) d)) :: (d, .defers) :: L) h1 →
      WF P g ⟨.func (.yield l) #[] #[] :: cs⟩ h1 (backTo (fun _ h2 => ∃ y lp ex, jumpEx lp.pending = some ex ∧ lp.state ≠ .busy ∧ R y ex ∧ Hp hr h0 F ((l, .loop lp) :: (d, .defers) :: M y) h2) (fun _ _ => False)))
    (k : ∀ d y ex, R y ex → GQ ex f [⟨.collected d, #[]⟩] rc (Hp hr h0 F ((d, .defers) :: M y)) Q) : GW P N none c f [] rc (Hp hr h0 F L) Q := by
  intro hk h hC
  rw [e] at hk ⊢
  simp only [codeOk, Bool.and_eq_true] at hk
  obtain ⟨⟨k1, k2⟩, k3⟩ := hk
  have H1 := (hC.alloc .defers).alloc (.loop (newLoop N f pr (cL c) (cR c) h.length))
  rw [show (h ++ [EObj.defers]).length = h.length + 1 by simp] at H1
  obtain ⟨out, h2, s, q⟩ := it k2 k3 _ _ _ H1
  cases out with
  | pan v => exact q.elim
  | ret v =>
    obtain ⟨y, lp, ex, hj, hb, hR, H2⟩ := q
    refine ⟨ex, _, snd_rangeFunc (l := h.length + 1) (mark := [⟨.collected h.length, #[]⟩]) k1 rfl ?_ hf s (H2.at_ _ (.head _)) hb rfl hj, ?_⟩
    · simp [iterOf, hx]
    · exact k _ y ex hR _ (H2.kill .z)

def Rt (P : Program) (l : Nat) (args : Array Value) (h : EH) (F : List Nat) {X : Type} (V : X → Value) (R : X → Prop) (N : X → Ents) : Prop :=
  ∃ out h', SndRound P l args h out h' ∧ backTo (fun v h' => ∃ x, v = V x ∧ R x ∧ Post F h h' (N x)) (fun _ _ => False) out h'

theorem GL.yield {l : Nat} {args : List Value} {X : Type} {V : X → Value} {R : X → Prop} {M : X → Ents} (hi : ops.toList[i]? = some ⟨d, op, ty, pos, aft, gd⟩) (hw : Want N ops f gd true) (hc : yieldee f op = some (l, ⟨args⟩))
    (t : Take L ps L1) (ct : ∀ h, Hp hr h0 F L h → Rt P l ⟨args⟩ h (ps.map (·.1)) V R M)
    (k : ∀ x, R x → GL P N ro ops (i + 1) (setT f d (V x)) ds rc (Hp hr h0 F (L1 ++ M x)) Q) : GL P N ro ops i f ds rc (Hp hr h0 F L) Q := by
  intro hk h hC
  rw [Array.getElem?_toList] at hi
  obtain ⟨out, h', s, q⟩ := ct h hC
  cases out with
  | pan v => exact q.elim
  | ret v =>
    obtain ⟨x, rfl, hR, hP⟩ := q
    exact WO.step hi hw.want (snd_yield (regOk_op hk hi) hc s) (k x hR hk h' (hC.callT t hP))

def afterA (P : Program) (N l : Nat) (body : Code) (Qe : Ex → St → Prop) : Ex → St → Prop := fun ex st =>
  ex = .normal ∧ ∃ lp : Loop, st.h[l]? = some (.loop lp) ∧ lp.state = .ready ∧ W P N (some l) body { st with h := st.h.set l (.loop { lp with state := .busy, pending := lp.pending }) } Qe

theorem GQ.body {l : Nat} {body : Code} {Qe : Ex → St → Prop} {lp : Loop} (r : Rem L (l, .loop lp) L1) (hs : lp.state = .ready) (hk : codeOk N body = true)
    (g : GW P N (some l) body f ds rc (Hp hr h0 F ((l, .loop { lp with state := .busy, pending := lp.pending }) :: L1)) Qe) : GQ .normal f ds rc (Hp hr h0 F L) (afterA P N l body Qe) := fun h hC =>
  ⟨rfl, lp, hC.at_ _ r.mem, hs, g hk _ (hC.putR r)⟩

def roundQ (l : Nat) (Qr : Out → EH → Prop) : Ex → St → Prop := fun ex st =>
  st.ds = [] ∧ ∃ (lp : Loop) (out : Out) (h' : EH), st.h[l]? = some (.loop lp) ∧ roundEnd l lp st.h ex = some (out, h') ∧ Qr out h'

theorem GQ.rN {l : Nat} {lp : Loop} {X : Type} {V : X → Value} {R : X → Prop} {M : X → Ents} {L2 : Ents} (x : X) (r : Rem L (l, .loop lp) L1) (hV : Value.bool true = V x) (hR : R x) (t : Take ((l, .loop { lp with state := .ready, pending := none }) :: L1) (M x) L2) :
    GQ .normal f [] rc (Hp hr h0 F L) (roundQ l (backTo (fun v h' => ∃ x, v = V x ∧ R x ∧ Post F h0 h' (M x)) (fun _ _ => False))) := fun h hC =>
  ⟨rfl, lp, _, _, hC.at_ _ r.mem, rfl, x, hV, hR, (hC.putR r).post t⟩
theorem GQ.rR {l : Nat} {lp : Loop} {X : Type} {V : X → Value} {R : X → Prop} {M : X → Ents} {L2 : Ents} (x : X) (r : Rem L (l, .loop lp) L1) (hV : Value.bool false = V x) (hR : R x) (t : Take ((l, .loop { lp with state := .done, pending := some .ret }) :: L1) (M x) L2) :
    GQ .ret f [] rc (Hp hr h0 F L) (roundQ l (backTo (fun v h' => ∃ x, v = V x ∧ R x ∧ Post F h0 h' (M x)) (fun _ _ => False))) := fun h hC =>
  ⟨rfl, lp, _, _, hC.at_ _ r.mem, rfl, x, hV, hR, (hC.putR r).post t⟩
theorem Rt.go {l n : Nat} {lp : Loop} {args : List Value} {h : EH} {f0 : Nat → Value} {X : Type} {V : X → Value} {R : X → Prop} {M : X → Ents} (H : Hp hr h F L h) (r : Rem L (l, .loop lp) L1) (hN : lp.tmps.size = n) (hn : args.length = lp.params.size)
    (hf : ∀ t, t < n → f0 t = (bindParams lp.params ⟨args⟩ lp.tmps).getD t undef) (hkA : codeOk n lp.assign = true)
    (w : GW P n (some l) lp.assign f0 [] none (Hp hr h F L) (afterA P n l lp.body (roundQ l (backTo (fun v h' => ∃ x, v = V x ∧ R x ∧ Post F h h' (M x)) (fun _ _ => False))))) : Rt P l ⟨args⟩ h F V R M := by
  subst hN
  obtain ⟨ex, st, s, rfl, lp1, h1, h2, ex2, st2, s2, hd, lp2, out, h', h3, h4, q⟩ := w hkA h H
  exact ⟨out, h', round_of_code (H.at_ _ r.mem) (by simpa using hn) hf s h1 h2 s2 h3 hd h4, q⟩

theorem newLoop_f {f : Nat → Value} {pr : Array Tmp} {a b : Code} {dd p : Nat} {v : Value} (hp : pr = #[p]) : ∀ t, t < N → setT f (some p) v t = (bindParams pr ⟨[v]⟩ (newLoop N f pr a b dd).tmps).getD t undef := by
  intro t ht
  subst hp
  have hb : bindParams #[p] ⟨[v]⟩ (newLoop N f #[p] a b dd).tmps = (newLoop N f #[p] a b dd).tmps.setIfInBounds p v := by simp [bindParams]
  rw [hb]
  simp only [newLoop, Array.getD_eq_getD_getElem?, Array.getElem?_setIfInBounds, setT]
  by_cases e : t = p
  · subst e
    simp [ht]
  · simp [if_neg e, if_neg (Ne.symm e), ht]

def bodyQC (P : Program) (fn : Func) (Q : Out → EH → Prop) : Ex → St → Prop := fun ex st =>
  bodyQ P fn Q ex st ∨ ∃ d, ex.ends = some none ∧ st.ds = [⟨.collected d, #[]⟩] ∧ st.h[d]? = some .defers ∧ bodyQ P fn Q .ret { st with ds := [], h := st.h.set d .dead }

theorem GQ.toC {fn : Func} {Q : Out → EH → Prop} {dd : Nat} (r : Rem L (dd, .defers) L1) (g : GQ .ret f [] rc (Hp hr h0 F L1) (bodyQ P fn Q)) : GQ .ret f [⟨.collected dd, #[]⟩] rc (Hp hr h0 F L) (bodyQC P fn Q) := fun _ hC =>
  .inr ⟨dd, rfl, rfl, hC.at_ _ r.mem, g _ (hC.kill r)⟩
theorem WF.goC {g : FuncId} {fn : Func} {c : Code} {args : Array Value} {h : EH} {Q : Out → EH → Prop} (hf : P.funcs[g]? = some fn) (hb : fn.body = some c) (hn : args.size ≤ fn.ntmps)
    (w : W P fn.ntmps none c (initSt args h none) (bodyQC P fn Q)) : WF P g args h Q := by
  refine WF.body hf hb hn (w.mono fun ex st' q => ?_)
  rcases q with q | ⟨d, hx, hds, hd, hd0, v, e, q⟩
  · cases ex with
    | normal =>
      obtain ⟨hd, v, e, q⟩ := q
      exact ⟨_, _, _, rfl, end_ret hd e, q⟩
    | ret =>
      obtain ⟨hd, v, e, q⟩ := q
      exact ⟨_, _, _, rfl, end_ret hd e, q⟩
    | panic v => exact ⟨_, _, _, rfl, end_pan q.1, q.2⟩
    | exit id => exact q.elim
  · exact ⟨none, .ret v, _, hx, end_collected hds rfl hd (end_ret rfl e), q⟩

theorem Ct.goC {g : FuncId} {fn : Func} {args : Array Value} {h : EH} {X : Type} {V : X → Value} {R : X → Prop} {M : X → Ents} (hf : P.funcs[g]? = some fn) (hb : fn.body = some (bodyC fn)) (hn : Nat.ble args.size fn.ntmps = true) (hk : codeOk fn.ntmps (bodyC fn) = true)
    (H : Hp hr h F L h) (w : GW P fn.ntmps none (bodyC fn) (initF args) [] none (Hp hr h F L) (bodyQC P fn (backTo (fun v h' => ∃ x, v = V x ∧ R x ∧ Post F h h' (M x)) (fun _ _ => False)))) : Ct P g args h F V R M :=
  WF.goC hf hb (Nat.le_of_ble_eq_true hn) (w hk h H)

theorem Cp.goC {g : FuncId} {fn : Func} {args : Array Value} {h : EH} {X Y : Type} {V : X → Value} {R : X → Prop} {M : X → Ents} {U : Y → Value} {S : Y → Prop} {M' : Y → Ents} (hf : P.funcs[g]? = some fn) (hb : fn.body = some (bodyC fn)) (hn : Nat.ble args.size fn.ntmps = true) (hk : codeOk fn.ntmps (bodyC fn) = true)
    (H : Hp hr h F L h) (w : GW P fn.ntmps none (bodyC fn) (initF args) [] none (Hp hr h F L) (bodyQC P fn (backTo (fun v h' => ∃ x, v = V x ∧ R x ∧ Post F h h' (M x)) (fun v h' => ∃ y, v = U y ∧ S y ∧ Post F h h' (M' y))))) : Cp P g args h F V R M U S M' :=
  WF.goC hf hb (Nat.le_of_ble_eq_true hn) (w hk h H)

theorem GL.defer {x : Operand} {fn : Fn} {fs cs : Array Value} {ts : Array TypeId} (hi : ops.toList[i]? = some ⟨d, .defer ⟨.value x, #[], ts⟩, ty, pos, aft, gd⟩) (hw : Want N ops f gd true) (hx : ev f x = .func fn fs cs)
    (g : GL P N none ops (i + 1) (setT f d undef) (⟨.fn fn cs, fs⟩ :: ds) rc C Q) : GL P N none ops i f ds rc C Q := by
  intro hk h hC
  rw [Array.getElem?_toList] at hi
  refine WO.defer (st := ⟨f, ds, h, rc⟩) (Q := Q) hi hw.want (regOk_op hk hi) rfl rfl hx ?_
  simp only [Array.map_empty, Array.append_empty]
  exact g hk h hC

theorem GL.recover {ts : Array TypeId} {xs : Array Operand} (hi : ops.toList[i]? = some ⟨d, .call ⟨.builtin .recover, xs, ts⟩, ty, pos, aft, gd⟩) (hw : Want N ops f gd true) (g : GL P N none ops (i + 1) (setT f d (recVal rc)) ds (recRc rc) C Q) : GL P N none ops i f ds rc C Q := by
  intro hk h hC
  rw [Array.getElem?_toList] at hi
  exact WO.recover hi hw.want rfl rfl (g hk h hC)

def defQ (P : Program) (fn : Func) (Q : EH → Option (Value × Bool) → Prop) : Ex → St → Prop := fun ex st =>
  ex.ends = some none ∧ st.ds = [] ∧ (∃ v, eResults P fn.ntmps fn.results st.f st.h = some v) ∧ Q st.h st.rc

theorem Df.go {g : FuncId} {fn : Func} {args : Array Value} {h : EH} {Q' : EH → Option (Value × Bool) → Prop} (hf : P.funcs[g]? = some fn) (hb : fn.body = some (bodyC fn)) (hn : Nat.ble args.size fn.ntmps = true) (hk : codeOk fn.ntmps (bodyC fn) = true)
    (hC : C h) (w : GW P fn.ntmps none (bodyC fn) (initF args) [] rc C (defQ P fn Q')) : ∃ h1 rc1, SndDef P g args h rc h1 rc1 ∧ Q' h1 rc1 := by
  obtain ⟨ex, st, s, hx, hd, ⟨v, e⟩, q⟩ := w hk h hC
  exact ⟨_, _, def_of_code hf hb (Nat.le_of_ble_eq_true hn) s hx hd e, q⟩

end

def roOf (B : Ents) : RO := fun b => (B.find? (fun p => p.1 == b)).map (·.2)

theorem roOf_mem {B : Ents} {b : Nat} {o : EObj} (h : roOf B b = some o) : (b, o) ∈ B := by
  unfold roOf at h
  rw [Option.map_eq_some_iff] at h
  obtain ⟨⟨b', o'⟩, h1, h2⟩ := h
  have := List.find?_some h1
  have hm := List.mem_of_find?_eq_some h1
  simp only [beq_iff_eq] at this
  subst this h2
  exact hm

theorem Hp.asRom {hr : RO} {h0 : EH} {F : List Nat} {L L1 ps B : Ents} {h : EH} (H : Hp hr h0 F L h) (t : Take L ps L1) (hB : ∀ p ∈ B, p ∈ L1) : Hp (roOf B) h (ps.map (·.1)) ps h := by
  have G := H.sub t
  have hp := t.perm
  have hnd := H.nd
  have hnd' := (hp.map (·.1)).nodup_iff.1 hnd
  rw [List.map_append, List.nodup_append] at hnd'
  refine ⟨fun _ _ e _ => e, Nat.le_refl _, G.at_, G.nd, fun p hp => .inl (List.mem_map_of_mem hp), fun b o e => ?_, fun p hps => ?_⟩
  · exact H.at_ _ (hp.symm.mem_iff.1 (List.mem_append_right _ (hB _ (roOf_mem e))))
  · cases e : roOf B p.1 with
    | none => rfl
    | some o =>
      have hm : ((p.1, o) : Nat × EObj).1 ∈ L1.map (·.1) := List.mem_map_of_mem (hB _ (roOf_mem e))
      exact absurd rfl (hnd'.2.2 _ (List.mem_map_of_mem hps) _ hm)
end Go.E
namespace Go.E
open Go

theorem At.sA {A L : Ents} {b : Nat} {o : EObj} (a : At L b o) : At (A ++ L) b o := by
  induction A with
  | nil => exact a
  | cons x A ih => exact .s ih
theorem Upd.sA {A L L' : Ents} {b : Nat} {o o' : EObj} (u : Upd L b o o' L') : Upd (A ++ L) b o o' (A ++ L') := by
  induction A with
  | nil => exact u
  | cons x A ih => exact .s ih
theorem Rem.sA {A L L' : Ents} {p : Nat × EObj} (r : Rem L p L') : Rem (A ++ L) p (A ++ L') := by
  induction A with
  | nil => exact r
  | cons x A ih => exact .s ih
theorem Take.tzA {E X : Ents} : Take (E ++ X) E X := by
  induction E with
  | nil => exact .nil
  | cons p E ih => exact .cons .z ih
theorem Take.skA {A L E L' : Ents} (t : Take L E L') : Take (A ++ L) E (A ++ L') := by
  induction A with
  | nil => exact t
  | cons p A ih => exact .ts ih
theorem Take.app {L E L1 E2 L2 : Ents} (t : Take L E L1) (t2 : Take L1 E2 L2) : Take L (E ++ E2) L2 := by
  induction t with
  | nil => exact t2
  | cons r _ ih => exact .cons r (ih t2)

theorem At.asc {A B C : Ents} {b : Nat} {o : EObj} (a : At (A ++ (B ++ C)) b o) : At ((A ++ B) ++ C) b o := by rwa [List.append_assoc]
theorem Rem.asc {A B C L' : Ents} {p : Nat × EObj} (a : Rem (A ++ (B ++ C)) p L') : Rem ((A ++ B) ++ C) p L' := by rwa [List.append_assoc]
theorem Take.asc {A B C E L' : Ents} (a : Take (A ++ (B ++ C)) E L') : Take ((A ++ B) ++ C) E L' := by rwa [List.append_assoc]

theorem Upd.asc {A B C L' : Ents} {b : Nat} {o o' : EObj} (a : Upd (A ++ (B ++ C)) b o o' L') : Upd ((A ++ B) ++ C) b o o' L' := by rwa [List.append_assoc]
theorem Sep.asc {A B C : Ents} {b w : Nat} (a : Sep (A ++ (B ++ C)) b w) : Sep ((A ++ B) ++ C) b w := by rwa [List.append_assoc]

inductive NR (z : Nat) : Value → Ents → Nat → List Int → Prop
  | nil : NR z nilS [] 0 []
  | row {r m : Nat} {l : List Int} (hm : 0 < m) (hl : l.length = m * z) : NR z (rowS r m) [(r, opRow (ints l) z)] m l

theorem NR.len {z : Nat} {v : Value} {E : Ents} {m : Nat} {l : List Int} (n : NR z v E m l) : l.length = m * z := by
  cases n with
  | nil => simp
  | row hm hl => exact hl

theorem yieldee_of {f : Nat → Value} {x : Operand} {xs : Array Operand} {ts : Array TypeId} {l : Nat} {fs vs : List Value} {cs : Array Value} (e : ev f x = .func (.yield l) ⟨fs⟩ cs) (r : EvL f xs.toList vs) : yieldee f (.call ⟨.value x, xs, ts⟩) = some (l, ⟨fs ++ vs⟩) := by
  have := r.eq
  simp only [yieldee, e, Option.some.injEq, Prod.mk.injEq, true_and]
  apply Array.toList_inj.1
  simp [← this]

section
variable {P : Program} {f : Nat → Value} {C : EH → Prop} {hr : RO} {h0 : EH} {F : List Nat} {L L' : Ents} {t : TypeId} {x y : Operand} {b o : Nat} {li : List Int} {opn : Option Nat} {wr : Bool}
end
end Go.E
namespace Go.E
open Go

mutual
def bk (hr : RO) : Lay → Value → Nat
  | .int _ _, _ => 1
  | .bool, _ => 1
  | .str, _ => 1
  | .sl e, v => 1 + sumTo (fun i => bkL hr e (sa v) (i * e.length) 0) (sn v)
def bkL (hr : RO) : List Lay → Option Addr → Nat → Nat → Nat
  | [], _, _, _ => 0
  | l :: e, a, k, j => bk hr l (el hr a (k + j)) + bkL hr e a k (j + 1)
end

def Lay.base : Lay → Bool
  | .sl _ => false
  | _ => true

theorem bkL_base {hr : RO} {a : Option Addr} {k : Nat} : ∀ (e : List Lay) (j : Nat), e.all Lay.base = true → bkL hr e a k j = e.length
  | [], _, _ => rfl
  | l :: e, j, h => by
    simp only [List.all_cons, Bool.and_eq_true] at h
    simp only [bkL, bkL_base e (j + 1) h.2, List.length_cons]
    cases l <;> simp only [Lay.base, Bool.false_eq_true, false_and] at h <;> simp only [bk] <;> omega

theorem bk_base {hr : RO} {e : List Lay} {v : Value} (h : e.all Lay.base = true) : bk hr (.sl e) v = 1 + sn v * e.length := by
  simp only [bk, bkL_base e 0 h, sumTo_const]

theorem sumTo_le {f g : Nat → Nat} {n : Nat} (h : ∀ k, k < n → f k ≤ g k) : sumTo f n ≤ sumTo g n := by
  induction n with
  | zero => exact Nat.le_refl _
  | succ n ih =>
    have h1 := ih fun k hk => h k (by omega)
    have h2 := h n (by omega)
    simp only [sumTo]; omega

def RowT (e : List Lay) (vs : List Value) : Prop := ∀ (i j : Nat) (l : Lay) (v : Value), e[j]? = some l → vs[i * e.length + j]? = some v → Cell (fun _ => none) l v

inductive OR (e : List Lay) : Value → Ents → Nat → Prop
  | nil : OR e nilS [] 0
  | row {r m c : Nat} {vs : List Value} {opn : Option Nat} (hl : vs.length = c * e.length) (hm : c ≤ 1073741824) (ho : opn = none ∨ opn = some e.length) (ht : RowT e vs) (hmc : m ≤ c := by omega) : OR e (.slice (some ⟨r, 0, none⟩) m c) [(r, .cells vs opn true)] m

theorem RowT.ints {e : List Lay} (he : ∀ l ∈ e, l = .int .i64 false) {l : List Int} : RowT e (ints l) := by
  intro i j l' v hj hv
  rw [he l' (List.mem_of_getElem? hj)]
  simp only [Go.E.ints, List.getElem?_map, Option.map_eq_some_iff] at hv
  obtain ⟨x, _, rfl⟩ := hv
  exact .int (by simp)

theorem NR.or {z m : Nat} {v : Value} {E : Ents} {l : List Int} {e : List Lay} (n : NR z v E m l) (hz : e.length = z) (he : ∀ l ∈ e, l = .int .i64 false) (hm : m ≤ 1073741824) : OR e v E m := by
  cases n with
  | nil => exact .nil
  | row h1 h2 => exact .row (by rw [ints_len, hz]; exact h2) hm (.inr (by rw [hz])) (.ints he)

theorem OR.ints {e : List Lay} {r m : Nat} {l : List Int} {opn : Option Nat} (hl : l.length = m * e.length) (hm : m ≤ 1073741824) (ho : opn = none ∨ opn = some e.length) (he : ∀ l ∈ e, l = .int .i64 false) : OR e (rowS r m) [(r, .cells (Go.E.ints l) opn true)] m :=
  .row (by rw [ints_len]; exact hl) hm ho (.ints he)

theorem OR.sn {e : List Lay} {v : Value} {E : Ents} {m : Nat} (o : OR e v E m) : sn v = m := by cases o <;> rfl
theorem OR.le {e : List Lay} {v : Value} {E : Ents} {m : Nat} (o : OR e v E m) : m ≤ 1073741824 := by cases o <;> omega
theorem OR.eta {e : List Lay} {v : Value} {E : Ents} {m : Nat} (o : OR e v E m) : ∃ a c, v = .slice a m c := by cases o <;> exact ⟨_, _, rfl⟩

theorem OR.okv {e : List Lay} {v : Value} {E : Ents} {m : Nat} (o : OR e v E m) : Go.E.okv v = true := by cases o <;> rfl
theorem NR.okv {z m : Nat} {v : Value} {E : Ents} {l : List Int} (n : NR z v E m l) : Go.E.okv v = true := by cases n <;> rfl

theorem roOf_of {B : Ents} {b : Nat} {o : EObj} (hn : (B.map (·.1)).Nodup) (hm : (b, o) ∈ B) : roOf B b = some o := by
  unfold roOf
  induction B with
  | nil => cases hm
  | cons p B ih =>
    simp only [List.map_cons, List.nodup_cons] at hn
    rcases List.mem_cons.1 hm with rfl | hm
    · simp
    · have hne : (p.1 == b) = false := by
        simp only [beq_eq_false_iff_ne]
        rintro rfl
        exact hn.1 (List.mem_map_of_mem (f := (·.1)) hm)
      simp only [List.find?_cons, hne]
      exact ih hn.2 hm

theorem Cell.up {hr : RO} {l : Lay} {v : Value} (c : Cell (fun _ => none) l v) : Cell hr l v := by
  cases c with
  | int h => exact .int h
  | bool => exact .bool
  | str h => exact .str h
  | nil => exact .nil
  | sle => exact .sle
  | sl hb => cases hb

theorem OR.cell {e : List Lay} {v : Value} {E B : Ents} {m : Nat} (o : OR e v E m) (hn : (B.map (·.1)).Nodup) (hs : ∀ p ∈ E, p ∈ B) : Cell (roOf B) (.sl e) v := by
  cases o with
  | nil => exact .nil
  | @row r m c vs opn hl hm ho ht hmc =>
    refine .sl (roOf_of hn (hs _ (.head _))) hmc hm (by omega) ho fun i hi j l hj => ?_
    have hj' := (List.getElem?_eq_some_iff.1 hj).1
    have hin : i * e.length + j < vs.length := by
      have : i * e.length + e.length ≤ c * e.length := by rw [← Nat.succ_mul]; exact Nat.mul_le_mul_right _ (by omega)
      omega
    rw [Nat.zero_add, List.getD_eq_getElem?_getD, List.getElem?_eq_getElem hin]
    exact (ht i j l _ hj (List.getElem?_eq_getElem hin)).up

theorem RowT.set {e : List Lay} {vs : List Value} {i d : Nat} {l : Lay} {u : Value} (hd : e[d]? = some l) (hu : Cell (fun _ => none) l u) (h : RowT e vs) : RowT e (vs.set (i * e.length + d) u) := by
  intro i' j l' v hj hv
  rw [List.getElem?_set] at hv
  split at hv
  · rename_i he
    split at hv
    · cases hv
      have hd' := (List.getElem?_eq_some_iff.1 hd).1
      have hj' := (List.getElem?_eq_some_iff.1 hj).1
      have : d = j := by
        have h1 := congrArg (· % e.length) he
        simp only [Nat.mul_add_mod_self_right, Nat.mod_eq_of_lt hd', Nat.mod_eq_of_lt hj'] at h1
        exact h1
      subst this
      rw [hd] at hj; cases hj
      exact hu
    · cases hv
  · exact h i' j l' v hj hv
theorem RowT.set0 {e : List Lay} {vs : List Value} {i : Nat} {l : Lay} {u : Value} (hd : e[0]? = some l) (hu : Cell (fun _ => none) l u) (h : RowT e vs) : RowT e (vs.set (i * e.length) u) := RowT.set (d := 0) hd hu h

theorem RowT.get {e : List Lay} {vs : List Value} {m i d : Nat} {l : Lay} (h : RowT e vs) (hl : vs.length = m * e.length) (hi : i < m) (hd : e[d]? = some l) : vs[i * e.length + d]? = some (dec l (vs.getD (i * e.length + d) undef)) := by
  have hd' := (List.getElem?_eq_some_iff.1 hd).1
  have hin : i * e.length + d < vs.length := by
    have : i * e.length + e.length ≤ m * e.length := by rw [← Nat.succ_mul]; exact Nat.mul_le_mul_right _ (by omega)
    omega
  have := (h i d l _ hd (List.getElem?_eq_getElem hin)).dec
  rw [List.getElem?_eq_getElem hin, List.getD_eq_getElem?_getD, List.getElem?_eq_getElem hin, Option.getD_some, this]

theorem UpdL.set {α : Type} {l : List α} {n : Nat} {y : α} (h : n < l.length) : UpdL l n y (l.set n y) := by
  induction l generalizing n with
  | nil => simp at h
  | cons x l ih =>
    cases n with
    | zero => exact .z
    | succ n => exact .s (ih (by simpa using h))

section
variable {P : Program} {f : Nat → Value} {C : EH → Prop} {hr : RO} {h0 : EH} {F : List Nat} {L L' : Ents} {t : TypeId} {x y : Operand} {b o : Nat} {vs : List Value} {opn : Option Nat} {v u : Value}
theorem S1.stV (s : scD P t = true) (ex : ev f x = .pointer (some ⟨b, o, none⟩)) (ey : ev f y = u) (hu : okv u = true) (g : o < vs.length) (mm : Upd L b (.cells vs opn true) (.cells (vs.set o u) opn true) L') : S1 P (.store t x y) f (Hp hr h0 F L) undef (Hp hr h0 F L') := S1.st s ex ey hu (UpdL.set g) mm
end

theorem loadV_W {P : Program} {t : TypeId} {n : Nat} {vs : List Value} (s : agD P t = some n) (h : vs.length = n) : loadV P t vs 0 = some (.agg ⟨vs⟩) := by
  rw [loadV_ag s (by omega)]
  simp only [List.drop_zero, ← h, List.take_length]

section
variable {P : Program} {N : Nat} {ro : Option Nat} {f : Nat → Value} {ds : List Deferred} {rc : Option (Value × Bool)} {C : EH → Prop} {Q : Ex → St → Prop}
variable {ops : Array Oper} {i : Nat} {d : Option Nat} {op : Op} {ty : TypeId} {pos : String} {aft : Array Edge} {gd : Option (Nat × Bool)} {hr : RO} {h0 : EH} {F : List Nat} {L L1 L2 B : Ents}

theorem GL.putB {g hb : Nat} {xs : List Value} {wN wS : Nat} {vn vs : Value} {E : Ents} {ns : List Int} {ss : List ByteArray} (hi : ops.toList[i]? = some ⟨d, op, ty, pos, aft, gd⟩) (hw : Want N ops f gd true) (hfn : fnOk P g = true)
    (p : PS vn vs E ns ss) (t : Take L ((hb, .cells [vn, vs] none true) :: E) L1) (tB : Take L1 B L2) (pc : (B.map (·.1)).Nodup → PutCt P (roOf B) g xs wN wS) (l1 : ns.length + wN ≤ 1073741824) (l2 : ss.length + wS ≤ 1073741824) (hc : CallOf f op g (.pointer (some ⟨hb, 0, none⟩) :: xs))
    (k : ∀ vn' vs' E' ns' ss', PS vn' vs' E' ns' ss' → ns'.length ≤ ns.length + wN → ss'.length ≤ ss.length + wS → GL P N ro ops (i + 1) (setT f d (.tuple #[])) ds rc (Hp hr h0 F (L1 ++ ((hb, .cells [vn', vs'] none true) :: E'))) Q) : GL P N ro ops i f ds rc (Hp hr h0 F L) Q :=
  GL.callT (X := Value × Value × Ents × List Int × List ByteArray) (V := fun _ => .tuple #[]) (R := fun y => PS y.1 y.2.1 y.2.2.1 y.2.2.2.1 y.2.2.2.2 ∧ y.2.2.2.1.length ≤ ns.length + wN ∧ y.2.2.2.2.length ≤ ss.length + wS) (M := fun y => (hb, .cells [y.1, y.2.1] none true) :: y.2.2.1) hi hw hfn t (fun h H => by
    have hB : ∀ q ∈ B, q ∈ L1 := fun q hq => tB.perm.symm.mem_iff.1 (by simp [hq])
    have hnd : (B.map (·.1)).Nodup := by
      have h1 := (t.perm.map (·.1)).nodup_iff.1 H.nd
      rw [List.map_append, List.nodup_append] at h1
      have h2 := (tB.perm.map (·.1)).nodup_iff.1 h1.2.1
      rw [List.map_append, List.nodup_append] at h2
      exact h2.1
    exact pc hnd h hb vn vs E ns ss (H.asRom t hB) p l1 l2) hc fun ⟨_, _, _, _, _⟩ ⟨q1, q2, q3⟩ => k _ _ _ _ _ q1 q2 q3
end

theorem OR.put {P : Program} {g : FuncId} {e : List Lay} {v : Value} {E B : Ents} {m z : Nat} (o : OR e v E m) (hz : e.length = z) (he : e.all Lay.base = true) (c : ∀ hr a n c, Cell hr (.sl e) (.slice a n c) → PutCt P hr g [.slice a n c] (bk hr (.sl e) (.slice a n c)) (bk hr (.sl e) (.slice a n c))) (hs : ∀ p ∈ E, p ∈ B) (hn : (B.map (·.1)).Nodup) : PutCt P (roOf B) g [v] (1 + m * z) (1 + m * z) := by
  have hc := o.cell hn hs
  obtain ⟨a, cp, rfl⟩ := o.eta
  have := c _ _ _ _ hc
  rwa [bk_base he, hz] at this

theorem OR.bk {hr : RO} {e : List Lay} {v : Value} {E : Ents} {m : Nat} (o : OR e v E m) (he : e.all Lay.base = true) : Go.E.bk hr (.sl e) v = 1 + m * e.length := by rw [bk_base he, o.sn]

def WipE (P : Program) (g : FuncId) (e : List Lay) : Prop :=
  ∀ (h : EH) (r m i o : Nat) (vs : List Value) (opn : Option Nat), vs.length = m * e.length → i < m → RowT e vs → o = i * e.length → Hp (fun _ => none) h [r] [(r, .cells vs opn true)] h →
    Ct P g ⟨[.pointer (some ⟨r, o, none⟩)]⟩ h [r] (fun _ : List Value => .tuple #[]) (fun vs' => vs'.length = vs.length ∧ RowT e vs') (fun vs' => [(r, .cells vs' opn true)])

def WipR (P : Program) (g : FuncId) (e : List Lay) : Prop :=
  ∀ (h : EH) (v : Value) (E : Ents) (m : Nat) (w : FuncId), OR e v E m → fnOk P w = true → WipE P w e → Hp (fun _ => none) h (E.map (·.1)) E h →
    Ct P g ⟨[v, .func (.func w) ⟨[]⟩ ⟨[]⟩]⟩ h (E.map (·.1)) (fun _ : Ents => .tuple #[]) (fun E' => OR e v E' m) (fun E' => E')

def WipL (P : Program) (g : FuncId) (e : List Lay) : Prop :=
  ∀ (h : EH) (b o : Nat) (bs : List Value) (v : Value) (E : Ents) (m : Nat), bs[o]? = some v → OR e v E m → Hp (fun _ => none) h (b :: E.map (·.1)) ((b, .cells bs none true) :: E) h →
    Ct P g ⟨[.pointer (some ⟨b, o, none⟩)]⟩ h (b :: E.map (·.1)) (fun _ : Ents => .tuple #[]) (fun E' => OR e v E' m) (fun E' => (b, .cells bs none true) :: E')

abbrev PY := Value × Value × Ents × List Int × List ByteArray
abbrev PYok (K : Nat) (y : PY) : Prop := PS y.1 y.2.1 y.2.2.1 y.2.2.2.1 y.2.2.2.2 ∧ y.2.2.2.1.length ≤ K ∧ y.2.2.2.2.length ≤ K
abbrev PYat (hb : Nat) (y : PY) : Nat × EObj := (hb, .cells [y.1, y.2.1] none true)

def ClN (P : Program) (g g0 K hb xb : Nat) (h : EH) : Prop :=
  Ct P g ⟨[.pointer (some ⟨hb, 0, none⟩), .pointer (some ⟨xb, 0, none⟩)]⟩ h [hb] (fun _ : PY => .func (.func g0) ⟨[]⟩ ⟨[]⟩) (PYok K) (fun y => PYat hb y :: (y.2.2.1 ++ []))

theorem ClN.tw {P : Program} {g g0 K hb xb : Nat} {h : EH} (c : ClN P g g0 K hb xb h) (f0 : fnOk P g0 = true) (c0 : ∀ h, Ct P g0 ⟨[]⟩ h [] (fun _ : Unit => .tuple #[]) (fun _ => True) (fun _ => [])) : ∃ ns ss, (ns.length ≤ K ∧ ss.length ≤ K) ∧ Twice P g xb hb h ns ss :=
  twice_of (fun _ => g0) (fun _ => []) (fun y => y.1) (fun y => y.2.1) (fun y => y.2.2.1) (fun _ => []) (fun y => y.2.2.2.1) (fun y => y.2.2.2.2) c (fun _ => rfl) (fun _ => rfl) (fun _ r => r) (fun _ _ => f0) (fun _ h1 _ _ => (c0 h1).mono fun _ _ => ⟨.tuple #[], rfl, trivial, rfl⟩)

def ClW (P : Program) (g fw K hb xb : Nat) (h : EH) {X : Type} (cs : X → List Value) (B : X → Ents) (R : X → Prop) : Prop :=
  Ct P g ⟨[.pointer (some ⟨hb, 0, none⟩), .pointer (some ⟨xb, 0, none⟩)]⟩ h [hb] (fun y : PY × X => .func (.func fw) ⟨[]⟩ ⟨cs y.2⟩) (fun y => PYok K y.1 ∧ R y.2) (fun y => PYat hb y.1 :: (y.1.2.2.1 ++ B y.2))

theorem ClW.tw {P : Program} {g fw K hb xb : Nat} {h : EH} {X : Type} {cs : X → List Value} {B : X → Ents} {R : X → Prop} (c : ClW P g fw K hb xb h cs B R) (f0 : fnOk P fw = true)
    (w : ∀ x h1, R x → Hp (fun _ => none) h1 ((B x).map (·.1)) (B x) h1 → Ct P fw ⟨cs x⟩ h1 ((B x).map (·.1)) (fun _ : Unit => .tuple #[]) (fun _ => True) (fun _ => [])) : ∃ ns ss, (ns.length ≤ K ∧ ss.length ≤ K) ∧ Twice P g xb hb h ns ss :=
  twice_of (fun _ => fw) (fun y => cs y.2) (fun y => y.1.1) (fun y => y.1.2.1) (fun y => y.1.2.2.1) (fun y => B y.2) (fun y => y.1.2.2.2.1) (fun y => y.1.2.2.2.2) c (fun _ => rfl) (fun _ => rfl) (fun _ r => r.1) (fun _ _ => f0) (fun y h1 r H => (w y.2 h1 r.2 H).mono fun _ _ => ⟨.tuple #[], rfl, trivial, rfl⟩)
end Go.E
namespace Go.E
open Go

theorem Rw.ps {lo : Nat} {h : EH} {vn vs : Value} {ns : List Int} {ss : List ByteArray} (r1 : Rw lo h vn (ints ns)) (r2 : Rw lo h vs (strs ss)) : ∃ E, PS vn vs E ns ss ∧ (∀ e ∈ E, h[e.1]? = some e.2) ∧ (∀ e ∈ E, lo ≤ e.1) ∧ (E.map (·.1)).Nodup := by
  have n0 : ∀ (l : List Int), ints l = [] → l = [] := fun l e => by cases l <;> simp_all [ints]
  have s0 : ∀ (l : List ByteArray), strs l = [] → l = [] := fun l e => by cases l <;> simp_all [strs]
  generalize hc1 : ints ns = c1 at r1
  generalize hc2 : strs ss = c2 at r2
  cases r1 with
  | nil =>
    cases r2 with
    | nil =>
      rw [n0 _ hc1, s0 _ hc2]
      exact ⟨[], .nn, by simp, by simp, by simp⟩
    | @row r _ hr hn hlo =>
      rw [n0 _ hc1]
      subst hc2
      have hne : ss ≠ [] := fun e => hn (by rw [e]; rfl)
      refine ⟨[(r, opRow (strs ss) 1)], ?_, by simpa using hr, by simpa using hlo, by simp⟩
      rw [strs_len]; exact .nr hne
  | @row r _ hr hn hlo =>
    subst hc1
    have hne : ns ≠ [] := fun e => hn (by rw [e]; rfl)
    cases r2 with
    | nil =>
      rw [s0 _ hc2]
      refine ⟨[(r, opRow (ints ns) 1)], ?_, by simpa using hr, by simpa using hlo, by simp⟩
      rw [ints_len]; exact .rn hne
    | @row q _ hq hn2 hlo2 =>
      subst hc2
      have hne2 : ss ≠ [] := fun e => hn2 (by rw [e]; rfl)
      refine ⟨[(r, opRow (ints ns) 1), (q, opRow (strs ss) 1)], ?_, ?_, ?_, ?_⟩
      · rw [ints_len, strs_len]; exact .rr hne hne2
      · intro e he; simp only [List.mem_cons, List.not_mem_nil, or_false] at he; rcases he with rfl | rfl <;> assumption
      · intro e he; simp only [List.mem_cons, List.not_mem_nil, or_false] at he; rcases he with rfl | rfl <;> assumption
      · simp only [List.map_cons, List.map_nil, List.nodup_cons, List.mem_singleton, List.not_mem_nil, not_false_eq_true, List.nodup_nil, and_true]
        rintro rfl
        rw [hr] at hq
        simp only [opRow, Option.some.injEq, EObj.cells.injEq, and_true] at hq
        cases ns with
        | nil => exact hne rfl
        | cons a l =>
          cases ss with
          | nil => exact hne2 rfl
          | cons b m => simp [ints, strs] at hq

theorem Once.ct {P : Program} {g hb : Nat} {a : List Value} {h : EH} {ns : List Int} {ss : List ByteArray} (c : Once P g a hb h ns ss) :
    Ct P g ⟨a ++ [.pointer (some ⟨hb, 0, none⟩)]⟩ h [hb] (fun y : Value × Value × Value × Ents => y.1) (fun y => PS y.2.1 y.2.2.1 y.2.2.2 ns ss) (fun y => (hb, .cells [y.2.1, y.2.2.1] none true) :: y.2.2.2) := by
  obtain ⟨v1, h1, s, hl, ⟨vn, vs, e, r1, r2⟩, k⟩ := c
  obtain ⟨E, p, q1, q2, q3⟩ := Rw.ps r1 r2
  refine ⟨_, _, s, (v1, vn, vs, E), rfl, p, ?_⟩
  by_cases hz : hb < h.length
  · refine ⟨fun b o e hne => k b o e (by simpa using hne), hl, ?_, ?_, ?_⟩
    · intro x hx
      rcases List.mem_cons.1 hx with rfl | hx
      · exact e
      · exact q1 x hx
    · simp only [List.map_cons, List.nodup_cons]
      refine ⟨fun hm => ?_, q3⟩
      obtain ⟨x, hx, rfl⟩ := List.mem_map.1 hm
      have := q2 x hx
      omega
    · intro x hx
      rcases List.mem_cons.1 hx with rfl | hx
      · exact .inl (by simp)
      · exact .inr (q2 x hx)
  · refine ⟨fun b o e hne => k b o e (by simpa using hne), hl, ?_, ?_, ?_⟩
    · intro x hx
      rcases List.mem_cons.1 hx with rfl | hx
      · exact e
      · exact q1 x hx
    · simp only [List.map_cons, List.nodup_cons]
      refine ⟨fun hm => ?_, q3⟩
      obtain ⟨x, hx, hx2⟩ := List.mem_map.1 hm
      have h1' := q1 x hx
      rw [hx2, e] at h1'
      cases p with
      | nn => cases hx
      | rn h =>
        simp only [List.mem_singleton] at hx; subst hx
        simp [opRow] at h1'
      | nr h =>
        simp only [List.mem_singleton] at hx; subst hx
        simp [opRow] at h1'
      | rr h h' =>
        simp only [List.mem_cons, List.not_mem_nil, or_false] at hx
        rcases hx with rfl | rfl <;> simp [opRow] at h1'
    · intro x hx
      rcases List.mem_cons.1 hx with rfl | hx
      · exact .inl (by simp)
      · exact .inr (q2 x hx)

theorem Fix.agg {hr : RO} {l : List Value} (h : ∀ v ∈ l, Fix hr v) : ∀ v ∈ [Value.agg ⟨l⟩], Fix hr v := by
  intro v hv σ hσ
  simp only [List.mem_singleton] at hv
  subst hv
  simp only [ren, renA, renL_eq]
  rw [renL_fix hσ h]

theorem Hp.good {hr : RO} {h0 h : EH} {F : List Nat} {L : Ents} {xb hb : Nat} {xs zs : List Value} (H : Hp hr h0 F L h) (a1 : At L xb (.cells xs none true)) (a2 : At L hb (.cells zs none true)) (s : Sep L xb hb) : GoodA hr xs zs xb hb h :=
  ⟨H.rom, H.get a1, H.get a2, H.off _ a1.mem, H.off _ a2.mem, s.ne H.nd⟩

theorem PS.q {vn vs : Value} {E : Ents} {ns : List Int} {ss : List ByteArray} {h : EH} (p : PS vn vs E ns ss) (hE : ∀ e ∈ E, h[e.1]? = some e.2) : ∃ p1 p2, vn = .slice p1 ns.length ns.length ∧ vs = .slice p2 ss.length ss.length ∧ Qrow h p1 (ints ns) ∧ Qrow h p2 (strs ss) := by
  cases p with
  | nn => exact ⟨_, _, rfl, rfl, fun h => by simp [ints] at h, fun h => by simp [strs] at h⟩
  | rn => exact ⟨_, _, rfl, rfl, fun _ => ⟨_, rfl, hE _ (.head _)⟩, fun h => by simp [strs] at h⟩
  | nr => exact ⟨_, _, rfl, rfl, fun h => by simp [ints] at h, fun _ => ⟨_, rfl, hE _ (.head _)⟩⟩
  | rr => exact ⟨_, _, rfl, rfl, fun _ => ⟨_, rfl, hE _ (.head _)⟩, fun _ => ⟨_, rfl, hE _ (.tail _ (.head _))⟩⟩

theorem PS.len {vn vs : Value} {E : Ents} {ns : List Int} {ss : List ByteArray} (p : PS vn vs E ns ss) : ∃ p1 p2, vn = .slice p1 ns.length ns.length ∧ vs = .slice p2 ss.length ss.length := by
  cases p <;> exact ⟨_, _, rfl, rfl⟩
end Go.E
namespace Go.E
open Go

inductive WT (w : World) (K : Nat) : Lay → Value → Nat → Prop
  | int {k : IntKind} {x : Int} (h : k.min ≤ x ∧ x ≤ k.max) : WT w K (.int k) (.int k x) 1
  | bool {b : Bool} : WT w K .bool (.bool b) 1
  | str {s : ByteArray} (h : s.size ≤ K) : WT w K .str (.string s) 1
  | nil {e : List Lay} : WT w K (.sl e) (.slice none 0 0) 1
  | sl0 {e : List Lay} {a : Addr} : WT w K (.sl e) (.slice (some a) 0 0) 1
  | sl {e : List Lay} {a : Addr} {len cap : Nat} {f : Nat → Value} {ns : Nat → Nat} (h1 : len ≤ cap) (h2 : cap ≤ K) (h0 : 0 < cap) (hz : 0 < e.length) (hc : ∀ k, k < cap * e.length → w.cell? (a.add k) = some (f k))
      (he : ∀ i, i < cap → ∀ (j : Nat) (l : Lay), e[j]? = some l → WT w K l (f (i * e.length + j)) (ns (i * e.length + j))) : WT w K (.sl e) (.slice (some a) len cap) (1 + sumTo ns (len * e.length))

theorem sumTo_add {f : Nat → Nat} {a b : Nat} : sumTo f (a + b) = sumTo f a + sumTo (fun j => f (a + j)) b := by
  induction b with
  | zero => rfl
  | succ b ih =>
    have : sumTo f (a + (b + 1)) = sumTo f (a + b) + f (a + b) := rfl
    rw [this, ih]
    simp only [sumTo]; omega

theorem sumTo_mul {f : Nat → Nat} {n z : Nat} : sumTo f (n * z) = sumTo (fun i => sumTo (fun j => f (i * z + j)) z) n := by
  induction n with
  | zero => simp [sumTo]
  | succ n ih => rw [Nat.succ_mul, sumTo_add, ih]; rfl

theorem sumTo_congr {f g : Nat → Nat} {n : Nat} (h : ∀ k, k < n → f k = g k) : sumTo f n = sumTo g n := by
  induction n with
  | zero => rfl
  | succ n ih => simp only [sumTo, ih fun k hk => h k (by omega), h n (by omega)]

theorem Cell.ext {hr hr' : RO} (he : ∀ b o, hr b = some o → hr' b = some o) {l : Lay} {v : Value} (c : Cell hr l v) : Cell hr' l v := by
  induction c with
  | int h => exact .int h
  | bool => exact .bool
  | str h => exact .str h
  | nil => exact .nil
  | sle => exact .sle
  | sl hb hn hc hl ho _ ih => exact .sl (he _ _ hb) hn hc hl ho ih

theorem bkL_eq {hr : RO} {a : Option Addr} {k : Nat} : ∀ (e : List Lay) (j : Nat), bkL hr e a k j = sumTo (fun i => match e[i]? with | some l => bk hr l (el hr a (k + (j + i))) | none => 0) e.length
  | [], _ => rfl
  | l :: e, j => by
    rw [bkL, bkL_eq e (j + 1), List.length_cons, Nat.add_comm e.length 1, sumTo_add]
    simp only [sumTo, List.getElem?_cons_zero, Nat.add_zero, Nat.zero_add]
    congr 1
    exact sumTo_congr fun i _ => by rw [Nat.add_comm 1 i, List.getElem?_cons_succ, show j + (i + 1) = j + 1 + i by omega]

theorem bk_ext {hr hr' : RO} (he : ∀ b o, hr b = some o → hr' b = some o) {l : Lay} {v : Value} (c : Cell hr l v) : bk hr' l v = bk hr l v := by
  induction c with
  | int h => rfl
  | bool => rfl
  | str h => rfl
  | nil => rfl
  | sle => rfl
  | @sl e b off n c vs opn wr hb hn hc hl ho _ ih =>
    simp only [bk, sn, sa]
    congr 1
    refine sumTo_congr fun i hi => ?_
    rw [bkL_eq, bkL_eq]
    refine sumTo_congr fun j hj => ?_
    rw [List.getElem?_eq_getElem hj]
    simp only
    have h1 : el hr (some ⟨b, off, none⟩) (i * e.length + (0 + j)) = vs.getD (off + (i * e.length + j)) undef := by simp only [el, rv, sb, so, hb, Nat.zero_add]
    have h2 : el hr' (some ⟨b, off, none⟩) (i * e.length + (0 + j)) = vs.getD (off + (i * e.length + j)) undef := by simp only [el, rv, sb, so, he _ _ hb, Nat.zero_add]
    rw [h1, h2]
    exact ih i hi j _ (List.getElem?_eq_getElem hj)

structure AH (w : World) (h : EH) (φ : Phi) : Prop where
  rel : RelH φ h w
  ro : ∀ (b : Nat) (o : EObj), h[b]? = some o → ∃ vs opn, o = .cells vs opn false ∧ ∀ v ∈ vs, Fix (fun b : Nat => h[b]?) v

theorem Fix.ext {hr hr' : RO} (he : ∀ b o, hr b = some o → hr' b = some o) {v : Value} (f : Fix hr v) : Fix hr' v := fun σ hσ => f σ fun b o e => hσ b o (he b o e)

theorem AH.nil (w : World) : AH w [] (fun _ => none) := ⟨⟨fun _ _ e => (by cases e), fun _ _ _ _ _ _ e => (by cases e)⟩, fun b o e => (by simp at e)⟩

theorem app_ext {h new : EH} : ∀ (b : Nat) (o : EObj), (fun b : Nat => h[b]?) b = some o → (fun b : Nat => (h ++ new)[b]?) b = some o := fun b o e => app_old e

theorem AH.push {w : World} {h : EH} {φ : Phi} (a : AH w h φ) {vs : List Value} {loc : Loc} {c : Array Value} {elt : TypeId} {fr : Nat × Nat} (hs : vs.length = loc.size) (ho : loc.opn = false) (hx : loc.extra = 0) (hb : w.heap[loc.blk]? = some (.cells c elt fr)) (hc : loc.δ + loc.size ≤ c.size)
    (hv : ∀ (i : Nat) (v : Value), vs[i]? = some v → ∃ v', c[loc.δ + i]? = some v' ∧ VRel φ v v') (hf : ∀ v ∈ vs, Fix (fun b : Nat => h[b]?) v) : AH w (h ++ [.cells vs none false]) (φ.put h.length loc) := by
  have hle := Le.put a.rel.dom loc
  have hlt : loc.blk < w.heap.size := by
    rcases Nat.lt_or_ge loc.blk w.heap.size with h1 | h1
    · exact h1
    · rw [Array.getElem?_eq_none h1] at hb; cases hb
  have hnw : ∀ (b : Nat) (o : EObj), (h ++ [EObj.cells vs none false])[b]? = some o → o.wrt = false := by
    intro b o e
    rw [List.getElem?_append] at e
    split at e
    · obtain ⟨vs', opn, rfl, _⟩ := a.ro b o e; rfl
    · have := List.mem_of_getElem? e
      simp only [List.mem_singleton] at this
      subst this; rfl
  refine ⟨⟨fun b l e => ?_, fun b₁ b₂ l₁ l₂ o₁ o₂ e1 e2 g1 g2 v1 v2 hbk => ?_⟩, fun b o e => ?_⟩
  · by_cases hb' : b = h.length
    · subst hb'
      rw [Phi.put_self] at e; cases e
      refine ⟨_, app_new, hlt, hs, by rw [ho]; rfl, by simp, fun _ => hx, c, elt, fr, hb, by rw [hx]; omega, fun i v e => ?_, by simp⟩
      obtain ⟨v', k1, k2⟩ := hv i v e
      exact ⟨v', k1, k2.mono hle⟩
    · rw [Phi.put_ne _ _ hb'] at e
      obtain ⟨o, q1, q2, q3⟩ := a.rel.obj b l e
      exact ⟨o, app_old q1, q2, q3.mono hle rfl⟩
  · rw [hnw b₁ o₁ g1] at v1; cases v1
  · rw [List.getElem?_append] at e
    split at e
    · obtain ⟨vs', opn, rfl, hf'⟩ := a.ro b o e
      exact ⟨vs', opn, rfl, fun v hv => (hf' v hv).ext app_ext⟩
    · have := List.mem_of_getElem? e
      simp only [List.mem_singleton] at this
      subst this
      exact ⟨vs, none, rfl, fun v hv => (hf v hv).ext app_ext⟩

theorem add_cell {w : World} {a : Addr} {k : Nat} {v : Value} (h0 : ∃ u, w.cell? (a.add 0) = some u) (h : w.cell? (a.add k) = some v) : ∃ c elt fr, a.spot = none ∧ w.heap[a.block]? = some (.cells c elt fr) ∧ c[a.off + k]? = some v := by
  obtain ⟨u, hu⟩ := h0
  have hs : a.spot = none := by
    unfold Addr.add at hu
    rw [if_pos rfl] at hu
    unfold World.cell? at hu
    split at hu
    · split at hu
      · cases hu
      · rename_i hn; simpa using hn
    · cases hu
  have hadd : a.add k = ⟨a.block, a.off + k, none⟩ := by
    obtain ⟨b, o, s⟩ := a
    simp only at hs
    subst hs
    unfold Addr.add
    split
    · rename_i hk; simp [hk]
    · rfl
  rw [hadd] at h
  unfold World.cell? at h
  split at h
  · rename_i c elt fr hb
    simp only [Option.isSome_none, Bool.false_eq_true, if_false] at h
    exact ⟨c, elt, fr, hs, hb, h⟩
  · cases h

def Built (w : World) (l : Lay) (v : Value) (n : Nat) (h : EH) (φ : Phi) : Prop :=
  ∃ new φ' v', Le φ φ' ∧ AH w (h ++ new) φ' ∧ Cell (fun b : Nat => (h ++ new)[b]?) l v' ∧ VRel φ' v' v ∧ bk (fun b : Nat => (h ++ new)[b]?) l v' ≤ n

theorem build_row {w : World} {N : Nat} {lay : Nat → Option Lay} {f : Nat → Value} {ns : Nat → Nat} (ih : ∀ k, k < N → ∀ l, lay k = some l → ∀ h φ, AH w h φ → Built w l (f k) (ns k) h φ) (hl : ∀ k, k < N → ∃ l, lay k = some l) (h : EH) (φ : Phi) (a : AH w h φ) :
    ∀ m, m ≤ N → ∃ (new : EH) (φ' : Phi) (vs : List Value), Le φ φ' ∧ AH w (h ++ new) φ' ∧ vs.length = m ∧ ∀ k, k < m → ∀ l, lay k = some l → ∃ v', vs[k]? = some v' ∧ Cell (fun b : Nat => (h ++ new)[b]?) l v' ∧ VRel φ' v' (f k) ∧ bk (fun b : Nat => (h ++ new)[b]?) l v' ≤ ns k := by
  intro m
  induction m with
  | zero => exact fun _ => ⟨[], φ, [], .refl _, by simpa using a, rfl, fun k hk => by omega⟩
  | succ m ihm =>
    intro hm
    obtain ⟨new, φ1, vs, q1, q2, q3, q4⟩ := ihm (by omega)
    obtain ⟨l, hll⟩ := hl m (by omega)
    obtain ⟨new2, φ2, v, r1, r2, r3, r4, r5⟩ := ih m (by omega) l hll (h ++ new) φ1 q2
    refine ⟨new ++ new2, φ2, vs ++ [v], q1.trans r1, by rw [← List.append_assoc]; exact r2, by simp [q3], fun k hk l' hl' => ?_⟩
    rw [← List.append_assoc]
    by_cases hkm : k < m
    · obtain ⟨v', p1, p2, p3, p4⟩ := q4 k hkm l' hl'
      exact ⟨v', by rw [List.getElem?_append_left (by omega)]; exact p1, p2.ext app_ext, p3.mono r1, by rw [bk_ext app_ext p2]; exact p4⟩
    · have : k = m := by omega
      subst this
      rw [hll] at hl'; cases hl'
      exact ⟨v, by rw [List.getElem?_append_right (by omega)]; simp [q3], r3, r4, r5⟩

theorem build {w : World} {K : Nat} (hK : K ≤ 1073741824) {l : Lay} {v : Value} {n : Nat} (t : WT w K l v n) : ∀ h φ, AH w h φ → Built w l v n h φ := by
  induction t with
  | int hx => exact fun h φ a => ⟨[], φ, _, .refl _, by simpa using a, .int (fun _ => hx), .base rfl, Nat.le_refl _⟩
  | bool => exact fun h φ a => ⟨[], φ, _, .refl _, by simpa using a, .bool, .base rfl, Nat.le_refl _⟩
  | str hx => exact fun h φ a => ⟨[], φ, _, .refl _, by simpa using a, .str (Nat.le_trans hx hK), .base rfl, Nat.le_refl _⟩
  | nil => exact fun h φ a => ⟨[], φ, _, .refl _, by simpa using a, .nil, .slnil, Nat.le_refl _⟩
  | sl0 => exact fun h φ a => ⟨[], φ, _, .refl _, by simpa using a, .sle, .sle, Nat.le_refl _⟩
  | @sl e a len cap f ns h1 h2 h0 hz hc he ih =>
    intro h φ A
    have hN : 0 < cap * e.length := Nat.mul_pos h0 hz
    have hdiv : ∀ k, k < cap * e.length → k / e.length < cap := fun k hk => (Nat.div_lt_iff_lt_mul hz).2 hk
    have heq : ∀ k, k / e.length * e.length + k % e.length = k := fun k => Nat.div_add_mod' k e.length
    obtain ⟨new, φ', vs, q1, q2, q3, q4⟩ := build_row (w := w) (N := cap * e.length) (lay := fun k => e[k % e.length]?) (f := f) (ns := ns) (fun k hk l hl h φ A => by
      have := ih (k / e.length) (hdiv k hk) (k % e.length) l hl h φ A
      rwa [heq k] at this) (fun k _ => ⟨_, List.getElem?_eq_getElem (Nat.mod_lt _ hz)⟩) h φ A _ (Nat.le_refl _)
    have hcell : ∀ k, k < cap * e.length → ∃ c elt fr, a.spot = none ∧ w.heap[a.block]? = some (.cells c elt fr) ∧ c[a.off + k]? = some (f k) := fun k hk => add_cell ⟨_, hc 0 hN⟩ (hc k hk)
    obtain ⟨c, elt, fr, hs, hb, hc0⟩ := hcell 0 hN
    have hcs : ∀ k, k < cap * e.length → c[a.off + k]? = some (f k) := fun k hk => by
      obtain ⟨c', elt', fr', _, hb', hk'⟩ := hcell k hk
      rw [hb] at hb'; cases hb'
      exact hk'
    have hsize : a.off + cap * e.length ≤ c.size := by
      have := (Array.getElem?_eq_some_iff.1 (hcs (cap * e.length - 1) (by omega))).1
      omega
    let loc : Loc := ⟨a.block, a.off, cap * e.length, e.length, 0, false⟩
    have vget : ∀ k v', vs[k]? = some v' → ∃ l, e[k % e.length]? = some l ∧ Cell (fun b : Nat => (h ++ new)[b]?) l v' ∧ VRel φ' v' (f k) ∧ bk (fun b : Nat => (h ++ new)[b]?) l v' ≤ ns k ∧ k < cap * e.length := by
      intro k v' hk
      have hlt : k < cap * e.length := by rw [← q3]; exact (List.getElem?_eq_some_iff.1 hk).1
      have hl := List.getElem?_eq_getElem (Nat.mod_lt k hz)
      obtain ⟨v2, p1, p2, p3, p4⟩ := q4 k hlt _ hl
      rw [hk] at p1; cases p1
      exact ⟨_, hl, p2, p3, p4, hlt⟩
    have A2 := q2.push (vs := vs) (loc := loc) (c := c) (elt := elt) (fr := fr) q3 rfl rfl hb hsize (fun i v' hv => by
      obtain ⟨l, _, _, p3, _, hlt⟩ := vget i v' hv
      exact ⟨f i, hcs i hlt, p3⟩) (fun v' hv => by
      obtain ⟨i, hi⟩ := List.getElem?_of_mem hv
      obtain ⟨l, _, p2, _⟩ := vget i v' hi
      exact p2.fix)
    have hrow : (h ++ (new ++ [EObj.cells vs none false]))[(h ++ new).length]? = some (.cells vs none false) := by rw [← List.append_assoc]; exact app_new
    refine ⟨new ++ [.cells vs none false], _, .slice (some ⟨(h ++ new).length, 0, none⟩) len cap, q1.trans (Le.put q2.rel.dom loc), by rw [← List.append_assoc]; exact A2, ?_, ?_, ?_⟩
    · refine .sl hrow h1 (Nat.le_trans h2 hK) (by omega) (.inl rfl) fun i hi j l hj => ?_
      have hj' := (List.getElem?_eq_some_iff.1 hj).1
      have hlt : i * e.length + j < cap * e.length := by
        have : i * e.length + e.length ≤ cap * e.length := by rw [← Nat.succ_mul]; exact Nat.mul_le_mul_right _ (by omega)
        omega
      have hmod : (i * e.length + j) % e.length = j := by rw [Nat.mul_comm, Nat.mul_add_mod, Nat.mod_eq_of_lt hj']
      obtain ⟨v', p1, p2, _⟩ := q4 (i * e.length + j) hlt l (by rw [hmod]; exact hj)
      rw [Nat.zero_add, List.getD_eq_getElem?_getD, p1, Option.getD_some, ← List.append_assoc]
      exact p2.ext app_ext
    · have := VRel.slice (φ := φ'.put (h ++ new).length loc) (off := 0) (len := len) (cap := cap) (cap' := cap) (Phi.put_self _ _ _) (.inl rfl)
      have ha : a = ⟨a.block, a.off, none⟩ := by obtain ⟨x, y, z⟩ := a; simp only at hs; subst hs; rfl
      rw [ha]
      simpa [loc] using this
    · simp only [bk, sn, sa]
      refine Nat.add_le_add_left ?_ 1
      rw [sumTo_mul]
      refine sumTo_le fun i hi => ?_
      rw [bkL_eq]
      refine sumTo_le fun j hj => ?_
      rw [List.getElem?_eq_getElem hj]
      simp only [Nat.zero_add]
      have hlt : i * e.length + j < cap * e.length := by
        have : i * e.length + e.length ≤ cap * e.length := by rw [← Nat.succ_mul]; exact Nat.mul_le_mul_right _ (by omega)
        omega
      have hmod : (i * e.length + j) % e.length = j := by rw [Nat.mul_comm, Nat.mul_add_mod, Nat.mod_eq_of_lt hj]
      obtain ⟨v', p1, p2, _, p4⟩ := q4 (i * e.length + j) hlt e[j] (by rw [hmod]; exact List.getElem?_eq_getElem hj)
      have hel : el (fun b => (h ++ (new ++ [EObj.cells vs none false]))[b]?) (some ⟨(h ++ new).length, 0, none⟩) (i * e.length + j) = v' := by
        simp only [el, rv, sb, so, hrow, Nat.zero_add, List.getD_eq_getElem?_getD, p1, Option.getD_some]
      rw [hel, ← List.append_assoc, bk_ext app_ext p2]
      exact p4
end Go.E
namespace Go.E
open Go Go.RowKit
open Go.Proofs.Ytenkebdjlajanaa.Rows (uptoBulk uptoBulkAll)

def layFs (P : Program) (lay : TypeId → Option (List Lay)) : List Field → Nat → Option (List Lay)
  | [], _ => some []
  | f :: fs, o => match lay f.type with
    | some l => if f.offset = o ∧ l.length = P.cellsOf f.type then (layFs P lay fs (o + l.length)).map (l ++ ·) else none
    | none => none
def layOf (P : Program) : Nat → TypeId → Option (List Lay)
  | 0, _ => none
  | n + 1, t => match P.underlying t with
    | some .bool => some [.bool]
    | some (.int k) => some [.int k]
    | some .string => some [.str]
    | some (.slice e) => match layOf P n e with
      | some l => if l.length = P.cellsOf e ∧ 0 < l.length then some [.sl l] else none
      | none => none
    | some (.struct fs) => match layFs P (layOf P n) fs.toList 0 with
      | some l => if l.length = P.cellsOf t then some l else none
      | none => none
    | _ => none

section
variable {H : Type} {enc : TypeId × Value → H} {P : Program} {w : World}

theorem bulkAll_sum (l : List (DataW H × List MemPlace)) : uptoBulkAll (l.map (·.1)) = sumTo (fun i => match l[i]? with | some x => uptoBulk x.1 | none => 0) l.length := by
  induction l with
  | nil => rfl
  | cons x l ih =>
    simp only [List.map_cons, uptoBulkAll, List.length_cons]
    rw [Nat.add_comm l.length 1, sumTo_add, ih]
    simp only [sumTo, List.getElem?_cons_zero, Nat.zero_add]
    congr 1
    exact sumTo_congr fun i _ => by rw [Nat.add_comm 1 i, List.getElem?_cons_succ]

theorem bulk_mem {l : List (DataW H × List MemPlace)} {i : Nat} {x : DataW H × List MemPlace} (h : l[i]? = some x) : uptoBulk x.1 ≤ uptoBulkAll (l.map (·.1)) := by
  induction l generalizing i with
  | nil => simp at h
  | cons y l ih =>
    simp only [List.map_cons, uptoBulkAll]
    cases i with
    | zero => simp only [List.getElem?_cons_zero, Option.some.injEq] at h; subst h; omega
    | succ i => have := ih (by simpa using h); omega

theorem bulk_pos (d : DataW H) : 1 ≤ uptoBulk d := by
  cases d with
  | lit l => cases l <;> simp [uptoBulk]
  | _ => simp [uptoBulk]

theorem bulkAll_len (l : List (DataW H)) : l.length ≤ uptoBulkAll l := by
  induction l with
  | nil => simp [uptoBulkAll]
  | cons x l ih => have := bulk_pos x; simp only [uptoBulkAll, List.length_cons]; omega

theorem wf_int {k : IntKind} {n : Int} (h : (Lit.int k n).wf = true) : k.min ≤ n ∧ n ≤ k.max := by
  simpa [Lit.wf] using h

theorem addr_add (a : Addr) (x y : Nat) : (a.add x).add y = a.add (x + y) := by
  unfold Addr.add
  by_cases hx : x = 0
  · subst hx
    simp only [if_true, Nat.zero_add]
  · rw [if_neg hx]
    by_cases hy : y = 0
    · subst hy
      rw [if_pos rfl, if_neg (by omega)]; rfl
    · rw [if_neg hy, if_neg (by omega)]
      simp only [Nat.add_assoc]

def Typed (w : World) (K : Nat) (lay : List Lay) (cs : List Value) (o B : Nat) : Prop := ∃ ns : Nat → Nat, (∀ (j : Nat) (l : Lay), lay[j]? = some l → ∃ v, cs[o + j]? = some v ∧ WT w K l v (ns j)) ∧ sumTo ns lay.length ≤ B

theorem Typed.app {K : Nat} {l1 l2 : List Lay} {cs : List Value} {o B1 B2 : Nat} (h1 : Typed w K l1 cs o B1) (h2 : Typed w K l2 cs (o + l1.length) B2) : Typed w K (l1 ++ l2) cs o (B1 + B2) := by
  obtain ⟨n1, a1, b1⟩ := h1
  obtain ⟨n2, a2, b2⟩ := h2
  refine ⟨fun j => if j < l1.length then n1 j else n2 (j - l1.length), fun j l hj => ?_, ?_⟩
  · by_cases hlt : j < l1.length
    · rw [List.getElem?_append_left hlt] at hj
      obtain ⟨v, q1, q2⟩ := a1 j l hj
      exact ⟨v, q1, by simp only [if_pos hlt]; exact q2⟩
    · rw [List.getElem?_append_right (by omega)] at hj
      obtain ⟨v, q1, q2⟩ := a2 (j - l1.length) l hj
      exact ⟨v, by rw [show o + j = o + l1.length + (j - l1.length) by omega]; exact q1, by simp only [if_neg hlt]; exact q2⟩
  · rw [List.length_append, sumTo_add]
    have e1 : sumTo (fun j => if j < l1.length then n1 j else n2 (j - l1.length)) l1.length = sumTo n1 l1.length := sumTo_congr fun k hk => by rw [if_pos hk]
    have e2 : sumTo (fun j => (fun j => if j < l1.length then n1 j else n2 (j - l1.length)) (l1.length + j)) l2.length = sumTo n2 l2.length := sumTo_congr fun k hk => by
      simp only [if_neg (show ¬ l1.length + k < l1.length by omega), Nat.add_sub_cancel_left]
    rw [e1, e2]; omega

theorem trod_typed {K : Nat} : ∀ (n : Nat) (t : TypeId) (lay : List Lay), layOf P n t = some lay → ∀ (fuel : Nat) (cs : List Value) (x : DataW H × List MemPlace), DataW.trod enc P w 0 (fun _ => true) true fuel t cs = some x → uptoBulk x.1 ≤ K →
    cs.length = lay.length ∧ Typed w K lay cs 0 (uptoBulk x.1) := by
  intro n
  induction n with
  | zero => intro t lay h; cases h
  | succ n ih =>
    intro t lay hlay fuel cs x hx hK
    have one : ∀ {l : Lay} {v : Value} {b : Nat}, WT w K l v 1 → 1 ≤ b → Typed w K [l] [v] 0 b := fun hw hb => ⟨fun _ => 1, fun j l' hj => by
      cases j with
      | zero => simp only [List.getElem?_cons_zero, Option.some.injEq] at hj; subst hj; exact ⟨_, rfl, hw⟩
      | succ j => simp at hj, by simpa [sumTo] using hb⟩
    unfold layOf at hlay
    split at hlay
    · rename_i hu
      cases hlay
      obtain ⟨b, rfl, rfl⟩ := DataW.trod_bool hu hx
      exact ⟨rfl, one .bool (bulk_pos _)⟩
    · rename_i k hu
      cases hlay
      obtain ⟨m, rfl, rfl, hw⟩ := DataW.trod_int hu hx
      exact ⟨rfl, one (.int (wf_int hw)) (bulk_pos _)⟩
    · rename_i hu
      cases hlay
      obtain ⟨s, rfl, rfl, _⟩ := DataW.trod_string hu hx
      refine ⟨rfl, one (.str ?_) (bulk_pos _)⟩
      simp only [uptoBulk, Array.length_toList] at hK
      have : s.size = s.data.size := rfl
      omega
    · rename_i e hu
      split at hlay
      · rename_i l hle
        simp only [Option.ite_none_right_eq_some, Option.some.injEq] at hlay
        obtain ⟨⟨hz, hz0⟩, rfl⟩ := hlay
        rcases DataW.trod_slice hu hx with ⟨rfl, rfl⟩ | ⟨a, len, cap, elems, rest, m, rfl, rfl, rfl, _, hlc, _, hel, h1, h2, _⟩
        · exact ⟨rfl, one .nil (bulk_pos _)⟩
        · refine ⟨rfl, ?_⟩
          obtain ⟨hrl, h2⟩ := h2 rfl
          simp only [uptoBulk] at hK ⊢
          by_cases hc0 : cap = 0
          · have hl0 : len = 0 := by omega
            subst hc0; subst hl0
            exact one .sl0 (by omega)
          · -- the elements, spare ones too
            have hall : (elems ++ rest).length = cap := by rw [List.length_append, hel, hrl]; omega
            have hget : ∀ i, i < cap → ∃ y, (elems ++ rest)[i]? = some y ∧ (w.cells? 0 (a.add (i * P.cellsOf e)) (P.cellsOf e)).bind (DataW.trod enc P w 0 (fun _ => true) true m e) = some y := by
              intro i hi
              by_cases hil : i < len
              · have := h1 i hil
                have hin : i < elems.length := by omega
                rw [List.getElem?_eq_getElem hin] at this
                exact ⟨_, by rw [List.getElem?_append_left hin]; exact List.getElem?_eq_getElem hin, this⟩
              · have := h2 (i - len) (by omega)
                have hin : i - len < rest.length := by omega
                rw [List.getElem?_eq_getElem hin, show len + (i - len) = i by omega] at this
                exact ⟨_, by rw [List.getElem?_append_right (by omega), hel]; exact List.getElem?_eq_getElem hin, this⟩
            have hsum : uptoBulkAll ((elems ++ rest).map (·.1)) = uptoBulkAll (elems.map (·.1)) + uptoBulkAll (rest.map (·.1)) := by
              rw [List.map_append]
              induction elems.map (·.1) with
              | nil => simp [uptoBulkAll]
              | cons y ys ihy => simp only [List.cons_append, uptoBulkAll, ihy]; omega
            have hty : ∀ i, i < cap → ∃ g : Nat → Nat, (∀ (j : Nat) (l' : Lay), l[j]? = some l' → ∃ v, w.cell? (a.add (i * l.length + j)) = some v ∧ WT w K l' v (g j)) ∧ ∀ y, (elems ++ rest)[i]? = some y → sumTo g l.length ≤ uptoBulk y.1 := by
              intro i hi
              obtain ⟨y, hy, hyt⟩ := hget i hi
              obtain ⟨cs', hcs, htr⟩ := Option.bind_eq_some_iff.1 hyt
              have hby := bulk_mem hy
              obtain ⟨q1, g, q2, q3⟩ := ih e l hle m cs' y htr (by omega)
              obtain ⟨_, hcl, hcc⟩ := World.cells?_some hcs
              refine ⟨g, fun j l' hj => ?_, fun y' hy' => by rw [hy] at hy'; cases hy'; exact q3⟩
              obtain ⟨v, r1, r2⟩ := q2 j l' hj
              have hj' := (List.getElem?_eq_some_iff.1 hj).1
              have := hcc j (by omega)
              rw [addr_add, ← hz] at this
              rw [Nat.zero_add] at r1
              exact ⟨v, by rw [this]; exact r1, r2⟩
            have hch : ∃ G : Nat → Nat → Nat, ∀ i, i < cap → (∀ (j : Nat) (l' : Lay), l[j]? = some l' → ∃ v, w.cell? (a.add (i * l.length + j)) = some v ∧ WT w K l' v (G i j)) ∧ ∀ y, (elems ++ rest)[i]? = some y → sumTo (G i) l.length ≤ uptoBulk y.1 := by
              refine ⟨fun i => if hi : i < cap then Classical.choose (hty i hi) else fun _ => 0, fun i hi => ?_⟩
              simp only [dif_pos hi]
              exact Classical.choose_spec (hty i hi)
            obtain ⟨G, hG⟩ := hch
            have hmod : ∀ i j, j < l.length → (i * l.length + j) % l.length = j := fun i j hj => by rw [Nat.mul_comm, Nat.mul_add_mod, Nat.mod_eq_of_lt hj]
            have hdiv : ∀ i j, j < l.length → (i * l.length + j) / l.length = i := fun i j hj => by
              rw [Nat.mul_comm, Nat.mul_add_div hz0, Nat.div_eq_of_lt hj, Nat.add_zero]
            have hwt : WT w K (.sl l) (.slice (some a) len cap) (1 + sumTo (fun k => G (k / l.length) (k % l.length)) (len * l.length)) := by
              refine .sl (f := fun k => (w.cell? (a.add k)).getD undef) hlc ?_ (by omega) hz0 (fun k hk => ?_) (fun i hi j l' hj => ?_)
              · have b1 := bulkAll_len ((elems ++ rest).map (·.1))
                rw [List.length_map, hall] at b1
                omega
              · have hk1 : k / l.length < cap := (Nat.div_lt_iff_lt_mul hz0).2 hk
                obtain ⟨v, r1, _⟩ := (hG (k / l.length) hk1).1 (k % l.length) _ (List.getElem?_eq_getElem (Nat.mod_lt _ hz0))
                rw [Nat.div_add_mod'] at r1
                rw [r1]; rfl
              · have hj' := (List.getElem?_eq_some_iff.1 hj).1
                obtain ⟨v, r1, r2⟩ := (hG i hi).1 j l' hj
                simp only [hmod i j hj', hdiv i j hj', r1, Option.getD_some]
                exact r2
            refine ⟨fun _ => 1 + sumTo (fun k => G (k / l.length) (k % l.length)) (len * l.length), fun j l' hj => ?_, ?_⟩
            · cases j with
              | zero => simp only [List.getElem?_cons_zero, Option.some.injEq] at hj; subst hj; exact ⟨_, rfl, hwt⟩
              | succ j => simp at hj
            · simp only [List.length_cons, List.length_nil, Nat.zero_add, sumTo]
              rw [sumTo_mul]
              have : sumTo (fun i => sumTo (fun j => (fun k => G (k / l.length) (k % l.length)) (i * l.length + j)) l.length) len ≤ uptoBulkAll (elems.map (·.1)) := by
                rw [bulkAll_sum, hel]
                refine sumTo_le fun i hi => ?_
                have hin : i < elems.length := by omega
                rw [List.getElem?_eq_getElem hin]
                have := (hG i (by omega)).2 elems[i] (by rw [List.getElem?_append_left hin]; exact List.getElem?_eq_getElem hin)
                refine Nat.le_trans (Nat.le_of_eq (sumTo_congr fun j hj => ?_)) this
                simp only [hmod i j hj, hdiv i j hj]
              exact Nat.le_trans (Nat.add_le_add_left this 1) (by omega)
      · cases hlay
    · rename_i fs hu
      split at hlay
      · rename_i l hfs
        simp only [Option.ite_none_right_eq_some, Option.some.injEq] at hlay
        obtain ⟨hlen, rfl⟩ := hlay
        obtain ⟨xs, m, rfl, rfl, hcl, hxl, hxs⟩ := DataW.trod_struct hu hx
        simp only [uptoBulk] at hK ⊢
        have key : ∀ (gs : List Field) (o : Nat) (lay : List Lay), layFs P (layOf P n) gs o = some lay → ∀ (ys : List (DataW H × List MemPlace)), ys.length = gs.length →
            (∀ (i : Nat) (f : Field), gs[i]? = some f → DataW.trod enc P w 0 (fun _ => true) true m f.type ((cs.drop f.offset).take (P.cellsOf f.type)) = ys[i]?) → uptoBulkAll (ys.map (·.1)) ≤ K → Typed w K lay cs o (uptoBulkAll (ys.map (·.1))) := by
          intro gs
          induction gs with
          | nil =>
            intro o lay hl ys hy _ _
            simp only [layFs, Option.some.injEq] at hl; subst hl
            exact ⟨fun _ => 0, fun j l hj => by simp at hj, by simp [sumTo]⟩
          | cons f gs ihg =>
            intro o lay hl ys hy hys hb
            cases ys with
            | nil => simp at hy
            | cons y ys =>
              simp only [layFs] at hl
              split at hl
              · rename_i l1 hl1
                simp only [Option.ite_none_right_eq_some, Option.map_eq_some_iff] at hl
                obtain ⟨⟨ho, hz⟩, l2, hl2, rfl⟩ := hl
                simp only [List.map_cons, uptoBulkAll] at hb ⊢
                have h0 := hys 0 f rfl
                simp only [List.getElem?_cons_zero] at h0
                obtain ⟨q1, g, q2, q3⟩ := ih f.type l1 hl1 m _ y h0 (by omega)
                refine Typed.app ⟨g, fun j l' hj => ?_, q3⟩ (ihg (o + l1.length) l2 hl2 ys (by simpa using hy) (fun i f' hf' => by have := hys (i + 1) f' (by simpa using hf'); simpa using this) (by omega))
                obtain ⟨v, r1, r2⟩ := q2 j l' hj
                have hj' := (List.getElem?_eq_some_iff.1 hj).1
                rw [Nat.zero_add, List.getElem?_take, if_pos (by omega), List.getElem?_drop, ho] at r1
                exact ⟨v, r1, r2⟩
              · cases hl
        obtain ⟨ns, k1, k2⟩ := key fs.toList 0 l hfs xs (by simpa using hxl) (fun i f hf => hxs i f (by simpa using hf)) (by omega)
        exact ⟨by omega, ns, k1, by omega⟩
      · cases hlay
    · cases hlay

theorem Tr.grown {φ φ' : Phi} {h h' : EH} {w w' : World} (t : Tr φ h w φ' h' w') (hn : ∀ (b : Nat) (o : EObj), h[b]? = some o → o.wrt = false) : Grown w w' := by
  have hk : ∀ k, k < w.heap.size → w'.heap[k]? = w.heap[k]? := fun k hk => t.kept k hk fun b loc o e ho hw => by rw [hn b o ho] at hw; cases hw
  refine ⟨⟨t.os, t.output, fun i hi => ?_⟩, fun a => ?_, t.size⟩
  · rw [hk i hi]
    have := (World.keptBut_refl w (fun _ => False)).2.2 i hi
    exact this
  · rw [frozen?_eq, frozen?_eq, t.frz]

theorem Tr.same {φ φ' : Phi} {h h' : EH} {w w' : World} (t : Tr φ h w φ' h' w') (hn : ∀ (b : Nat) (o : EObj), h[b]? = some o → o.wrt = false) (x : MemPlace) (hx : x.block < w.heap.size) : w.sameAt w' x := by
  have hk : ∀ k, k < w.heap.size → w'.heap[k]? = w.heap[k]? := fun k hk => t.kept k hk fun b loc o e ho hw => by rw [hn b o ho] at hw; cases hw
  cases x with
  | cell b off =>
    have hx' : b < w.heap.size := hx
    show w'.cell? _ = w.cell? _
    unfold World.cell?
    simp only [hk b hx']
  | map b => exact hk b hx

mutual
theorem bk_wk {hr : RO} : ∀ (l : Lay) (v : Value), bk hr (wk l) v = bk hr l v
  | .int _ _, _ => rfl
  | .bool, _ => rfl
  | .str, _ => rfl
  | .sl e, v => by
    simp only [wk, bk, wkL_len]
    congr 1
    exact sumTo_congr fun i _ => bkL_wk e _ _ _
theorem bkL_wk {hr : RO} : ∀ (e : List Lay) (a : Option Addr) (k j : Nat), bkL hr (wkL e) a k j = bkL hr e a k j
  | [], _, _, _ => rfl
  | l :: e, a, k, j => by simp only [wkL, bkL, bk_wk l, bkL_wk e]
end

theorem cell_at {hr : RO} {lay : List Lay} {vs : List Value} (hc : ∀ (j : Nat) (l : Lay), lay[j]? = some l → ∃ v, vs[j]? = some v ∧ Cell hr l v) {j : Nat} {l : Lay} {v : Value} (h1 : lay[j]? = some l) (h2 : vs[j]? = some v) : Cell hr l v := by
  obtain ⟨w, e, c⟩ := hc j l h1
  rw [h2] at e; cases e
  exact c

theorem Cell.sl_inv {hr : RO} {e : List Lay} {v : Value} (c : Cell hr (.sl e) v) : ∃ a n m, v = .slice a n m := by cases c <;> exact ⟨_, _, _, rfl⟩
theorem Cell.int_inv {hr : RO} {k : IntKind} {s : Bool} {v : Value} (c : Cell hr (.int k s) v) : ∃ x, v = .int k x := by cases c; exact ⟨_, rfl⟩
theorem Cell.bool_inv {hr : RO} {v : Value} (c : Cell hr .bool v) : ∃ x, v = .bool x := by cases c; exact ⟨_, rfl⟩

theorem law_calls {g : FuncId} {t : TypeId} {lay : List Lay} {n : Nat} (hlay : layOf P n t = some lay) {W : World} {cs : Array Value} {d : DataW H} {p : List MemPlace} (ht : DataW.Trod enc P W 0 (fun _ => true) true t (.agg cs) d p) (hb : uptoBulk d ≤ 1048576)
    (ct : ∀ (hr : RO) (h : EH) (vs : List Value), (∀ b o, hr b = some o → h[b]? = some o) → ClosedR hr → vs.length = lay.length → (∀ (j : Nat) (l : Lay), lay[j]? = some l → ∃ v, vs[j]? = some v ∧ Cell hr l v) →
      sumTo (fun j => match lay[j]?, vs[j]? with | some l, some v => bk hr l v | _, _ => 0) lay.length ≤ 1048576 → Ct P g ⟨[.agg ⟨vs⟩]⟩ h [] (fun _ : Unit => .bool true) (fun _ => True) (fun _ => [])) :
    Calls P g #[.agg cs] W fun e W' => e = .returned (.bool true) ∧ Grown W W' ∧ ∀ x : MemPlace, x.block < W.heap.size → W.sameAt W' x := by
  obtain ⟨fuel, hx⟩ := ht
  obtain ⟨hl, ns, h1, h2⟩ := trod_typed n t lay hlay fuel _ _ hx hb
  simp only [Value.cells, Array.length_toList, Nat.zero_add, Array.getElem?_toList] at hl h1
  obtain ⟨new, φ, vs, _, A, hvl, hvs⟩ := build_row (w := W) (N := lay.length) (lay := fun k => lay[k]?) (f := fun k => (cs[k]?).getD undef) (ns := ns) (fun k hk l hlk h φ A => by
    obtain ⟨v, q1, q2⟩ := h1 k l hlk
    rw [q1]
    exact build (by omega) q2 h φ A) (fun k hk => ⟨_, List.getElem?_eq_getElem hk⟩) [] (fun _ => none) (AH.nil W) lay.length (Nat.le_refl _)
  simp only [List.nil_append] at A hvs
  have hrom : ∀ (b : Nat) (o : EObj), (fun b : Nat => new[b]?) b = some o → new[b]? = some o := fun _ _ e => e
  have hcl : ClosedR (fun b : Nat => new[b]?) := fun b o e => by
    obtain ⟨vs', opn, rfl, hf⟩ := A.ro b o e
    exact ⟨vs', opn, false, rfl, hf⟩
  obtain ⟨out, h', s, q⟩ := ct (fun b : Nat => new[b]?) new vs hrom hcl hvl (fun j l hj => by
    obtain ⟨v, p1, p2, _⟩ := hvs j (List.getElem?_eq_some_iff.1 hj).1 l hj
    exact ⟨v, p1, p2⟩) (Nat.le_trans (sumTo_le fun j hj => by
      obtain ⟨v, p1, _, _, p4⟩ := hvs j hj _ (List.getElem?_eq_getElem hj)
      rw [List.getElem?_eq_getElem hj, p1]
      exact p4) (Nat.le_trans h2 hb))
  cases out with
  | pan v => exact q.elim
  | ret v =>
    obtain ⟨_, rfl, _, _⟩ := q
    have hrel : VsRel φ #[.agg ⟨vs⟩] #[.agg cs] := VsRel.one (.agg (by simp only [List.size_toArray]; omega) fun i a b => by
      simp only [List.size_toArray] at a
      obtain ⟨v, p1, _, p3, _⟩ := hvs i (by omega) _ (List.getElem?_eq_getElem (by omega))
      rw [List.getElem?_eq_getElem a] at p1
      cases p1
      simp only [List.getElem_toArray]
      rw [Array.getElem?_eq_getElem b, Option.getD_some] at p3
      exact p3)
    have hnw : ∀ (b : Nat) (o : EObj), new[b]? = some o → o.wrt = false := fun b o e => by obtain ⟨vs', opn, rfl, _⟩ := A.ro b o e; rfl
    intro fs
    obtain ⟨φ', w', fr, r1, r2, r3, r4, v', r5, r6⟩ := s φ _ W fs A.rel hrel
    have hv : v' = .bool true := by
      cases r5 with
      | base => rfl
    subst hv
    exact ⟨_, w', fr, ⟨rfl, r2.grown hnw, r2.same hnw⟩, r3, r4, r6⟩
end
end Go.E
