/-
  G1: THE WALK'S LAYER: what is known of the heap (Hp), contracts (Ct), and the rules by which a function's code is stepped through.
-/
import Derived.Test.YtenkebdjlajanaaEC
import Derived.IntWalk
set_option linter.all false
set_option linter.constructorNameAsVariable false
set_option linter.unusedSimpArgs false
set_option linter.unusedVariables false
set_option linter.unusedSectionVars false
set_option linter.unnecessarySimpa false
namespace Go.E
open Go

abbrev RO := Nat → Option EObj
abbrev Ents := List (Nat × EObj)

structure Hp (hr : RO) (h0 : EH) (F : List Nat) (L : Ents) (h : EH) : Prop where
  old : ∀ b o, h0[b]? = some o → b ∉ F → h[b]? = some o
  len : h0.length ≤ h.length
  at_ : ∀ p ∈ L, h[p.1]? = some p.2
  nd : (L.map (·.1)).Nodup
  own : ∀ p ∈ L, p.1 ∈ F ∨ h0.length ≤ p.1
  rom : ∀ b o, hr b = some o → h[b]? = some o
  off : ∀ p ∈ L, hr p.1 = none

structure Post (F : List Nat) (h h' : EH) (N : Ents) : Prop where
  old : ∀ b o, h[b]? = some o → b ∉ F → h'[b]? = some o
  len : h.length ≤ h'.length
  at_ : ∀ p ∈ N, h'[p.1]? = some p.2
  nd : (N.map (·.1)).Nodup
  own : ∀ p ∈ N, p.1 ∈ F ∨ h.length ≤ p.1

inductive At : Ents → Nat → EObj → Prop
  | z {b : Nat} {o : EObj} {L : Ents} : At ((b, o) :: L) b o
  | s {b : Nat} {o : EObj} {L : Ents} {p : Nat × EObj} : At L b o → At (p :: L) b o

inductive Upd : Ents → Nat → EObj → EObj → Ents → Prop
  | z {b : Nat} {o o' : EObj} {L : Ents} : Upd ((b, o) :: L) b o o' ((b, o') :: L)
  | s {b : Nat} {o o' : EObj} {L L' : Ents} {p : Nat × EObj} : Upd L b o o' L' → Upd (p :: L) b o o' (p :: L')

inductive Rem : Ents → Nat × EObj → Ents → Prop
  | z {p : Nat × EObj} {L : Ents} : Rem (p :: L) p L
  | s {p q : Nat × EObj} {L L' : Ents} : Rem L p L' → Rem (q :: L) p (q :: L')

inductive Take : Ents → Ents → Ents → Prop
  | nil {L : Ents} : Take L [] L
  | cons {L L1 L2 : Ents} {p : Nat × EObj} {ps : Ents} : Rem L p L1 → Take L1 ps L2 → Take L (p :: ps) L2

inductive UpdL {α : Type} : List α → Nat → α → List α → Prop
  | z {x y : α} {l : List α} : UpdL (x :: l) 0 y (y :: l)
  | s {x y : α} {l l' : List α} {n : Nat} : UpdL l n y l' → UpdL (x :: l) (n + 1) y (x :: l')

theorem At.mem {L : Ents} {b : Nat} {o : EObj} (a : At L b o) : (b, o) ∈ L := by
  induction a with
  | z => exact .head _
  | s _ ih => exact .tail _ ih

theorem Upd.perm {L L' : Ents} {b : Nat} {o o' : EObj} (u : Upd L b o o' L') : L'.map (·.1) = L.map (·.1) ∧ (b, o) ∈ L ∧ ∀ p ∈ L', p = (b, o') ∨ p ∈ L := by
  induction u with
  | z => exact ⟨rfl, .head _, fun p hp => by rcases List.mem_cons.1 hp with rfl | h; exact .inl rfl; exact .inr (.tail _ h)⟩
  | s _ ih => exact ⟨by simp [ih.1], .tail _ ih.2.1, fun p hp => by
      rcases List.mem_cons.1 hp with rfl | h
      · exact .inr (.head _)
      · rcases ih.2.2 p h with h | h
        · exact .inl h
        · exact .inr (.tail _ h)⟩

theorem Rem.perm {L L' : Ents} {p : Nat × EObj} (r : Rem L p L') : L.Perm (p :: L') := by
  induction r with
  | z => exact .refl _
  | s _ ih => exact (ih.cons _).trans (.swap _ _ _)

theorem Take.perm {L L' ps : Ents} (t : Take L ps L') : L.Perm (ps ++ L') := by
  induction t with
  | nil => exact .refl _
  | cons r _ ih => exact r.perm.trans (ih.cons _)

theorem UpdL.eq {α : Type} {l l' : List α} {n : Nat} {y : α} (u : UpdL l n y l') : l' = l.set n y ∧ n < l.length := by
  induction u with
  | z => exact ⟨rfl, by simp⟩
  | s _ ih => exact ⟨by simp [ih.1], by simp; exact ih.2⟩

theorem Hp.lt {hr : RO} {h0 : EH} {F : List Nat} {L : Ents} {h : EH} (H : Hp hr h0 F L h) {p : Nat × EObj} (hp : p ∈ L) : p.1 < h.length :=
  (List.getElem?_eq_some_iff.1 (H.at_ p hp)).1

theorem Hp.get {hr : RO} {h0 : EH} {F : List Nat} {L : Ents} {h : EH} (H : Hp hr h0 F L h) {b : Nat} {o : EObj} (a : At L b o) : h[b]? = some o := H.at_ _ a.mem

theorem Hp.start {hr : RO} {h : EH} (hrom : ∀ b o, hr b = some o → h[b]? = some o) : Hp hr h [] [] h :=
  ⟨fun _ _ e _ => e, Nat.le_refl _, by simp, by simp, by simp, hrom, by simp⟩

theorem Hp.alloc {hr : RO} {h0 : EH} {F : List Nat} {L : Ents} {h : EH} (H : Hp hr h0 F L h) (o : EObj) : Hp hr h0 F ((h.length, o) :: L) (h ++ [o]) := by
  refine ⟨fun b x e hb => ?_, ?_, fun p hp => ?_, ?_, fun p hp => ?_, fun b x e => ?_, fun p hp => ?_⟩
  · exact app_old (H.old b x e hb)
  · have := H.len; simp; omega
  · rcases List.mem_cons.1 hp with rfl | hp
    · exact app_new
    · exact app_old (H.at_ p hp)
  · simp only [List.map_cons, List.nodup_cons]
    refine ⟨fun hm => ?_, H.nd⟩
    obtain ⟨p, hp, e⟩ := List.mem_map.1 hm
    have := H.lt hp
    omega
  · rcases List.mem_cons.1 hp with rfl | hp
    · exact .inr H.len
    · exact H.own p hp
  · exact app_old (H.rom b x e)
  · rcases List.mem_cons.1 hp with rfl | hp
    · cases hx : hr h.length with
      | none => rfl
      | some o =>
        have := get_lt (H.rom _ _ hx)
        omega
    · exact H.off p hp

theorem Hp.set {hr : RO} {h0 : EH} {F : List Nat} {L L' : Ents} {h : EH} {b : Nat} {o o' : EObj} (H : Hp hr h0 F L h) (u : Upd L b o o' L') : Hp hr h0 F L' (h.set b o') := by
  obtain ⟨hk, hm, hL⟩ := u.perm
  have hb := H.at_ _ hm
  have key : ∀ p ∈ L', p.1 ∈ L.map (·.1) := fun p hp => by rw [← hk]; exact List.mem_map_of_mem hp
  have oth : ∀ p ∈ L', ∃ q ∈ L, q.1 = p.1 := fun p hp => by obtain ⟨q, h1, h2⟩ := List.mem_map.1 (key p hp); exact ⟨q, h1, h2⟩
  refine ⟨fun c x e hc => ?_, by simpa using H.len, fun p hp => ?_, hk ▸ H.nd, fun p hp => ?_, fun c x e => ?_, fun p hp => ?_⟩
  · have hne : c ≠ b := by
      rintro rfl
      rcases H.own _ hm with h1 | h1
      · exact hc h1
      · have := get_lt e; omega
    exact set_other (H.old c x e hc) hne
  · by_cases hpb : p.1 = b
    · rcases hL p hp with rfl | h1
      · exact set_same hb
      · -- an entry of L' at b is the new one
        have : p = (b, o') := by
          have hnd : (L'.map (·.1)).Nodup := hk ▸ H.nd
          have hin : (b, o') ∈ L' := by
            clear hL key oth hk hnd hm hb hp h1 hpb H
            induction u with
            | z => exact .head _
            | s _ ih => exact .tail _ ih
          have inj : ∀ (l : Ents), (l.map (·.1)).Nodup → ∀ x ∈ l, ∀ y ∈ l, x.1 = y.1 → x = y := by
            intro l
            induction l with
            | nil => intro _ x hx; cases hx
            | cons z l ih =>
              intro hd x hx y hy e
              simp only [List.map_cons, List.nodup_cons] at hd
              rcases List.mem_cons.1 hx with u | u <;> rcases List.mem_cons.1 hy with v | v
              · rw [u, v]
              · subst u; exact (hd.1 (List.mem_map.2 ⟨y, v, e.symm⟩)).elim
              · subst v; exact (hd.1 (List.mem_map.2 ⟨x, u, e⟩)).elim
              · exact ih hd.2 x u y v e
          exact inj _ hnd p hp _ hin hpb
        rw [this]; exact set_same hb
    · rcases hL p hp with rfl | h1
      · exact absurd rfl hpb
      · exact set_other (H.at_ p h1) hpb
  · obtain ⟨q, hq, e⟩ := oth p hp
    rw [← e]; exact H.own q hq
  · have hne : c ≠ b := by
      rintro rfl
      have := H.off _ hm
      simp only at this
      rw [this] at e; cases e
    exact set_other (H.rom c x e) hne
  · obtain ⟨q, hq, e⟩ := oth p hp
    rw [← e]; exact H.off q hq

theorem Hp.sub {hr : RO} {h0 : EH} {F : List Nat} {L ps L1 : Ents} {h : EH} (H : Hp hr h0 F L h) (t : Take L ps L1) : Hp hr h0 F ps h := by
  have hm : ∀ p ∈ ps, p ∈ L := fun p hp => t.perm.symm.mem_iff.1 (by simp [hp])
  refine ⟨H.old, H.len, fun p hp => H.at_ p (hm p hp), ?_, fun p hp => H.own p (hm p hp), H.rom, fun p hp => H.off p (hm p hp)⟩
  have := (t.perm.map (·.1)).nodup_iff.1 H.nd
  rw [List.map_append] at this
  exact (List.nodup_append.1 this).1

theorem Hp.call {hr : RO} {h0 : EH} {F : List Nat} {L ps L1 N : Ents} {h h' : EH} (H : Hp hr h0 F L h) (t : Take L ps L1) (q : Post (ps.map (·.1)) h h' N) : Hp hr h0 F (N ++ L1) h' := by
  have hps : ∀ p ∈ ps, p ∈ L := fun p hp => t.perm.symm.mem_iff.1 (by simp [hp])
  have hL1 : ∀ p ∈ L1, p ∈ L := fun p hp => t.perm.symm.mem_iff.1 (by simp [hp])
  have hnd := (t.perm.map (·.1)).nodup_iff.1 H.nd
  rw [List.map_append, List.nodup_append] at hnd
  have key : ∀ b ∈ ps.map (·.1), ∃ o, (b, o) ∈ L := fun b hb => by
    obtain ⟨p, hp, rfl⟩ := List.mem_map.1 hb
    exact ⟨p.2, hps p hp⟩
  refine ⟨fun b o e hb => ?_, Nat.le_trans H.len q.len, fun p hp => ?_, ?_, fun p hp => ?_, fun b o e => ?_, fun p hp => ?_⟩
  · refine q.old b o (H.old b o e hb) fun hm => ?_
    obtain ⟨o', ho⟩ := key b hm
    rcases H.own _ ho with h1 | h1
    · exact hb h1
    · have := get_lt e; omega
  · rcases List.mem_append.1 hp with hp | hp
    · exact q.at_ p hp
    · exact q.old _ _ (H.at_ p (hL1 p hp)) fun hm => hnd.2.2 _ hm _ (List.mem_map_of_mem hp) rfl
  · rw [List.map_append, List.nodup_append]
    refine ⟨q.nd, hnd.2.1, fun a ha b hb e => ?_⟩
    subst e
    obtain ⟨p, hp, rfl⟩ := List.mem_map.1 ha
    obtain ⟨r, hr', e⟩ := List.mem_map.1 hb
    rcases q.own p hp with h1 | h1
    · exact hnd.2.2 _ h1 _ hb rfl
    · have := H.lt (hL1 r hr')
      omega
  · rcases List.mem_append.1 hp with hp | hp
    · rcases q.own p hp with h1 | h1
      · obtain ⟨o', ho⟩ := key _ h1
        have := H.own _ ho
        exact this
      · exact .inr (Nat.le_trans H.len h1)
    · exact H.own p (hL1 p hp)
  · refine q.old b o (H.rom b o e) fun hm => ?_
    obtain ⟨o', ho⟩ := key b hm
    have := H.off _ ho
    simp only at this
    rw [this] at e; cases e
  · rcases List.mem_append.1 hp with hp | hp
    · rcases q.own p hp with h1 | h1
      · obtain ⟨o', ho⟩ := key _ h1
        have := H.off _ ho
        exact this
      · cases hx : hr p.1 with
        | none => rfl
        | some o =>
          have := get_lt (H.rom _ _ hx)
          omega
    · exact H.off p (hL1 p hp)

theorem Hp.post {hr : RO} {h0 : EH} {F : List Nat} {L N L1 : Ents} {h : EH} (H : Hp hr h0 F L h) (t : Take L N L1) : Post F h0 h N := by
  have G := H.sub t
  exact ⟨G.old, G.len, G.at_, G.nd, G.own⟩

theorem Post.refl (h : EH) : Post [] h h [] := ⟨fun _ _ e _ => e, Nat.le_refl _, by simp, by simp, by simp⟩

theorem Post.weaken {F F' : List Nat} {h h' : EH} {N N' L1 : Ents} (q : Post F h h' N) (hF : ∀ b ∈ F, b ∈ F') (t : Take N N' L1) : Post F' h h' N' := by
  have hm : ∀ p ∈ N', p ∈ N := fun p hp => t.perm.symm.mem_iff.1 (by simp [hp])
  refine ⟨fun b o e hb => q.old b o e fun h1 => hb (hF b h1), q.len, fun p hp => q.at_ p (hm p hp), ?_, fun p hp => ?_⟩
  · have := (t.perm.map (·.1)).nodup_iff.1 q.nd
    rw [List.map_append] at this
    exact (List.nodup_append.1 this).1
  · rcases q.own p (hm p hp) with h1 | h1
    · exact .inl (hF _ h1)
    · exact .inr h1

def cL : Code → Code
  | .seq a _ => a
  | .cond _ a _ => a
  | .block _ a => a
  | .loop a => a
  | .scope a => a
  | .rangeFunc _ _ a _ => a
  | c => c
def cR : Code → Code
  | .seq _ b => b
  | .cond _ _ b => b
  | .rangeFunc _ _ _ b => b
  | c => c
def cO : Code → Array Oper
  | .region _ ops _ => ops
  | _ => #[]
def bodyC (f : Func) : Code := match f.body with | some c => c | none => .skip

section
variable (P : Program) (N : Nat) (ro : Option Nat)

def GW (c : Code) (f : Nat → Value) (ds : List Deferred) (rc : Option (Value × Bool)) (C : EH → Prop) (Q : Ex → St → Prop) : Prop :=
  codeOk N c = true → ∀ h, C h → W P N ro c ⟨f, ds, h, rc⟩ Q

def GL (ops : Array Oper) (i : Nat) (f : Nat → Value) (ds : List Deferred) (rc : Option (Value × Bool)) (C : EH → Prop) (Q : Ex → St → Prop) : Prop :=
  regOk N ops = true → ∀ h, C h → WO P N ro ops i ⟨f, ds, h, rc⟩ Q

def GQ (ex : Ex) (f : Nat → Value) (ds : List Deferred) (rc : Option (Value × Bool)) (C : EH → Prop) (Q : Ex → St → Prop) : Prop :=
  ∀ h, C h → Q ex ⟨f, ds, h, rc⟩
end

section
variable {P : Program} {N : Nat} {ro : Option Nat} {f : Nat → Value} {ds : List Deferred} {rc : Option (Value × Bool)} {C : EH → Prop} {Q : Ex → St → Prop} {K : St → Prop}

theorem GW.seq {a b : Code} (g : GW P N ro a f ds rc C (onward (fun st => codeOk N b = true → W P N ro b st Q) Q)) : GW P N ro (.seq a b) f ds rc C Q := by
  intro hk h hC
  simp only [codeOk, Bool.and_eq_true] at hk
  refine W.seq ((g hk.1 h hC).mono fun ex st q => ?_)
  cases ex with
  | normal => exact q hk.2
  | _ => exact q

theorem GW.toSeq {c : Code} (e : c = .seq (cL c) (cR c)) (g : GW P N ro (cL c) f ds rc C (onward (fun st => codeOk N (cR c) = true → W P N ro (cR c) st Q) Q)) : GW P N ro c f ds rc C Q := by
  rw [e]; exact .seq g

theorem GW.toBlock {c : Code} {id : Nat} (e : c = .block id (cL c)) (g : GW P N ro (cL c) f ds rc C (outside id Q)) : GW P N ro c f ds rc C Q := by
  intro hk h hC
  rw [e] at hk ⊢
  simp only [codeOk] at hk
  exact W.block (g hk h hC)

theorem GW.toT {c : Code} {x : Operand} (e : c = .cond x (cL c) (cR c)) (hx : ev f x = .bool true) (g : GW P N ro (cL c) f ds rc C Q) : GW P N ro c f ds rc C Q := by
  intro hk h hC
  rw [e] at hk ⊢
  simp only [codeOk, Bool.and_eq_true] at hk
  exact W.cond hk.1.1 hx (fun _ => g hk.1.2 h hC) (by simp)

theorem GW.toF {c : Code} {x : Operand} (e : c = .cond x (cL c) (cR c)) (hx : ev f x = .bool false) (g : GW P N ro (cR c) f ds rc C Q) : GW P N ro c f ds rc C Q := by
  intro hk h hC
  rw [e] at hk ⊢
  simp only [codeOk, Bool.and_eq_true] at hk
  exact W.cond hk.1.1 hx (by simp) (fun _ => g hk.2 h hC)

theorem GW.toC {c : Code} {x : Operand} {t : Bool} (e : c = .cond x (cL c) (cR c)) (hx : ev f x = .bool t) (g1 : t = true → GW P N ro (cL c) f ds rc C Q) (g2 : t = false → GW P N ro (cR c) f ds rc C Q) : GW P N ro c f ds rc C Q := by
  cases t with
  | true => exact .toT e hx (g1 rfl)
  | false => exact .toF e hx (g2 rfl)

theorem GW.toD {c : Code} {x : Operand} {p : Prop} [Decidable p] (e : c = .cond x (cL c) (cR c)) (hx : ev f x = .bool (decide p)) (g1 : p → GW P N ro (cL c) f ds rc C Q) (g2 : ¬p → GW P N ro (cR c) f ds rc C Q) : GW P N ro c f ds rc C Q :=
  .toC e hx (fun h => g1 (by simpa using h)) (fun h => g2 (by simpa using h))

theorem GW.toReg {c : Code} {id : Nat} (e : c = .region id (cO c) false) (g : GL P N ro (cO c) 0 f ds rc C Q) : GW P N ro c f ds rc C Q := by
  intro hk h hC
  rw [e] at hk ⊢
  simp only [codeOk, Bool.and_eq_true] at hk
  exact W.region (g hk.1 h hC)

theorem GW.toSkip {c : Code} (e : c = .skip) (g : GQ .normal f ds rc C Q) : GW P N ro c f ds rc C Q := by
  intro _ h hC; subst e; exact W.skip (g h hC)
theorem GW.toScope {c : Code} (e : c = .scope (cL c)) (g : GW P N ro (cL c) f ds rc C Q) : GW P N ro c f ds rc C Q := by
  intro hk h hC
  rw [e] at hk ⊢
  simp only [codeOk] at hk
  obtain ⟨ex, st', s, q⟩ := g hk h hC
  exact ⟨ex, st', snd_scope s, q⟩
theorem GW.toLabel {c : Code} {l : Nat} (e : c = .label l) (g : GQ .normal f ds rc C Q) : GW P N ro c f ds rc C Q := by
  intro _ h hC; subst e; exact W.label (g h hC)
theorem GW.toExit {c : Code} {id : Nat} (e : c = .exit id) (g : GQ (.exit id) f ds rc C Q) : GW P N ro c f ds rc C Q := by
  intro _ h hC; subst e; exact W.exit (g h hC)
theorem GW.toRet {c : Code} (e : c = .ret) (g : GQ .ret f ds rc C Q) : GW P N ro c f ds rc C Q := by
  intro _ h hC; subst e; exact W.ret (g h hC)

theorem GQ.on {d : Code} (g : GW P N ro d f ds rc C Q) : GQ .normal f ds rc C (onward (fun st => codeOk N d = true → W P N ro d st Q) Q) := fun h hC hk => g hk h hC
theorem GQ.onE {i : Nat} (g : GQ (.exit i) f ds rc C Q) : GQ (.exit i) f ds rc C (onward K Q) := g
theorem GQ.onR (g : GQ .ret f ds rc C Q) : GQ .ret f ds rc C (onward K Q) := g
theorem GQ.outN {id : Nat} (g : GQ .normal f ds rc C Q) : GQ .normal f ds rc C (outside id Q) := g
theorem GQ.outR {id : Nat} (g : GQ .ret f ds rc C Q) : GQ .ret f ds rc C (outside id Q) := g
theorem GQ.outH {id : Nat} (g : GQ .normal f ds rc C Q) : GQ (.exit id) f ds rc C (outside id Q) := fun h hC => by
  simp only [outside, if_true]; exact g h hC
theorem GQ.outM {i id : Nat} (hn : (i == id) = false) (g : GQ (.exit i) f ds rc C Q) : GQ (.exit i) f ds rc C (outside id Q) := fun h hC => by
  have : i ≠ id := by simpa using hn
  simp only [outside, if_neg this]; exact g h hC

def S1 (P : Program) (op : Op) (f : Nat → Value) (C : EH → Prop) (v : Value) (C' : EH → Prop) : Prop := ∀ h, C h → ∃ h', estep P op (ev f) h = some (v, h') ∧ C' h'

def SN (P : Program) (op : Op) (f : Nat → Value) (C : EH → Prop) (v : Nat → Value) (C' : Nat → EH → Prop) : Prop := ∀ h, C h → ∃ a h', estep P op (ev f) h = some (v a, h') ∧ C' a h'

variable {ops : Array Oper} {i : Nat} {d : Option Nat} {op : Op} {ty : TypeId} {pos : String} {aft : Array Edge} {gd : Option (Nat × Bool)} {v : Value} {C' : EH → Prop}

inductive Want (N : Nat) (ops : Array Oper) (f : Nat → Value) : Option (Nat × Bool) → Bool → Prop
  | no : Want N ops f none true
  | yes {j dd : Nat} {w : Bool} (hj : (ops.toList[j]?).bind (·.dst) = some dd) (hN : decide (dd < N) = true) (hf : f dd = .bool w) : Want N ops f (some (j, w)) true
  | not {j dd : Nat} {w : Bool} (hj : (ops.toList[j]?).bind (·.dst) = some dd) (hN : decide (dd < N) = true) (hf : f dd = .bool (!w)) : Want N ops f (some (j, w)) false
  | und {j dd : Nat} {w : Bool} (hj : (ops.toList[j]?).bind (·.dst) = some dd) (hN : decide (dd < N) = true) (hf : f dd = .tuple #[]) : Want N ops f (some (j, w)) false

theorem Want.want {b : Bool} (w : Want N ops f gd b) : wantE N ops f ⟨d, op, ty, pos, aft, gd⟩ = some b := by
  cases w with
  | no => rfl
  | yes hj hN hf =>
    rw [Array.getElem?_toList] at hj
    have hN := of_decide_eq_true hN
    simp only [wantE, hj, hN, if_true, hf]; simp
  | not hj hN hf =>
    rw [Array.getElem?_toList] at hj
    have hN := of_decide_eq_true hN
    simp only [wantE, hj, hN, if_true, hf]; simp
  | und hj hN hf =>
    rw [Array.getElem?_toList] at hj
    have hN := of_decide_eq_true hN
    simp only [wantE, hj, hN, if_true, hf]

theorem GL.one (hi : ops.toList[i]? = some ⟨d, op, ty, pos, aft, gd⟩) (hw : Want N ops f gd true) (s : S1 P op f C v C') (g : GL P N ro ops (i + 1) (setT f d v) ds rc C' Q) : GL P N ro ops i f ds rc C Q := by
  intro hk h hC
  obtain ⟨h', e, hC'⟩ := s h hC
  rw [Array.getElem?_toList] at hi
  exact WO.op hi hw.want (regOk_op hk hi) e (g hk h' hC')

theorem GL.opN {v : Nat → Value} {C' : Nat → EH → Prop} (hi : ops.toList[i]? = some ⟨d, op, ty, pos, aft, gd⟩) (hw : Want N ops f gd true) (s : SN P op f C v C') (g : ∀ a, GL P N ro ops (i + 1) (setT f d (v a)) ds rc (C' a) Q) : GL P N ro ops i f ds rc C Q := by
  intro hk h hC
  obtain ⟨a, h', e, hC'⟩ := s h hC
  rw [Array.getElem?_toList] at hi
  exact WO.op hi hw.want (regOk_op hk hi) e (g a hk h' hC')

theorem GL.skip (hi : ops.toList[i]? = some ⟨d, op, ty, pos, aft, gd⟩) (hw : Want N ops f gd false) (g : GL P N ro ops (i + 1) (setT f d undef) ds rc C Q) : GL P N ro ops i f ds rc C Q := by
  intro hk h hC
  rw [Array.getElem?_toList] at hi
  exact WO.skip hi hw.want (g hk h hC)

theorem GL.done (hi : ops.toList.length = i) (g : GQ .normal f ds rc C Q) : GL P N ro ops i f ds rc C Q := by
  intro hk h hC
  exact WO.done (by simpa using hi) (g h hC)

theorem setT_id {r : Nat} {u : Value} (e : f r = u) : setT f (some r) u = f := by
  funext t
  simp only [setT]
  split
  · rename_i h; rw [h, e]
  · rfl

theorem GL.split (r : Nat) {t : Bool} (e : f r = .bool t) (g1 : t = true → GL P N ro ops i (setT f (some r) (.bool true)) ds rc C Q) (g0 : t = false → GL P N ro ops i (setT f (some r) (.bool false)) ds rc C Q) : GL P N ro ops i f ds rc C Q := by
  cases t with
  | true => have := g1 rfl; rwa [setT_id e] at this
  | false => have := g0 rfl; rwa [setT_id e] at this

theorem GL.splitD (r : Nat) {p : Prop} [Decidable p] (e : f r = .bool (decide p)) (g1 : p → GL P N ro ops i (setT f (some r) (.bool true)) ds rc C Q) (g0 : ¬p → GL P N ro ops i (setT f (some r) (.bool false)) ds rc C Q) : GL P N ro ops i f ds rc C Q :=
  .split r e (fun h => g1 (by simpa using h)) (fun h => g0 (by simpa using h))

theorem GL.weaken (hc : ∀ h, C h → C' h) (g : GL P N ro ops i f ds rc C' Q) : GL P N ro ops i f ds rc C Q := fun hk h hC => g hk h (hc h hC)
theorem GW.weaken {c : Code} (hc : ∀ h, C h → C' h) (g : GW P N ro c f ds rc C' Q) : GW P N ro c f ds rc C Q := fun hk h hC => g hk h (hc h hC)

def Ct (P : Program) (g : FuncId) (args : Array Value) (h : EH) (F : List Nat) {X : Type} (V : X → Value) (R : X → Prop) (N : X → Ents) : Prop :=
  WF P g args h (backTo (fun v h' => ∃ x, v = V x ∧ R x ∧ Post F h h' (N x)) (fun _ _ => False))

def Cp (P : Program) (g : FuncId) (args : Array Value) (h : EH) (F : List Nat) {X Y : Type} (V : X → Value) (R : X → Prop) (N : X → Ents) (U : Y → Value) (S : Y → Prop) (M : Y → Ents) : Prop :=
  WF P g args h (backTo (fun v h' => ∃ x, v = V x ∧ R x ∧ Post F h h' (N x)) (fun v h' => ∃ y, v = U y ∧ S y ∧ Post F h h' (M y)))

theorem Ct.mono {g : FuncId} {args : Array Value} {h : EH} {F : List Nat} {X X' : Type} {V : X → Value} {R : X → Prop} {M : X → Ents} {V' : X' → Value} {R' : X' → Prop} {M' : X' → Ents} (c : Ct P g args h F V R M)
    (hx : ∀ x, R x → ∃ x', V x = V' x' ∧ R' x' ∧ M x = M' x') : Ct P g args h F V' R' M' := by
  refine WF.mono c fun o h' q => ?_
  cases o with
  | ret v =>
    obtain ⟨x, rfl, hR, hP⟩ := q
    obtain ⟨x', e1, e2, e3⟩ := hx x hR
    exact ⟨x', e1, e2, e3 ▸ hP⟩
  | pan v => exact q.elim

theorem Ct.go {g : FuncId} {fn : Func} {args : Array Value} {h : EH} {F : List Nat} {X : Type} {V : X → Value} {R : X → Prop} {M : X → Ents} {hr : RO} {L : Ents} (hf : P.funcs[g]? = some fn) (hb : fn.body = some (bodyC fn)) (hn : Nat.ble args.size fn.ntmps = true) (hk : codeOk fn.ntmps (bodyC fn) = true)
    (H : Hp hr h F L h) (w : GW P fn.ntmps none (bodyC fn) (initF args) [] none (Hp hr h F L) (bodyQ P fn (backTo (fun v h' => ∃ x, v = V x ∧ R x ∧ Post F h h' (M x)) (fun _ _ => False)))) : Ct P g args h F V R M :=
  WF.plain hf hb (Nat.le_of_ble_eq_true hn) (w hk h H)

theorem Cp.go {g : FuncId} {fn : Func} {args : Array Value} {h : EH} {F : List Nat} {X Y : Type} {V : X → Value} {R : X → Prop} {M : X → Ents} {U : Y → Value} {S : Y → Prop} {M' : Y → Ents} {hr : RO} {L : Ents} (hf : P.funcs[g]? = some fn) (hb : fn.body = some (bodyC fn)) (hn : Nat.ble args.size fn.ntmps = true) (hk : codeOk fn.ntmps (bodyC fn) = true)
    (H : Hp hr h F L h) (w : GW P fn.ntmps none (bodyC fn) (initF args) [] none (Hp hr h F L) (bodyQ P fn (backTo (fun v h' => ∃ x, v = V x ∧ R x ∧ Post F h h' (M x)) (fun v h' => ∃ y, v = U y ∧ S y ∧ Post F h h' (M' y))))) : Cp P g args h F V R M U S M' :=
  WF.plain hf hb (Nat.le_of_ble_eq_true hn) (w hk h H)

inductive RsL (P : Program) (N : Nat) (f : Nat → Value) (L : Ents) : List ResultVar → List Value → Prop
  | nil : RsL P N f L [] []
  | tmp {t : Nat} {rs : List ResultVar} {v : Value} {vs : List Value} (hN : decide (t < N) = true) (e : f t = v) (k : RsL P N f L rs vs) : RsL P N f L (.tmp t :: rs) (v :: vs)
  | cell {a b off : Nat} {t : TypeId} {rs : List ResultVar} {v : Value} {vs cs : List Value} {opn : Option Nat} {wr : Bool} (hN : decide (a < N) = true) (e : f a = .pointer (some ⟨b, off, none⟩)) (at_ : At L b (.cells cs opn wr)) (hv : loadV P t cs off = some v) (k : RsL P N f L rs vs) : RsL P N f L (.cell a t :: rs) (v :: vs)
end
end Go.E
namespace Go.E
open Go

def faD (P : Program) (t : TypeId) (k : Nat) : Option Nat :=
  match P.underlying t with
  | some (.struct fs) =>
    match fs[k]? with
    | some fd => match szOf P fd.type with
      | some (_ + 1) => some fd.offset
      | _ => none
    | none => none
  | _ => none

def scD (P : Program) (t : TypeId) : Bool :=
  match P.underlying t, szOf P t with
  | some d, some 1 => !aggD d
  | _, _ => false

def agD (P : Program) (t : TypeId) : Option Nat :=
  match P.underlying t, szOf P t with
  | some d, some n => if aggD d then some n else none
  | _, _ => none

def elD (P : Program) (t : TypeId) : Option Nat :=
  match P.underlying t with
  | some (.slice el) => szOf P el
  | _ => none

def elZ (P : Program) (t : TypeId) : Option (List Value) :=
  match P.underlying t with
  | some (.slice el) => (zeroOf P el).map (·.1.cells.toList)
  | _ => none

def zcD (P : Program) (t : TypeId) : Option (List Value) := (zeroOf P t).map (·.1.cells.toList)

def isStrD (P : Program) (t : TypeId) : Bool := match P.underlying t with | some .string => true | _ => false

def okv (u : Value) : Bool := oneCell u && !isUnk u

section
variable {P : Program} {f : Nat → Value} {C : EH → Prop} {hr : RO} {h0 : EH} {F : List Nat} {L L' : Ents} {x y c i : Operand} {t : TypeId} {v u va vb : Value} {b o n cp k d z : Nat} {opn : Option Nat} {wr : Bool} {vs vs' l : List Value} {kk : IntKind} {p q : Int} {a : Option Addr}

theorem S1.pure {op : Op} (e : ∀ h, estep P op (ev f) h = some (v, h)) : S1 P op f C v C := fun h hC => ⟨h, e h, hC⟩

theorem S1.mv (e : ev f x = v) : S1 P (.move x) f C v C := .pure fun h => by simp only [estep, e]
theorem S1.as (e : ev f x = v) : S1 P (.assign x) f C v C := .pure fun h => by simp only [estep, e]

theorem S1.mvI (e : ev f x = .int kk p) : S1 P (.move x) f C (.int kk p) C := .mv e
theorem S1.mvB {w : Bool} (e : ev f x = .bool w) : S1 P (.move x) f C (.bool w) C := .mv e
theorem S1.mvP (e : ev f x = .pointer a) : S1 P (.move x) f C (.pointer a) C := .mv e
theorem S1.mvL (e : ev f x = .slice a n cp) : S1 P (.move x) f C (.slice a n cp) C := .mv e
theorem S1.mvF {fn : Fn} {fs cs : Array Value} (e : ev f x = .func fn fs cs) : S1 P (.move x) f C (.func fn fs cs) C := .mv e
theorem S1.mvT {a : Array Value} (e : ev f x = .tuple a) : S1 P (.move x) f C (.tuple a) C := .mv e
theorem S1.asI (e : ev f x = .int kk p) : S1 P (.assign x) f C (.int kk p) C := .as e
theorem S1.asB {w : Bool} (e : ev f x = .bool w) : S1 P (.assign x) f C (.bool w) C := .as e
theorem S1.asP (e : ev f x = .pointer a) : S1 P (.assign x) f C (.pointer a) C := .as e
theorem S1.asL (e : ev f x = .slice a n cp) : S1 P (.assign x) f C (.slice a n cp) C := .as e
theorem S1.asF {fn : Fn} {fs cs : Array Value} (e : ev f x = .func fn fs cs) : S1 P (.assign x) f C (.func fn fs cs) C := .as e
theorem S1.pickT (e : ev f c = .bool true) (ea : ev f x = v) : S1 P (.pick c x y) f C v C := .pure fun h => by simp only [estep, e, ePick, ea, if_true, Option.map_some]
theorem S1.pickF (e : ev f c = .bool false) (eb : ev f y = v) : S1 P (.pick c x y) f C v C := .pure fun h => by simp only [estep, e, ePick, eb, Bool.false_eq_true, if_false, Option.map_some]
theorem S1.fa (s : faD P t k = some d) (e : ev f x = .pointer (some ⟨b, o, none⟩)) : S1 P (.fieldAddr t x k) f C (.pointer (some ⟨b, o + d, none⟩)) C := .pure fun h => by
  unfold faD at s
  simp only [estep, e, eFieldAddr]
  split at s
  · rename_i fs hu
    split at s
    · rename_i fd hf
      split at s
      · rename_i n hs
        cases s
        simp only [hu, hf, hs, Option.map_some]
      · simp at s
    · simp at s
  · simp at s

theorem scD_spec (s : scD P t = true) : ∃ d, P.underlying t = some d ∧ szOf P t = some 1 ∧ aggD d = false := by
  unfold scD at s
  split at s
  · rename_i d h1 h2; exact ⟨d, h1, h2, by simpa using s⟩
  · simp at s

theorem agD_spec (s : agD P t = some n) : ∃ d, P.underlying t = some d ∧ szOf P t = some n ∧ aggD d = true := by
  unfold agD at s
  split at s
  · rename_i d m h1 h2
    simp only [Option.ite_none_right_eq_some, Option.some.injEq] at s
    obtain ⟨h3, rfl⟩ := s
    exact ⟨d, h1, h2, h3⟩
  · simp at s

theorem loadV_sc (s : scD P t = true) (g : vs[o]? = some v) : loadV P t vs o = some v := by
  obtain ⟨d, h1, h2, h3⟩ := scD_spec s
  simp only [loadV, h1, h2, h3, Bool.false_eq_true, if_false, g]

theorem loadV_ag (s : agD P t = some n) (hn : o + n ≤ vs.length) : loadV P t vs o = some (.agg ((vs.drop o).take n).toArray) := by
  obtain ⟨d, h1, h2, h3⟩ := agD_spec s
  simp only [loadV, h1, h2, h3, if_true, if_pos hn]

def Kn (C : EH → Prop) (b : Nat) (o : EObj) : Prop := ∀ h, C h → h[b]? = some o
theorem Kn.at {o : EObj} (m : At L b o) : Kn (Hp hr h0 F L) b o := fun _ H => H.get m
theorem Kn.rom {o : EObj} (m : hr b = some o) : Kn (Hp hr h0 F L) b o := fun _ H => H.rom _ _ m
theorem Kn.old {o : EObj} (m : h0[b]? = some o) (hF : b ∉ F) : Kn (Hp hr h0 F L) b o := fun _ H => H.old _ _ m hF
theorem Kn.old0 {o : EObj} (m : h0[b]? = some o) : Kn (Hp hr h0 [] L) b o := fun _ H => H.old _ _ m (by simp)

theorem Hp.ext {h : EH} (H : Hp hr h0 [] L h) : Ext h0 h := fun b o e => H.old b o e (by simp)

theorem S1.ld (s : scD P t = true) (e : ev f x = .pointer (some ⟨b, o, none⟩)) (m : Kn C b (.cells vs opn wr)) (g : vs[o]? = some v) : S1 P (.load t x) f C v C :=
  fun h hC => ⟨h, es_load e (m h hC) (loadV_sc s g), hC⟩

theorem S1.ldW (s : agD P t = some n) (e : ev f x = .pointer (some ⟨b, 0, none⟩)) (m : Kn C b (.cells vs opn wr)) (g : vs.length = n) : S1 P (.load t x) f C (.agg ⟨vs⟩) C :=
  fun h hC => ⟨h, es_load e (m h hC) (by rw [loadV_ag s (by omega), List.drop_zero, ← g, List.take_length]), hC⟩

inductive Cut {α : Type} : List α → Nat → Nat → List α → Prop
  | z {l : List α} : Cut l 0 0 []
  | t {x : α} {l r : List α} {n : Nat} (k : Cut l 0 n r) : Cut (x :: l) 0 (n + 1) (x :: r)
  | s {x : α} {l r : List α} {o n : Nat} (k : Cut l o n r) : Cut (x :: l) (o + 1) n r

theorem Cut.eq {α : Type} {l r : List α} {o n : Nat} (c : Cut l o n r) : r = (l.drop o).take n ∧ o + n ≤ l.length := by
  induction c with
  | z => simp
  | t _ ih => obtain ⟨h1, h2⟩ := ih; subst h1; simp at h2 ⊢; omega
  | s _ ih => obtain ⟨h1, h2⟩ := ih; subst h1; simp at h2 ⊢; omega

theorem S1.ldA (s : agD P t = some n) (e : ev f x = .pointer (some ⟨b, o, none⟩)) (m : Kn C b (.cells vs opn wr)) (g : Cut vs o n l) : S1 P (.load t x) f C (.agg ⟨l⟩) C :=
  fun h hC => ⟨h, es_load e (m h hC) (by rw [loadV_ag s g.eq.2, g.eq.1]), hC⟩

theorem S1.ldRA (s : agD P t = some n) (e : ev f x = .pointer (some ⟨b, o, none⟩)) (m : Kn C b (.cells vs opn wr)) (g : o + n ≤ vs.length) (gl : (vs.drop o).take n = l) : S1 P (.load t x) f C (.agg ⟨l⟩) C :=
  fun h hC => ⟨h, es_load e (m h hC) (by rw [loadV_ag s g, gl]), hC⟩

inductive Spl {α : Type} : List α → Nat → List α → List α → Prop
  | z {l : List α} : Spl l 0 [] l
  | t {x y : α} {l q r : List α} (k : Spl l 0 q r) : Spl (x :: l) 0 (y :: q) (y :: r)
  | s {x : α} {l q r : List α} {o : Nat} (k : Spl l o q r) : Spl (x :: l) (o + 1) q (x :: r)

theorem Spl.eq {l q r : List Value} {o : Nat} (c : Spl l o q r) : r = splice l o q ∧ o + q.length ≤ l.length := by
  induction c with
  | z => simp [splice]
  | t _ ih => obtain ⟨h1, h2⟩ := ih; subst h1; simp [splice] at h2 ⊢; omega
  | s _ ih => obtain ⟨h1, h2⟩ := ih; subst h1; simp [splice] at h2 ⊢; exact ⟨by rw [Nat.add_right_comm]; rfl, by omega⟩

theorem S1.st (s : scD P t = true) (e : ev f x = .pointer (some ⟨b, o, none⟩)) (ey : ev f y = u) (hu : okv u = true) (g : UpdL vs o u vs') (m : Upd L b (.cells vs opn true) (.cells vs' opn true) L') :
    S1 P (.store t x y) f (Hp hr h0 F L) undef (Hp hr h0 F L') := by
  intro h hC
  obtain ⟨d, h1, h2, h3⟩ := scD_spec s
  obtain ⟨rfl, hlt⟩ := g.eq
  have hb := hC.at_ _ m.perm.2.1
  have hc : u.cells = #[u] := by
    simp only [okv, Bool.and_eq_true] at hu
    cases u <;> first | rfl | simp [oneCell] at hu
  simp only [okv, Bool.and_eq_true, Bool.not_eq_true'] at hu
  refine ⟨_, es_store e ey hb (vs' := vs.set o u) ?_, hC.set m⟩
  simp only [storeV, hc, h2]
  rw [if_pos]
  · congr 1
    simp [splice, List.set_eq_take_append_cons_drop, hlt]
  · refine ⟨rfl, hu.2, by simp; omega, by simp [hu.1, hu.2]⟩

theorem S1.stA (s : agD P t = some n) (e : ev f x = .pointer (some ⟨b, o, none⟩)) (ey : ev f y = .agg ⟨l⟩) (hn : l.length = n) (hu : l.all okv = true) (g : Spl vs o l vs') (m : Upd L b (.cells vs opn true) (.cells vs' opn true) L') :
    S1 P (.store t x y) f (Hp hr h0 F L) undef (Hp hr h0 F L') := by
  intro h hC
  obtain ⟨d, h1, h2, h3⟩ := agD_spec s
  obtain ⟨rfl, hlt⟩ := g.eq
  have hb := hC.at_ _ m.perm.2.1
  refine ⟨_, es_store e ey hb (vs' := splice vs o l) ?_, hC.set m⟩
  simp only [storeV, Value.cells, h2]
  rw [if_pos]
  refine ⟨by simp [hn], rfl, by simpa using hlt, ?_⟩
  rw [List.all_eq_true] at hu ⊢
  exact fun v hv => hu v hv

theorem elD_spec (s : elD P t = some z) : ∃ el, P.underlying t = some (.slice el) ∧ szOf P el = some z := by
  unfold elD at s
  split at s
  · rename_i el hu; exact ⟨el, hu, s⟩
  · simp at s

theorem S1.len {ty : TypeId} (s : elD P ty = some z) (e : ev f x = .slice a n cp) : S1 P (.call ⟨.builtin .len, #[x], #[ty]⟩) f C (.int .i64 n) C := .pure fun h => by
  obtain ⟨el, h1, h2⟩ := elD_spec s
  simp only [estep, eBuiltin, eLen, h1, e, List.map_cons, List.map_nil, Option.map_some]

theorem S1.ix (s : elD P t = some z) (e : ev f x = .slice (some ⟨b, o, none⟩) n cp) (ei : ev f i = .int kk p) (g0 : 0 ≤ p) (g1 : p < n) : S1 P (.indexAddr t x i) f C (.pointer (some ⟨b, o + p.toNat * z, none⟩)) C := .pure fun h => by
  obtain ⟨el, h1, h2⟩ := elD_spec s
  simp only [estep, eIndexAddr, h1, e, ei, h2, if_pos (And.intro g0 g1), Option.map_some]

theorem S1.ixN {m : Nat} (s : elD P t = some z) (e : ev f x = .slice (some ⟨b, o, none⟩) n cp) (ei : ev f i = .int kk (m : Int)) (g : m < n) : S1 P (.indexAddr t x i) f C (.pointer (some ⟨b, o + m * z, none⟩)) C := by
  have := S1.ix (P := P) (C := C) s e ei (by omega) (by omega)
  simpa using this

theorem S1.ext {j : Nat} (e : ev f x = .tuple ⟨l⟩) (g : l[j]? = some v) : S1 P (.extract x j) f C v C := .pure fun h => by
  simp only [estep, e, eExtract, Option.map_eq_some_iff]
  exact ⟨v, by simpa using g, rfl⟩

theorem S1.nc {a : Addr} (e : ev f x = .pointer (some a)) : S1 P (.nilCheck x) f C (.pointer (some a)) C := .pure fun h => by simp only [estep, e, eNilCheck, Option.map_some]
theorem S1.not {w : Bool} (e : ev f x = .bool w) : S1 P (.unOp .not t x) f C (.bool !w) C := .pure fun h => by simp only [estep, e, eUn, Option.map_some]
theorem S1.notD {w : Prop} [Decidable w] (e : ev f x = .bool (decide w)) : S1 P (.unOp .not t x) f C (.bool (decide ¬w)) C := by
  have := S1.not (P := P) (t := t) (C := C) e
  rwa [← decide_not] at this
theorem S1.neg (e : ev f x = .int kk p) : S1 P (.unOp .neg t x) f C (.int kk (kk.wrap (0 - p))) C := .pure fun h => by simp only [estep, e, eUn, Option.map_some]

theorem S1.bin {op : BinOp} {t2 : TypeId} (e : eBin P op t x y (ev f x) (ev f y) = some v) : S1 P (.binOp op t x y t2) f C v C := .pure fun h => by simp only [estep, e, Option.map_some]

theorem S1.int {op : BinOp} {t2 : TypeId} (ex : ev f x = .int kk p) (ey : ev f y = .int kk q) (hn : (op matches .shl | .shr) = false) (e : intBin op kk p q = some v) : S1 P (.binOp op t x y t2) f C v C := by
  refine .bin ?_
  rw [ex, ey]
  have hg : eGuardOk P op t x y (.int kk p) (.int kk q) = true := by cases op <;> rfl
  simp only [eBin, hg, if_true]
  cases op <;> simp at hn <;> simpa using e

variable {t2 : TypeId}
theorem S1.lss (ex : ev f x = .int kk p) (ey : ev f y = .int kk q) : S1 P (.binOp .lss t x y t2) f C (.bool (decide (p < q))) C := .int ex ey rfl rfl
theorem S1.leq (ex : ev f x = .int kk p) (ey : ev f y = .int kk q) : S1 P (.binOp .leq t x y t2) f C (.bool (decide (p ≤ q))) C := .int ex ey rfl rfl
theorem S1.gtr (ex : ev f x = .int kk p) (ey : ev f y = .int kk q) : S1 P (.binOp .gtr t x y t2) f C (.bool (decide (q < p))) C := .int ex ey rfl rfl
theorem S1.geq (ex : ev f x = .int kk p) (ey : ev f y = .int kk q) : S1 P (.binOp .geq t x y t2) f C (.bool (decide (q ≤ p))) C := .int ex ey rfl rfl
theorem S1.eql (ex : ev f x = .int kk p) (ey : ev f y = .int kk q) : S1 P (.binOp .eql t x y t2) f C (.bool (decide (p = q))) C := .int ex ey rfl (by
  simp only [intBin, Option.some.injEq, Value.bool.injEq]; rfl)
theorem S1.neq (ex : ev f x = .int kk p) (ey : ev f y = .int kk q) : S1 P (.binOp .neq t x y t2) f C (.bool (decide (p ≠ q))) C := .int ex ey rfl (by
  simp only [intBin, Option.some.injEq, Value.bool.injEq]; rw [bne, decide_not]; rfl)
theorem S1.add (ex : ev f x = .int kk p) (ey : ev f y = .int kk q) : S1 P (.binOp .add t x y t2) f C (.int kk (kk.wrap (p + q))) C := .int ex ey rfl rfl
theorem S1.sub (ex : ev f x = .int kk p) (ey : ev f y = .int kk q) : S1 P (.binOp .sub t x y t2) f C (.int kk (kk.wrap (p - q))) C := .int ex ey rfl rfl
theorem S1.mul (ex : ev f x = .int kk p) (ey : ev f y = .int kk q) : S1 P (.binOp .mul t x y t2) f C (.int kk (kk.wrap (p * q))) C := .int ex ey rfl rfl
theorem S1.quo (ex : ev f x = .int kk p) (ey : ev f y = .int kk q) (h : q ≠ 0) : S1 P (.binOp .quo t x y t2) f C (.int kk (kk.wrap (p.tdiv q))) C := .int ex ey rfl (by simp only [intBin, if_neg h])
theorem S1.rem (ex : ev f x = .int kk p) (ey : ev f y = .int kk q) (h : q ≠ 0) : S1 P (.binOp .rem t x y t2) f C (.int kk (p.tmod q)) C := .int ex ey rfl (by simp only [intBin, if_neg h])
theorem S1.bits {op : BinOp} {r : Int} (ex : ev f x = .int kk p) (ey : ev f y = .int kk q) (e : intBits op kk p q = some r) : S1 P (.binOp op t x y t2) f C (.int kk r) C := by
  refine .int ex ey ?_ ?_
  · cases op <;> simp [intBits] at e <;> rfl
  · cases op <;> simp [intBits] at e <;> simp [intBin, intBits, e]
theorem S1.shl {k2 : IntKind} (ex : ev f x = .int kk p) (ey : ev f y = .int k2 q) (h : 0 ≤ q) : S1 P (.binOp .shl t x y t2) f C (.int kk (kk.wrap (p * 2 ^ (min q.toNat kk.bits)))) C := by
  refine .bin ?_
  rw [ex, ey]
  simp only [eBin, eGuardOk, if_true, intShift, if_neg (show ¬ q < 0 by omega)]
theorem S1.shr {k2 : IntKind} (ex : ev f x = .int kk p) (ey : ev f y = .int k2 q) (h : 0 ≤ q) : S1 P (.binOp .shr t x y t2) f C (.int kk (p.fdiv (2 ^ (min q.toNat kk.bits)))) C := by
  refine .bin ?_
  rw [ex, ey]
  simp only [eBin, eGuardOk, if_true, intShift, if_neg (show ¬ q < 0 by omega)]

theorem wrap64 {n : Int} (h1 : -9223372036854775808 ≤ n) (h2 : n ≤ 9223372036854775807) : IntKind.i64.wrap n = n := IntWalk.i64_in n ⟨h1, h2⟩

theorem S1.addI (ex : ev f x = .int .i64 p) (ey : ev f y = .int .i64 q) (h1 : -9223372036854775808 ≤ p + q) (h2 : p + q ≤ 9223372036854775807) : S1 P (.binOp .add t x y t2) f C (.int .i64 (p + q)) C := by
  have := S1.add (P := P) (t := t) (t2 := t2) (C := C) ex ey
  rwa [wrap64 h1 h2] at this
theorem S1.subI (ex : ev f x = .int .i64 p) (ey : ev f y = .int .i64 q) (h1 : -9223372036854775808 ≤ p - q) (h2 : p - q ≤ 9223372036854775807) : S1 P (.binOp .sub t x y t2) f C (.int .i64 (p - q)) C := by
  have := S1.sub (P := P) (t := t) (t2 := t2) (C := C) ex ey
  rwa [wrap64 h1 h2] at this
theorem S1.mulI (ex : ev f x = .int .i64 p) (ey : ev f y = .int .i64 q) (h1 : -9223372036854775808 ≤ p * q) (h2 : p * q ≤ 9223372036854775807) : S1 P (.binOp .mul t x y t2) f C (.int .i64 (p * q)) C := by
  have := S1.mul (P := P) (t := t) (t2 := t2) (C := C) ex ey
  rwa [wrap64 h1 h2] at this
theorem S1.inc {m : Nat} (ex : ev f x = .int .i64 (m : Int)) (ey : ev f y = .int .i64 1) (h : m < 4611686018427387904) : S1 P (.binOp .add t x y t2) f C (.int .i64 ((m + 1 : Nat) : Int)) C := by
  have := S1.addI (P := P) (t := t) (t2 := t2) (C := C) ex ey (by omega) (by omega)
  simpa using this

theorem S1.seq {s1 s2 : ByteArray} (ex : ev f x = .string s1) (ey : ev f y = .string s2) : S1 P (.binOp .eql t x y t2) f C (.bool (s1.toList == s2.toList)) C := .bin (by
  rw [ex, ey]; rfl)
theorem S1.sne {s1 s2 : ByteArray} (ex : ev f x = .string s1) (ey : ev f y = .string s2) : S1 P (.binOp .neq t x y t2) f C (.bool !(s1.toList == s2.toList)) C := .bin (by
  rw [ex, ey]; rfl)

def inD (P : Program) (t : TypeId) : Option IntKind := match P.underlying t with | some (.int k) => some k | _ => none

theorem S1.cv {src dst : TypeId} (s1 : (P.underlying src).isSome = true) (s : inD P dst = some kk) {k2 : IntKind} (e : ev f x = .int k2 p) : S1 P (.convert src dst x) f C (.int kk (kk.wrap p)) C := .pure fun h => by
  unfold inD at s
  cases hs : P.underlying src with
  | none => rw [hs] at s1; cases s1
  | some w =>
    split at s
    · rename_i k' hu
      cases s
      simp only [estep, e, eConv, hs, hu, Option.map_some]
    · simp at s

inductive CellsOf : Value → List Value → Prop
  | agg {l : List Value} : CellsOf (.agg ⟨l⟩) l
  | one {u : Value} (h : okv u = true) : CellsOf u [u]

theorem CellsOf.eq (c : CellsOf u l) : u.cells.toList = l ∧ isUnk u = false := by
  cases c with
  | agg => exact ⟨rfl, rfl⟩
  | one h =>
    simp only [okv, Bool.and_eq_true, Bool.not_eq_true'] at h
    refine ⟨?_, h.2⟩
    cases u <;> first | rfl | simp [oneCell] at h

theorem SN.bx (e : ev f x = u) (hc : CellsOf u l) : SN P (.box t x) f (Hp hr h0 F L) (fun a => .pointer (some ⟨a, 0, none⟩)) (fun a => Hp hr h0 F ((a, .cells l none true) :: L)) := by
  intro h hC
  refine ⟨h.length, h ++ [.cells l none true], ?_, hC.alloc _⟩
  simp only [estep, e, eBox, hc.eq.2, Bool.false_eq_true, if_false, mkRow, hc.eq.1]

theorem SN.al (s : zcD P t = some l) : SN P (.alloc t) f (Hp hr h0 F L) (fun a => .pointer (some ⟨a, 0, none⟩)) (fun a => Hp hr h0 F ((a, .cells l none true) :: L)) := by
  intro h hC
  unfold zcD at s
  rw [Option.map_eq_some_iff] at s
  obtain ⟨zz, hz, rfl⟩ := s
  exact ⟨h.length, h ++ [.cells zz.1.cells.toList none true], by simp only [estep, eAlloc, hz, Option.map_some, mkRow], hC.alloc _⟩

inductive Parts (f : Nat → Value) : List (Nat × Operand) → Nat → List Value → Prop
  | n {k : Nat} : Parts f [] k []
  | c {x : Operand} {v : Value} {ps : List (Nat × Operand)} {k : Nat} {vs : List Value} (e : ev f x = v) (h : okv v = true) (r : Parts f ps (k + 1) vs) : Parts f ((k, x) :: ps) k (v :: vs)

theorem fill_row (ps : List (Nat × Operand)) : ∀ (k : Nat) (vs : List Value) (pre cs : List Value), Parts f ps k vs → pre.length = k → cs.length = vs.length →
    Instr.fill (fun i => some (i * 1, 1)) ⟨pre ++ cs⟩ (ps.map fun x => (x.1, ev f x.2)) = some ⟨pre ++ vs⟩ := by
  induction ps with
  | nil =>
    intro k vs pre cs hp hk hc
    cases hp
    have : cs = [] := List.eq_nil_of_length_eq_zero (by simpa using hc)
    subst this; rfl
  | cons q ps ih =>
    intro k vs pre cs hp hk hc
    cases hp with
    | @c x v _ _ vs e h r =>
      cases cs with
      | nil => simp at hc
      | cons w cs =>
        have hv : v.cells = #[v] := by
          simp only [okv, Bool.and_eq_true] at h
          cases v <;> first | rfl | simp [oneCell] at h
        have := ih (k + 1) vs (pre ++ [v]) cs r (by simp [hk]) (by simpa using hc)
        simp only [List.map_cons, Instr.fill, e, hv]
        rw [if_neg]
        · rw [← hk]
          simp only [List.append_assoc, List.singleton_append] at this
          have hs : (Array.setIfInBounds (⟨pre ++ w :: cs⟩ : Array Value) pre.length v) = ⟨pre ++ v :: cs⟩ := by
            simp
          simpa [hs] using this
        · simp; omega

theorem zerosOf_size (z : Value) (n : Nat) : (zerosOf z n).size = n := by simp [zerosOf]

theorem SN.bs (s : elD P t = some 1) (sz : (elZ P t).isSome = true) {ps : Array (Nat × Operand)} (hp : Parts f ps.toList 0 vs) (hn : vs.length = n) (hl : decide (n ≤ 16777216) = true) :
    SN P (.buildSlice t n ps) f (Hp hr h0 F L) (fun a => .slice (some ⟨a, 0, none⟩) n n) (fun a => Hp hr h0 F ((a, .cells vs none true) :: L)) := by
  intro h hC
  obtain ⟨el, h1, h2⟩ := elD_spec s
  unfold elZ at sz
  simp only [h1, Option.isSome_map] at sz
  cases hz : zeroOf P el with
  | none => rw [hz] at sz; cases sz
  | some zz =>
    obtain ⟨z, w⟩ := zz
    obtain ⟨_, _, _, _, _, _, _, _, _, hzs⟩ := zeroOf_spec hz
    rw [h2] at hzs; cases hzs
    have hf := fill_row (f := f) ps.toList 0 vs [] (zerosOf z n).toList hp rfl (by simp [zerosOf_size, hn])
    simp only [List.nil_append] at hf
    refine ⟨h.length, h ++ [.cells vs none true], ?_, hC.alloc _⟩
    have hunk : (ps.map fun x => (x.1, ev f x.2)).all (fun x => !isUnk x.2) = true := by
      have key : ∀ (l : List (Nat × Operand)) (k : Nat) (vs : List Value), Parts f l k vs → ∀ x ∈ l, isUnk (ev f x.2) = false := by
        intro l
        induction l with
        | nil => intro _ _ _ x hx; cases hx
        | cons y l ih =>
          intro k vs hp x hx
          cases hp with
          | c e h r =>
            rcases List.mem_cons.1 hx with rfl | hx
            · simp only [okv, Bool.and_eq_true, Bool.not_eq_true'] at h
              rw [e]; exact h.2
            · exact ih _ _ r x hx
      rw [Array.all_eq_true']
      intro y hy
      obtain ⟨x, hx, rfl⟩ := Array.mem_map.1 hy
      simp [key ps.toList 0 vs hp x (by simpa using hx)]
    simp only [estep, eBuildSlice, h1, hz]
    rw [if_pos ⟨by simpa using of_decide_eq_true hl, hunk⟩]
    simp only [Nat.mul_one]
    rw [show (Array.map (fun x => (x.1, ev f x.2)) ps).toList = ps.toList.map fun x => (x.1, ev f x.2) by simp]
    have hf' : Instr.fill (fun i => some (i * 1, 1)) (zerosOf z n) (List.map (fun x => (x.1, ev f x.2)) ps.toList) = some ⟨vs⟩ := hf
    simp only [Nat.mul_one] at hf'
    rw [hf']
    rfl

inductive EvL (f : Nat → Value) : List Operand → List Value → Prop
  | n : EvL f [] []
  | c {x : Operand} {v : Value} {xs : List Operand} {vs : List Value} (e : ev f x = v) (r : EvL f xs vs) : EvL f (x :: xs) (v :: vs)
  | p {x : Operand} {a : Option Addr} {xs : List Operand} {vs : List Value} (e : ev f x = .pointer a) (r : EvL f xs vs) : EvL f (x :: xs) (.pointer a :: vs)

theorem EvL.eq {xs : List Operand} (r : EvL f xs vs) : xs.map (ev f) = vs := by
  induction r with
  | n => rfl
  | c e _ ih => simp [e, ih]
  | p e _ ih => simp [e, ih]

theorem S1.mf {g : FuncId} {fs cs : Array Operand} {l1 l2 : List Value} (h1 : EvL f fs.toList l1) (h2 : EvL f cs.toList l2) : S1 P (.makeFunc (.func g) fs cs) f C (.func (.func g) ⟨l1⟩ ⟨l2⟩) C := .pure fun h => by
  simp only [estep, eMkFunc, Option.map_some]
  have e1 : fs.map (ev f) = ⟨l1⟩ := by rw [← h1.eq]; apply Array.toList_inj.1; simp
  have e2 : cs.map (ev f) = ⟨l2⟩ := by rw [← h2.eq]; apply Array.toList_inj.1; simp
  rw [e1, e2]

theorem SN.mm {t : TypeId} : SN P (.makeMap t none) f (Hp hr h0 F L) (fun a => .map (some a)) (fun a => Hp hr h0 F ((a, .map [] 0) :: L)) := by
  intro h hC
  exact ⟨h.length, h ++ [.map [] 0], rfl, hC.alloc _⟩

inductive CallOf (f : Nat → Value) : Op → FuncId → List Value → Prop
  | d {g : FuncId} {xs : Array Operand} {ts : Array TypeId} {vs : List Value} (r : EvL f xs.toList vs) : CallOf f (.call ⟨.value (.func g), xs, ts⟩) g vs
  | v {x : Operand} {g : FuncId} {xs : Array Operand} {ts : Array TypeId} {vs fs cs : List Value} (e : ev f x = .func (.func g) ⟨fs⟩ ⟨cs⟩) (r : EvL f xs.toList vs) : CallOf f (.call ⟨.value x, xs, ts⟩) g (fs ++ (vs ++ cs))

theorem CallOf.eq {op : Op} {g : FuncId} (c : CallOf f op g vs) : callee f op = some (g, ⟨vs⟩) := by
  cases c with
  | d r =>
    have := r.eq
    simp only [callee, ev, Option.some.injEq, Prod.mk.injEq, true_and]
    apply Array.toList_inj.1
    simp [← this]
  | v e r =>
    have := r.eq
    simp only [callee, e, Option.some.injEq, Prod.mk.injEq, true_and]
    apply Array.toList_inj.1
    simp [← this]
end

section
variable {P : Program} {N : Nat} {ro : Option Nat} {f : Nat → Value} {ds : List Deferred} {rc : Option (Value × Bool)} {C : EH → Prop} {Q : Ex → St → Prop} {K : St → Prop}
variable {ops : Array Oper} {i : Nat} {d : Option Nat} {op : Op} {ty : TypeId} {pos : String} {aft : Array Edge} {gd : Option (Nat × Bool)} {hr : RO} {h0 : EH} {F : List Nat} {L L1 ps : Ents}

theorem GL.call {g : FuncId} {args : List Value} {X : Type} {V : X → Value} {R : X → Prop} {M : X → Ents} (hi : ops.toList[i]? = some ⟨d, op, ty, pos, aft, gd⟩) (hw : Want N ops f gd true) (hfn : fnOk P g = true)
    (t : Take L ps L1) (ct : ∀ h, Hp hr h0 F L h → Ct P g ⟨args⟩ h (ps.map (·.1)) V R M) (hc : CallOf f op g args)
    (k : ∀ x, R x → GL P N ro ops (i + 1) (setT f d (V x)) ds rc (Hp hr h0 F (M x ++ L1)) Q) : GL P N ro ops i f ds rc (Hp hr h0 F L) Q := by
  intro hk h hC
  rw [Array.getElem?_toList] at hi
  refine WO.call hi hw.want (regOk_op hk hi) hc.eq hfn (WF.mono (ct h hC) fun o h' q => ?_)
  cases o with
  | ret v =>
    obtain ⟨x, rfl, hR, hP⟩ := q
    exact k x hR hk h' (hC.call t hP)
  | pan v => exact q.elim

theorem GL.panic {x : Operand} {t : TypeId} {u : Value} (hi : ops.toList[i]? = some ⟨d, .panic x, ty, pos, aft, gd⟩) (hw : Want N ops f gd true) (hx : ev f x = .iface t u) (g : GQ (.panic (.iface t u)) f ds rc C Q) : GL P N ro ops i f ds rc C Q := by
  intro hk h hC
  rw [Array.getElem?_toList] at hi
  exact WO.panic hi hw.want (regOk_op hk hi) rfl hx (g h hC)

theorem RsL.eq {rs : List ResultVar} {vs : List Value} (r : RsL P N f L rs vs) {h : EH} (H : Hp hr h0 F L h) : eRes P N f h rs = some vs := by
  induction r with
  | nil => rfl
  | tmp hN e _ ih => simp only [eRes, eResult, if_pos (of_decide_eq_true hN), e, ih]
  | cell hN e a hv _ ih => simp only [eRes, eResult, if_pos (of_decide_eq_true hN), e, load_row (H.get a) hv, ih]

inductive RsV : List Value → Value → Prop
  | z : RsV [] (.tuple #[])
  | one {v : Value} : RsV [v] v
  | more {v w : Value} {vs : List Value} : RsV (v :: w :: vs) (.tuple ⟨v :: w :: vs⟩)

theorem RsV.eq {vs : List Value} {v : Value} (r : RsV vs v) : (match vs with | [v] => v | vs => .tuple vs.toArray) = v := by cases r <;> rfl

variable {fn : Func} {X Y : Type} {V : X → Value} {R : X → Prop} {M : X → Ents} {E : Value → EH → Prop}

theorem GQ.ret (x : X) {vs : List Value} {w : Value} (hres : RsL P fn.ntmps f L fn.results.toList vs) (hv : RsV vs w) (hw : w = V x) (hR : R x) (t : Take L (M x) L1) :
    GQ .ret f [] rc (Hp hr h0 F L) (bodyQ P fn (backTo (fun v h' => ∃ x, v = V x ∧ R x ∧ Post F h0 h' (M x)) E)) := by
  intro h hC
  refine ⟨rfl, w, ?_, x, hw, hR, hC.post t⟩
  simp only [eResults, hres.eq hC, Option.map_some]
  cases hv <;> rfl

theorem GQ.retN (x : X) {vs : List Value} {w : Value} (hres : RsL P fn.ntmps f L fn.results.toList vs) (hv : RsV vs w) (hw : w = V x) (hR : R x) (t : Take L (M x) L1) :
    GQ .normal f [] rc (Hp hr h0 F L) (bodyQ P fn (backTo (fun v h' => ∃ x, v = V x ∧ R x ∧ Post F h0 h' (M x)) E)) :=
  GQ.ret (fn := fn) x hres hv hw hR t

theorem GQ.pan {E : Value → EH → Prop} {U : Y → Value} {S : Y → Prop} {M' : Y → Ents} (y : Y) {v : Value} (hv : v = U y) (hS : S y) (t : Take L (M' y) L1) :
    GQ (.panic v) f [] rc (Hp hr h0 F L) (bodyQ P fn (backTo E (fun v h' => ∃ y, v = U y ∧ S y ∧ Post F h0 h' (M' y)))) := by
  intro h hC
  exact ⟨rfl, y, hv, hS, hC.post t⟩

def Regs (f : Nat → Value) (l : List (Nat × Value)) : Prop := ∀ p ∈ l, f p.1 = p.2
def setRs (f : Nat → Value) : List (Nat × Value) → Nat → Value
  | [] => f
  | p :: l => setT (setRs f l) (some p.1) p.2

theorem Regs.n : Regs f [] := by intro p hp; cases hp
theorem Regs.c {r : Nat} {v : Value} {l : List (Nat × Value)} (e : f r = v) (k : Regs f l) : Regs f ((r, v) :: l) := by
  intro p hp
  rcases List.mem_cons.1 hp with rfl | hp
  · exact e
  · exact k p hp

theorem Regs.set {l : List (Nat × Value)} (r : Regs f l) : setRs f l = f := by
  induction l with
  | nil => rfl
  | cons p l ih =>
    simp only [setRs]
    rw [ih fun q hq => r q (.tail _ hq)]
    exact setT_id (r p (.head _))

theorem GW.toLoop {c : Code} {X : Type} (Rg : X → List (Nat × Value)) (LI : X → Ents) (I : X → Prop) (μ : X → Nat) (e : c = .loop (cL c)) (x0 : X) (hI : I x0) (h0R : Regs f (Rg x0)) (t : Take L (LI x0) L1)
    (round : ∀ x g, I x → GW P N ro (cL c) (setRs g (Rg x)) ds rc (Hp hr h0 F (LI x)) (onward (fun st => ∃ x', Regs st.f (Rg x') ∧ Hp hr h0 F (LI x') st.h ∧ I x' ∧ μ x' < μ x ∧ st.ds = ds ∧ st.rc = rc) Q)) : GW P N ro c f ds rc (Hp hr h0 F L) Q := by
  intro hk h hC
  rw [e] at hk ⊢
  simp only [codeOk] at hk
  have key : ∀ n x (st : St), μ x = n → I x → Regs st.f (Rg x) → Hp hr h0 F (LI x) st.h → st.ds = ds → st.rc = rc → ∃ ex st', SndHead P N ro (cL c) st ex st' ∧ Q ex st' := by
    intro n
    induction n using Nat.strongRecOn with
    | _ n ih =>
      intro x st hn hI hRs hH hds hrc
      have w := round x st.f hI hk st.h hH
      rw [hRs.set, ← hds, ← hrc] at w
      obtain ⟨ex, st₁, s, q⟩ := w
      cases ex with
      | normal =>
        obtain ⟨x', q1, q2, q3, q4, q5, q6⟩ := q
        obtain ⟨ex, st₂, s2, q2⟩ := ih (μ x') (by omega) x' st₁ rfl q3 q1 q2 (q5.trans hds) (q6.trans hrc)
        exact ⟨ex, st₂, head_next s s2, q2⟩
      | exit id => exact ⟨_, _, head_out (by simp) s, q⟩
      | ret => exact ⟨_, _, head_out (by simp) s, q⟩
      | panic v => exact ⟨_, _, head_out (by simp) s, q⟩
  obtain ⟨ex, st', s, q⟩ := key _ x0 ⟨f, ds, h, rc⟩ rfl hI h0R (hC.sub t) rfl rfl
  exact ⟨ex, st', snd_loop s, q⟩

theorem GQ.next {X : Type} {Rg : X → List (Nat × Value)} {LI : X → Ents} {I : X → Prop} {μ : X → Nat} {m : Nat} (x' : X) (hI : I x') (hm : μ x' < m) (hR : Regs f (Rg x')) (t : Take L (LI x') L1) :
    GQ .normal f ds rc (Hp hr h0 F L) (onward (fun st => ∃ x', Regs st.f (Rg x') ∧ Hp hr h0 F (LI x') st.h ∧ I x' ∧ μ x' < m ∧ st.ds = ds ∧ st.rc = rc) Q) :=
  fun _ hC => ⟨x', hR, hC.sub t, hI, hm, rfl, rfl⟩

theorem GW.cut {c : Code} {X : Type} (Rg : X → List (Nat × Value)) (LI : X → Ents) (I : X → Prop) (e : c = .seq (cL c) (cR c))
    (g : GW P N ro (cL c) f ds rc (Hp hr h0 F L) (onward (fun st => ∃ x', Regs st.f (Rg x') ∧ Hp hr h0 F (LI x') st.h ∧ I x' ∧ st.ds = ds ∧ st.rc = rc) Q))
    (k : ∀ x g, I x → GW P N ro (cR c) (setRs g (Rg x)) ds rc (Hp hr h0 F (LI x)) Q) : GW P N ro c f ds rc (Hp hr h0 F L) Q := by
  refine .toSeq e fun hk h hC => (g hk h hC).mono fun ex st q => ?_
  cases ex with
  | normal =>
    obtain ⟨x, q1, q2, q3, q4, q5⟩ := q
    intro hk2
    have w := k x st.f q3 hk2 st.h q2
    rw [q1.set, ← q4, ← q5] at w
    exact w
  | _ => exact q

theorem GQ.cutEnd {X : Type} {Rg : X → List (Nat × Value)} {LI : X → Ents} {I : X → Prop} (x' : X) (hI : I x') (hR : Regs f (Rg x')) (t : Take L (LI x') L1) :
    GQ .normal f ds rc (Hp hr h0 F L) (onward (fun st => ∃ x', Regs st.f (Rg x') ∧ Hp hr h0 F (LI x') st.h ∧ I x' ∧ st.ds = ds ∧ st.rc = rc) Q) :=
  fun _ hC => ⟨x', hR, hC.sub t, hI, rfl, rfl⟩
end
end Go.E
namespace Go.E
open Go

inductive Lay where
  | int (k : IntKind) (s : Bool := true)
  | bool
  | str
  | sl (e : List Lay)

inductive Cell (hr : RO) : Lay → Value → Prop
  | int {k : IntKind} {s : Bool} {x : Int} (h : s = true → k.min ≤ x ∧ x ≤ k.max) : Cell hr (.int k s) (.int k x)
  | bool {b : Bool} : Cell hr .bool (.bool b)
  | str {s : ByteArray} (h : s.size ≤ 1073741824) : Cell hr .str (.string s)
  | nil {e : List Lay} : Cell hr (.sl e) (.slice none 0 0)
  | sle {e : List Lay} : Cell hr (.sl e) mkS
  | sl {e : List Lay} {b off n c : Nat} {vs : List Value} {opn : Option Nat} {wr : Bool} (hb : hr b = some (.cells vs opn wr)) (hn : n ≤ c) (hc : c ≤ 1073741824) (hl : off + c * e.length ≤ vs.length) (ho : opn = none ∨ opn = some e.length)
      (he : ∀ i, i < n → ∀ (j : Nat) (l : Lay), e[j]? = some l → Cell hr l (vs.getD (off + (i * e.length + j)) undef)) : Cell hr (.sl e) (.slice (some ⟨b, off, none⟩) n c)

def sb (a : Option Addr) : Nat := match a with | some x => x.block | none => 0
def so (a : Option Addr) : Nat := match a with | some x => x.off | none => 0
def rv (hr : RO) (a : Option Addr) : List Value := match hr (sb a) with | some (.cells vs _ _) => vs | _ => []
def el (hr : RO) (a : Option Addr) (k : Nat) : Value := (rv hr a).getD (so a + k) undef
def iv : Value → Int | .int _ x => x | _ => 0
def bv : Value → Bool | .bool b => b | _ => false
def sv : Value → ByteArray | .string s => s | _ => .empty
def sa : Value → Option Addr | .slice a _ _ => a | _ => none
def sn : Value → Nat | .slice _ n _ => n | _ => 0
def sc : Value → Nat | .slice _ _ c => c | _ => 0
def dec : Lay → Value → Value
  | .int k _, v => .int k (iv v)
  | .bool, v => .bool (bv v)
  | .str, v => .string (sv v)
  | .sl _, v => .slice (sa v) (sn v) (sc v)
abbrev ie (hr : RO) (a : Option Addr) (k : Nat) : Int := iv (el hr a k)

section
variable {hr : RO} {a : Option Addr} {n c m d z : Nat} {e : List Lay} {l : Lay} {v : Value}

theorem Cell.dec (h : Cell hr l v) : Go.E.dec l v = v := by cases h <;> rfl

theorem Cell.le (h : Cell hr (.sl e) (.slice a n c)) : n ≤ c ∧ c ≤ 1073741824 := by
  cases h with
  | nil => exact ⟨Nat.le_refl _, Nat.zero_le _⟩
  | sle => exact ⟨Nat.le_refl _, Nat.zero_le _⟩
  | sl _ h1 h2 => exact ⟨h1, h2⟩

theorem Cell.hit (h : Cell hr (.sl e) (.slice a n c)) (hm : m < n) : a = some ⟨sb a, so a, none⟩ ∧ (∃ opn wr, hr (sb a) = some (.cells (rv hr a) opn wr) ∧ (opn = none ∨ opn = some e.length)) ∧ so a + c * e.length ≤ (rv hr a).length := by
  cases h with
  | nil => omega
  | sle => omega
  | @sl _ b off _ _ vs opn wr hb hn hc hl ho he => exact ⟨rfl, ⟨opn, wr, by simp only [sb, rv, hb], ho⟩, by simp only [so, rv, sb, hb]; exact hl⟩

theorem Cell.at (h : Cell hr (.sl e) (.slice a n c)) (hm : m < n) (hd : e[d]? = some l) : Cell hr l (Go.E.dec l (el hr a (m * e.length + d))) := by
  cases h with
  | nil => omega
  | sle => omega
  | sl hb hn hc hl ho he =>
    have := he m hm d l hd
    simp only [el, rv, sb, so, hb]
    rw [this.dec]; exact this

theorem Cell.atE (h : Cell hr (.sl e) (.slice a n c)) (hm : m < n) (hd : e[d]? = some l) : (rv hr a)[so a + (m * e.length + d)]? = some (Go.E.dec l (el hr a (m * e.length + d))) := by
  have hlt := (h.hit hm).2.2
  have hle := h.le
  have hd' := (List.getElem?_eq_some_iff.1 hd).1
  have hin : so a + (m * e.length + d) < (rv hr a).length := by
    have : m * e.length + e.length ≤ c * e.length := by
      rw [← Nat.succ_mul]; exact Nat.mul_le_mul_right _ (by omega)
    omega
  have hq : (rv hr a)[so a + (m * e.length + d)]? = Option.some (el hr a (m * e.length + d)) := by
    rw [List.getElem?_eq_getElem hin]
    simp [el, List.getD_eq_getElem?_getD, List.getElem?_eq_getElem hin]
  rw [hq]
  have h3 : Cell hr l (el hr a (m * e.length + d)) := by
    cases h with
    | nil => omega
    | sle => omega
    | sl hb hn hc hl ho he =>
      have := he m hm d l hd
      simp only [el, rv, sb, so, hb]
      exact this
  rw [h3.dec]
end

section
variable {P : Program} {f : Nat → Value} {C : EH → Prop} {hr : RO} {h0 : EH} {F : List Nat} {L L' : Ents} {x y i : Operand} {t : TypeId} {v u : Value} {b o n c m d z : Nat} {a : Option Addr} {e : List Lay} {l : Lay} {kk : IntKind}

theorem S1.ixR (s : elD P t = some z) (hc : Cell hr (.sl e) (.slice a n c)) (ex : ev f x = .slice a n c) (ei : ev f i = .int kk (m : Int)) (g : m < n) : S1 P (.indexAddr t x i) f C (.pointer (some ⟨sb a, so a + m * z, none⟩)) C := by
  obtain ⟨ha, _⟩ := hc.hit g
  rw [ha] at ex
  exact S1.ixN s ex ei g

theorem S1.ldC (s : scD P t = true) (hc : Cell hr (.sl e) (.slice a n c)) (ex : ev f x = .pointer (some ⟨sb a, o, none⟩)) (g : m < n) (hz : e.length = z) (hd : e[d]? = some l) (ho : o = so a + m * z + d) :
    S1 P (.load t x) f (Hp hr h0 F L) (dec l (el hr a (m * z + d))) (Hp hr h0 F L) := by
  subst hz
  obtain ⟨_, ⟨opn, wr, hb, _⟩, _⟩ := hc.hit g
  exact S1.ld s ex (.rom hb) (by rw [ho, Nat.add_assoc]; exact hc.atE g hd)

theorem S1.ldCI {k : IntKind} {ss : Bool} (s : scD P t = true) (hc : Cell hr (.sl e) (.slice a n c)) (ex : ev f x = .pointer (some ⟨sb a, o, none⟩)) (g : m < n) (hz : e.length = z) (hd : e[d]? = some (.int k ss)) (ho : o = so a + m * z + d) :
    S1 P (.load t x) f (Hp hr h0 F L) (.int k (ie hr a (m * z + d))) (Hp hr h0 F L) := S1.ldC s hc ex g hz hd ho
theorem S1.ldCL {e' : List Lay} (s : scD P t = true) (hc : Cell hr (.sl e) (.slice a n c)) (ex : ev f x = .pointer (some ⟨sb a, o, none⟩)) (g : m < n) (hz : e.length = z) (hd : e[d]? = some (.sl e')) (ho : o = so a + m * z + d) :
    S1 P (.load t x) f (Hp hr h0 F L) (.slice (sa (el hr a (m * z + d))) (sn (el hr a (m * z + d))) (sc (el hr a (m * z + d)))) (Hp hr h0 F L) := S1.ldC s hc ex g hz hd ho

def decL (hr : RO) (a : Option Addr) (k : Nat) : List Lay → Nat → List Value
  | [], _ => []
  | l :: e, j => dec l (el hr a (k + j)) :: decL hr a k e (j + 1)

theorem decL_get {k : Nat} : ∀ (e : List Lay) (j : Nat), (decL hr a k e j).length = e.length ∧ ∀ (d : Nat) (l : Lay), e[d]? = some l → (decL hr a k e j)[d]? = some (dec l (el hr a (k + (j + d)))) := by
  intro e
  induction e with
  | nil => intro j; exact ⟨rfl, by simp⟩
  | cons l' e ih =>
    intro j
    refine ⟨by simp [decL, (ih _).1], fun d l hd => ?_⟩
    cases d with
    | zero => simp at hd; subst hd; rfl
    | succ d =>
      simp only [List.getElem?_cons_succ, decL] at hd ⊢
      rw [(ih (j + 1)).2 d l hd, show j + 1 + d = j + (d + 1) by omega]

theorem S1.ldE {vs : List Value} (s : agD P t = some z) (hc : Cell hr (.sl e) (.slice a n c)) (ex : ev f x = .pointer (some ⟨sb a, so a + m * z, none⟩)) (g : m < n) (hz : e.length = z) (r : decL hr a (m * z) e 0 = vs) :
    S1 P (.load t x) f (Hp hr h0 F L) (.agg ⟨vs⟩) (Hp hr h0 F L) := by
  subst hz
  obtain ⟨_, ⟨opn, wr, hb, _⟩, hl⟩ := hc.hit g
  have hle := hc.le
  have h1 : m * e.length + e.length ≤ c * e.length := by
    rw [← Nat.succ_mul]; exact Nat.mul_le_mul_right _ (by omega)
  refine S1.ldRA s ex (.rom hb) (by omega) ?_
  obtain ⟨r1, r2⟩ := decL_get (hr := hr) (a := a) (k := m * e.length) e 0
  rw [r] at r1 r2
  apply List.ext_getElem?
  intro d
  rw [List.getElem?_take, List.getElem?_drop]
  by_cases hd : d < e.length
  · rw [if_pos hd, r2 d _ (List.getElem?_eq_getElem hd), Nat.add_assoc, Nat.zero_add]
    exact hc.atE g (List.getElem?_eq_getElem hd)
  · rw [if_neg hd, List.getElem?_eq_none (by omega)]

mutual
def wk : Lay → Lay
  | .int k _ => .int k false
  | .bool => .bool
  | .str => .str
  | .sl e => .sl (wkL e)
def wkL : List Lay → List Lay
  | [] => []
  | l :: e => wk l :: wkL e
end

theorem wkL_len : ∀ (e : List Lay), (wkL e).length = e.length
  | [] => rfl
  | l :: e => by simp only [wkL, List.length_cons, wkL_len e]
theorem wkL_get : ∀ (e : List Lay) (j : Nat) (l : Lay), (wkL e)[j]? = some l → ∃ l', e[j]? = some l' ∧ l = wk l'
  | [], j, l, h => by simp [wkL] at h
  | l0 :: e, 0, l, h => by simp only [wkL, List.getElem?_cons_zero, Option.some.injEq] at h; exact ⟨l0, rfl, h.symm⟩
  | l0 :: e, j + 1, l, h => by simp only [wkL, List.getElem?_cons_succ] at h ⊢; exact wkL_get e j l h

theorem Cell.weak {l : Lay} {v : Value} (c : Cell hr l v) : Cell hr (wk l) v := by
  induction c with
  | int h => exact .int (by simp)
  | bool => exact .bool
  | str h => exact .str h
  | nil => exact .nil
  | sle => exact .sle
  | @sl e b off n c vs opn wr hb hn hc hl ho he ih =>
    simp only [wk]
    refine .sl hb hn hc (by rw [wkL_len]; exact hl) (by rw [wkL_len]; exact ho) fun i hi j l hj => ?_
    obtain ⟨l', h1, rfl⟩ := wkL_get e j l hj
    rw [wkL_len]
    exact ih i hi j l' h1

def ints (l : List Int) : List Value := l.map (Value.int .i64)

theorem ints_len {l : List Int} : (ints l).length = l.length := by simp [ints]
theorem ints_get {l : List Int} {k : Nat} (h : k < l.length) : (ints l)[k]? = some (.int .i64 (l.getD k 0)) := by
  simp [ints, List.getD_eq_getElem?_getD, h]
theorem ints_set {l : List Int} {k : Nat} {x : Int} (h : k < l.length) : UpdL (ints l) k (.int .i64 x) (ints (l.set k x)) := by
  induction l generalizing k with
  | nil => simp at h
  | cons y l ih =>
    cases k with
    | zero => exact .z
    | succ k => exact .s (ih (by simpa using h))

variable {wr : Bool} {opn : Option Nat} {li : List Int}
theorem S1.ldI (s : scD P t = true) (ex : ev f x = .pointer (some ⟨b, o, none⟩)) (mm : Kn C b (.cells (ints li) opn wr)) (g : o < li.length) : S1 P (.load t x) f C (.int .i64 (li.getD o 0)) C :=
  S1.ld s ex mm (ints_get g)
theorem S1.stI {q : Int} (s : scD P t = true) (ex : ev f x = .pointer (some ⟨b, o, none⟩)) (ey : ev f y = .int .i64 q) (g : o < li.length) (mm : Upd L b (.cells (ints li) opn true) (.cells (ints (li.set o q)) opn true) L') :
    S1 P (.store t x y) f (Hp hr h0 F L) undef (Hp hr h0 F L') := S1.st s ex ey rfl (ints_set g) mm
end
end Go.E
namespace Go.E
open Go

def lbOf (ops : Array Oper) : List Nat := (badPairs ops).flatMap fun p => [p.1, p.2]

def mkO : Op → Bool
  | .load .. | .lookup .. | .slice .. => false
  | op => looksOrMakes op
def noMk (ops : Array Oper) : Bool := (badPairs ops).all fun p => match ops[p.1]? with | some o => !mkO o.op || !isQuiet o.op | none => true

theorem mkO_same {P : Program} {op : Op} {ρ : Operand → Value} {h h' : EH} {v : Value} (hq : isQuiet op = true) (hm : mkO op = false) (e : estep P op ρ h = some (v, h')) : h' = h := by
  by_cases hl : looksOrMakes op = false
  · exact (quiet_makes hq hl e).1
  · cases op <;> simp only [mkO] at hm <;> first | exact absurd hm hl | skip
    all_goals (simp only [estep, Option.map_eq_some_iff, Prod.mk.injEq] at e; obtain ⟨_, _, _, e⟩ := e; exact e.symm)

def SdW (W : Nat → Prop) (ops : Array Oper) (i : Nat) (s s' : (Nat → Value) × EH) : Prop :=
  (∀ b, ¬ W b → b < s.2.length → s'.2[b]? = s.2[b]?) ∧ ∀ o, ops[i]? = some o → isQuiet o.op = true → ∀ b, reads o.op (ev s.1) = some b → ¬ W b

def PX (P : Program) (N : Nat) (W : Nat → Prop) (ops : Array Oper) (lb : List Nat) (i : Nat) (f : Nat → Value) (h : EH) (U : Value → (Nat → Value) → EH → Prop) : Prop :=
  ∃ j tr o g args v h', DSeqP P N ops (i + j) i f h tr ∧ (∀ k, i + k ∈ lb → k < tr.length → SdW W ops (i + k) (stAt (f, h) tr k) (stAt (f, h) tr (k + 1))) ∧ ops[i + j]? = some o ∧ opOk N o = true ∧ wantE N ops (stAt (f, h) tr j).1 o = some true ∧ isQuiet o.op = false ∧
    callee (stAt (f, h) tr j).1 o.op = some (g, args) ∧ fnOk P g = true ∧ SndFn P g args (stAt (f, h) tr j).2 (.pan v) h' ∧ j < tr.length ∧ U v (panicF ops f) h'

def DX (P : Program) (N : Nat) (W : Nat → Prop) (ops : Array Oper) (lb : List Nat) (i : Nat) (f : Nat → Value) (h : EH) (T : (Nat → Value) → EH → Prop) (U : Value → (Nat → Value) → EH → Prop) : Prop :=
  (∃ tr, DSeq P N ops i f h tr ∧ (∀ k, i + k ∈ lb → k < tr.length → SdW W ops (i + k) (stAt (f, h) tr k) (stAt (f, h) tr (k + 1))) ∧ T (tr.getLastD (f, h)).1 (tr.getLastD (f, h)).2) ∨ PX P N W ops lb i f h U

theorem panicF_setT {ops : Array Oper} {i : Nat} {o : Oper} {f : Nat → Value} {v : Value} (hi : ops[i]? = some o) : panicF ops (setT f o.dst v) = panicF ops f := by
  funext t
  unfold panicF
  split
  · rfl
  · rename_i hn
    cases hd : o.dst with
    | none => rfl
    | some d =>
      by_cases e : t = d
      · exfalso
        apply hn
        rw [List.any_eq_true]
        refine ⟨o, ?_, by rw [hd, e]; simp⟩
        obtain ⟨hlt, rfl⟩ := Array.getElem?_eq_some_iff.1 hi
        simp
      · simp only [setT, if_neg e]

section
variable {P : Program} {N : Nat} {W : Nat → Prop} {ops : Array Oper} {lb : List Nat} {i : Nat} {f : Nat → Value} {h h' : EH} {T : (Nat → Value) → EH → Prop} {U : Value → (Nat → Value) → EH → Prop} {o : Oper} {v : Value}

theorem DX.done (hi : ops.size = i) (t : T f h) : DX P N W ops lb i f h T U := .inl ⟨[], .done hi, fun k _ hk => by simp at hk, t⟩

theorem ext_cons {f' : Nat → Value} {tr : List ((Nat → Value) × EH)} (hx : i ∈ lb → SdW W ops i (f, h) (f', h')) (k : ∀ k, i + 1 + k ∈ lb → k < tr.length → SdW W ops (i + 1 + k) (stAt (f', h') tr k) (stAt (f', h') tr (k + 1))) :
    ∀ k, i + k ∈ lb → k < ((f', h') :: tr).length → SdW W ops (i + k) (stAt (f, h) ((f', h') :: tr) k) (stAt (f, h) ((f', h') :: tr) (k + 1)) := by
  intro j hj hlt
  cases j with
  | zero =>
    rw [stAt_succ (Nat.zero_le _)]
    exact hx (by simpa using hj)
  | succ j =>
    simp only [List.length_cons] at hlt
    rw [stAt_succ (by omega), stAt_succ (by omega)]
    rw [show i + (j + 1) = i + 1 + j by omega]
    exact k j (by rw [show i + 1 + j = i + (j + 1) by omega]; exact hj) (by omega)

theorem DX.step {v : Value} (hi : ops[i]? = some o) (hx : i ∈ lb → SdW W ops i (f, h) (setT f o.dst v, h')) (d1 : ∀ tr, DSeq P N ops (i + 1) (setT f o.dst v) h' tr → DSeq P N ops i f h ((setT f o.dst v, h') :: tr)) (d2 : ∀ j tr, DSeqP P N ops j (i + 1) (setT f o.dst v) h' tr → DSeqP P N ops j i f h ((setT f o.dst v, h') :: tr))
    (d : DX P N W ops lb (i + 1) (setT f o.dst v) h' T U) : DX P N W ops lb i f h T U := by
  rcases d with ⟨tr, d, hx', t⟩ | ⟨j, tr, o', g, args, v', h2, d, hx', ho, hk, hw, hq, hc, hf, hs, hj, u⟩
  · exact .inl ⟨_, d1 _ d, ext_cons hx hx', by rw [List.getLastD_cons]; exact t⟩
  · refine .inr ⟨j + 1, _, o', g, args, v', h2, d2 _ _ (by rw [show i + 1 + j = i + (j + 1) by omega] at d; exact d), ext_cons hx hx', by rw [show i + (j + 1) = i + 1 + j by omega]; exact ho, hk, ?_, hq, ?_, hf, ?_, by simp only [List.length_cons]; omega, by rw [← panicF_setT hi (v := v)]; exact u⟩
    · rw [stAt_succ (by omega)]; exact hw
    · rw [stAt_succ (by omega)]; exact hc
    · rw [stAt_succ (by omega)]; exact hs

theorem DX.skip (hi : ops[i]? = some o) (hk : opOk N o = true) (hw : wantE N ops f o = some false) (hs : i ∈ lb → isQuiet o.op = true → ∀ b, reads o.op (ev f) = some b → ¬ W b) (d : DX P N W ops lb (i + 1) (setT f o.dst undef) h T U) : DX P N W ops lb i f h T U :=
  .step hi (fun hm => ⟨fun _ _ _ => rfl, fun o' ho' => by rw [hi] at ho'; cases ho'; exact hs hm⟩) (fun _ d => .skip hi hk hw d) (fun _ _ d => .skip hi hk hw d) d

theorem DX.op (hi : ops[i]? = some o) (hk : opOk N o = true) (hw : wantE N ops f o = some true) (hl : h.length ≤ h'.length) (e : (isQuiet o.op = true ∧ estep P o.op (ev f) h = some (v, h')) ∨ (isQuiet o.op = false ∧ XStep P f h o.op v h'))
    (hx : i ∈ lb → SdW W ops i (f, h) (setT f o.dst v, h')) (d : DX P N W ops lb (i + 1) (setT f o.dst v) h' T U) : DX P N W ops lb i f h T U :=
  .step hi hx (fun _ d => .op hi hk hw hl e d) (fun _ _ d => .op hi hk hw hl e d) d

theorem DX.pan {g : FuncId} {args : Array Value} (hi : ops[i]? = some o) (hl : i + 1 = ops.size) (hk : opOk N o = true) (hw : wantE N ops f o = some true) (hq : isQuiet o.op = false) (hc : callee f o.op = some (g, args)) (hf : fnOk P g = true) (hs : SndFn P g args h (.pan v) h') (u : U v (panicF ops f) h') : DX P N W ops lb i f h T U := by
  refine .inr ⟨0, [(setT f o.dst (.chan none), h)], o, g, args, v, h', .pan hi hk hw hq (.done hl.symm), ?_, hi, hk, hw, hq, hc, hf, hs, by simp, u⟩
  intro k _ hk
  have : k = 0 := by simpa using hk
  subst this
  exact ⟨fun _ _ _ => rfl, fun o' ho' hq' => by rw [Nat.add_zero, hi] at ho'; cases ho'; rw [hq] at hq'; cases hq'⟩

theorem side_gen {tr : List ((Nat → Value) × EH)} (hW : (∀ b, W b → b < h.length) ∨ noMk ops = true) (hsm : ∀ k o, ops[k]? = some o → isQuiet o.op = true → mkO o.op = false → (stAt (f, h) tr (k + 1)).2 = (stAt (f, h) tr k).2) (hlen : tr.length = ops.size) (step1 : ∀ k, k < ops.size → (stAt (f, h) tr k).2.length ≤ (stAt (f, h) tr (k + 1)).2.length) (hx : ∀ k, 0 + k ∈ lbOf ops → k < tr.length → SdW W ops (0 + k) (stAt (f, h) tr k) (stAt (f, h) tr (k + 1))) : ∀ p ∈ badPairs ops, SideOk ops (f, h) tr p := by
  intro p hp oi oj hi hj
  have hmem : ∀ k, k = p.1 ∨ k = p.2 → 0 + k ∈ lbOf ops := by
    intro k hk
    simp only [lbOf, List.mem_flatMap, Nat.zero_add]
    exact ⟨p, hp, by rcases hk with rfl | rfl <;> simp⟩
  have h1 := (Array.getElem?_eq_some_iff.1 hi).1
  have h2 := (Array.getElem?_eq_some_iff.1 hj).1
  have hij : p.1 < p.2 := by
    simp only [badPairs, List.mem_flatMap, List.mem_range, List.mem_filterMap] at hp
    obtain ⟨j, _, i, hlt, he⟩ := hp
    split at he
    · split at he
      · cases he; exact hlt
      · cases he
    · cases he
  have mono : ∀ a b, a ≤ b → b ≤ ops.size → (stAt (f, h) tr a).2.length ≤ (stAt (f, h) tr b).2.length := by
    intro a b hab hb
    induction b with
    | zero => have : a = 0 := by omega
              subst this; exact Nat.le_refl _
    | succ b ih =>
      by_cases he : a = b + 1
      · subst he; exact Nat.le_refl _
      · exact Nat.le_trans (ih (by omega) (by omega)) (step1 b (by omega))
  have sd1 := hx p.1 (hmem _ (.inl rfl)) (by omega)
  have sd2 := hx p.2 (hmem _ (.inr rfl)) (by omega)
  rw [Nat.zero_add] at sd1 sd2
  refine ⟨fun hq => ⟨fun b hr hb => sd2.1 b (sd1.2 _ hi hq b hr) (Nat.lt_of_lt_of_le hb (mono _ _ (by omega) (by omega))), fun b hb1 hb => sd2.1 b (fun hm => ?_) (Nat.lt_of_lt_of_le hb (mono _ _ (by omega) (by omega)))⟩, fun hq b hr hb => sd1.1 b (sd2.2 _ hj hq b hr) hb⟩
  rcases hW with hW | hmk
  case inr =>
    have h6 := hsm p.1 oi hi hq (by
      have h7 := List.all_eq_true.1 hmk p hp
      simp only [hi, hq, Bool.not_true, Bool.or_false, Bool.not_eq_true'] at h7
      exact h7)
    rw [h6] at hb
    omega
  have h3 := hW b hm
  have h4 := mono 0 p.1 (Nat.zero_le _) (by omega)
  have h5 : (stAt (f, h) tr 0).2 = h := rfl
  rw [h5] at h4
  omega

theorem side_ext {tr : List ((Nat → Value) × EH)} (hW : (∀ b, W b → b < h.length) ∨ noMk ops = true) (d : DSeq P N ops 0 f h tr) (hx : ∀ k, 0 + k ∈ lbOf ops → k < tr.length → SdW W ops (0 + k) (stAt (f, h) tr k) (stAt (f, h) tr (k + 1))) : ∀ p ∈ badPairs ops, SideOk ops (f, h) tr p := by
  have st := d.steps
  simp only [Nat.zero_add] at st
  refine side_gen hW (fun k o ho hq hmo => ?_) (by simpa using d.len) (fun k hk => ?_) hx
  · obtain ⟨_, v, _, _, h4⟩ := st k o ho
    rcases h4 with ⟨_, _, h4⟩ | ⟨_, _, h4⟩ | ⟨_, h4, _⟩
    · exact h4
    · exact mkO_same hq hmo h4
    · rw [hq] at h4; cases h4
  obtain ⟨_, v, _, h3, _⟩ := st k _ (Array.getElem?_eq_getElem hk)
  exact h3

theorem side_extP {j : Nat} {tr : List ((Nat → Value) × EH)} (hW : (∀ b, W b → b < h.length) ∨ noMk ops = true) (d : DSeqP P N ops j 0 f h tr) (hx : ∀ k, 0 + k ∈ lbOf ops → k < tr.length → SdW W ops (0 + k) (stAt (f, h) tr k) (stAt (f, h) tr (k + 1))) : ∀ p ∈ badPairs ops, SideOk ops (f, h) tr p := by
  have st := d.steps
  simp only [Nat.zero_add] at st
  refine side_gen hW (fun k o ho hq hmo => ?_) (by simpa using d.len) (fun k hk => ?_) hx
  · obtain ⟨_, v, _, _, h4⟩ := st k o ho
    rcases h4 with ⟨_, _, h4⟩ | ⟨_, _, h4⟩ | ⟨_, h4, _⟩ | ⟨_, _, _, _, h4⟩ | ⟨_, _, h4⟩
    · exact h4
    · exact mkO_same hq hmo h4
    · rw [hq] at h4; cases h4
    · exact h4
    · rw [hq] at h4; cases h4
  obtain ⟨_, v, _, h3, _⟩ := st k _ (Array.getElem?_eq_getElem hk)
  exact h3
end

theorem storeRow_len {h h' : EH} {b off : Nat} {l : List Value} (e : storeRow h b off l = some h') : h'.length = h.length := by
  unfold storeRow at e
  split at e
  · simp only [Option.ite_none_right_eq_some, Option.some.injEq] at e
    obtain ⟨_, rfl⟩ := e
    simp
  · cases e

theorem eStore_len {P : Program} {t : TypeId} {a x : Value} {h h' : EH} (e : eStore P t a x h = some h') : h'.length = h.length := by
  unfold eStore at e
  split at e
  · simp only [Option.ite_none_right_eq_some] at e
    exact storeRow_len e.2
  · cases e

theorem eMapUpdate_len {P : Program} {t : TypeId} {m k x : Value} {h h' : EH} (e : eMapUpdate P t m k x h = some h') : h'.length = h.length := by
  unfold eMapUpdate at e
  split at e
  · split at e
    · split at e
      · split at e
        · split at e
          · cases e; simp
          · cases e
        · cases e; simp
        · cases e
      · cases e
    · cases e
  · cases e

theorem eAppend_len {P : Program} {st xt : TypeId} {s x v : Value} {h h' : EH} (e : eAppend P st xt s x h = some (v, h')) : h.length ≤ h'.length := by
  unfold eAppend at e
  split at e
  · split at e
    · cases e
    · split at e
      · split at e
        · split at e
          · split at e
            · cases e; exact Nat.le_refl _
            · split at e
              · cases e; simp
              · cases e
          · split at e
            · cases e; exact Nat.le_refl _
            · split at e
              · cases e; simp
              · cases e
          · split at e
            · split at e
              · cases e; exact Nat.le_refl _
              · rw [Option.map_eq_some_iff] at e
                obtain ⟨w, e1, e2⟩ := e
                cases e2
                exact Nat.le_of_eq (storeRow_len e1).symm
            · split at e
              · split at e
                · cases e; simp
                · split at e
                  · split at e
                    · cases e; simp
                    · cases e
                  · cases e; simp
                · cases e
              · cases e
          · cases e
        · cases e
      · cases e
  · cases e

def loudOp : Op → Bool
  | .store .. => true
  | .mapUpdate .. => true
  | .call c => match c.callee with
    | .builtin .append => true
    | .builtin .copy => true
    | _ => false
  | _ => false

theorem eCopy_len {P : Program} {t : TypeId} {s x v : Value} {h h' : EH} (e : eCopy P t s x h = some (v, h')) : h.length ≤ h'.length := by
  unfold eCopy at e
  split at e
  · split at e
    · simp only at e
      split at e
      · split at e
        · split at e
          · cases e; exact Nat.le_refl _
          · cases e
        · split at e
          · rw [Option.map_eq_some_iff] at e
            obtain ⟨w, e1, e2⟩ := e
            cases e2
            exact Nat.le_of_eq (storeRow_len e1).symm
          · cases e
      · cases e
    · cases e
  · cases e

theorem estep_len_loud {P : Program} {op : Op} {ρ : Operand → Value} {h h' : EH} {v : Value} (hop : loudOp op = true) (e : estep P op ρ h = some (v, h')) : h.length ≤ h'.length := by
  cases op <;> simp only [loudOp, Bool.false_eq_true] at hop
  case store t a x =>
    simp only [estep, Option.map_eq_some_iff, Prod.mk.injEq] at e
    obtain ⟨w, e1, _, rfl⟩ := e
    exact Nat.le_of_eq (eStore_len e1).symm
  case mapUpdate t m k x =>
    simp only [estep, Option.map_eq_some_iff, Prod.mk.injEq] at e
    obtain ⟨w, e1, _, rfl⟩ := e
    exact Nat.le_of_eq (eMapUpdate_len e1).symm
  case call c =>
    split at hop
    · rename_i hc
      simp only [estep, hc, eBuiltin] at e
      split at e <;> first | exact eAppend_len e | simp_all
    · rename_i hc
      simp only [estep, hc, eBuiltin] at e
      split at e <;> first | exact eCopy_len e | simp_all
    · cases hop

def writes (op : Op) (ρ : Operand → Value) : Option Nat :=
  match op with
  | .store _ a _ => blkOf (ρ a)
  | .mapUpdate _ m _ _ => blkOf (ρ m)
  | .call c => (c.args.toList.head?).bind fun x => blkOf (ρ x)
  | _ => none

theorem storeRow_kp {h h' : EH} {b off c : Nat} {l : List Value} (e : storeRow h b off l = some h') (hc : c ≠ b) : h'[c]? = h[c]? := by
  unfold storeRow at e
  split at e
  · simp only [Option.ite_none_right_eq_some, Option.some.injEq] at e
    obtain ⟨_, rfl⟩ := e
    rw [List.getElem?_set_ne (Ne.symm hc)]
  · cases e

theorem estep_kp {P : Program} {op : Op} {ρ : Operand → Value} {h h' : EH} {v : Value} (hop : loudOp op = true) (e : estep P op ρ h = some (v, h')) {b : Nat} (hb : writes op ρ ≠ some b) (hl : b < h.length) : h'[b]? = h[b]? := by
  cases op <;> simp only [loudOp, Bool.false_eq_true] at hop
  case store t a x =>
    simp only [estep, Option.map_eq_some_iff, Prod.mk.injEq] at e
    obtain ⟨w, e1, _, rfl⟩ := e
    unfold eStore at e1
    simp only [writes] at hb
    split at e1
    · rename_i c off hx
      simp only [Option.ite_none_right_eq_some] at e1
      exact storeRow_kp e1.2 (fun hc => hb (by rw [hx]; simp [blkOf, hc]))
    · cases e1
  case mapUpdate t m k x =>
    simp only [estep, Option.map_eq_some_iff, Prod.mk.injEq] at e
    obtain ⟨w, e1, _, rfl⟩ := e
    unfold eMapUpdate at e1
    simp only [writes] at hb
    split at e1
    · rename_i kt tt c hu hx
      have hne : c ≠ b := fun hc => hb (by rw [hx]; simp [blkOf, hc])
      split at e1
      · split at e1
        · split at e1
          · split at e1
            · cases e1; rw [List.getElem?_set_ne hne]
            · cases e1
          · cases e1; rw [List.getElem?_set_ne hne]
          · cases e1
        · cases e1
      · cases e1
    · cases e1
  case call c =>
    split at hop
    · rename_i hc
      have key : ∀ st xt s x, (ρ <$> c.args.toList.head?) = some s → eAppend P st xt s x h = some (v, h') → h'[b]? = h[b]? := by
        intro st xt s x hs e
        have hb' : blkOf s ≠ some b := by
          intro hs'
          apply hb
          simp only [writes]
          cases hh : c.args.toList.head? with
          | none => rw [hh] at hs; cases hs
          | some y => rw [hh] at hs; simp only [Option.map_eq_map, Option.map_some, Option.some.injEq] at hs; simp only [Option.bind_some]; rw [hs, hs']
        have app : ∀ (new : EH), (h ++ new)[b]? = h[b]? := fun new => by rw [List.getElem?_append_left hl]
        unfold eAppend at e
        split at e
        · split at e
          · cases e
          · split at e
            · split at e
              · split at e
                · split at e
                  · cases e; rfl
                  · split at e
                    · cases e; exact app _
                    · cases e
                · split at e
                  · cases e; rfl
                  · split at e
                    · cases e; exact app _
                    · cases e
                · rename_i b0 off len cap
                  have hne : b0 ≠ b := fun hc => hb' (by simp [blkOf, hc])
                  split at e
                  · split at e
                    · cases e; rfl
                    · rw [Option.map_eq_some_iff] at e
                      obtain ⟨w, e1, e2⟩ := e
                      cases e2
                      exact storeRow_kp e1 (Ne.symm hne)
                  · split at e
                    · split at e
                      · cases e; exact app _
                      · split at e
                        · split at e
                          · cases e
                            rw [List.getElem?_append_left (by simpa using hl), List.getElem?_set_ne hne]
                          · cases e
                        · cases e; exact app _
                      · cases e
                    · cases e
                · cases e
              · cases e
            · cases e
        · cases e
      simp only [estep, hc, eBuiltin] at e
      split at e
      case h_2 => 
        rename_i st xt s x hb1 hts hxs
        refine key _ _ _ _ ?_ e
        cases hl : c.args.toList with
        | nil => rw [hl] at hxs; simp at hxs
        | cons y ys => rw [hl] at hxs; simp only [List.map_cons, List.cons.injEq] at hxs; simp [hxs.1]
      all_goals simp_all
    · rename_i hc
      have key : ∀ t s x, (ρ <$> c.args.toList.head?) = some s → eCopy P t s x h = some (v, h') → h'[b]? = h[b]? := by
        intro t s x hs e
        have hb' : blkOf s ≠ some b := by
          intro hs'
          apply hb
          simp only [writes]
          cases hh : c.args.toList.head? with
          | none => rw [hh] at hs; cases hs
          | some y => rw [hh] at hs; simp only [Option.map_eq_map, Option.map_some, Option.some.injEq] at hs; simp only [Option.bind_some]; rw [hs, hs']
        unfold eCopy at e
        split at e
        · split at e
          · simp only at e
            split at e
            · split at e
              · split at e
                · cases e; rfl
                · cases e
              · split at e
                · rename_i b0 o0
                  have hne : b0 ≠ b := fun hc => hb' (by simp [blkOf, hc])
                  rw [Option.map_eq_some_iff] at e
                  obtain ⟨w, e1, e2⟩ := e
                  cases e2
                  exact storeRow_kp e1 (Ne.symm hne)
                · cases e
            · cases e
          · cases e
        · cases e
      simp only [estep, hc, eBuiltin] at e
      split at e
      case h_3 =>
        rename_i t t2 d s hb1 hts hxs
        refine key _ _ _ ?_ e
        cases hl : c.args.toList with
        | nil => rw [hl] at hxs; simp at hxs
        | cons y ys => rw [hl] at hxs; simp only [List.map_cons, List.cons.injEq] at hxs; simp [hxs.1]
      all_goals simp_all
    · cases hop

inductive SdQ (ops : Array Oper) (i : Nat) (op : Op) (f : Nat → Value) (W : Nat → Prop) (C : EH → Prop) : Prop
  | f (h : (lbOf ops).contains i = false)
  | n (h : reads op (ev f) = none)
  | b {b : Nat} (h : reads op (ev f) = some b) (hne : ∀ h, C h → ¬ W b)

inductive SdL (ops : Array Oper) (i : Nat) (op : Op) (f : Nat → Value) (W : Nat → Prop) : Prop
  | f (h : (lbOf ops).contains i = false)
  | n (h : writes op (ev f) = none)
  | w {b : Nat} (h : writes op (ev f) = some b) (hm : W b)

theorem SdQ.go {ops : Array Oper} {i : Nat} {o : Oper} {f g : Nat → Value} {W : Nat → Prop} {C : EH → Prop} {h h' : EH} (s : SdQ ops i o.op f W C) (hC : C h) (hi : ops[i]? = some o) (hm : i ∈ lbOf ops) (hx : ∀ b, b < h.length → h'[b]? = h[b]?) : SdW W ops i (f, h) (g, h') := by
  refine ⟨fun b _ hb => hx b hb, fun o' ho' _ b hb => ?_⟩
  rw [hi] at ho'; cases ho'
  cases s with
  | f h0 => simp [hm] at h0
  | n h0 => rw [h0] at hb; cases hb
  | b h0 hne => rw [h0] at hb; cases hb; exact hne h hC

theorem SdL.go {P : Program} {ops : Array Oper} {i : Nat} {o : Oper} {f g : Nat → Value} {W : Nat → Prop} {h h' : EH} {v : Value} (s : SdL ops i o.op f W) (hq : isQuiet o.op = false) (hop : loudOp o.op = true) (e : estep P o.op (ev f) h = some (v, h')) (hi : ops[i]? = some o) (hm : i ∈ lbOf ops) : SdW W ops i (f, h) (g, h') := by
  refine ⟨fun b hb hl => ?_, fun o' ho' hq' => by rw [hi] at ho'; cases ho'; rw [hq] at hq'; cases hq'⟩
  refine estep_kp hop e (fun hw => ?_) hl
  cases s with
  | f h0 => simp [hm] at h0
  | n h0 => rw [h0] at hw; cases hw
  | w h0 hm => rw [h0] at hw; cases hw; exact hb hm

section
variable (P : Program) (N : Nat)
def GE (W : Nat → Prop) (ops : Array Oper) (i : Nat) (f : Nat → Value) (ds : List Deferred) (rc : Option (Value × Bool)) (C : EH → Prop) (Q : Ex → St → Prop) : Prop :=
  regOk N ops = true → ∀ h, C h → DX P N W ops (lbOf ops) i f h (fun f' h' => Q .normal ⟨f', ds, h', rc⟩) (fun v f' h' => Q (.panic v) ⟨f', ds, h', rc⟩)
def GD (ops : Array Oper) (i : Nat) (f : Nat → Value) (ds : List Deferred) (rc : Option (Value × Bool)) (C : EH → Prop) (Q : Ex → St → Prop) : Prop := GE P N (fun b => b ∈ ([] : List Nat)) ops i f ds rc C Q
end

section
variable {P : Program} {N : Nat} {W : Nat → Prop} {ro : Option Nat} {f : Nat → Value} {ds : List Deferred} {rc : Option (Value × Bool)} {C C' : EH → Prop} {Q : Ex → St → Prop} {K : St → Prop}
variable {ops : Array Oper} {i : Nat} {d : Option Nat} {op : Op} {ty : TypeId} {pos : String} {aft : Array Edge} {gd : Option (Nat × Bool)} {v : Value} {hr : RO} {h0 : EH} {F : List Nat} {L L1 ps : Ents}

theorem GW.toDrwP {c : Code} {id : Nat} (W : Nat → Prop) (hm : P.follows .mixedOrders = true) (e : c = .region id (cO c) true) (hW : ∀ h, C h → (∀ b, W b → b < h.length) ∨ noMk (cO c) = true) (g : GE P N W (cO c) 0 f ds rc C Q) : GW P N ro c f ds rc C Q := by
  intro hk h hC
  rw [e] at hk ⊢
  simp only [codeOk, Bool.and_eq_true, Bool.not_true, Bool.false_or] at hk
  rcases g hk.1 h hC with ⟨tr, d, hx, q⟩ | ⟨j, tr, o, g, args, v, h2, d, hx, ho, hok, hw, hq, hc, hf, hs, _, q⟩
  · exact Go.E.W.draw hm hk.2 ⟨tr, d, side_ext (hW h hC) d hx, q⟩
  · rw [Nat.zero_add] at d ho
    exact Go.E.W.draw_panic hm hk.2 d (side_extP (hW h hC) d hx) ho hok hw hq hc hf hs q

theorem GW.toDrwW {c : Code} {id : Nat} (W : List Nat) (hm : P.follows .mixedOrders = true) (e : c = .region id (cO c) true) (hW : ∀ h, C h → ∀ b ∈ W, b < h.length) (g : GE P N (fun b => b ∈ W) (cO c) 0 f ds rc C Q) : GW P N ro c f ds rc C Q :=
  .toDrwP (fun b => b ∈ W) hm e (fun h hC => .inl (hW h hC)) g

theorem GW.toDrw {c : Code} {id : Nat} (hm : P.follows .mixedOrders = true) (e : c = .region id (cO c) true) (g : GD P N (cO c) 0 f ds rc C Q) : GW P N ro c f ds rc C Q :=
  .toDrwW [] hm e (fun _ _ b hb => by cases hb) g

theorem quiet_same {h h' : EH} (hq : isQuiet op = true) (e : estep P op (ev f) h = some (v, h')) : ∀ b, b < h.length → h'[b]? = h[b]? := by
  obtain ⟨new, rfl, _⟩ := estep_quiet hq e
  intro b hb
  rw [List.getElem?_append_left hb]

theorem GE.one (hi : ops.toList[i]? = some ⟨d, op, ty, pos, aft, gd⟩) (hw : Want N ops f gd true) (s : S1 P op f C v C') (hq : isQuiet op = true) (sd : SdQ ops i op f W C) (g : GE P N W ops (i + 1) (setT f d v) ds rc C' Q) : GE P N W ops i f ds rc C Q := by
  intro hk h hC
  obtain ⟨h', e, hC'⟩ := s h hC
  rw [Array.getElem?_toList] at hi
  exact DX.op hi (regOk_op hk hi) hw.want (estep_len hq e) (.inl ⟨hq, e⟩) (fun hm => SdQ.go (o := ⟨d, op, ty, pos, aft, gd⟩) sd hC hi hm (quiet_same hq e)) (g hk h' hC')

theorem GE.opN {v : Nat → Value} {C' : Nat → EH → Prop} (hi : ops.toList[i]? = some ⟨d, op, ty, pos, aft, gd⟩) (hw : Want N ops f gd true) (s : SN P op f C v C') (hq : isQuiet op = true) (sd : SdQ ops i op f W C) (g : ∀ a, GE P N W ops (i + 1) (setT f d (v a)) ds rc (C' a) Q) : GE P N W ops i f ds rc C Q := by
  intro hk h hC
  obtain ⟨a, h', e, hC'⟩ := s h hC
  rw [Array.getElem?_toList] at hi
  exact DX.op hi (regOk_op hk hi) hw.want (estep_len hq e) (.inl ⟨hq, e⟩) (fun hm => SdQ.go (o := ⟨d, op, ty, pos, aft, gd⟩) sd hC hi hm (quiet_same hq e)) (g a hk h' hC')

theorem GE.loud (hi : ops.toList[i]? = some ⟨d, op, ty, pos, aft, gd⟩) (hw : Want N ops f gd true) (s : S1 P op f C v C') (hq : isQuiet op = false) (hop : loudOp op = true)
    (sd : SdL ops i op f W) (g : GE P N W ops (i + 1) (setT f d v) ds rc C' Q) : GE P N W ops i f ds rc C Q := by
  intro hk h hC
  obtain ⟨h', e, hC'⟩ := s h hC
  rw [Array.getElem?_toList] at hi
  exact DX.op hi (regOk_op hk hi) hw.want (estep_len_loud hop e) (.inr ⟨hq, .simple e⟩) (fun hm => SdL.go (o := ⟨d, op, ty, pos, aft, gd⟩) sd hq hop e hi hm) (g hk h' hC')

theorem GE.loudN {v : Nat → Value} {C' : Nat → EH → Prop} (hi : ops.toList[i]? = some ⟨d, op, ty, pos, aft, gd⟩) (hw : Want N ops f gd true) (s : SN P op f C v C') (hq : isQuiet op = false) (hop : loudOp op = true)
    (sd : SdL ops i op f W) (g : ∀ a, GE P N W ops (i + 1) (setT f d (v a)) ds rc (C' a) Q) : GE P N W ops i f ds rc C Q := by
  intro hk h hC
  obtain ⟨a, h', e, hC'⟩ := s h hC
  rw [Array.getElem?_toList] at hi
  exact DX.op hi (regOk_op hk hi) hw.want (estep_len_loud hop e) (.inr ⟨hq, .simple e⟩) (fun hm => SdL.go (o := ⟨d, op, ty, pos, aft, gd⟩) sd hq hop e hi hm) (g a hk h' hC')

theorem GE.skip (hi : ops.toList[i]? = some ⟨d, op, ty, pos, aft, gd⟩) (hw : Want N ops f gd false) (sd : (lbOf ops).contains i = false ∨ isQuiet op = false ∨ ∀ ρ, reads op ρ = none) (g : GE P N W ops (i + 1) (setT f d undef) ds rc C Q) : GE P N W ops i f ds rc C Q := by
  intro hk h hC
  rw [Array.getElem?_toList] at hi
  refine DX.skip hi (regOk_op hk hi) hw.want (fun hm hq b hb => ?_) (g hk h hC)
  rcases sd with sd | sd | sd
  · simp [hm] at sd
  · rw [sd] at hq; cases hq
  · rw [sd] at hb; cases hb

theorem GE.done (hi : ops.toList.length = i) (g : GQ .normal f ds rc C Q) : GE P N W ops i f ds rc C Q := by
  intro hk h hC
  exact DX.done (by simpa using hi) (g h hC)

theorem GE.split (r : Nat) {t : Bool} (e : f r = .bool t) (g1 : t = true → GE P N W ops i (setT f (some r) (.bool true)) ds rc C Q) (g0 : t = false → GE P N W ops i (setT f (some r) (.bool false)) ds rc C Q) : GE P N W ops i f ds rc C Q := by
  cases t with
  | true => have := g1 rfl; rwa [setT_id e] at this
  | false => have := g0 rfl; rwa [setT_id e] at this

theorem GE.splitD (r : Nat) {p : Prop} [Decidable p] (e : f r = .bool (decide p)) (g1 : p → GE P N W ops i (setT f (some r) (.bool true)) ds rc C Q) (g0 : ¬p → GE P N W ops i (setT f (some r) (.bool false)) ds rc C Q) : GE P N W ops i f ds rc C Q :=
  .split r e (fun h => g1 (by simpa using h)) (fun h => g0 (by simpa using h))

theorem GE.weaken (hc : ∀ h, C h → C' h) (g : GE P N W ops i f ds rc C' Q) : GE P N W ops i f ds rc C Q := fun hk h hC => g hk h (hc h hC)

theorem XStep.quietN {op : Op} {g : FuncId} {args : List Value} (hc : CallOf f op g args) : isQuiet op = false := by cases hc <;> rfl

theorem GE.call {g : FuncId} {args : List Value} {X : Type} {V : X → Value} {R : X → Prop} {M : X → Ents} (hi : ops.toList[i]? = some ⟨d, op, ty, pos, aft, gd⟩) (hw : Want N ops f gd true) (hfn : fnOk P g = true)
    (hn : (lbOf ops).contains i = false ∨ ∀ h, Hp hr h0 F L h → ∀ p ∈ ps, W p.1) (t : Take L ps L1) (ct : ∀ h, Hp hr h0 F L h → Ct P g ⟨args⟩ h (ps.map (·.1)) V R M) (hc : CallOf f op g args)
    (k : ∀ x, R x → GE P N W ops (i + 1) (setT f d (V x)) ds rc (Hp hr h0 F (M x ++ L1)) Q) : GE P N W ops i f ds rc (Hp hr h0 F L) Q := by
  intro hk h hC
  rw [Array.getElem?_toList] at hi
  obtain ⟨o, h', s, q⟩ := ct h hC
  cases o with
  | ret v =>
    obtain ⟨x, rfl, hR, hP⟩ := q
    refine DX.op hi (regOk_op hk hi) hw.want hP.len (.inr ⟨XStep.quietN hc, .call hc.eq hfn s⟩) (fun hm => ⟨fun b hb hl => ?_, fun o' ho' hq' => ?_⟩) (k x hR hk h' (hC.call t hP))
    · rcases hn with hn | hn
      · simp [hm] at hn
      · rw [List.getElem?_eq_getElem hl]
        refine hP.old b _ (List.getElem?_eq_getElem hl) fun hb' => hb ?_
        obtain ⟨p, hp, rfl⟩ := List.mem_map.1 hb'
        exact hn h hC p hp
    · rw [hi] at ho'; cases ho'
      have : isQuiet op = true := hq'
      rw [XStep.quietN hc] at this; cases this
  | pan v => exact q.elim

theorem SdQ.e {f : Nat → Value} : SdQ ops i op f (fun b => b ∈ ([] : List Nat)) C := by
  cases h : reads op (ev f) with
  | none => exact .n h
  | some b => exact .b h (fun _ _ hm => by cases hm)

theorem GD.one (hi : ops.toList[i]? = some ⟨d, op, ty, pos, aft, gd⟩) (hw : Want N ops f gd true) (s : S1 P op f C v C') (hq : isQuiet op = true) (g : GD P N ops (i + 1) (setT f d v) ds rc C' Q) : GD P N ops i f ds rc C Q := GE.one hi hw s hq .e g
theorem GD.opN {v : Nat → Value} {C' : Nat → EH → Prop} (hi : ops.toList[i]? = some ⟨d, op, ty, pos, aft, gd⟩) (hw : Want N ops f gd true) (s : SN P op f C v C') (hq : isQuiet op = true) (g : ∀ a, GD P N ops (i + 1) (setT f d (v a)) ds rc (C' a) Q) : GD P N ops i f ds rc C Q := GE.opN hi hw s hq .e g
theorem GD.loud (hi : ops.toList[i]? = some ⟨d, op, ty, pos, aft, gd⟩) (hw : Want N ops f gd true) (s : S1 P op f C v C') (hq : isQuiet op = false) (hop : loudOp op = true)
    (hn : (lbOf ops).contains i = false) (g : GD P N ops (i + 1) (setT f d v) ds rc C' Q) : GD P N ops i f ds rc C Q := GE.loud hi hw s hq hop (.f hn) g
theorem GD.loudN {v : Nat → Value} {C' : Nat → EH → Prop} (hi : ops.toList[i]? = some ⟨d, op, ty, pos, aft, gd⟩) (hw : Want N ops f gd true) (s : SN P op f C v C') (hq : isQuiet op = false) (hop : loudOp op = true)
    (hn : (lbOf ops).contains i = false) (g : ∀ a, GD P N ops (i + 1) (setT f d (v a)) ds rc (C' a) Q) : GD P N ops i f ds rc C Q := GE.loudN hi hw s hq hop (.f hn) g
theorem GD.skip (hi : ops.toList[i]? = some ⟨d, op, ty, pos, aft, gd⟩) (hw : Want N ops f gd false) (g : GD P N ops (i + 1) (setT f d undef) ds rc C Q) : GD P N ops i f ds rc C Q := by
  intro hk h hC
  rw [Array.getElem?_toList] at hi
  exact DX.skip hi (regOk_op hk hi) hw.want (fun _ _ b _ hb => by cases hb) (g hk h hC)
theorem GD.done (hi : ops.toList.length = i) (g : GQ .normal f ds rc C Q) : GD P N ops i f ds rc C Q := GE.done hi g
theorem GD.split (r : Nat) {t : Bool} (e : f r = .bool t) (g1 : t = true → GD P N ops i (setT f (some r) (.bool true)) ds rc C Q) (g0 : t = false → GD P N ops i (setT f (some r) (.bool false)) ds rc C Q) : GD P N ops i f ds rc C Q := GE.split r e g1 g0
theorem GD.splitD (r : Nat) {p : Prop} [Decidable p] (e : f r = .bool (decide p)) (g1 : p → GD P N ops i (setT f (some r) (.bool true)) ds rc C Q) (g0 : ¬p → GD P N ops i (setT f (some r) (.bool false)) ds rc C Q) : GD P N ops i f ds rc C Q := GE.splitD r e g1 g0
theorem GD.weaken (hc : ∀ h, C h → C' h) (g : GD P N ops i f ds rc C' Q) : GD P N ops i f ds rc C Q := GE.weaken hc g
theorem GD.call {g : FuncId} {args : List Value} {X : Type} {V : X → Value} {R : X → Prop} {M : X → Ents} (hi : ops.toList[i]? = some ⟨d, op, ty, pos, aft, gd⟩) (hw : Want N ops f gd true) (hfn : fnOk P g = true)
    (t : Take L [] L) (ct : ∀ h, Hp hr h0 F L h → Ct P g ⟨args⟩ h [] V R M) (hc : CallOf f op g args)
    (k : ∀ x, R x → GD P N ops (i + 1) (setT f d (V x)) ds rc (Hp hr h0 F (M x ++ L)) Q) : GD P N ops i f ds rc (Hp hr h0 F L) Q := GE.call (ps := []) hi hw hfn (.inr (fun _ _ p hp => by cases hp)) t ct hc k
theorem GD.callF {g : FuncId} {args : List Value} {X : Type} {V : X → Value} {R : X → Prop} {M : X → Ents} (hi : ops.toList[i]? = some ⟨d, op, ty, pos, aft, gd⟩) (hw : Want N ops f gd true) (hfn : fnOk P g = true)
    (hn : (lbOf ops).contains i = false) (t : Take L ps L1) (ct : ∀ h, Hp hr h0 F L h → Ct P g ⟨args⟩ h (ps.map (·.1)) V R M) (hc : CallOf f op g args)
    (k : ∀ x, R x → GD P N ops (i + 1) (setT f d (V x)) ds rc (Hp hr h0 F (M x ++ L1)) Q) : GD P N ops i f ds rc (Hp hr h0 F L) Q := GE.call hi hw hfn (.inl hn) t ct hc k
end

section
variable {P : Program} {N : Nat} {W : List Nat} {ro : Option Nat} {f : Nat → Value} {ds : List Deferred} {rc : Option (Value × Bool)} {C C' : EH → Prop} {Q : Ex → St → Prop} {K : St → Prop}
variable {ops : Array Oper} {i : Nat} {d : Option Nat} {op : Op} {ty : TypeId} {pos : String} {aft : Array Edge} {gd : Option (Nat × Bool)} {v : Value} {hr : RO} {h0 : EH} {F : List Nat} {L L1 ps : Ents}
inductive Sep : Ents → Nat → Nat → Prop
  | l {b w : Nat} {o x : EObj} {L : Ents} (a : At L w o) : Sep ((b, x) :: L) b w
  | r {b w : Nat} {o x : EObj} {L : Ents} (a : At L b o) : Sep ((w, x) :: L) b w
  | s {b w : Nat} {p : Nat × EObj} {L : Ents} (a : Sep L b w) : Sep (p :: L) b w
  | sA {b w : Nat} {A L : Ents} (a : Sep L b w) : Sep (A ++ L) b w

theorem Sep.ne {b w : Nat} (s : Sep L b w) (hn : (L.map (·.1)).Nodup) : b ≠ w := by
  induction s with
  | l a =>
    simp only [List.map_cons, List.nodup_cons] at hn
    rintro rfl
    exact hn.1 (List.mem_map_of_mem (f := (·.1)) a.mem)
  | r a =>
    simp only [List.map_cons, List.nodup_cons] at hn
    rintro rfl
    exact hn.1 (List.mem_map_of_mem (f := (·.1)) a.mem)
  | s _ ih => simp only [List.map_cons, List.nodup_cons] at hn; exact ih hn.2
  | sA _ ih => rw [List.map_append, List.nodup_append] at hn; exact ih hn.2.1

inductive NoW (hr : RO) (h0 : EH) (F : List Nat) (L : Ents) (b : Nat) : List Nat → Prop
  | n : NoW hr h0 F L b []
  | c {w : Nat} {W : List Nat} (s : Sep L b w) (r : NoW hr h0 F L b W) : NoW hr h0 F L b (w :: W)
  | rom {w : Nat} {o o' : EObj} {W : List Nat} (e : hr b = some o) (a : At L w o') (r : NoW hr h0 F L b W) : NoW hr h0 F L b (w :: W)
  | old {w : Nat} {o o' : EObj} {W : List Nat} (e : h0[b]? = some o) (a : At L w o') (hF : b ∉ F) (r : NoW hr h0 F L b W) : NoW hr h0 F L b (w :: W)

theorem NoW.go {h : EH} {b : Nat} (n : NoW hr h0 F L b W) : Hp hr h0 F L h → b ∉ W := by
  intro H
  induction n with
  | n => simp
  | c s _ ih => simp only [List.mem_cons, not_or]; exact ⟨s.ne H.nd, ih⟩
  | rom e a _ ih =>
    simp only [List.mem_cons, not_or]
    refine ⟨?_, ih⟩
    rintro rfl
    have := H.off _ a.mem
    rw [e] at this; cases this
  | old e a hF _ ih =>
    simp only [List.mem_cons, not_or]
    refine ⟨?_, ih⟩
    rintro rfl
    rcases H.own _ a.mem with h1 | h1
    · exact hF h1
    · have := get_lt e; simp only at h1; omega

inductive InL (L : Ents) : List Nat → Prop
  | n : InL L []
  | c {w : Nat} {o : EObj} {W : List Nat} (a : At L w o) (r : InL L W) : InL L (w :: W)
theorem InL.go {h : EH} (n : InL L W) (H : Hp hr h0 F L h) : ∀ b ∈ W, b < h.length := by
  induction n with
  | n => intro b hb; cases hb
  | c a _ ih =>
    intro b hb
    rcases List.mem_cons.1 hb with rfl | hb
    · exact H.lt a.mem
    · exact ih b hb

theorem NoK.k {K : List Nat} {b : Nat} (hb : b ∈ K) : ¬ (b ∉ K ∧ hr b = none) := fun h => h.1 hb
theorem NoK.rom {K : List Nat} {e : List Lay} {a : Option Addr} {n c m : Nat} (hc : Cell hr (.sl e) (.slice a n c)) (hm : m < n) : ¬ (sb a ∉ K ∧ hr (sb a) = none) := fun h => by
  obtain ⟨_, ⟨opn, wr, hb, _⟩, _⟩ := hc.hit hm
  rw [hb] at h
  exact absurd h.2 (by simp)
theorem InL.mem {K : List Nat} (n : InL L K) : ∀ b ∈ K, ∃ o, (b, o) ∈ L := by
  induction n with
  | n => intro b hb; cases hb
  | c a _ ih =>
    intro b hb
    rcases List.mem_cons.1 hb with rfl | hb
    · exact ⟨_, a.mem⟩
    · exact ih b hb
theorem Hp.wk {K : List Nat} {h : EH} (H : Hp hr h0 F L h) (t : Take L ps L1) (n : InL L1 K) : ∀ p ∈ ps, p.1 ∉ K ∧ hr p.1 = none := by
  intro p hp
  have hnd := (t.perm.map (·.1)).nodup_iff.1 H.nd
  rw [List.map_append, List.nodup_append] at hnd
  refine ⟨fun hk => ?_, H.off p (t.perm.symm.mem_iff.1 (by simp [hp]))⟩
  obtain ⟨o, ho⟩ := n.mem _ hk
  exact hnd.2.2 _ (List.mem_map_of_mem (f := (·.1)) hp) _ (List.mem_map_of_mem (f := (·.1)) ho) rfl
end
end Go.E
namespace Go.E
open Go

def SX (P : Program) (op : Op) (f : Nat → Value) (C : EH → Prop) {X : Type} (V : X → Value) (R : X → Prop) : Prop := ∀ h, C h → ∃ x, estep P op (ev f) h = some (V x, h) ∧ R x

section
variable {P : Program} {N : Nat} {ro : Option Nat} {f : Nat → Value} {ds : List Deferred} {rc : Option (Value × Bool)} {C C' : EH → Prop} {Q : Ex → St → Prop}
variable {ops : Array Oper} {i : Nat} {d : Option Nat} {op : Op} {ty : TypeId} {pos : String} {aft : Array Edge} {gd : Option (Nat × Bool)}

theorem GL.opX {X : Type} {V : X → Value} {R : X → Prop} (hi : ops.toList[i]? = some ⟨d, op, ty, pos, aft, gd⟩) (hw : Want N ops f gd true) (s : SX P op f C V R) (g : ∀ x, R x → GL P N ro ops (i + 1) (setT f d (V x)) ds rc C Q) : GL P N ro ops i f ds rc C Q := by
  intro hk h hC
  obtain ⟨x, e, hR⟩ := s h hC
  rw [Array.getElem?_toList] at hi
  exact WO.op hi hw.want (regOk_op hk hi) e (g x hR hk h hC)

theorem GE.opX {W : Nat → Prop} {X : Type} {V : X → Value} {R : X → Prop} (hi : ops.toList[i]? = some ⟨d, op, ty, pos, aft, gd⟩) (hw : Want N ops f gd true) (s : SX P op f C V R) (hq : isQuiet op = true) (sd : SdQ ops i op f W C) (g : ∀ x, R x → GE P N W ops (i + 1) (setT f d (V x)) ds rc C Q) : GE P N W ops i f ds rc C Q := by
  intro hk h hC
  obtain ⟨x, e, hR⟩ := s h hC
  rw [Array.getElem?_toList] at hi
  exact DX.op hi (regOk_op hk hi) hw.want (Nat.le_refl _) (.inl ⟨hq, e⟩) (fun hm => SdQ.go (o := ⟨d, op, ty, pos, aft, gd⟩) sd hC hi hm (quiet_same hq e)) (g x hR hk h hC)
theorem GD.opX {X : Type} {V : X → Value} {R : X → Prop} (hi : ops.toList[i]? = some ⟨d, op, ty, pos, aft, gd⟩) (hw : Want N ops f gd true) (s : SX P op f C V R) (hq : isQuiet op = true) (g : ∀ x, R x → GD P N ops (i + 1) (setT f d (V x)) ds rc C Q) : GD P N ops i f ds rc C Q := GE.opX hi hw s hq .e g

end

section
variable {P : Program} {f : Nat → Value} {C : EH → Prop} {hr : RO} {h0 : EH} {F : List Nat} {L L' L1 : Ents} {x y c i : Operand} {t st xt : TypeId} {v u : Value} {b o n m cp k d z : Nat} {opn opn' : Option Nat} {wr wr' : Bool} {vs new old l : List Value} {kk : IntKind} {p q : Int} {a : Option Addr} {e : List Lay}

def fzD (P : Program) (t : TypeId) (k : Nat) : Option (Nat × Nat) :=
  match P.underlying t with
  | some (.struct fs) => (fs[k]?).bind fun fd => (szOf P fd.type).map fun n => (fd.offset, n)
  | _ => none
def boD (P : Program) (t : TypeId) : Bool :=
  match P.underlying t with
  | some (.struct fs) => fs.all (fun f => (szOf P f.type).isSome)
  | _ => false

inductive BuildP (f : Nat → Value) (P : Program) (t : TypeId) : List Value → List (Nat × Operand) → List Value → Prop
  | n {zs : List Value} : BuildP f P t zs [] zs
  | c {zs zs' r l : List Value} {i o n : Nat} {x : Operand} {v : Value} {ps : List (Nat × Operand)} (e : ev f x = v) (hc : CellsOf v l) (ho : fzD P t i = some (o, n)) (hn : l.length = n) (s : Spl zs o l zs') (k : BuildP f P t zs' ps r) : BuildP f P t zs ((i, x) :: ps) r

theorem foldl_splice (l : List Value) : ∀ (o j : Nat) (zs : List Value), o + j + l.length ≤ zs.length → (l.zipIdx j).foldl (fun (cs : Array Value) (x : Value × Nat) => cs.setIfInBounds (o + x.2) x.1) ⟨zs⟩ = ⟨splice zs (o + j) l⟩ := by
  induction l with
  | nil => intro o j zs h; simp [splice]
  | cons w l ih =>
    intro o j zs h
    simp only [List.zipIdx_cons, List.foldl_cons]
    have hs : (Array.setIfInBounds (⟨zs⟩ : Array Value) (o + j) w) = ⟨zs.set (o + j) w⟩ := by simp
    rw [hs, ih o (j + 1) (zs.set (o + j) w) (by simp at h ⊢; omega)]
    congr 1
    simp only [List.length_cons] at h
    apply List.ext_getElem?
    intro q
    have h1 : (o + j) + (w :: l).length ≤ zs.length := by simp; omega
    have h2 : (o + (j + 1)) + l.length ≤ (zs.set (o + j) w).length := by simp; omega
    rw [splice_getElem? h1, splice_getElem? h2]
    by_cases c1 : q < o + j
    · rw [if_neg (by omega), if_neg (by omega), List.getElem?_set_ne (by omega)]
    · by_cases c2 : q = o + j
      · subst c2
        rw [if_neg (by omega), if_pos (by simp), List.getElem?_set_self (by omega)]
        simp
      · by_cases c3 : q < o + j + (l.length + 1)
        · rw [if_pos (by omega), if_pos (by simp; omega)]
          have : q - (o + j) = (q - (o + (j + 1))) + 1 := by omega
          rw [this, List.getElem?_cons_succ]
        · rw [if_neg (by omega), if_neg (by simp; omega), List.getElem?_set_ne (by omega)]

theorem BuildP.eq {zs r : List Value} {ps : List (Nat × Operand)} (hb : BuildP f P t zs ps r) {fs : Array Field} (hu : P.underlying t = some (.struct fs)) :
    Instr.fill (fun i => (fs[i]?).map fun f => (f.offset, (szOf P f.type).getD 0)) ⟨zs⟩ (ps.map fun x => (x.1, ev f x.2)) = some ⟨r⟩ ∧ ∀ x ∈ ps, isUnk (ev f x.2) = false := by
  induction hb with
  | n => exact ⟨rfl, by simp⟩
  | @c zs zs' r l i o n x v ps ex hc ho hn s _ ih =>
    obtain ⟨rfl, hle⟩ := s.eq
    obtain ⟨h1, h2⟩ := hc.eq
    simp only [fzD, hu, Option.bind_eq_some_iff, Option.map_eq_some_iff, Prod.mk.injEq] at ho
    obtain ⟨fd, hf, sz, hsz, rfl, rfl⟩ := ho
    have hcs : v.cells = ⟨l⟩ := Array.toList_inj.1 (by simpa using h1)
    refine ⟨?_, fun y hy => ?_⟩
    · simp only [List.map_cons, Instr.fill, hf, Option.map_some, hsz, Option.getD_some, ex, hcs]
      rw [if_neg (by simp [hn]; omega)]
      have hfold := foldl_splice l fd.offset 0 zs (by simpa using hle)
      rw [← ih.1]
      congr 1
      simpa using hfold
    · rcases List.mem_cons.1 hy with rfl | hy
      · rw [ex]; exact h2
      · exact ih.2 y hy

theorem S1.bu {zs : List Value} {ps : Array (Nat × Operand)} (hz : zcD P t = some zs) (hbo : boD P t = true) (hb : BuildP f P t zs ps.toList l) : S1 P (.build t ps) f C (.agg ⟨l⟩) C := .pure fun h => by
  unfold zcD at hz
  rw [Option.map_eq_some_iff] at hz
  obtain ⟨⟨z, n⟩, hz1, hz2⟩ := hz
  unfold boD at hbo
  split at hbo
  · rename_i fs hu
    obtain ⟨e1, e2⟩ := hb.eq hu
    have hzc : z.cells = ⟨zs⟩ := Array.toList_inj.1 (by simpa using hz2)
    simp only [estep, eBuild, hz1, hu]
    have hall : (ps.map fun x => (x.1, ev f x.2)).all (fun x => !isUnk x.2) = true := by
      rw [Array.all_eq_true']
      intro y hy
      obtain ⟨x, hx, rfl⟩ := Array.mem_map.1 hy
      simp [e2 x (by simpa using hx)]
    rw [if_pos ⟨hall, hbo⟩, show (Array.map (fun x => (x.1, ev f x.2)) ps).toList = ps.toList.map fun x => (x.1, ev f x.2) by simp, hzc, e1]
    rfl
  · cases hbo

def azD (P : Program) (t : TypeId) : Option Nat :=
  match P.underlying t, zcD P t with
  | some (.array n el), some zs => if szOf P el = some 1 ∧ zs.length = n then some n else none
  | _, _ => none

theorem eOptBound_int {lo : Option Value} {y dflt l : Nat} (h : lo = none ∧ l = dflt ∨ (∃ k : IntKind, lo = some (.int k (l : Int)) ∧ l ≤ y)) : eOptBound lo y dflt = some l := by
  rcases h with ⟨rfl, rfl⟩ | ⟨k, rfl, hl⟩
  · rfl
  · simp only [eOptBound, eBound]
    rw [if_pos (by omega)]; simp

inductive Bd (f : Nat → Value) : Option Operand → Nat → Nat → Prop
  | no {dflt : Nat} : Bd f none dflt dflt
  | at {x : Operand} {k : IntKind} {l dflt : Nat} (e : ev f x = .int k (l : Int)) : Bd f (some x) dflt l

theorem Bd.eq {x : Option Operand} {dflt l y : Nat} (bd : Bd f x dflt l) (hl : l ≤ y) : eOptBound (x.map (ev f)) y dflt = some l := by
  cases bd with
  | no => rfl
  | @«at» _ k _ _ e => exact eOptBound_int (.inr ⟨k, by simp [e], hl⟩)

theorem SX.cut {lo hi : Option Operand} {l u : Nat} (s : elD P t = some z) (hc : Cell hr (.sl e) (.slice a n cp)) (hz : e.length = z) (ex : ev f x = .slice a n cp) (hlo : Bd f lo 0 l) (hhi : Bd f hi n u) (h1 : l ≤ u) (h2 : u ≤ n) :
    SX P (.slice t x lo hi none) f (Hp hr h0 F L) (fun a' : Option Addr => .slice a' (u - l) (cp - l)) (fun a' => Cell hr (.sl e) (.slice a' (u - l) (cp - l)) ∧ ∀ k, k < (u - l) * z → el hr a' k = el hr a (l * z + k)) := by
  intro h H
  subst hz
  obtain ⟨elt, hu, hsz⟩ := elD_spec s
  cases hc with
  | nil =>
    have : u = 0 := by omega
    subst this
    have : l = 0 := by omega
    subst this
    refine ⟨none, ?_, .nil, fun k hk => by omega⟩
    simp only [estep, eSlice, hu, ex, hsz, Option.map_none]
    rw [hhi.eq (Nat.le_refl _)]
    simp only
    rw [hlo.eq (Nat.le_refl _)]
    simp
  | sle =>
    have : u = 0 := by omega
    subst this
    have : l = 0 := by omega
    subst this
    refine ⟨some ⟨0, 0, some 0⟩, ?_, .sle, fun k hk => by omega⟩
    simp only [estep, eSlice, hu, ex, hsz, Option.map_none]
    rw [hhi.eq (Nat.le_refl _)]
    simp only
    rw [hlo.eq (Nat.le_refl _)]
    simp
  | @sl _ b off _ _ vs opn wr hb hn hcc hl ho he =>
    have hrow := H.rom _ _ hb
    have hes : esOk h b e.length = true := by
      simp only [esOk, hrow]
      rcases ho with rfl | rfl <;> simp
    have hev : estep P (.slice t x lo hi none) (ev f) h = some (if isOpn h b = true then .slice (some ⟨b, off + l * e.length, none⟩) (u - l) (cp - l) else cutAt b off e.length l cp (u - l), h) := by
      simp only [estep, eSlice, hu, ex, hsz, Option.map_none]
      rw [if_pos ⟨hn, hes⟩, hhi.eq (by omega : u ≤ cp)]
      simp only
      rw [hlo.eq h1]
      simp
    have cellAt : ∀ off', (u - l = 0 ∨ off' = off + l * e.length) → off' + (cp - l) * e.length ≤ vs.length → Cell hr (.sl e) (.slice (some ⟨b, off', none⟩) (u - l) (cp - l)) ∧ ∀ k, k < (u - l) * e.length → el hr (some ⟨b, off', none⟩) k = el hr (some ⟨b, off, none⟩) (l * e.length + k) := by
      intro off' ho' hle'
      constructor
      · refine .sl hb (by omega) (by omega) hle' ho fun i hi j ly hj => ?_
        rcases ho' with h0 | rfl
        · omega
        · have := he (l + i) (by omega) j ly hj
          rw [show off + l * e.length + (i * e.length + j) = off + ((l + i) * e.length + j) by rw [Nat.add_mul]; omega]
          exact this
      · intro k hk
        rcases ho' with h0 | rfl
        · rw [h0] at hk; omega
        · simp only [el, rv, sb, so, hb, Nat.add_assoc]
    by_cases hop : isOpn h b = true
    · rw [if_pos hop] at hev
      refine ⟨_, hev, cellAt _ (.inr rfl) ?_⟩
      have : l * e.length + (cp - l) * e.length = cp * e.length := by rw [← Nat.add_mul]; congr 1; omega
      omega
    · rw [if_neg hop] at hev
      unfold cutAt at hev
      refine ⟨_, hev, cellAt _ ?_ ?_⟩
      · by_cases hcl : cp = l
        · left; omega
        · right; rw [if_neg hcl]
      · by_cases hcl : cp = l
        · rw [if_pos hcl, hcl]; simp
          have : off + cp * e.length ≤ vs.length := hl
          omega
        · rw [if_neg hcl]
          have : l * e.length + (cp - l) * e.length = cp * e.length := by rw [← Nat.add_mul]; congr 1; omega
          omega

inductive Src (f : Nat → Value) (C : EH → Prop) (z : Nat) : Operand → Nat → List Value → Prop
  | row {x : Operand} {b n c : Nat} {vs : List Value} {opn : Option Nat} {wr : Bool} (e : ev f x = .slice (some ⟨b, 0, none⟩) n c) (m : Kn C b (.cells vs opn wr)) (hl : vs.length = n * z) : Src f C z x n vs
  | rom {x : Operand} {a : Option Addr} {n c : Nat} {vs : List Value} (e : ev f x = .slice a n c) (h : ∀ h, C h → eSrc h z (.slice a n c) = some vs) : Src f C z x n vs

theorem Src.eq {h : EH} (s : Src f C z x n new) (hC : C h) : eSrc h z (ev f x) = some new ∧ lenV (ev f x) = n ∧ (∃ a c, ev f x = .slice a n c) := by
  cases s with
  | row e m hl => rw [e]; exact ⟨src_row (m h hC) hl, rfl, _, _, rfl⟩
  | rom e hs => rw [e]; exact ⟨hs h hC, rfl, _, _, rfl⟩

theorem SN.ap0 (hz : appSz P st xt = some z) (ex : ev f x = .slice none 0 0) (s : Src f (Hp hr h0 F L) z y n new) (hn0 : n ≠ 0) (hn : n ≤ 1073741824) :
    SN P (.call ⟨.builtin .append, #[x, y], #[st, xt]⟩) f (Hp hr h0 F L) (fun a => .slice (some ⟨a, 0, none⟩) n n) (fun a => Hp hr h0 F ((a, opRow new z) :: L)) := by
  intro h H
  obtain ⟨el, xd, zv, h1, h2, h3, h4⟩ := appSz_spec hz
  obtain ⟨e1, e2, aa, cc, e3⟩ := s.eq H
  refine ⟨h.length, h ++ [opRow new z], es_append rfl rfl rfl ex rfl ?_, H.alloc _⟩
  simp only [eAppend, h1, h2, h3, h4, Bool.false_eq_true, if_false, e1, e2, if_neg hn0, if_pos hn]

theorem Rem.mem {p : Nat × EObj} (r : Rem L p L1) : p ∈ L := r.perm.symm.mem_iff.1 (by simp)

theorem Hp.drop {h : EH} {p : Nat × EObj} (H : Hp hr h0 F L h) (r : Rem L p L1) : Hp hr h0 F L1 h := by
  have hm : ∀ q ∈ L1, q ∈ L := fun q hq => r.perm.symm.mem_iff.1 (by simp [hq])
  refine ⟨H.old, H.len, fun q hq => H.at_ q (hm q hq), ?_, fun q hq => H.own q (hm q hq), H.rom, fun q hq => H.off q (hm q hq)⟩
  have := (r.perm.map (·.1)).nodup_iff.1 H.nd
  simp only [List.map_cons, List.nodup_cons] at this
  exact this.2

theorem Hp.kill {h : EH} {b : Nat} {o o' : EObj} (H : Hp hr h0 F L h) (r : Rem L (b, o) L1) : Hp hr h0 F L1 (h.set b o') := by
  have hm := r.mem
  have hb := H.at_ _ hm
  have H1 := H.drop r
  have hne : ∀ q ∈ L1, q.1 ≠ b := by
    have := (r.perm.map (·.1)).nodup_iff.1 H.nd
    simp only [List.map_cons, List.nodup_cons] at this
    exact fun q hq e => this.1 (e ▸ List.mem_map_of_mem hq)
  refine ⟨fun c x e hc => ?_, by simpa using H.len, fun q hq => set_other (H1.at_ q hq) (hne q hq), H1.nd, H1.own, fun c x e => ?_, H1.off⟩
  · have hne : c ≠ b := by
      rintro rfl
      rcases H.own _ hm with h1 | h1
      · exact hc h1
      · have := get_lt e; omega
    exact set_other (H.old c x e hc) hne
  · have hne : c ≠ b := by
      rintro rfl
      have := H.off _ hm
      simp only at this
      rw [this] at e; cases e
    exact set_other (H.rom c x e) hne

theorem SN.apO (hz : appSz P st xt = some z) (ex : ev f x = .slice (some ⟨b, 0, none⟩) k k) (s : Src f (Hp hr h0 F L) z y n new) (hn0 : n ≠ 0) (hn : k + n ≤ 1073741824) (hu : new.all okv = true) (r : Rem L (b, opRow old z) L1) (hol : old.length = k * z) :
    SN P (.call ⟨.builtin .append, #[x, y], #[st, xt]⟩) f (Hp hr h0 F L) (fun a => .slice (some ⟨a, 0, none⟩) (k + n) (k + n)) (fun a => Hp hr h0 F ((a, opRow (old ++ new) z) :: L1)) := by
  intro h H
  obtain ⟨el, xd, zv, h1, h2, h3, h4⟩ := appSz_spec hz
  obtain ⟨e1, e2, aa, cc, e3⟩ := s.eq H
  have hrow : h[b]? = some (.cells old (some z) true) := H.at_ _ r.mem
  have H2 := (H.kill (o' := .dead) r).alloc (opRow (old ++ new) z)
  simp only [List.length_set] at H2
  refine ⟨h.length, h.set b .dead ++ [opRow (old ++ new) z], es_append rfl rfl rfl ex rfl ?_, H2⟩
  have n1 : ¬ (k + n ≤ k) := by omega
  have hu' : new.all (fun v => oneCell v && !isUnk v) = true := hu
  simp only [eAppend, h1, h2, h3, h4, Bool.false_eq_true, if_false, e1, e2, if_neg n1, if_pos hn, src_row hrow hol, hrow, Nat.zero_add, hol, if_true, hu', and_self]

theorem S1.ixs {s : ByteArray} (hs : isStrD P t = true) (ex : ev f x = .string s) (ei : ev f i = .int kk (m : Int)) (hm : m < s.size) : S1 P (.index t x i) f C (.int .u8 (s[m]'hm).toNat) C := .pure fun h => by
  unfold isStrD at hs
  split at hs
  · rename_i hu
    simp only [estep, eIndex, hu, ex, ei]
    rw [if_pos (by omega)]
    simp [hm]
  · cases hs

theorem S1.dec1 {t2 : TypeId} (ex : ev f x = .int .i64 (m : Int)) (ey : ev f y = .int .i64 1) (h : 1 ≤ m) (h2 : m < 4611686018427387904) : S1 P (.binOp .sub t x y t2) f C (.int .i64 ((m - 1 : Nat) : Int)) C := by
  have := S1.subI (P := P) (t := t) (t2 := t2) (C := C) ex ey (by omega) (by omega)
  rwa [show (m : Int) - 1 = ((m - 1 : Nat) : Int) by omega] at this
theorem S1.subN {t2 : TypeId} (ex : ev f x = .int .i64 (m : Int)) (ey : ev f y = .int .i64 (n : Int)) (h : n ≤ m) (h2 : m < 4611686018427387904) : S1 P (.binOp .sub t x y t2) f C (.int .i64 ((m - n : Nat) : Int)) C := by
  have := S1.subI (P := P) (t := t) (t2 := t2) (C := C) ex ey (by omega) (by omega)
  rwa [show (m : Int) - n = ((m - n : Nat) : Int) by omega] at this
theorem S1.addN {t2 : TypeId} (ex : ev f x = .int .i64 (m : Int)) (ey : ev f y = .int .i64 (n : Int)) (h : m + n < 4611686018427387904) : S1 P (.binOp .add t x y t2) f C (.int .i64 ((m + n : Nat) : Int)) C := by
  have := S1.addI (P := P) (t := t) (t2 := t2) (C := C) ex ey (by omega) (by omega)
  simpa using this

def niD (P : Program) (t : TypeId) : Bool := match P.underlying t with | some d => !isIfaceD d | none => false

theorem S1.ta {u : TypeId} (s : niD P t = true) (ex : ev f x = .iface t v) : S1 P (.typeAssert x u t false) f C v C := .pure fun h => by
  unfold niD at s
  split at s
  · rename_i dd hu
    simp only [estep, ex, eAssert, hu]
    rw [if_pos (by simpa using s)]; rfl
  · cases s

theorem SN.ms {zs : List Value} (hz : elZ P t = some zs) (s : elD P t = some 1) (hzs : zs = [v]) (el : ev f x = .int kk (n : Int)) (ec : ev f y = .int kk (n : Int)) (hn : n ≤ 1073741824) :
    SN P (.makeSlice t x y) f (Hp hr h0 F L) (fun a => .slice (some ⟨a, 0, none⟩) n n) (fun a => Hp hr h0 F ((a, .cells (List.replicate n v) none true) :: L)) := by
  intro h H
  obtain ⟨elt, hu, hsz⟩ := elD_spec s
  unfold elZ at hz
  simp only [hu, Option.map_eq_some_iff] at hz
  obtain ⟨⟨zv, w⟩, hz1, hz2⟩ := hz
  obtain ⟨_, _, _, _, hzs2, _, _, _, _, hsz2⟩ := zeroOf_spec hz1
  rw [hsz] at hsz2; cases hsz2
  have hc : zv.cells = #[v] := Array.toList_inj.1 (by simp [hz2, hzs])
  refine ⟨h.length, h ++ [.cells (List.replicate n v) none true], ?_, H.alloc _⟩
  simp only [estep, el, ec, eMakeSlice, hu, hz1]
  rw [if_pos (by omega)]
  simp only [Int.toNat_natCast, Nat.mul_one, mkRow]
  have hlist : (zerosOf zv n).toList = List.replicate n v := ?_
  · rw [hlist]
  apply List.ext_getElem?
  intro j
  simp only [zerosOf, hc, Array.toList_map, Array.toList_range, List.getElem?_map, List.getElem?_range', List.getElem?_replicate]
  by_cases hj : j < n
  · simp [hj, Nat.mod_one]
  · simp [hj]
end

section
variable {P : Program} {N : Nat} {ro : Option Nat} {f : Nat → Value} {ds : List Deferred} {rc : Option (Value × Bool)} {Q : Ex → St → Prop}
variable {ops : Array Oper} {i : Nat} {d : Option Nat} {ty : TypeId} {pos : String} {aft : Array Edge} {gd : Option (Nat × Bool)} {hr : RO} {h0 : EH} {F : List Nat} {L L' : Ents}

theorem Ct.toBool {g : FuncId} {args : Array Value} {h : EH} {b : Bool} {R : Bool → Prop} (c : Ct P g args h F (fun _ : Unit => .bool b) (fun _ => True) (fun _ => [])) (hR : R b) : Ct P g args h F (fun r : Bool => .bool r) R (fun _ => []) :=
  c.mono fun _ _ => ⟨b, rfl, hR, rfl⟩
end

def outB (lo hi n : Int) : Bool := decide (n < lo) || decide (hi < n)
theorem outB_f {lo hi n : Int} (h : outB lo hi n = false) : lo ≤ n ∧ n ≤ hi := by
  simp only [outB, Bool.or_eq_false_iff, decide_eq_false_iff_not] at h; omega
theorem outB_in {lo hi n : Int} (h : lo ≤ n ∧ n ≤ hi) : outB lo hi n = false := by
  simp only [outB, Bool.or_eq_false_iff, decide_eq_false_iff_not]; omega
end Go.E
