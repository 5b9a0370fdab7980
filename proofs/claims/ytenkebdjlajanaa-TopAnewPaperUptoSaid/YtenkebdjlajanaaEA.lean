/-
  E1: THE ABSTRACT HEAP and how it lies in the model's memory. An abstract object is a row of cells (live, perhaps growing, perhaps only read), a map, a string's iterator, a loop's record; phi says in which block it lies.
-/
import Derived.Calls
import Derived.Below
import Derived.Laws.Sem
import Derived.ChangeKeysEq
set_option linter.all false
set_option linter.constructorNameAsVariable false
set_option linter.unusedSimpArgs false
set_option linter.unusedVariables false
set_option linter.unusedSectionVars false
set_option linter.unnecessarySimpa false
namespace Go.E
open Go

structure Loc where
  blk : Nat
  δ : Nat
  size : Nat
  es : Nat
  extra : Nat
  opn : Bool

inductive EObj where
  | cells (vs : List Value) (opn : Option Nat) (wr : Bool)
  | dead
  | map (es : List MapEntry) (clock : Nat)
  | str (s : ByteArray) (pos : Nat)
  | loop (l : Loop)
  | defers

abbrev EH := List EObj
abbrev Phi := Nat → Option Loc

def EObj.wrt : EObj → Bool
  | .cells _ _ wr => wr
  | .dead => false
  | _ => true

def EObj.live : EObj → Bool
  | .dead => false
  | _ => true

def unk : Value := .chan none

def isBase : Value → Bool
  | .bool _ | .int _ _ | .float _ _ | .complex _ _ _ | .string _ | .nilFunc | .nilIface => true
  | .pointer none | .map none => true
  | _ => false

def FnRel (φ : Phi) : Fn → Fn → Prop
  | .yield l, .yield l' => ∃ loc, φ l = some loc ∧ l' = loc.blk
  | .yield _, _ => False
  | _, .yield _ => False
  | f, g => f = g

inductive VRel (φ : Phi) : Value → Value → Prop
  | unk {v' : Value} : VRel φ (.chan none) v'
  | base {v : Value} (h : isBase v = true) : VRel φ v v
  | ptr {b off : Nat} {loc : Loc} (h : φ b = some loc) : VRel φ (.pointer (some ⟨b, off, none⟩)) (.pointer (some ⟨loc.blk, loc.δ + off, none⟩))
  | slnil {len cap : Nat} : VRel φ (.slice none len cap) (.slice none len cap)
  | slice {b off len cap cap' : Nat} {loc : Loc} (h : φ b = some loc)
      (hc : cap' = cap ∨ (loc.opn = true ∧ off + cap * loc.es = loc.size ∧ cap' = cap + loc.extra)) :
      VRel φ (.slice (some ⟨b, off, none⟩) len cap) (.slice (some ⟨loc.blk, loc.δ + off, none⟩) len cap')
  | slempty {b off off' cap' : Nat} {loc : Loc} (h : φ b = some loc)
      (hc : cap' = 0 ∨ (loc.opn = true ∧ off = loc.size ∧ loc.δ ≤ off' ∧ off' + cap' * loc.es ≤ loc.δ + loc.size + loc.extra * loc.es)) :
      VRel φ (.slice (some ⟨b, off, none⟩) 0 0) (.slice (some ⟨loc.blk, off', none⟩) 0 cap')
  | sle {a : Addr} : VRel φ (.slice (some ⟨0, 0, some 0⟩) 0 0) (.slice (some a) 0 0)
  | map {b : Nat} {loc : Loc} (h : φ b = some loc) : VRel φ (.map (some b)) (.map (some loc.blk))
  | func {fn fn' : Fn} {fs fs' cs cs' : Array Value} (hf : FnRel φ fn fn')
      (h1 : fs.size = fs'.size) (h1' : ∀ i (h : i < fs.size) (h' : i < fs'.size), VRel φ fs[i] fs'[i])
      (h2 : cs.size = cs'.size) (h2' : ∀ i (h : i < cs.size) (h' : i < cs'.size), VRel φ cs[i] cs'[i]) : VRel φ (.func fn fs cs) (.func fn' fs' cs')
  | iface {t : TypeId} {v v' : Value} (h : VRel φ v v') : VRel φ (.iface t v) (.iface t v')
  | agg {a a' : Array Value} (h : a.size = a'.size) (h' : ∀ i (h : i < a.size) (h' : i < a'.size), VRel φ a[i] a'[i]) : VRel φ (.agg a) (.agg a')
  | tuple {a a' : Array Value} (h : a.size = a'.size) (h' : ∀ i (h : i < a.size) (h' : i < a'.size), VRel φ a[i] a'[i]) : VRel φ (.tuple a) (.tuple a')

def VsRel (φ : Phi) (a a' : Array Value) : Prop := a.size = a'.size ∧ ∀ i (_ : i < a.size) (_ : i < a'.size), VRel φ a[i] a'[i]

def Le (φ φ' : Phi) : Prop := ∀ b loc, φ b = some loc → φ' b = some loc

theorem Le.refl (φ : Phi) : Le φ φ := fun _ _ h => h
theorem Le.trans {a b c : Phi} (h : Le a b) (k : Le b c) : Le a c := fun _ _ e => k _ _ (h _ _ e)

theorem FnRel.mono {φ φ' : Phi} (h : Le φ φ') {f f' : Fn} (r : FnRel φ f f') : FnRel φ' f f' := by
  cases f <;> cases f' <;> simp_all only [FnRel]
  obtain ⟨loc, e, rfl⟩ := r
  exact ⟨loc, h _ _ e, rfl⟩

theorem VRel.mono {φ φ' : Phi} (h : Le φ φ') {v v' : Value} (r : VRel φ v v') : VRel φ' v v' := by
  induction r with
  | unk => exact .unk
  | base h => exact .base h
  | ptr e => exact .ptr (h _ _ e)
  | slnil => exact .slnil
  | slice e hc => exact .slice (h _ _ e) hc
  | slempty e hc => exact .slempty (h _ _ e) hc
  | sle => exact .sle
  | map e => exact .map (h _ _ e)
  | func hf h1 _ h2 _ i1 i2 => exact .func (hf.mono h) h1 i1 h2 i2
  | iface _ ih => exact .iface ih
  | agg e _ ih => exact .agg e ih
  | tuple e _ ih => exact .tuple e ih

theorem VsRel.mono {φ φ' : Phi} (h : Le φ φ') {a a' : Array Value} (r : VsRel φ a a') : VsRel φ' a a' :=
  ⟨r.1, fun i x y => (r.2 i x y).mono h⟩

def ERel (φ : Phi) (e e' : MapEntry) : Prop := VRel φ e.key e'.key ∧ VRel φ e.val e'.val ∧ e.born = e'.born

def LoopRel (φ : Phi) (l l' : Loop) : Prop :=
  l.state = l'.state ∧ l.pending = l'.pending ∧ VsRel φ l.tmps l'.tmps ∧ l.params = l'.params ∧ l.assign = l'.assign ∧ l.body = l'.body ∧
    ∃ loc, φ l.defers = some loc ∧ l'.defers = loc.blk

def ORel (φ : Phi) (w : World) (loc : Loc) : EObj → Prop
  | .dead => True
  | .cells vs opn wr => vs.length = loc.size ∧ loc.opn = opn.isSome ∧ (∀ es, opn = some es → loc.es = es) ∧ (loc.opn = false → loc.extra = 0) ∧
      ∃ c el fr, w.heap[loc.blk]? = some (.cells c el fr) ∧ loc.δ + loc.size + loc.extra * loc.es ≤ c.size ∧
        (∀ (i : Nat) (v : Value), vs[i]? = some v → ∃ v', c[loc.δ + i]? = some v' ∧ VRel φ v v') ∧
        (wr = true → ∀ i, i < loc.size + loc.extra * loc.es → ¬ (fr.1 ≤ loc.δ + i ∧ loc.δ + i < fr.2))
  | .map es clock => loc.δ = 0 ∧ ∃ es' : Array MapEntry, w.heap[loc.blk]? = some (.map es' clock) ∧ es.length = es'.size ∧ ∀ (i : Nat) (e e' : MapEntry), es[i]? = some e → es'[i]? = some e' → ERel φ e e'
  | .str s pos => loc.δ = 0 ∧ w.heap[loc.blk]? = some (.stringIter s pos)
  | .loop l => loc.δ = 0 ∧ ∃ l', w.heap[loc.blk]? = some (.loop l') ∧ LoopRel φ l l'
  | .defers => loc.δ = 0 ∧ w.heap[loc.blk]? = some (.deferred (some []))

structure RelH (φ : Phi) (h : EH) (w : World) : Prop where
  obj : ∀ b loc, φ b = some loc → ∃ o, h[b]? = some o ∧ loc.blk < w.heap.size ∧ ORel φ w loc o
  inj : ∀ b₁ b₂ l₁ l₂ o₁ o₂, φ b₁ = some l₁ → φ b₂ = some l₂ → h[b₁]? = some o₁ → h[b₂]? = some o₂ → o₁.wrt = true → o₂.live = true → l₁.blk = l₂.blk → b₁ = b₂

def frzOf : Option Obj → Nat × Nat
  | some (.cells _ _ fr) => fr
  | _ => (0, 0)

theorem frozen?_eq (w : World) (a : Addr) : w.frozen? a = ((frzOf w.heap[a.block]?).1 ≤ a.off && a.off < (frzOf w.heap[a.block]?).2) := by
  unfold World.frozen? frzOf
  split
  · rename_i c el lo hi h; simp [h]
  · rename_i hne
    split
    · rename_i c el fr h
      exact absurd h (hne c el fr.1 fr.2)
    · simp

structure Tr (φ : Phi) (h : EH) (w : World) (φ' : Phi) (h' : EH) (w' : World) : Prop where
  le : Le φ φ'
  dom : ∀ b loc, φ b = some loc → b < h.length
  os : w'.os = w.os
  tape : w'.tape = w.tape
  output : w'.output = w.output
  size : w.heap.size ≤ w'.heap.size
  len : h.length ≤ h'.length
  fresh : ∀ b loc, φ' b = some loc → φ b = some loc ∨ (h.length ≤ b ∧ (w.heap.size ≤ loc.blk ∨ ∃ b₀ l₀ o₀, φ b₀ = some l₀ ∧ h[b₀]? = some o₀ ∧ o₀.wrt = true ∧ l₀.blk = loc.blk))
  turns : ∀ b o', h'[b]? = some o' → o'.wrt = true → b < h.length → ∃ o, h[b]? = some o ∧ o.wrt = true
  kept : ∀ k, k < w.heap.size → (∀ b loc o, φ b = some loc → h[b]? = some o → o.wrt = true → loc.blk ≠ k) → w'.heap[k]? = w.heap[k]?
  live : ∀ b o', h'[b]? = some o' → o'.live = true → b < h.length → ∃ o, h[b]? = some o ∧ o.live = true
  frz : ∀ k : Nat, frzOf w'.heap[k]? = frzOf w.heap[k]?

theorem Tr.refl {φ : Phi} {h : EH} {w : World} (d : ∀ b loc, φ b = some loc → b < h.length) : Tr φ h w φ h w :=
  ⟨.refl φ, d, rfl, rfl, rfl, Nat.le_refl _, Nat.le_refl _, fun _ _ e => .inl e, fun _ o e m _ => ⟨o, e, m⟩, fun _ _ _ => rfl, fun _ o e m _ => ⟨o, e, m⟩, fun _ => rfl⟩

theorem RelH.dom {φ : Phi} {h : EH} {w : World} (r : RelH φ h w) : ∀ b loc, φ b = some loc → b < h.length := fun b loc e => by
  obtain ⟨o, ho, _⟩ := r.obj b loc e
  exact (List.getElem?_eq_some_iff.1 ho).1

theorem RelH.tr {φ : Phi} {h : EH} {w : World} (r : RelH φ h w) : Tr φ h w φ h w := .refl r.dom

theorem Tr.trans {φ φ₁ φ₂ : Phi} {h h₁ h₂ : EH} {w w₁ w₂ : World} (a : Tr φ h w φ₁ h₁ w₁) (b : Tr φ₁ h₁ w₁ φ₂ h₂ w₂) : Tr φ h w φ₂ h₂ w₂ where
  le := a.le.trans b.le
  dom := a.dom
  os := b.os.trans a.os
  tape := b.tape.trans a.tape
  output := b.output.trans a.output
  size := Nat.le_trans a.size b.size
  len := Nat.le_trans a.len b.len
  fresh := by
    intro x loc e
    rcases b.fresh x loc e with e1 | ⟨hl, hb⟩
    · exact a.fresh x loc e1
    · refine .inr ⟨Nat.le_trans a.len hl, ?_⟩
      rcases hb with hb | ⟨b₀, l₀, o₀, e0, eo, em, eb⟩
      · exact .inl (Nat.le_trans a.size hb)
      · rcases a.fresh b₀ l₀ e0 with e1 | ⟨_, h2⟩
        · obtain ⟨o, ho, hm⟩ := a.turns b₀ o₀ eo em (a.dom _ _ e1)
          exact .inr ⟨b₀, l₀, o, e1, ho, hm, eb⟩
        · rcases h2 with h2 | ⟨b₁, l₁, o₁, f1, f2, f3, f4⟩
          · exact .inl (eb ▸ h2)
          · exact .inr ⟨b₁, l₁, o₁, f1, f2, f3, f4.trans eb⟩
  frz := fun k => (b.frz k).trans (a.frz k)
  live := by
    intro x o' e m hx
    obtain ⟨o, ho, hm⟩ := b.live x o' e m (Nat.lt_of_lt_of_le hx a.len)
    exact a.live x o ho hm hx
  turns := by
    intro x o' e m hx
    obtain ⟨o, ho, hm⟩ := b.turns x o' e m (Nat.lt_of_lt_of_le hx a.len)
    exact a.turns x o ho hm hx
  kept := by
    intro k hk hno
    rw [b.kept k (Nat.lt_of_lt_of_le hk a.size) ?_]
    · exact a.kept k hk hno
    · intro x loc o e eo em hbk
      rcases a.fresh x loc e with e1 | ⟨_, h2⟩
      · obtain ⟨o0, ho, hm⟩ := a.turns x o eo em (a.dom _ _ e1)
        exact hno x loc o0 e1 ho hm hbk
      · rcases h2 with h2 | ⟨b₁, l₁, o₁, f1, f2, f3, f4⟩
        · omega
        · exact hno b₁ l₁ o₁ f1 f2 f3 (f4.trans hbk)
end Go.E
namespace Go.E
open Go

def Phi.put (φ : Phi) (b : Nat) (loc : Loc) : Phi := fun x => if x = b then some loc else φ x

theorem Phi.put_self (φ : Phi) (b : Nat) (loc : Loc) : φ.put b loc b = some loc := by simp [Phi.put]
theorem Phi.put_ne (φ : Phi) {b x : Nat} (loc : Loc) (h : x ≠ b) : φ.put b loc x = φ x := by simp [Phi.put, h]

theorem Le.put {φ : Phi} {h : EH} (d : ∀ b loc, φ b = some loc → b < h.length) (loc : Loc) : Le φ (φ.put h.length loc) := fun b l e => by
  have := d b l e
  rw [Phi.put_ne _ _ (by omega)]; exact e

theorem LoopRel.mono {φ φ' : Phi} (h : Le φ φ') {l l' : Loop} (r : LoopRel φ l l') : LoopRel φ' l l' := by
  obtain ⟨a, b, d, e, f, g, loc, x, y⟩ := r
  exact ⟨a, b, d.mono h, e, f, g, loc, h _ _ x, y⟩

theorem ORel.mono {φ φ' : Phi} {w w' : World} {loc : Loc} {o : EObj} (h : Le φ φ') (hb : w'.heap[loc.blk]? = w.heap[loc.blk]?) (r : ORel φ w loc o) : ORel φ' w' loc o := by
  cases o with
  | dead => trivial
  | cells vs opn wr =>
    obtain ⟨a, b, c, c2, cs, el, fr, d, e, f, g⟩ := r
    refine ⟨a, b, c, c2, cs, el, fr, hb.trans d, e, ?_, g⟩
    intro i v hi
    obtain ⟨v', h1, h2⟩ := f i v hi
    exact ⟨v', h1, h2.mono h⟩
  | map es clock =>
    obtain ⟨a, es', b, c, d⟩ := r
    refine ⟨a, es', hb.trans b, c, fun i e e' h1 h2 => ?_⟩
    obtain ⟨x, y, z⟩ := d i e e' h1 h2
    exact ⟨x.mono h, y.mono h, z⟩
  | str s pos => exact ⟨r.1, hb.trans r.2⟩
  | loop l =>
    obtain ⟨a, l', b, c⟩ := r
    exact ⟨a, l', hb.trans b, c.mono h⟩
  | defers => exact ⟨r.1, hb.trans r.2⟩

theorem RelH.new {φ : Phi} {h : EH} {w : World} (r : RelH φ h w) (o : EObj) (O : Obj) (loc : Loc) (hblk : loc.blk = w.heap.size)
    (ho : ORel (φ.put h.length loc) { w with heap := w.heap.push O } loc o) (hO : frzOf (some O) = (0, 0) := by rfl) :
    RelH (φ.put h.length loc) (h ++ [o]) { w with heap := w.heap.push O } ∧ Tr φ h w (φ.put h.length loc) (h ++ [o]) { w with heap := w.heap.push O } := by
  have hle : Le φ (φ.put h.length loc) := Le.put r.dom loc
  have old : ∀ k, k < w.heap.size → (w.heap.push O)[k]? = w.heap[k]? := fun k hk => by rw [Array.getElem?_push, if_neg (by omega)]
  refine ⟨⟨?_, ?_⟩, ⟨hle, r.dom, rfl, rfl, rfl, by simp, by simp, ?_, ?_, fun k hk _ => old k hk, fun b o' e m hb => by rw [List.getElem?_append_left hb] at e; exact ⟨o', e, m⟩, fun k => by rw [Array.getElem?_push]; split <;> (try rfl); rename_i hk; rw [hO, hk, Array.getElem?_eq_none (Nat.le_refl _)]; rfl⟩⟩
  · intro b l e
    by_cases hb : b = h.length
    · subst hb
      rw [Phi.put_self] at e; cases e
      exact ⟨o, by simp, by simp [hblk], ho⟩
    · rw [Phi.put_ne _ _ hb] at e
      obtain ⟨o₁, h1, h2, h3⟩ := r.obj b l e
      have hlt := r.dom b l e
      exact ⟨o₁, by rw [List.getElem?_append_left hlt]; exact h1, by simp; omega, h3.mono hle (old _ h2)⟩
  · intro b₁ b₂ l₁ l₂ o₁ o₂ e1 e2 g1 g2 v1 v2 hbk
    by_cases hb1 : b₁ = h.length <;> by_cases hb2 : b₂ = h.length
    · rw [hb1, hb2]
    · subst hb1
      rw [Phi.put_self] at e1; cases e1
      rw [Phi.put_ne _ _ hb2] at e2
      obtain ⟨_, _, h2, _⟩ := r.obj b₂ l₂ e2
      omega
    · subst hb2
      rw [Phi.put_self] at e2; cases e2
      rw [Phi.put_ne _ _ hb1] at e1
      obtain ⟨_, _, h2, _⟩ := r.obj b₁ l₁ e1
      omega
    · rw [Phi.put_ne _ _ hb1] at e1
      rw [Phi.put_ne _ _ hb2] at e2
      rw [List.getElem?_append_left (r.dom _ _ e1)] at g1
      rw [List.getElem?_append_left (r.dom _ _ e2)] at g2
      exact r.inj b₁ b₂ l₁ l₂ o₁ o₂ e1 e2 g1 g2 v1 v2 hbk
  · intro b l e
    by_cases hb : b = h.length
    · subst hb
      rw [Phi.put_self] at e; cases e
      exact .inr ⟨Nat.le_refl _, .inl (by omega)⟩
    · rw [Phi.put_ne _ _ hb] at e; exact .inl e
  · intro b o' e m hb
    rw [List.getElem?_append_left hb] at e
    exact ⟨o', e, m⟩

theorem RelH.turn {φ : Phi} {h : EH} {w w' : World} (r : RelH φ h w) {b : Nat} {loc : Loc} {o o' : EObj} (hb : φ b = some loc) (ho : h[b]? = some o) (hw : o.wrt = true)
    (os : w'.os = w.os) (tape : w'.tape = w.tape) (output : w'.output = w.output) (size : w'.heap.size = w.heap.size)
    (same : ∀ k, k ≠ loc.blk → w'.heap[k]? = w.heap[k]?) (hor : ORel φ w' loc o') (hfz : frzOf w'.heap[loc.blk]? = frzOf w.heap[loc.blk]? := by first | rfl | simp_all [frzOf]) :
    RelH φ (h.set b o') w' ∧ Tr φ h w φ (h.set b o') w' := by
  have hlt := r.dom b loc hb
  have hlive : o.live = true := by cases o <;> simp_all [EObj.wrt, EObj.live]
  refine ⟨⟨?_, ?_⟩, ⟨.refl φ, r.dom, os, tape, output, by omega, by simp, fun _ _ e => .inl e, ?_, ?_, ?_, fun k => by by_cases hk : k = loc.blk; (· rw [hk]; exact hfz); (· rw [same k hk])⟩⟩
  · intro x l e
    obtain ⟨o₁, h1, h2, h3⟩ := r.obj x l e
    by_cases hx : x = b
    · subst hx
      rw [hb] at e; cases e
      exact ⟨o', by simp [hlt], by omega, hor⟩
    · refine ⟨o₁, by rw [List.getElem?_set_ne (by omega)]; exact h1, by omega, ?_⟩
      by_cases hl : o₁.live = true
      · refine h3.mono (.refl φ) (same _ fun hbk => hx ?_)
        exact (r.inj b x loc l o o₁ hb e ho h1 hw hl hbk.symm).symm
      · cases o₁ <;> simp_all [EObj.live, ORel]
  · intro b₁ b₂ l₁ l₂ o₁ o₂ e1 e2 g1 g2 v1 v2 hbk
    have fix : ∀ (x : Nat) (y : EObj), (h.set b o')[x]? = some y → y.live = true → ∃ z : EObj, h[x]? = some z ∧ z.live = true := by
      intro x y e v
      by_cases hx : x = b
      · subst hx; exact ⟨o, ho, hlive⟩
      · rw [List.getElem?_set_ne (by omega)] at e; exact ⟨y, e, v⟩
    have fixw : ∀ (x : Nat) (y : EObj), (h.set b o')[x]? = some y → y.wrt = true → ∃ z : EObj, h[x]? = some z ∧ z.wrt = true := by
      intro x y e v
      by_cases hx : x = b
      · subst hx; exact ⟨o, ho, hw⟩
      · rw [List.getElem?_set_ne (by omega)] at e; exact ⟨y, e, v⟩
    obtain ⟨z1, f1, u1⟩ := fixw _ _ g1 v1
    obtain ⟨z2, f2, u2⟩ := fix _ _ g2 v2
    exact r.inj b₁ b₂ l₁ l₂ z1 z2 e1 e2 f1 f2 u1 u2 hbk
  · intro x y e m hx
    by_cases h1 : x = b
    · subst h1; exact ⟨o, ho, hw⟩
    · rw [List.getElem?_set_ne (by omega)] at e; exact ⟨y, e, m⟩
  · intro k hk hno
    exact same k (fun e => hno b loc o hb ho hw e.symm)
  · intro x y e m hx
    by_cases h1 : x = b
    · subst h1; exact ⟨o, ho, hlive⟩
    · rw [List.getElem?_set_ne (by omega)] at e; exact ⟨y, e, m⟩

def oneCell : Value → Bool
  | .agg _ | .tuple _ => false
  | _ => true


def isUnk : Value → Bool
  | .chan none => true
  | _ => false

def rowOf (h : EH) (b off n : Nat) : Option (List Value) :=
  match h[b]? with
  | some (.cells vs _ _) => if off + n ≤ vs.length then some ((vs.drop off).take n) else none
  | _ => none

theorem Addr.add_eq (b off n : Nat) : (Addr.mk b off none).add n = ⟨b, off + n, none⟩ := by
  unfold Addr.add; split
  · subst_vars; rfl
  · rfl

theorem cell_eq {w : World} {b : Nat} {c : Array Value} {el : TypeId} {fr : Nat × Nat} (h : w.heap[b]? = some (.cells c el fr)) (i : Nat) : w.cell? ⟨b, i, none⟩ = c[i]? := by
  simp [World.cell?, h]

theorem frozen_eq {w : World} {b : Nat} {c : Array Value} {el : TypeId} {fr : Nat × Nat} (h : w.heap[b]? = some (.cells c el fr)) (i : Nat) : w.frozen? ⟨b, i, none⟩ = (decide (fr.1 ≤ i) && decide (i < fr.2)) := by
  simp [World.frozen?, h]

theorem run_loadFrom {P : Program} {w : World} {b off : Nat} {c : Array Value} {el : TypeId} {fr : Nat × Nat} (h : w.heap[b]? = some (.cells c el fr)) :
    ∀ (n i : Nat) (acc : Array Value), off + i + n ≤ c.size → (loadCellsFrom ⟨b, off, none⟩ i n acc).run P w = .ok (acc ++ c.extract (off + i) (off + i + n)) w := by
  intro n
  induction n with
  | zero =>
    intro i acc _
    have : c.extract (off + i) (off + i + 0) = #[] := by apply Array.ext <;> simp; omega
    rw [this]; simp [loadCellsFrom, pure, Sem.run]
  | succ n ih =>
    intro i acc hn
    have hc : w.cell? ⟨b, off + i, none⟩ = some c[off + i] := by rw [cell_eq h, Array.getElem?_eq_getElem (by omega)]
    have step : (loadCellsFrom ⟨b, off, none⟩ i (n + 1) acc).run P w = (loadCellsFrom ⟨b, off, none⟩ (i + 1) n (acc.push c[off + i])).run P w := by
      simp only [loadCellsFrom, load, bind, Sem.bind, Addr.add_eq, Sem.run, hc]
    rw [step, ih (i + 1) _ (by omega)]
    congr 1
    apply Array.ext
    · simp; omega
    · intro j h1 h2
      simp only [Array.getElem_append, Array.size_push, Array.getElem_push, Array.getElem_extract]
      split <;> split <;> (try split) <;> first | rfl | (exfalso; omega) | (congr 1; omega)

theorem run_loadCells {P : Program} {w : World} {b off n : Nat} {c : Array Value} {el : TypeId} {fr : Nat × Nat} (h : w.heap[b]? = some (.cells c el fr)) (hn : off + n ≤ c.size) :
    (loadCells ⟨b, off, none⟩ n).run P w = .ok (c.extract off (off + n)) w := by
  have := run_loadFrom (P := P) (off := off) h n 0 #[] (by omega)
  simpa [loadCells] using this

theorem RelH.row {φ : Phi} {h : EH} {w : World} (r : RelH φ h w) {b off n : Nat} {loc : Loc} (hb : φ b = some loc) {l : List Value} (hl : rowOf h b off n = some l) :
    ∃ c el fr, w.heap[loc.blk]? = some (.cells c el fr) ∧ loc.δ + off + n ≤ c.size ∧ l.length = n ∧
      ∀ i (_ : i < n), ∃ v v', l[i]? = some v ∧ c[loc.δ + off + i]? = some v' ∧ VRel φ v v' := by
  obtain ⟨o, h1, _, h3⟩ := r.obj b loc hb
  unfold rowOf at hl
  rw [h1] at hl
  cases o with
  | cells vs opn wr =>
    obtain ⟨a, _, _, _, c, el, fr, d, e, f, _⟩ := h3
    simp only [Option.ite_none_right_eq_some, Option.some.injEq] at hl
    obtain ⟨h4, rfl⟩ := hl
    refine ⟨c, el, fr, d, by omega, by simp; omega, fun i hi => ?_⟩
    have hv : ((vs.drop off).take n)[i]? = some vs[off + i] := by
      rw [List.getElem?_take_of_lt hi, List.getElem?_drop, List.getElem?_eq_getElem (by omega)]
    refine ⟨vs[off + i], ?_⟩
    obtain ⟨v', hv', hr⟩ := f (off + i) vs[off + i] (List.getElem?_eq_getElem (by omega))
    exact ⟨v', hv, by rw [Nat.add_assoc]; exact hv', hr⟩
  | _ => simp at hl

theorem VsRel.of_row {φ : Phi} {c : Array Value} {l : List Value} {s n : Nat} (hc : s + n ≤ c.size) (hl : l.length = n) (f : ∀ i (_ : i < n), ∃ v v', l[i]? = some v ∧ c[s + i]? = some v' ∧ VRel φ v v') :
    VsRel φ l.toArray (c.extract s (s + n)) := by
  refine ⟨by simp; omega, fun i h1 h2 => ?_⟩
  obtain ⟨v, v', e1, e2, r⟩ := f i (by simpa [hl] using h1)
  have x1 : l.toArray[i] = v := by
    have : l[i]? = some v := e1
    rw [List.getElem?_eq_getElem (by simpa using h1)] at this
    simpa using this
  have x2 : (c.extract s (s + n))[i] = v' := by
    rw [Array.getElem?_eq_getElem (by simp at h2; omega)] at e2
    simpa using e2
  rw [x1, x2]; exact r

theorem RelH.load {P : Program} {φ : Phi} {h : EH} {w : World} (r : RelH φ h w) {b off n : Nat} {loc : Loc} (hb : φ b = some loc) {l : List Value} (hl : rowOf h b off n = some l) :
    ∃ vs', (loadCells ⟨loc.blk, loc.δ + off, none⟩ n).run P w = .ok vs' w ∧ VsRel φ l.toArray vs' := by
  obtain ⟨c, el, fr, h1, h2, h3, h4⟩ := r.row hb hl
  exact ⟨_, run_loadCells h1 h2, VsRel.of_row h2 h3 h4⟩

def splice (vs : List Value) (off : Nat) (l : List Value) : List Value := vs.take off ++ l ++ vs.drop (off + l.length)

def storeRow (h : EH) (b off : Nat) (l : List Value) : Option EH :=
  match h[b]? with
  | some (.cells vs opn true) => if off + l.length ≤ vs.length ∧ l.all (fun v => oneCell v && !isUnk v) = true then some (h.set b (.cells (splice vs off l) opn true)) else none
  | _ => none

theorem run_storeFrom {P : Program} {b off : Nat} {el : TypeId} {fr : Nat × Nat} : ∀ (l : List Value) (i : Nat) (w : World) (c : Array Value), w.heap[b]? = some (.cells c el fr) → off + i + l.length ≤ c.size →
    (∀ v ∈ l, oneCell v = true) → (∀ j, j < l.length → ¬ (fr.1 ≤ off + i + j ∧ off + i + j < fr.2)) →
    ∃ w' c', (storeCells ⟨b, off, none⟩ l i).run P w = .ok () w' ∧ w'.os = w.os ∧ w'.tape = w.tape ∧ w'.output = w.output ∧ w'.heap.size = w.heap.size ∧ (∀ k, k ≠ b → w'.heap[k]? = w.heap[k]?) ∧
      w'.heap[b]? = some (.cells c' el fr) ∧ c'.size = c.size ∧ (∀ j, c'[j]? = if off + i ≤ j ∧ j < off + i + l.length then l[j - (off + i)]? else c[j]?) := by
  intro l
  induction l with
  | nil => intro i w c hb _ _ _; exact ⟨w, c, by simp [storeCells, pure, Sem.run], rfl, rfl, rfl, rfl, fun _ _ => rfl, hb, rfl, fun j => by simp; intro h1 h2; omega⟩
  | cons v l ih =>
    intro i w c hb hn hone hfr
    have hlt : b < w.heap.size := (Array.getElem?_eq_some_iff.1 hb).1
    have hlen : (v :: l).length = l.length + 1 := rfl
    have hc : w.cell? ⟨b, off + i, none⟩ = some c[off + i] := by rw [cell_eq hb, Array.getElem?_eq_getElem (by omega)]
    have hf : w.frozen? ⟨b, off + i, none⟩ = false := by
      rw [frozen_eq hb]
      have := hfr 0 (by omega)
      simp only [Nat.add_zero] at this
      simpa using this
    have hset : (w.setCell ⟨b, off + i, none⟩ v).heap[b]? = some (.cells (c.setIfInBounds (off + i) v) el fr) := by
      simp only [World.setCell, Array.getElem?_modify, if_true, hb, Option.map_some]
      rfl
    obtain ⟨w', c', e1, e2, e3, e4, e5, e6, e7, e8, e9⟩ := ih (i + 1) (w.setCell ⟨b, off + i, none⟩ v) (c.setIfInBounds (off + i) v) hset (by simp; omega)
      (fun u hu => hone u (List.mem_cons_of_mem _ hu)) (fun j hj => by have := hfr (j + 1) (by omega); rw [show off + (i + 1) + j = off + i + (j + 1) from by omega]; exact this)
    have hv1 : oneCell v = true := hone v (List.mem_cons_self ..)
    refine ⟨w', c', ?_, e2, e3, e4, by rw [e5]; simp [World.setCell], ?_, e7, by rw [e8]; simp, ?_⟩
    · have : (storeCells ⟨b, off, none⟩ (v :: l) i).run P w = (storeCells ⟨b, off, none⟩ l (i + 1)).run P (w.setCell ⟨b, off + i, none⟩ v) := by
        cases v <;> first | (simp [oneCell] at hv1; done) | (simp [storeCells, store, bind, Sem.bind, Addr.add_eq, Sem.run, hc, hf])
      rw [this, e1]
    · intro k hk
      rw [e6 k hk]
      simp only [World.setCell, Array.getElem?_modify]
      rw [if_neg (by simpa using fun e => hk e.symm)]
    · intro j
      rw [e9 j]
      by_cases h1 : off + i = j
      · subst h1
        rw [if_neg (by omega), if_pos (by omega)]
        simp [Array.getElem?_setIfInBounds]
        omega
      · rw [Array.getElem?_setIfInBounds_ne h1]
        by_cases h2 : off + (i + 1) ≤ j ∧ j < off + (i + 1) + l.length
        · rw [if_pos h2, if_pos (by omega), show j - (off + i) = (j - (off + (i + 1))) + 1 from by omega]
          rfl
        · rw [if_neg h2, if_neg (by omega)]

theorem VRel.oneCell {φ : Phi} {v v' : Value} (r : VRel φ v v') (hu : isUnk v = false) : oneCell v = oneCell v' := by cases r <;> first | rfl | (simp [isUnk] at hu)

theorem splice_length {vs l : List Value} {off : Nat} (h : off + l.length ≤ vs.length) : (splice vs off l).length = vs.length := by
  simp [splice]; omega

theorem splice_getElem? {vs l : List Value} {off : Nat} (h : off + l.length ≤ vs.length) (j : Nat) :
    (splice vs off l)[j]? = if off ≤ j ∧ j < off + l.length then l[j - off]? else vs[j]? := by
  unfold splice
  by_cases h1 : j < off
  · rw [if_neg (by omega), List.getElem?_append_left (by simp; omega), List.getElem?_append_left (by simp; omega), List.getElem?_take_of_lt h1]
  · by_cases h2 : j < off + l.length
    · rw [if_pos (by omega), List.getElem?_append_left (by simp; omega), List.getElem?_append_right (by simp; omega)]
      congr 1; simp; omega
    · rw [if_neg (by omega), List.getElem?_append_right (by simp; omega), List.getElem?_drop]
      congr 1; simp; omega

theorem RelH.store {P : Program} {φ : Phi} {h h' : EH} {w : World} (r : RelH φ h w) {b off : Nat} {loc : Loc} (hb : φ b = some loc) {l : List Value} {l' : Array Value} (hl : VsRel φ l.toArray l')
    (hs : storeRow h b off l = some h') :
    ∃ w', (storeCells ⟨loc.blk, loc.δ + off, none⟩ l'.toList).run P w = .ok () w' ∧ RelH φ h' w' ∧ Tr φ h w φ h' w' := by
  obtain ⟨o, h1, h2, h3⟩ := r.obj b loc hb
  unfold storeRow at hs
  rw [h1] at hs
  have hsz : l'.toList.length = l.length := by have := hl.1; simp at this; simp [this]
  have hrel : ∀ (i : Nat) v, l[i]? = some v → ∃ v', l'.toList[i]? = some v' ∧ VRel φ v v' := by
    intro i v e
    obtain ⟨hi, rfl⟩ := List.getElem?_eq_some_iff.1 e
    have := hl.2 i (by simpa using hi) (by have := hl.1; simp at this; omega)
    exact ⟨_, by rw [List.getElem?_eq_getElem (by omega)], by simpa using this⟩
  cases o with
  | cells vs opn wr =>
    cases wr with
    | false => simp at hs
    | true =>
      simp only [Option.ite_none_right_eq_some, Option.some.injEq] at hs
      obtain ⟨⟨h4, h5⟩, rfl⟩ := hs
      obtain ⟨a, a2, a3, a4, c, el, fr, d, e, f, g⟩ := h3
      have hone : ∀ v ∈ l'.toList, oneCell v = true := by
        intro v hv
        obtain ⟨i, hi⟩ := List.getElem?_of_mem hv
        have hi' : i < l.length := by have := (List.getElem?_eq_some_iff.1 hi).1; omega
        obtain ⟨v', e1, e2⟩ := hrel i l[i] (List.getElem?_eq_getElem hi')
        rw [hi] at e1; cases e1
        rw [List.all_eq_true] at h5
        have := h5 l[i] (List.getElem_mem hi')
        simp at this
        rw [← e2.oneCell this.2]
        exact this.1
      obtain ⟨w', c', e1, e2, e3, e4, e5, e6, e7, e8, e9⟩ := run_storeFrom (P := P) (b := loc.blk) (off := loc.δ + off) l'.toList 0 w c d (by omega) hone
        (fun j hj => by have := g rfl (off + j) (by omega); rw [show loc.δ + off + 0 + j = loc.δ + (off + j) from by omega]; exact this)
      refine ⟨w', e1, r.turn hb h1 rfl e2 e3 e4 e5 e6 ?_ (by simp only [frzOf]; simp_all)⟩
      refine ⟨by rw [splice_length h4]; exact a, a2, a3, a4, c', el, fr, e7, by omega, ?_, g⟩
      intro i v hi
      rw [splice_getElem? h4] at hi
      rw [e9]
      by_cases hin : off ≤ i ∧ i < off + l.length
      · rw [if_pos hin] at hi
        obtain ⟨v', f1, f2⟩ := hrel _ _ hi
        refine ⟨v', ?_, f2⟩
        rw [if_pos (by omega), ← f1]
        congr 1; omega
      · rw [if_neg hin] at hi
        rw [if_neg (by omega)]
        exact f i v hi
  | _ => simp at hs
end Go.E
namespace Go.E
open Go

def szOf (P : Program) (t : TypeId) : Option Nat := (P.info? t).map (·.size)

theorem run_szOf {P : Program} {t n : Nat} (w : World) (h : szOf P t = some n) : (sizeOf t).run P w = .ok n w := by
  unfold szOf at h
  cases hi : P.info? t with
  | none => simp [hi] at h
  | some i => simp [hi] at h; simp [sizeOf, run_typeInfo w hi, h]

def aggD : TypeDesc → Bool
  | .struct _ | .array _ _ => true
  | _ => false

theorem run_isAgg {P : Program} {t : TypeId} {d : TypeDesc} (w : World) (h : P.underlying t = some d) : (isAgg t).run P w = .ok (aggD d) w := by
  simp only [isAgg, Sem.run_bind, run_underlying h, Result.andThen_ok]
  cases d <;> rfl

def Good (P : Program) (φ : Phi) (h : EH) (w : World) (s' : Sem Value) (v : Value) (h' : EH) : Prop :=
  ∃ φ' v' w', s'.run P w = .ok v' w' ∧ VRel φ' v v' ∧ RelH φ' h' w' ∧ Tr φ h w φ' h' w'

theorem Good.same {P : Program} {φ : Phi} {h : EH} {w : World} {s' : Sem Value} {v v' : Value} (r : RelH φ h w) (e : s'.run P w = .ok v' w) (x : VRel φ v v') : Good P φ h w s' v h :=
  ⟨φ, v', w, e, x, r, r.tr⟩

theorem VRel.ptr_inv {φ : Phi} {b off : Nat} {v' : Value} (r : VRel φ (.pointer (some ⟨b, off, none⟩)) v') : ∃ loc, φ b = some loc ∧ v' = .pointer (some ⟨loc.blk, loc.δ + off, none⟩) := by
  cases r with
  | base h => simp [isBase] at h
  | ptr h => exact ⟨_, h, rfl⟩

theorem VRel.int_inv {φ : Phi} {k : IntKind} {n : Int} {v' : Value} (r : VRel φ (.int k n) v') : v' = .int k n := by cases r; rfl
theorem VRel.bool_inv {φ : Phi} {b : Bool} {v' : Value} (r : VRel φ (.bool b) v') : v' = .bool b := by cases r; rfl
theorem VRel.string_inv {φ : Phi} {s : ByteArray} {v' : Value} (r : VRel φ (.string s) v') : v' = .string s := by cases r; rfl
theorem VRel.nilPtr_inv {φ : Phi} {v' : Value} (r : VRel φ (.pointer none) v') : v' = .pointer none := by cases r; rfl
theorem VRel.nilIface_inv {φ : Phi} {v' : Value} (r : VRel φ .nilIface v') : v' = .nilIface := by cases r; rfl
theorem VRel.nilMap_inv {φ : Phi} {v' : Value} (r : VRel φ (.map none) v') : v' = .map none := by cases r; rfl
theorem VRel.slnil_inv {φ : Phi} {n c : Nat} {v' : Value} (r : VRel φ (.slice none n c) v') : v' = .slice none n c := by cases r <;> rfl
theorem VRel.iface_inv {φ : Phi} {t : TypeId} {v v' : Value} (r : VRel φ (.iface t v) v') : ∃ u, v' = .iface t u ∧ VRel φ v u := by
  cases r with
  | base h => simp [isBase] at h
  | iface h => exact ⟨_, rfl, h⟩
theorem VRel.map_inv {φ : Phi} {b : Nat} {v' : Value} (r : VRel φ (.map (some b)) v') : ∃ loc, φ b = some loc ∧ v' = .map (some loc.blk) := by
  cases r with
  | base h => simp [isBase] at h
  | map h => exact ⟨_, h, rfl⟩
theorem VRel.agg_inv {φ : Phi} {a : Array Value} {v' : Value} (r : VRel φ (.agg a) v') : ∃ a', v' = .agg a' ∧ VsRel φ a a' := by
  cases r with
  | base h => simp [isBase] at h
  | agg h h' => exact ⟨_, rfl, h, h'⟩
theorem VRel.tuple_inv {φ : Phi} {a : Array Value} {v' : Value} (r : VRel φ (.tuple a) v') : ∃ a', v' = .tuple a' ∧ VsRel φ a a' := by
  cases r with
  | base h => simp [isBase] at h
  | tuple h h' => exact ⟨_, rfl, h, h'⟩
theorem VRel.func_inv {φ : Phi} {fn : Fn} {fs cs : Array Value} {v' : Value} (r : VRel φ (.func fn fs cs) v') : ∃ fn' fs' cs', v' = .func fn' fs' cs' ∧ FnRel φ fn fn' ∧ VsRel φ fs fs' ∧ VsRel φ cs cs' := by
  cases r with
  | base h => simp [isBase] at h
  | func hf a b c d => exact ⟨_, _, _, rfl, hf, ⟨a, b⟩, ⟨c, d⟩⟩

theorem VRel.slice_inv {φ : Phi} {b off n c : Nat} {v' : Value} (r : VRel φ (.slice (some ⟨b, off, none⟩) n c) v') :
    ∃ loc off' c', φ b = some loc ∧ v' = .slice (some ⟨loc.blk, off', none⟩) n c' ∧ c ≤ c' ∧
      ((off' = loc.δ + off ∧ (c' = c ∨ (loc.opn = true ∧ off + c * loc.es = loc.size ∧ c' = c + loc.extra))) ∨
       (n = 0 ∧ c = 0 ∧ (c' = 0 ∨ (loc.opn = true ∧ off = loc.size ∧ loc.δ ≤ off' ∧ off' + c' * loc.es ≤ loc.δ + loc.size + loc.extra * loc.es)))) := by
  cases r with
  | base h => simp [isBase] at h
  | slice h hc => exact ⟨_, _, _, h, rfl, by rcases hc with h | ⟨_, _, h⟩ <;> omega, .inl ⟨rfl, hc⟩⟩
  | slempty h c => exact ⟨_, _, _, h, rfl, by omega, .inr ⟨rfl, rfl, c⟩⟩

abbrev mkS : Value := .slice (some ⟨0, 0, some 0⟩) 0 0
theorem VRel.sle_inv {φ : Phi} {v' : Value} (r : VRel φ mkS v') : ∃ a, v' = .slice (some a) 0 0 := by
  cases r with
  | base h => simp [isBase] at h
  | sle => exact ⟨_, rfl⟩

theorem VsRel.get {φ : Phi} {a a' : Array Value} (r : VsRel φ a a') {i : Nat} {v : Value} (h : a[i]? = some v) : ∃ v', a'[i]? = some v' ∧ VRel φ v v' := by
  obtain ⟨hi, rfl⟩ := Array.getElem?_eq_some_iff.1 h
  have hi' : i < a'.size := by rw [← r.1]; exact hi
  exact ⟨a'[i], Array.getElem?_eq_getElem hi', r.2 i hi hi'⟩

theorem VsRel.extract {φ : Phi} {a a' : Array Value} (r : VsRel φ a a') (i j : Nat) : VsRel φ (a.extract i j) (a'.extract i j) := by
  refine ⟨by simp [r.1], fun k h1 h2 => ?_⟩
  simp only [Array.getElem_extract]
  exact r.2 _ _ _

theorem VsRel.of_get {φ : Phi} {a a' : Array Value} (h : a.size = a'.size) (f : ∀ (i : Nat) (v : Value), a[i]? = some v → ∃ v', a'[i]? = some v' ∧ VRel φ v v') : VsRel φ a a' :=
  ⟨h, fun i h1 h2 => by
    obtain ⟨v', e, r⟩ := f i a[i] (Array.getElem?_eq_getElem h1)
    rw [Array.getElem?_eq_getElem h2] at e; cases e; exact r⟩

theorem VsRel.one {φ : Phi} {v v' : Value} (r : VRel φ v v') : VsRel φ #[v] #[v'] :=
  ⟨rfl, fun i h1 h2 => by
    have : i = 0 := by simp at h1; omega
    subst this; exact r⟩

theorem VsRel.nil {φ : Phi} : VsRel φ #[] #[] := ⟨rfl, fun i h1 _ => by simp at h1⟩

theorem VsRel.append {φ : Phi} {a a' b b' : Array Value} (r : VsRel φ a a') (s : VsRel φ b b') : VsRel φ (a ++ b) (a' ++ b') := by
  refine ⟨by simp [r.1, s.1], fun i h1 h2 => ?_⟩
  have hsz := r.1
  simp only [Array.getElem_append]
  by_cases h : i < a.size
  · rw [dif_pos h, dif_pos (by omega)]; exact r.2 _ _ _
  · rw [dif_neg h, dif_neg (by omega)]
    have : ∀ (j : Nat) (x : j < b'.size) (y : i - a.size < b'.size), i - a.size = j → VRel φ (b[i - a.size]'(by simp at h1; omega)) (b'[j]'x) := fun j x y e => by subst e; exact s.2 _ _ _
    exact this _ _ (by simp at h1; have := s.1; omega) (by omega)

theorem VsRel.push {φ : Phi} {a a' : Array Value} {v v' : Value} (r : VsRel φ a a') (s : VRel φ v v') : VsRel φ (a.push v) (a'.push v') := by
  have := r.append (VsRel.one s)
  simpa [Array.append_singleton] using this

theorem VRel.cells {φ : Phi} {v v' : Value} (r : VRel φ v v') (hu : isUnk v = false) : VsRel φ v.cells v'.cells := by
  cases r with
  | unk => simp [isUnk] at hu
  | agg h h' => exact ⟨h, h'⟩
  | base h => cases v <;> first | exact VsRel.one (.base h) | (simp [isBase] at h)
  | ptr h => exact VsRel.one (.ptr h)
  | slnil => exact VsRel.one .slnil
  | slice h hc => exact VsRel.one (.slice h hc)
  | slempty h c => exact VsRel.one (.slempty h c)
  | sle => exact VsRel.one .sle
  | map h => exact VsRel.one (.map h)
  | func a b c d e => exact VsRel.one (.func a b c d e)
  | iface h => exact VsRel.one (.iface h)
  | tuple h h' => exact VsRel.one (.tuple h h')

def eLoad (P : Program) (t : TypeId) (a : Value) (h : EH) : Option Value :=
  match a with
  | .pointer (some ⟨b, off, none⟩) =>
    match P.underlying t, szOf P t with
    | some d, some n =>
      if aggD d then (rowOf h b off n).map fun l => .agg l.toArray
      else (rowOf h b off 1).bind (·[0]?)
    | _, _ => none
  | _ => none

theorem good_load {P : Program} {φ : Phi} {h : EH} {w : World} {t : TypeId} {a a' v : Value} (r : RelH φ h w) (ra : VRel φ a a') (e : eLoad P t a h = some v) :
    Good P φ h w (Instr.loadAt t a') v h := by
  unfold eLoad at e
  split at e
  · rename_i b off
    obtain ⟨loc, hb, rfl⟩ := ra.ptr_inv
    cases hu : P.underlying t with
    | none => simp [hu] at e
    | some d =>
      cases hs : szOf P t with
      | none => simp [hu, hs] at e
      | some n =>
        simp only [hu, hs] at e
        cases hd : aggD d with
        | true =>
          simp only [hd, if_true, Option.map_eq_some_iff] at e
          obtain ⟨l, hl, rfl⟩ := e
          obtain ⟨vs', e1, e2⟩ := r.load (P := P) hb hl
          refine Good.same r (v' := .agg vs') ?_ (.agg e2.1 e2.2)
          simp [Instr.loadAt, Instr.sureAddr, loadVar, run_isAgg w hu, hd, run_szOf w hs, e1]
        | false =>
          simp only [hd, Bool.false_eq_true, if_false] at e
          cases hl : rowOf h b off 1 with
          | none => simp [hl] at e
          | some l =>
            simp only [hl, Option.bind_some] at e
            obtain ⟨c, el, fr, h1, h2, h3, h4⟩ := r.row hb hl
            obtain ⟨u, u', f1, f2, f3⟩ := h4 0 (by omega)
            rw [f1] at e; cases e
            refine Good.same r (v' := u') ?_ f3
            have hc : w.cell? ⟨loc.blk, loc.δ + off, none⟩ = some u' := by rw [cell_eq h1]; exact f2
            simp [Instr.loadAt, Instr.sureAddr, loadVar, run_isAgg w hu, hd, hc]
  · simp at e

def eStore (P : Program) (t : TypeId) (a x : Value) (h : EH) : Option EH :=
  match a with
  | .pointer (some ⟨b, off, none⟩) => if szOf P t = some x.cells.size ∧ isUnk x = false then storeRow h b off x.cells.toList else none
  | _ => none

theorem good_store {P : Program} {φ : Phi} {h h' : EH} {w : World} {t : TypeId} {a a' x x' : Value} (r : RelH φ h w) (ra : VRel φ a a') (rx : VRel φ x x') (e : eStore P t a x h = some h') :
    ∃ w', (Instr.storeAt t a' x').run P w = .ok () w' ∧ RelH φ h' w' ∧ Tr φ h w φ h' w' := by
  unfold eStore at e
  split at e
  · rename_i b off
    obtain ⟨loc, hb, rfl⟩ := ra.ptr_inv
    simp only [Option.ite_none_right_eq_some] at e
    obtain ⟨⟨hs, hu⟩, e⟩ := e
    have hc := rx.cells hu
    obtain ⟨w', e1, e2, e3⟩ := r.store (P := P) hb (l := x.cells.toList) (l' := x'.cells) (by simpa using hc) e
    refine ⟨w', ?_, e2, e3⟩
    have : x'.cells.size = x.cells.size := hc.1.symm
    simp [Instr.storeAt, Instr.sureAddr, storeVar, run_szOf w hs, this, e1]
  · simp at e

def eFieldAddr (P : Program) (s : TypeId) (a : Value) (f : Nat) : Option Value :=
  match P.underlying s, a with
  | some (.struct fs), .pointer (some ⟨b, off, none⟩) =>
    match fs[f]? with
    | some fd => match szOf P fd.type with
      | some (_ + 1) => some (.pointer (some ⟨b, off + fd.offset, none⟩))
      | _ => none
    | none => none
  | _, _ => none

theorem good_fieldAddr {P : Program} {φ : Phi} {h : EH} {w : World} {s : TypeId} {a a' v : Value} {f : Nat} (r : RelH φ h w) (ra : VRel φ a a') (e : eFieldAddr P s a f = some v) :
    Good P φ h w (Instr.fieldAt s a' f) v h := by
  unfold eFieldAddr at e
  split at e
  · rename_i fs b off hu
    obtain ⟨loc, hb, rfl⟩ := ra.ptr_inv
    cases hf : fs[f]? with
    | none => simp [hf] at e
    | some fd =>
      simp only [hf] at e
      split at e
      · rename_i n hs
        cases e
        refine Good.same r (v' := .pointer (some ⟨loc.blk, loc.δ + (off + fd.offset), none⟩)) ?_ (.ptr hb)
        simp [Instr.fieldAt, run_underlying hu, hf, Instr.sureAddr, fieldPlace, run_szOf w hs, Addr.add_eq, Nat.add_assoc]
      · simp at e
  · simp at e

def eIndexAddr (P : Program) (t : TypeId) (x i : Value) : Option Value :=
  match P.underlying t, x, i with
  | some (.slice el), .slice (some ⟨b, off, none⟩) len _, .int _ n =>
    match szOf P el with
    | some s => if 0 ≤ n ∧ n < len then some (.pointer (some ⟨b, off + n.toNat * s, none⟩)) else none
    | none => none
  | some (.array len el), .pointer (some ⟨b, off, none⟩), .int _ n =>
    match szOf P el with
    | some s => if 0 ≤ n ∧ n < len then some (.pointer (some ⟨b, off + n.toNat * s, none⟩)) else none
    | none => none
  | _, _, _ => none

theorem good_indexAddr {P : Program} {φ : Phi} {h : EH} {w : World} {t : TypeId} {x x' i i' v : Value} (r : RelH φ h w) (rx : VRel φ x x') (ri : VRel φ i i') (e : eIndexAddr P t x i = some v) :
    Good P φ h w (Instr.indexAt t x' i') v h := by
  unfold eIndexAddr at e
  split at e
  · rename_i el b off len c k n hu
    cases ri.int_inv
    obtain ⟨loc, off', c', hb, rfl, hcc, hor⟩ := rx.slice_inv
    split at e
    · rename_i s hs
      simp only [Option.ite_none_right_eq_some, Option.some.injEq] at e
      obtain ⟨hn, rfl⟩ := e
      rcases hor with ⟨rfl, _⟩ | ⟨h0, _⟩
      · refine Good.same r (v' := .pointer (some ⟨loc.blk, loc.δ + (off + n.toNat * s), none⟩)) ?_ (.ptr hb)
        simp [Instr.indexAt, asIntOf, run_underlying hu, hn, run_szOf w hs, Addr.add_eq, Nat.add_assoc]
      · omega
    · simp at e
  · rename_i len el b off k n hu
    cases ri.int_inv
    obtain ⟨loc, hb, rfl⟩ := rx.ptr_inv
    split at e
    · rename_i s hs
      simp only [Option.ite_none_right_eq_some, Option.some.injEq] at e
      obtain ⟨hn, rfl⟩ := e
      refine Good.same r (v' := .pointer (some ⟨loc.blk, loc.δ + (off + n.toNat * s), none⟩)) ?_ (.ptr hb)
      simp [Instr.indexAt, asIntOf, run_underlying hu, hn, run_szOf w hs, Addr.add_eq, Nat.add_assoc, Instr.sureAddr]
    · simp at e
  · simp at e

def ePart (P : Program) (t : TypeId) (cs : Array Value) (off : Nat) : Option Value :=
  match P.underlying t, szOf P t with
  | some d, some n => if aggD d then (if off + n ≤ cs.size then some (.agg (cs.extract off (off + n))) else none) else cs[off]?
  | _, _ => none

theorem good_part {P : Program} {φ : Phi} {w : World} {t : TypeId} {cs cs' : Array Value} {off : Nat} {v : Value} (rc : VsRel φ cs cs') (e : ePart P t cs off = some v) :
    ∃ v', (part t cs' off).run P w = .ok v' w ∧ VRel φ v v' := by
  unfold ePart at e
  cases hu : P.underlying t with
  | none => simp [hu] at e
  | some d =>
    cases hs : szOf P t with
    | none => simp [hu, hs] at e
    | some n =>
      simp only [hu, hs] at e
      cases hd : aggD d with
      | true =>
        simp only [hd, if_true, Option.ite_none_right_eq_some, Option.some.injEq] at e
        obtain ⟨_, rfl⟩ := e
        have := rc.extract off (off + n)
        exact ⟨_, by simp [part, run_isAgg w hu, hd, run_szOf w hs], .agg this.1 this.2⟩
      | false =>
        simp only [hd, Bool.false_eq_true, if_false] at e
        obtain ⟨v', e1, e2⟩ := rc.get e
        exact ⟨v', by simp [part, run_isAgg w hu, hd, e1], e2⟩

def eField (P : Program) (t : TypeId) (x : Value) (f : Nat) : Option Value :=
  match P.underlying t, x with
  | some (.struct fs), .agg cs => (fs[f]?).bind fun fd => ePart P fd.type cs fd.offset
  | _, _ => none

theorem good_field {P : Program} {φ : Phi} {h : EH} {w : World} {t : TypeId} {x x' v : Value} {f : Nat} (r : RelH φ h w) (rx : VRel φ x x') (e : eField P t x f = some v) :
    Good P φ h w (Instr.field t x' f) v h := by
  unfold eField at e
  split at e
  · rename_i fs cs hu
    obtain ⟨cs', rfl, rc⟩ := rx.agg_inv
    cases hf : fs[f]? with
    | none => simp [hf] at e
    | some fd =>
      simp only [hf, Option.bind_some] at e
      obtain ⟨v', e1, e2⟩ := good_part (w := w) rc e
      exact Good.same r (by simp [Instr.field, run_underlying hu, hf, asAgg, e1]) e2
  · simp at e

def eIndex (P : Program) (t : TypeId) (x i : Value) : Option Value :=
  match P.underlying t, x, i with
  | some (.array len el), .agg cs, .int _ n => if 0 ≤ n ∧ n < len then (szOf P el).bind fun s => ePart P el cs (n.toNat * s) else none
  | some .string, .string s, .int _ n => if 0 ≤ n then (s[n.toNat]?).map fun b => .int .u8 b.toNat else none
  | _, _, _ => none

theorem good_index {P : Program} {φ : Phi} {h : EH} {w : World} {t : TypeId} {x x' i i' v : Value} (r : RelH φ h w) (rx : VRel φ x x') (ri : VRel φ i i') (e : eIndex P t x i = some v) :
    Good P φ h w (Instr.index t x' i') v h := by
  unfold eIndex at e
  split at e
  · rename_i len el cs k n hu
    obtain ⟨cs', rfl, rc⟩ := rx.agg_inv
    cases ri.int_inv
    simp only [Option.ite_none_right_eq_some] at e
    obtain ⟨hn, e⟩ := e
    cases hs : szOf P el with
    | none => simp [hs] at e
    | some s =>
      simp only [hs, Option.bind_some] at e
      obtain ⟨v', e1, e2⟩ := good_part (w := w) rc e
      exact Good.same r (by simp [Instr.index, asIntOf, run_underlying hu, hn, run_szOf w hs, e1]) e2
  · rename_i s k n hu
    cases rx.string_inv
    cases ri.int_inv
    simp only [Option.ite_none_right_eq_some] at e
    obtain ⟨hn, e⟩ := e
    cases hb : s[n.toNat]? with
    | none => simp [hb] at e
    | some b =>
      simp only [hb, Option.map_some, Option.some.injEq] at e
      subst e
      exact Good.same r (v' := .int .u8 b.toNat) (by simp [Instr.index, asIntOf, run_underlying hu, hn, hb]) (.base rfl)
  · simp at e

def eExtract (x : Value) (i : Nat) : Option Value :=
  match x with
  | .tuple vs => vs[i]?
  | _ => none

theorem good_extract {P : Program} {φ : Phi} {h : EH} {w : World} {x x' v : Value} {i : Nat} (r : RelH φ h w) (rx : VRel φ x x') (e : eExtract x i = some v) : Good P φ h w (Instr.extract x' i) v h := by
  unfold eExtract at e
  split at e
  · obtain ⟨vs', rfl, rc⟩ := rx.tuple_inv
    obtain ⟨v', e1, e2⟩ := rc.get e
    exact Good.same r (by simp [Instr.extract, e1]) e2
  · simp at e

def eBound (x : Value) (y : Nat) : Option Nat :=
  match x with
  | .int _ n => if 0 ≤ n ∧ n ≤ y then some n.toNat else none
  | _ => none

theorem run_bound {P : Program} {φ : Phi} {w : World} {x x' : Value} {y y' n : Nat} {c : BoundsCode} (rx : VRel φ x x') (e : eBound x y = some n) (hy : y ≤ y') : (Instr.sliceBound x' y' c).run P w = .ok n w ∧ n ≤ y := by
  unfold eBound at e
  split at e
  · cases rx.int_inv
    simp only [Option.ite_none_right_eq_some, Option.some.injEq] at e
    obtain ⟨h, rfl⟩ := e
    refine ⟨?_, by omega⟩
    have : (0 : Int) ≤ ‹Int› ∧ ‹Int› ≤ (y' : Int) := by omega
    simp [Instr.sliceBound, asIntOf, this]
  · simp at e

def eOptBound (x : Option Value) (y d : Nat) : Option Nat :=
  match x with
  | some v => eBound v y
  | none => some d

def esOk (h : EH) (b s : Nat) : Bool :=
  match h[b]? with
  | some (.cells _ none _) => true
  | some (.cells _ (some es) _) => es == s
  | _ => false

def cutAt (b off s l m len : Nat) : Value := .slice (some ⟨b, if m = l then off else off + l * s, none⟩) len (m - l)

def isOpn (h : EH) (b : Nat) : Bool :=
  match h[b]? with
  | some (.cells _ (some _) _) => true
  | _ => false

def eSlice (P : Program) (t : TypeId) (x : Value) (lo hi mx : Option Value) (h : EH) : Option Value :=
  match P.underlying t, x with
  | some .string, .string s =>
    match mx, eOptBound hi s.size s.size with
    | none, some h' => (eOptBound lo h' 0).map fun l => .string (s.extract l h')
    | _, _ => none
  | some (.slice el), .slice (some ⟨b, off, none⟩) len cap =>
    match szOf P el, mx with
    | some s, none =>
      if len ≤ cap ∧ esOk h b s = true then
        match eOptBound hi cap len with
        | some h' => (eOptBound lo h' 0).map fun l => if isOpn h b = true then .slice (some ⟨b, off + l * s, none⟩) (h' - l) (cap - l) else cutAt b off s l cap (h' - l)
        | none => none
      else none
    | some s, some m =>
      match eBound m cap, hi with
      | some m', some hv =>
        match eBound hv m' with
        | some h' => (eOptBound lo h' 0).map fun l => cutAt b off s l m' (h' - l)
        | none => none
      | _, _ => none
    | none, _ => none
  | some (.slice el), .slice none 0 0 =>
    match szOf P el, mx, eOptBound hi 0 0 with
    | some _, none, some h' => (eOptBound lo h' 0).map fun _ => .slice none 0 0
    | _, _, _ => none
  | some (.slice el), .slice (some ⟨0, 0, some 0⟩) 0 0 =>
    match szOf P el, mx with
    | some _, none =>
      match eOptBound hi 0 0 with
      | some h' => (eOptBound lo h' 0).map fun _ => mkS
      | none => none
    | some _, some m =>
      match eBound m 0, hi with
      | some m', some hv =>
        match eBound hv m' with
        | some h' => (eOptBound lo h' 0).map fun _ => mkS
        | none => none
      | _, _ => none
    | none, _ => none
  | some (.array n el), .pointer (some ⟨b, off, none⟩) =>
    match szOf P el, mx with
    | some s, none =>
      match eOptBound hi n n with
      | some h' => (eOptBound lo h' 0).map fun l => cutAt b off s l n (h' - l)
      | none => none
    | _, _ => none
  | _, _ => none

def OptRel (φ : Phi) : Option Value → Option Value → Prop
  | some v, some v' => VRel φ v v'
  | none, none => True
  | _, _ => False

theorem optBound {P : Program} {φ : Phi} {w : World} {x x' : Option Value} {y y' d n : Nat} {c : BoundsCode} (rx : OptRel φ x x') (e : eOptBound x y d = some n) (hy : y ≤ y') (hd : d ≤ y) :
    (match x' with | some v => Instr.sliceBound v y' c | none => pure d : Sem Nat).run P w = .ok n w ∧ n ≤ y := by
  cases x <;> cases x' <;> simp only [OptRel] at rx
  · simp only [eOptBound, Option.some.injEq] at e; subst e; exact ⟨rfl, hd⟩
  · exact run_bound rx e hy

theorem VRel.cut {φ : Phi} {b off s l m len : Nat} {loc : Loc} (h : φ b = some loc) :
    VRel φ (cutAt b off s l m len) (.slice (some (if m = l then ⟨loc.blk, loc.δ + off, none⟩ else ⟨loc.blk, loc.δ + off + l * s, none⟩)) len (m - l)) := by
  unfold cutAt
  split
  · exact .slice h (.inl rfl)
  · rw [Nat.add_assoc]; exact .slice h (.inl rfl)

theorem bounds3 {P : Program} {φ : Phi} {w : World} {lo hi lo' hi' : Option Value} {len cap cap' h' l : Nat} {b : Bool} (rl : OptRel φ lo lo') (rh : OptRel φ hi hi') (hc : cap ≤ cap') (hlen : len ≤ cap)
    (eh : eOptBound hi cap len = some h') (el : eOptBound lo h' 0 = some l) : (Instr.sliceBounds b len cap' lo' hi' none).run P w = .ok (l, h', cap') w ∧ l ≤ h' ∧ h' ≤ cap := by
  have hh := optBound (P := P) (w := w) (c := if b then .sliceAcap else .sliceAlen) rh eh hc hlen
  have ll := optBound (P := P) (w := w) (c := .sliceB) rl el (Nat.le_refl _) (Nat.zero_le _)
  refine ⟨?_, ll.2, hh.2⟩
  unfold Instr.sliceBounds
  have h1 := hh.1
  have l1 := ll.1
  cases hi' <;> cases lo' <;> simp_all [Sem.run_bind]

theorem good_slice {P : Program} {φ : Phi} {h : EH} {w : World} {t : TypeId} {x x' v : Value} {lo hi mx lo' hi' mx' : Option Value} (r : RelH φ h w) (rx : VRel φ x x') (rl : OptRel φ lo lo') (rh : OptRel φ hi hi') (rm : OptRel φ mx mx')
    (e : eSlice P t x lo hi mx h = some v) : Good P φ h w (Instr.sliceAt t x' lo' hi' mx') v h := by
  unfold eSlice at e
  split at e
  · -- a string
    rename_i s hu
    cases rx.string_inv
    split at e
    · rename_i h' eh
      simp only [Option.map_eq_some_iff] at e
      obtain ⟨l, el, rfl⟩ := e
      cases mx' with
      | some _ => simp [OptRel] at rm
      | none =>
        obtain ⟨e1, _, _⟩ := bounds3 (P := P) (w := w) (b := false) rl rh (Nat.le_refl _) (Nat.le_refl _) eh el
        exact Good.same r (v' := .string (s.extract l h')) (by simp [Instr.sliceAt, run_underlying hu, Instr.slice, e1]) (.base rfl)
    · simp at e
  · -- a slice
    rename_i el b off len cap hu
    obtain ⟨loc, off', c', hb, rfl, hcc, hor⟩ := rx.slice_inv
    split at e
    · rename_i s hs
      cases mx' with
      | some _ => simp [OptRel] at rm
      | none =>
        simp only [Option.ite_none_right_eq_some] at e
        obtain ⟨⟨hlen, hes⟩, e⟩ := e
        split at e
        · rename_i h' eh
          simp only [Option.map_eq_some_iff] at e
          obtain ⟨l, el', rfl⟩ := e
          obtain ⟨e1, hl1, hl2⟩ := bounds3 (P := P) (w := w) (b := true) rl rh hcc hlen eh el'
          have erun : (Instr.sliceAt t (.slice (some ⟨loc.blk, off', none⟩) len c') lo' hi' none).run P w =
              .ok (.slice (some (if c' = l then ⟨loc.blk, off', none⟩ else ⟨loc.blk, off' + l * s, none⟩)) (h' - l) (c' - l)) w := by
            simp only [Instr.sliceAt, Sem.run_bind, run_underlying hu, Result.andThen_ok, Instr.slice, e1, run_szOf w hs, Sem.run_pure]
            split <;> simp [Addr.add_eq]
          refine Good.same r erun ?_
          obtain ⟨o, ho, _, hob⟩ := r.obj b loc hb
          have hopn : (isOpn h b = true ∧ loc.opn = true ∧ loc.es = s) ∨ (isOpn h b = false ∧ loc.opn = false) := by
            unfold esOk at hes
            unfold isOpn
            rw [ho] at hes ⊢
            cases o with
            | cells vs opn wr =>
              obtain ⟨_, o1, o2, _⟩ := hob
              cases opn with
              | none => right; simp [o1]
              | some es => left; simp at hes; simp [o1, o2 es rfl, hes]
            | _ => simp at hes
          rcases hopn with ⟨hio, hop, hess⟩ | ⟨hio, hop⟩
          · rw [if_pos hio]
            rcases hor with ⟨rfl, hx⟩ | ⟨h0, h0', hc'⟩
            · by_cases hcl : c' = l
              · rw [if_pos hcl]
                have hcap : cap = l := by omega
                subst hcap
                have hh : h' = cap := by omega
                rw [hh, hcl]
                simp only [Nat.sub_self]
                exact .slempty hb (.inl rfl)
              · rw [if_neg hcl, Nat.add_assoc]
                rcases hx with rfl | ⟨_, hend, rfl⟩
                · exact .slice hb (.inl rfl)
                · refine .slice hb (.inr ⟨hop, ?_, by omega⟩)
                  rw [← hess, ← hend]
                  obtain ⟨d, rfl⟩ : ∃ d, cap = l + d := ⟨cap - l, by omega⟩
                  rw [show l + d - l = d from by omega, Nat.add_mul]
                  omega
            · subst h0; subst h0'
              have hh : h' = 0 := by omega
              subst hh
              have hl : l = 0 := by omega
              subst hl
              simp only [Nat.sub_self, Nat.zero_mul, Nat.add_zero, ite_self, Nat.sub_zero]
              exact .slempty hb hc'
          · rw [if_neg (by simp [hio])]
            rcases hor with ⟨rfl, hx⟩ | ⟨h0, h0', hc'⟩
            · rcases hx with rfl | ⟨hop', _⟩
              · exact VRel.cut hb
              · rw [hop] at hop'; cases hop'
            · subst h0; subst h0'
              have hh : h' = 0 := by omega
              subst hh
              have hl : l = 0 := by omega
              subst hl
              unfold cutAt
              simp only [if_true, Nat.sub_self, Nat.zero_mul, Nat.add_zero, ite_self, Nat.sub_zero]
              exact .slempty hb hc'
        · simp at e
    · rename_i s m hs
      cases mx' with
      | none => simp [OptRel] at rm
      | some m1 =>
        split at e
        · rename_i m' hv em
          split at e
          · rename_i h' eh
            simp only [Option.map_eq_some_iff] at e
            obtain ⟨l, el', rfl⟩ := e
            cases hi' with
            | none => simp [OptRel] at rh
            | some hv' =>
              have b1 := run_bound (P := P) (w := w) (c := .slice3Acap) rm em hcc
              have b2 := run_bound (P := P) (w := w) (c := .slice3B) rh eh (Nat.le_refl _)
              have b3 := optBound (P := P) (w := w) (c := .slice3C) rl el' (Nat.le_refl _) (Nat.zero_le _)
              have erun : (Instr.sliceAt t (.slice (some ⟨loc.blk, off', none⟩) len c') lo' (some hv') (some m1)).run P w =
                  .ok (.slice (some (if m' = l then ⟨loc.blk, off', none⟩ else ⟨loc.blk, off' + l * s, none⟩)) (h' - l) (m' - l)) w := by
                have hb3 := b3.1
                simp only [Instr.sliceAt, Sem.run_bind, run_underlying hu, Result.andThen_ok, Instr.slice, Instr.sliceBounds, if_true, b1.1, b2.1, Option.isSome_some]
                cases lo' <;> simp_all [run_szOf w hs] <;> (split <;> simp [Addr.add_eq])
              refine Good.same r erun ?_
              rcases hor with ⟨rfl, _⟩ | ⟨h0, h0', hc'⟩
              · exact VRel.cut hb
              · have hm : m' = 0 := by have := b1.2; omega
                subst hm
                have hh : h' = 0 := by have := b2.2; omega
                subst hh
                have hl : l = 0 := by have := b3.2; omega
                subst hl
                unfold cutAt
                simp only [if_true, Nat.sub_self]
                exact .slempty hb (.inl rfl)
          · simp at e
        · simp at e
    · simp at e
  · -- the nil slice
    rename_i el hu
    cases rx.slnil_inv
    split at e
    · rename_i s h' hs eh
      cases mx' with
      | some _ => simp [OptRel] at rm
      | none =>
        simp only [Option.map_eq_some_iff] at e
        obtain ⟨l, el', rfl⟩ := e
        obtain ⟨e1, hl1, hl2⟩ := bounds3 (P := P) (w := w) (b := true) rl rh (Nat.le_refl 0) (Nat.le_refl 0) eh el'
        have hl : l = 0 := by omega
        have hh : h' = 0 := by omega
        subst hl; subst hh
        exact Good.same r (v' := .slice none 0 0) (by simp [Instr.sliceAt, run_underlying hu, Instr.slice, e1, run_szOf w hs]) .slnil
    · simp at e
  · -- an empty slice somewhere
    rename_i el hu
    obtain ⟨a, rfl⟩ := rx.sle_inv
    split at e
    · rename_i s hs
      cases mx' with
      | some _ => simp [OptRel] at rm
      | none =>
        split at e
        · rename_i h' eh
          simp only [Option.map_eq_some_iff] at e
          obtain ⟨l, el', rfl⟩ := e
          obtain ⟨e1, hl1, hl2⟩ := bounds3 (P := P) (w := w) (b := true) rl rh (Nat.le_refl 0) (Nat.le_refl 0) eh el'
          have hl : l = 0 := by omega
          have hh : h' = 0 := by omega
          subst hl; subst hh
          exact Good.same r (v' := .slice (some a) 0 0) (by simp [Instr.sliceAt, run_underlying hu, Instr.slice, e1, run_szOf w hs]) .sle
        · simp at e
    · rename_i s m hs
      cases mx' with
      | none => simp [OptRel] at rm
      | some m1 =>
        split at e
        · rename_i m' hv em
          split at e
          · rename_i h' eh
            simp only [Option.map_eq_some_iff] at e
            obtain ⟨l, el', rfl⟩ := e
            cases hi' with
            | none => simp [OptRel] at rh
            | some hv' =>
              have b1 := run_bound (P := P) (w := w) (c := .slice3Acap) rm em (Nat.le_refl 0)
              have b2 := run_bound (P := P) (w := w) (c := .slice3B) rh eh (Nat.le_refl _)
              have b3 := optBound (P := P) (w := w) (c := .slice3C) rl el' (Nat.le_refl _) (Nat.zero_le _)
              have hm : m' = 0 := by have := b1.2; omega
              subst hm
              have hh : h' = 0 := by have := b2.2; omega
              subst hh
              have hl : l = 0 := by have := b3.2; omega
              subst hl
              refine Good.same r (v' := .slice (some a) 0 0) ?_ .sle
              have hb3 := b3.1
              simp only [Instr.sliceAt, Sem.run_bind, run_underlying hu, Result.andThen_ok, Instr.slice, Instr.sliceBounds, if_true, b1.1, b2.1, Option.isSome_some]
              cases lo' <;> simp_all [run_szOf w hs]
          · simp at e
        · simp at e
    · simp at e
  · -- an array
    rename_i n el b off hu
    obtain ⟨loc, hb, rfl⟩ := rx.ptr_inv
    split at e
    · rename_i s hs
      cases mx' with
      | some _ => simp [OptRel] at rm
      | none =>
        split at e
        · rename_i h' eh
          simp only [Option.map_eq_some_iff] at e
          obtain ⟨l, el', rfl⟩ := e
          obtain ⟨e1, hl1, hl2⟩ := bounds3 (P := P) (w := w) (b := false) rl rh (Nat.le_refl n) (Nat.le_refl n) eh el'
          refine Good.same r (v' := .slice (some (if n = l then ⟨loc.blk, loc.δ + off, none⟩ else ⟨loc.blk, loc.δ + off + l * s, none⟩)) (h' - l) (n - l)) ?_ (VRel.cut hb)
          simp only [Instr.sliceAt, Sem.run_bind, run_underlying hu, Result.andThen_ok, Instr.sureAddr, Sem.run_pure, e1, run_szOf w hs]
          split <;> simp [Addr.add_eq]
        · simp at e
    · simp at e
  · simp at e
end Go.E
namespace Go.E
open Go

def constOk : Value → Bool
  | .slice none _ _ => true
  | v => isBase v

theorem VRel.const {φ : Phi} {v : Value} (h : constOk v = true) : VRel φ v v := by
  unfold constOk at h
  split at h
  · exact .slnil
  · exact .base h

def zeroOf (P : Program) (t : TypeId) : Option (Value × Nat) :=
  match P.info? t with
  | some i => match i.zero with
    | some z => if z.cells.size = i.size ∧ z.cells.all constOk = true ∧ isUnk z = false ∧ 0 < i.size ∧ i.bytes ≤ 16384 then some (z, i.size) else none
    | none => none
  | none => none

theorem zeroOf_spec {P : Program} {t : TypeId} {z : Value} {n : Nat} (h : zeroOf P t = some (z, n)) :
    ∃ i, P.info? t = some i ∧ i.zero = some z ∧ i.size = n ∧ z.cells.size = n ∧ z.cells.all constOk = true ∧ isUnk z = false ∧ 0 < n ∧ i.bytes ≤ 16384 ∧ szOf P t = some n := by
  unfold zeroOf at h
  split at h
  · rename_i i hi
    split at h
    · rename_i z' hz
      simp only [Option.ite_none_right_eq_some, Option.some.injEq, Prod.mk.injEq] at h
      obtain ⟨⟨a, b, c, d, e⟩, rfl, rfl⟩ := h
      exact ⟨i, hi, hz, rfl, a, b, c, d, e, by simp [szOf, hi]⟩
    · simp at h
  · simp at h

theorem run_zeroOf {P : Program} {t : TypeId} {z : Value} {n : Nat} (w : World) (h : zeroOf P t = some (z, n)) : (zeroValue t).run P w = .ok z w := by
  obtain ⟨i, hi, hz, _⟩ := zeroOf_spec h
  simp [zeroValue, run_typeInfo w hi, hz]

theorem VsRel.const {φ : Phi} {a : Array Value} (h : a.all constOk = true) : VsRel φ a a :=
  ⟨rfl, fun i h1 _ => VRel.const (by rw [Array.all_eq_true] at h; exact h i h1)⟩

def mkRow (vs : Array Value) : EObj := .cells vs.toList none true

theorem good_newRow {P : Program} {φ : Phi} {h : EH} {w : World} (r : RelH φ h w) (el : TypeId) {vs vs' : Array Value} (rv : VsRel φ vs vs') :
    ∃ φ' loc w', (newRow el vs').run P w = .ok ⟨loc.blk, 0, none⟩ w' ∧ φ' h.length = some loc ∧ loc.δ = 0 ∧ RelH φ' (h ++ [mkRow vs]) w' ∧ Tr φ h w φ' (h ++ [mkRow vs]) w' := by
  let loc : Loc := ⟨w.heap.size, 0, vs.size, 1, 0, false⟩
  have hrel := rv.mono (Le.put r.dom loc)
  obtain ⟨a, b⟩ := r.new (mkRow vs) (.cells vs' el) loc rfl (by
    refine ⟨by simp [loc], rfl, by simp, fun _ => rfl, vs', el, (0, 0), by simp [loc], ?_, ?_, by simp⟩
    · have := rv.1; simp [loc]; omega
    · intro i v hv
      simp only [loc, Nat.zero_add]
      exact hrel.get (by simpa using hv))
  exact ⟨_, loc, _, by simp [newRow]; rfl, Phi.put_self _ _ _, rfl, a, b⟩

def eBox (x : Value) (h : EH) : Option (Value × EH) :=
  if isUnk x = true then none else some (.pointer (some ⟨h.length, 0, none⟩), h ++ [mkRow x.cells])

theorem good_box {P : Program} {φ : Phi} {h h' : EH} {w : World} {t : TypeId} {x x' v : Value} (r : RelH φ h w) (rx : VRel φ x x') (e : eBox x h = some (v, h')) : Good P φ h w (Instr.box t x') v h' := by
  unfold eBox at e
  simp only [Option.ite_none_left_eq_some, Option.some.injEq, Prod.mk.injEq] at e
  obtain ⟨hu, rfl, rfl⟩ := e
  obtain ⟨φ', loc, w', e1, e2, e3, e4, e5⟩ := good_newRow (P := P) r t (rx.cells (by simpa using hu))
  refine ⟨φ', .pointer (some ⟨loc.blk, 0, none⟩), w', by simp [Instr.box, newVar, e1], ?_, e4, e5⟩
  have := VRel.ptr (φ := φ') (off := 0) e2
  rwa [e3] at this

def eAlloc (P : Program) (t : TypeId) (h : EH) : Option (Value × EH) :=
  (zeroOf P t).map fun z => (.pointer (some ⟨h.length, 0, none⟩), h ++ [mkRow z.1.cells])

theorem good_alloc {P : Program} {φ : Phi} {h h' : EH} {w : World} {t : TypeId} {v : Value} (r : RelH φ h w) (e : eAlloc P t h = some (v, h')) : Good P φ h w (Instr.alloc t true (.tuple #[])) v h' := by
  unfold eAlloc at e
  simp only [Option.map_eq_some_iff, Prod.mk.injEq, Prod.exists] at e
  obtain ⟨z, n, hz, rfl, rfl⟩ := e
  obtain ⟨i, hi, hz', _, _, hc, _⟩ := zeroOf_spec hz
  obtain ⟨φ', loc, w', e1, e2, e3, e4, e5⟩ := good_newRow (P := P) r t (VsRel.const hc)
  refine ⟨φ', .pointer (some ⟨loc.blk, 0, none⟩), w', by simp [Instr.alloc, run_zeroOf w hz, newVar, e1], ?_, e4, e5⟩
  have := VRel.ptr (φ := φ') (off := 0) e2
  rwa [e3] at this

theorem fold_rel {φ : Phi} (off : Nat) : ∀ (l l' : List (Value × Nat)) (a a' : Array Value), VsRel φ a a' → l.map (·.2) = l'.map (·.2) → (∀ (i : Nat) x x', l[i]? = some x → l'[i]? = some x' → VRel φ x.1 x'.1) →
    VsRel φ (l.foldl (fun cs x => cs.setIfInBounds (off + x.2) x.1) a) (l'.foldl (fun cs x => cs.setIfInBounds (off + x.2) x.1) a') := by
  intro l
  induction l with
  | nil => intro l' a a' r hm _; cases l' <;> simp at hm; exact r
  | cons x l ih =>
    intro l' a a' r hm hr
    cases l' with
    | nil => simp at hm
    | cons x' l' =>
      simp only [List.map_cons, List.cons.injEq] at hm
      simp only [List.foldl_cons]
      refine ih l' _ _ ?_ hm.2 (fun i y y' h1 h2 => hr (i + 1) y y' (by simpa using h1) (by simpa using h2))
      have h0 := hr 0 x x' rfl rfl
      refine VsRel.of_get (by simp [r.1]) fun i v hv => ?_
      rw [Array.getElem?_setIfInBounds] at hv ⊢
      rw [← hm.1, ← r.1]
      split at hv
      · rename_i he
        rw [if_pos he]
        split at hv
        · rename_i hl
          rw [if_pos hl]
          cases hv
          exact ⟨_, rfl, h0⟩
        · cases hv
      · rename_i he
        rw [if_neg he]
        exact r.get hv

theorem fill_rel {φ : Phi} (place : Nat → Option (Nat × Nat)) : ∀ (l l' : List (Nat × Value)) (a a' c : Array Value), VsRel φ a a' → l.map (·.1) = l'.map (·.1) →
    (∀ (i : Nat) x x', l[i]? = some x → l'[i]? = some x' → VRel φ x.2 x'.2) → (∀ x ∈ l, isUnk x.2 = false) → Instr.fill place a l = some c → ∃ c', Instr.fill place a' l' = some c' ∧ VsRel φ c c' := by
  intro l
  induction l with
  | nil => intro l' a a' c r hm _ _ e; cases l' <;> simp at hm; simp only [Instr.fill, Option.some.injEq] at e ⊢; exact ⟨a', rfl, e ▸ r⟩
  | cons x l ih =>
    intro l' a a' c r hm hr hu e
    cases l' with
    | nil => simp at hm
    | cons x' l' =>
      obtain ⟨i, v⟩ := x
      obtain ⟨i', v'⟩ := x'
      simp only [List.map_cons, List.cons.injEq] at hm
      obtain ⟨rfl, hm⟩ := hm
      have rv : VRel φ v v' := hr 0 _ _ rfl rfl
      have rc := rv.cells (hu (i, v) (List.mem_cons_self ..))
      simp only [Instr.fill] at e ⊢
      cases hp : place i with
      | none => simp [hp] at e
      | some os =>
        obtain ⟨off, size⟩ := os
        simp only [hp] at e ⊢
        rw [← rc.1, ← r.1]
        split at e
        · simp at e
        · rename_i hc
          rw [if_neg hc]
          refine ih l' _ _ c ?_ hm (fun j y y' h1 h2 => hr (j + 1) y y' (by simpa using h1) (by simpa using h2)) (fun y hy => hu y (List.mem_cons_of_mem _ hy)) e
          rw [← Array.foldl_toList, ← Array.foldl_toList]
          refine fold_rel off _ _ _ _ r ?_ ?_
          · simp [rc.1]
          · intro k y y' h1 h2
            simp only [Array.toList_zipIdx, List.getElem?_zipIdx, Option.map_eq_some_iff] at h1 h2
            obtain ⟨u, hu1, rfl⟩ := h1
            obtain ⟨u', hu2, rfl⟩ := h2
            obtain ⟨z, hz1, hz2⟩ := rc.get (i := k) (by simpa using hu1)
            rw [Array.getElem?_toList] at hu2
            rw [hz1] at hu2; cases hu2
            exact hz2

def PsRel (φ : Phi) (l l' : List (Nat × Value)) : Prop := l.map (·.1) = l'.map (·.1) ∧ ∀ (i : Nat) x x', l[i]? = some x → l'[i]? = some x' → VRel φ x.2 x'.2

def eBuild (P : Program) (t : TypeId) (parts : Array (Nat × Value)) : Option Value :=
  match zeroOf P t, P.underlying t with
  | some (z, _), some (.struct fs) =>
    if parts.all (fun x => !isUnk x.2) = true ∧ fs.all (fun f => (szOf P f.type).isSome) = true then
      (Instr.fill (fun i => (fs[i]?).map fun f => (f.offset, (szOf P f.type).getD 0)) z.cells parts.toList).map .agg
    else none
  | some (z, _), some (.array _ el) =>
    match szOf P el with
    | some s => if parts.all (fun x => !isUnk x.2) = true then (Instr.fill (fun i => some (i * s, s)) z.cells parts.toList).map .agg else none
    | none => none
  | _, _ => none

theorem run_mapM_fields {P : Program} {w : World} : ∀ (fs : List Field), fs.all (fun f => (szOf P f.type).isSome) = true →
    (fs.mapM (fun f => do pure (f.offset, ← sizeOf f.type) : Field → Sem (Nat × Nat))).run P w = .ok (fs.map fun f => (f.offset, (szOf P f.type).getD 0)) w := by
  intro fs
  induction fs with
  | nil => intro _; rfl
  | cons f fs ih =>
    intro h
    simp only [List.all_cons, Bool.and_eq_true] at h
    obtain ⟨n, hn⟩ := Option.isSome_iff_exists.1 h.1
    rw [List.mapM_cons]
    simp only [Sem.run_bind, run_szOf w hn, Result.andThen_ok, Sem.run_pure, ih h.2, List.map_cons, hn, Option.getD_some]

theorem good_build {P : Program} {φ : Phi} {h : EH} {w : World} {t : TypeId} {ps ps' : Array (Nat × Value)} {v : Value} (r : RelH φ h w) (rp : PsRel φ ps.toList ps'.toList) (e : eBuild P t ps = some v) :
    Good P φ h w (Instr.build t ps') v h := by
  unfold eBuild at e
  split at e
  · rename_i z n fs hz hu
    simp only [Option.ite_none_right_eq_some, Option.map_eq_some_iff] at e
    obtain ⟨⟨h1, h2⟩, c, hc, rfl⟩ := e
    obtain ⟨_, _, _, _, _, hcon, _⟩ := zeroOf_spec hz
    obtain ⟨c', e1, e2⟩ := fill_rel _ _ _ _ _ _ (VsRel.const (φ := φ) hcon) rp.1 rp.2 (by rw [Array.all_eq_true_iff_forall_mem] at h1; intro x hx; simpa using h1 x (by simpa using hx)) hc
    refine Good.same r (v' := .agg c') ?_ (.agg e2.1 e2.2)
    have hm : (fs.mapM (fun f => do pure (f.offset, ← sizeOf f.type) : Field → Sem (Nat × Nat))).run P w = .ok (fs.map fun f => (f.offset, (szOf P f.type).getD 0)) w := by
      rw [Array.mapM_eq_mapM_toList]
      have := run_mapM_fields (P := P) (w := w) fs.toList (by simpa using h2)
      simp only [Sem.run_map, this, Result.andThen_ok]
      congr 1
      apply Array.ext' ; simp
    have he : (fun i : Nat => (fs.map fun f : Field => (f.offset, (szOf P f.type).getD 0))[i]?) = fun i => (fs[i]?).map fun f => (f.offset, (szOf P f.type).getD 0) := by
      funext i; simp
    simp only [Instr.build, Sem.run_bind, run_zeroOf w hz, Result.andThen_ok, run_underlying hu, hm]
    rw [he, e1]
    rfl
  · rename_i z n len el hz hu
    split at e
    · rename_i s hs
      simp only [Option.ite_none_right_eq_some, Option.map_eq_some_iff] at e
      obtain ⟨h1, c, hc, rfl⟩ := e
      obtain ⟨_, _, _, _, _, hcon, _⟩ := zeroOf_spec hz
      obtain ⟨c', e1, e2⟩ := fill_rel _ _ _ _ _ _ (VsRel.const (φ := φ) hcon) rp.1 rp.2 (by rw [Array.all_eq_true_iff_forall_mem] at h1; intro x hx; simpa using h1 x (by simpa using hx)) hc
      refine Good.same r (v' := .agg c') ?_ (.agg e2.1 e2.2)
      simp only [Instr.build, Sem.run_bind, run_zeroOf w hz, Result.andThen_ok, run_underlying hu, run_szOf w hs, e1]
      rfl
    · simp at e
  · simp at e

def zerosOf (z : Value) (n : Nat) : Array Value := (Array.range n).map (z.cells[· % z.cells.size]!)

theorem zeros_const {z : Value} (h : z.cells.all constOk = true) (h0 : 0 < z.cells.size) (n : Nat) : (zerosOf z n).all constOk = true := by
  rw [Array.all_eq_true] at h ⊢
  intro i hi
  simp only [zerosOf, Array.getElem_map, Array.getElem_range]
  have : i % z.cells.size < z.cells.size := Nat.mod_lt _ h0
  rw [getElem!_pos z.cells _ this]
  exact h _ this

def eBuildSlice (P : Program) (t : TypeId) (len : Nat) (parts : Array (Nat × Value)) (h : EH) : Option (Value × EH) :=
  match P.underlying t with
  | some (.slice el) =>
    match zeroOf P el with
    | some (z, s) =>
      if len * s ≤ 16777216 ∧ parts.all (fun x => !isUnk x.2) = true then
        (Instr.fill (fun i => some (i * s, s)) (zerosOf z (len * s)) parts.toList).map fun c => (.slice (some ⟨h.length, 0, none⟩) len len, h ++ [mkRow c])
      else none
    | none => none
  | _ => none

theorem good_buildSlice {P : Program} {φ : Phi} {h h' : EH} {w : World} {t len : Nat} {ps ps' : Array (Nat × Value)} {v : Value} (r : RelH φ h w) (rp : PsRel φ ps.toList ps'.toList) (e : eBuildSlice P t len ps h = some (v, h')) :
    Good P φ h w (Instr.buildSlice t len ps') v h' := by
  unfold eBuildSlice at e
  split at e
  · rename_i el hu
    split at e
    · rename_i z s hz
      simp only [Option.ite_none_right_eq_some, Option.map_eq_some_iff, Prod.mk.injEq] at e
      obtain ⟨⟨hle, h1⟩, c, hc, rfl, rfl⟩ := e
      obtain ⟨_, _, _, _, hzs, hcon, _, h0, _, hs⟩ := zeroOf_spec hz
      obtain ⟨c', e1, e2⟩ := fill_rel _ _ _ _ _ _ (VsRel.const (φ := φ) (zeros_const hcon (by omega) (len * s))) rp.1 rp.2 (by rw [Array.all_eq_true_iff_forall_mem] at h1; intro x hx; simpa using h1 x (by simpa using hx)) hc
      obtain ⟨φ', loc, w', f1, f2, f3, f4, f5⟩ := good_newRow (P := P) r el e2
      refine ⟨φ', .slice (some ⟨loc.blk, 0, none⟩) len len, w', ?_, ?_, f4, f5⟩
      · simp only [Instr.buildSlice, Sem.run_bind, run_underlying hu, Result.andThen_ok, run_szOf w hs]
        rw [if_neg (by omega)]
        by_cases h2 : len * s = 0
        · have harr : (Array.range (len * s)).map ((#[] : Array Value)[· % (#[] : Array Value).size]!) = zerosOf z (len * s) := by rw [h2]; simp [zerosOf]
          rw [if_pos h2]
          simp only [Sem.run_bind, Sem.run_pure, Result.andThen_ok, harr, e1, f1]
        · rw [if_neg h2]
          have harr : (Array.range (len * s)).map (z.cells[· % z.cells.size]!) = zerosOf z (len * s) := rfl
          simp only [Sem.run_bind, run_zeroOf w hz, Sem.run_pure, Result.andThen_ok, harr, e1, f1]
      · have := VRel.slice (φ := φ') (off := 0) (len := len) f2 (.inl (rfl : len = len))
        rwa [f3] at this
    · simp at e
  · simp at e

def eMakeSlice (P : Program) (t : TypeId) (l c : Value) (h : EH) : Option (Value × EH) :=
  match P.underlying t, l, c with
  | some (.slice el), .int _ l, .int _ c =>
    match zeroOf P el with
    | some (z, s) => if 0 ≤ l ∧ l ≤ c ∧ c ≤ 1073741824 then some (.slice (some ⟨h.length, 0, none⟩) l.toNat c.toNat, h ++ [mkRow (zerosOf z (c.toNat * s))]) else none
    | none => none
  | _, _, _ => none

theorem wrap64_small {n : Int} (h : 0 ≤ n) (h' : n ≤ 1073741824) : IntKind.i64.wrap n = n := by
  have e1 : IntKind.i64.signed = true := rfl
  have e2 : IntKind.i64.bits = 64 := rfl
  unfold IntKind.wrap
  simp only [e1, e2]
  simp [Int.bmod]
  omega

theorem good_makeSlice {P : Program} {φ : Phi} {h h' : EH} {w : World} {t : TypeId} {l l' c c' v : Value} (r : RelH φ h w) (rl : VRel φ l l') (rc : VRel φ c c') (e : eMakeSlice P t l c h = some (v, h')) :
    Good P φ h w (Instr.makeSlice t l' c') v h' := by
  unfold eMakeSlice at e
  split at e
  · rename_i el k1 l k2 c hu
    cases rl.int_inv; cases rc.int_inv
    split at e
    · rename_i z s hz
      simp only [Option.ite_none_right_eq_some, Option.some.injEq, Prod.mk.injEq] at e
      obtain ⟨⟨h0, h1, h2⟩, rfl, rfl⟩ := e
      obtain ⟨i, hi, _, _, hzs, hcon, _, hp, hb, hs⟩ := zeroOf_spec hz
      obtain ⟨φ', loc, w', f1, f2, f3, f4, f5⟩ := good_newRow (P := P) r el (VsRel.const (φ := φ) (zeros_const hcon (by omega) (c.toNat * s)))
      refine ⟨φ', .slice (some ⟨loc.blk, 0, none⟩) l.toNat c.toNat, w', ?_, ?_, f4, f5⟩
      · have hbc : (i.bytes : Int) * c ≤ 16384 * 1073741824 := Int.mul_le_mul (by omega) h2 (by omega) (by omega)
        simp only [Instr.makeSlice, Sem.run_bind, run_underlying hu, Result.andThen_ok, asInt, asIntOf, Sem.run_pure, run_typeInfo w hi, wrap64_small h0 (by omega), wrap64_small (by omega : 0 ≤ c) h2]
        have hno : ¬ ((decide (c < 0) || decide ((i.bytes : Int) * c > 2 ^ 48)) || decide (l < 0) || decide (l > c)) = true := by
          simp only [Bool.or_eq_true, decide_eq_true_eq]
          omega
        rw [if_neg hno]
        simp only [Sem.run_bind, Sem.run_pure, Result.andThen_ok, run_askRoom, run_szOf w hs]
        by_cases h2 : c.toNat * s = 0
        · have harr : (Array.range (c.toNat * s)).map ((#[] : Array Value)[· % (#[] : Array Value).size]!) = zerosOf z (c.toNat * s) := by rw [h2]; simp [zerosOf]
          rw [if_pos h2]
          simp only [Sem.run_bind, Sem.run_pure, Result.andThen_ok, harr, f1]
        · rw [if_neg h2]
          have harr : (Array.range (c.toNat * s)).map (z.cells[· % z.cells.size]!) = zerosOf z (c.toNat * s) := rfl
          simp only [Sem.run_bind, run_zeroOf w hz, Sem.run_pure, Result.andThen_ok, harr, f1]
      · have := VRel.slice (φ := φ') (off := 0) (len := l.toNat) f2 (.inl (rfl : c.toNat = c.toNat))
        rwa [f3] at this
    · simp at e
  · simp at e
end Go.E
namespace Go.E
open Go

def drewW (w : World) : World := { w with drawn := w.drawn + 1 }

theorem RelH.drew {φ : Phi} {h : EH} {w : World} (r : RelH φ h w) : RelH φ h (drewW w) ∧ Tr φ h w φ h (drewW w) :=
  ⟨⟨fun b loc e => by
      obtain ⟨o, h1, h2, h3⟩ := r.obj b loc e
      exact ⟨o, h1, h2, h3.mono (.refl φ) rfl⟩, r.inj⟩,
    ⟨.refl φ, r.dom, rfl, rfl, rfl, Nat.le_refl _, Nat.le_refl _, fun _ _ e => .inl e, fun _ o e m _ => ⟨o, e, m⟩, fun _ _ _ => rfl, fun _ o e m _ => ⟨o, e, m⟩, fun _ => rfl⟩⟩

theorem RelH.regrow {φ : Phi} {h : EH} {w w' : World} (r : RelH φ h w) {b : Nat} {loc loc' : Loc} {o₀ o : EObj} (hb : φ b = some loc) (ho : h[b]? = some o₀) (hw : o₀.wrt = true) (hblk : loc'.blk = loc.blk)
    (os : w'.os = w.os) (tape : w'.tape = w.tape) (output : w'.output = w.output) (size : w'.heap.size = w.heap.size)
    (same : ∀ k, k ≠ loc.blk → w'.heap[k]? = w.heap[k]?) (hor : ORel (φ.put h.length loc') w' loc' o) (hfz : frzOf w'.heap[loc.blk]? = frzOf w.heap[loc.blk]?) :
    RelH (φ.put h.length loc') (h.set b .dead ++ [o]) w' ∧ Tr φ h w (φ.put h.length loc') (h.set b .dead ++ [o]) w' := by
  have hlt := r.dom b loc hb
  have hle : Le φ (φ.put h.length loc') := Le.put r.dom loc'
  have hlive : o₀.live = true := by cases o₀ <;> simp_all [EObj.wrt, EObj.live]
  obtain ⟨_, _, hblt, _⟩ := r.obj b loc hb
  have get : ∀ x, x < h.length → x ≠ b → (h.set b .dead ++ [o])[x]? = h[x]? := fun x hx hne => by
    rw [List.getElem?_append_left (by simpa using hx), List.getElem?_set_ne (by omega)]
  have getb : (h.set b .dead ++ [o])[b]? = some .dead := by
    rw [List.getElem?_append_left (by simpa using hlt)]; simp [hlt]
  have getn : (h.set b .dead ++ [o])[h.length]? = some o := by
    rw [List.getElem?_append_right (by simp)]; simp
  refine ⟨⟨?_, ?_⟩, ⟨hle, r.dom, os, tape, output, by omega, by simp, ?_, ?_, ?_, ?_, fun k => by by_cases hk : k = loc.blk; (· rw [hk]; exact hfz); (· rw [same k hk])⟩⟩
  · intro x l e
    by_cases hx : x = h.length
    · subst hx
      rw [Phi.put_self] at e; cases e
      exact ⟨o, getn, by omega, hor⟩
    · rw [Phi.put_ne _ _ hx] at e
      have hxl := r.dom x l e
      obtain ⟨o₁, h1, h2, h3⟩ := r.obj x l e
      by_cases hxb : x = b
      · subst hxb
        exact ⟨.dead, getb, by omega, trivial⟩
      · refine ⟨o₁, by rw [get x hxl hxb]; exact h1, by omega, ?_⟩
        by_cases hl : o₁.live = true
        · exact h3.mono hle (same _ fun hbk => hxb (r.inj b x loc l o₀ o₁ hb e ho h1 hw hl hbk.symm).symm)
        · cases o₁ <;> simp_all [EObj.live, ORel]
  · intro b₁ b₂ l₁ l₂ o₁ o₂ e1 e2 g1 g2 v1 v2 hbk
    have lw : ∀ {y : EObj}, y.wrt = true → y.live = true := fun {y} hy => by cases y <;> simp_all [EObj.wrt, EObj.live]
    have old : ∀ (x : Nat) (l : Loc) (y : EObj), x ≠ h.length → (φ.put h.length loc') x = some l → (h.set b .dead ++ [o])[x]? = some y → y.live = true → φ x = some l ∧ x ≠ b ∧ h[x]? = some y := by
      intro x l y hx e g v
      rw [Phi.put_ne _ _ hx] at e
      have hxl := r.dom x l e
      by_cases hxb : x = b
      · subst hxb; rw [getb] at g; cases g; simp [EObj.live] at v
      · rw [get x hxl hxb] at g; exact ⟨e, hxb, g⟩
    by_cases h1 : b₁ = h.length <;> by_cases h2 : b₂ = h.length
    · rw [h1, h2]
    · obtain ⟨f1, f2, f3⟩ := old _ _ _ h2 e2 g2 v2
      subst h1
      rw [Phi.put_self] at e1; cases e1
      exact absurd (r.inj b b₂ loc l₂ o₀ o₂ hb f1 ho f3 hw v2 (by rw [← hbk, hblk])).symm f2
    · obtain ⟨f1, f2, f3⟩ := old _ _ _ h1 e1 g1 (lw v1)
      subst h2
      rw [Phi.put_self] at e2; cases e2
      exact absurd (r.inj b b₁ loc l₁ o₀ o₁ hb f1 ho f3 hw (lw v1) (by rw [hbk, hblk])).symm f2
    · obtain ⟨f1, _, f3⟩ := old _ _ _ h1 e1 g1 (lw v1)
      obtain ⟨k1, _, k3⟩ := old _ _ _ h2 e2 g2 v2
      exact r.inj b₁ b₂ l₁ l₂ o₁ o₂ f1 k1 f3 k3 v1 v2 hbk
  · intro x l e
    by_cases hx : x = h.length
    · subst hx
      rw [Phi.put_self] at e; cases e
      exact .inr ⟨Nat.le_refl _, .inr ⟨b, loc, o₀, hb, ho, hw, hblk.symm⟩⟩
    · rw [Phi.put_ne _ _ hx] at e; exact .inl e
  · intro x y e m hx
    by_cases hxb : x = b
    · subst hxb; exact ⟨o₀, ho, hw⟩
    · rw [get x hx hxb] at e; exact ⟨y, e, m⟩
  · intro k hk hno
    exact same k (fun e => hno b loc o₀ hb ho hw e.symm)
  · intro x y e m hx
    by_cases hxb : x = b
    · subst hxb; exact ⟨o₀, ho, hlive⟩
    · rw [get x hx hxb] at e; exact ⟨y, e, m⟩

theorem RelH.kill {φ : Phi} {h : EH} {w : World} (r : RelH φ h w) {b : Nat} {loc : Loc} {o₀ : EObj} (hb : φ b = some loc) (ho : h[b]? = some o₀) (hw : o₀.wrt = true) :
    RelH φ (h.set b .dead) w ∧ Tr φ h w φ (h.set b .dead) w := r.turn hb ho hw rfl rfl rfl rfl (fun _ _ => rfl) trivial

def bytesOf (s : ByteArray) : Array Value := s.data.map fun b => .int .u8 b.toNat

def lenV : Value → Nat
  | .slice _ n _ => n
  | .string s => s.size
  | _ => 0

def eSrc (h : EH) (s : Nat) (x : Value) : Option (List Value) :=
  match x with
  | .slice (some ⟨b, off, none⟩) n _ => if n = 0 then some [] else rowOf h b off (n * s)
  | .slice none 0 _ => some []
  | .slice (some ⟨0, 0, some 0⟩) 0 0 => some []
  | .string t => if s = 1 then some (bytesOf t).toList else none
  | _ => none

theorem rowOf_length {h : EH} {b off n : Nat} {l : List Value} (e : rowOf h b off n = some l) : l.length = n := by
  unfold rowOf at e
  split at e
  · simp only [Option.ite_none_right_eq_some, Option.some.injEq] at e
    obtain ⟨h1, rfl⟩ := e
    simp; omega
  · simp at e

theorem good_src {P : Program} {φ : Phi} {h : EH} {w : World} {s : Nat} {x x' : Value} {l : List Value} (r : RelH φ h w) (rx : VRel φ x x') (e : eSrc h s x = some l) :
    (∀ u : World, (Builtin.lenOf x').run P u = .ok (lenV x) u) ∧ l.length = lenV x * s ∧ ∃ vs', (∀ u : World, u.heap = w.heap → (Builtin.firstCells s (lenV x) x').run P u = .ok vs' u) ∧ VsRel φ l.toArray vs' := by
  unfold eSrc at e
  split at e
  · rename_i b off n c
    obtain ⟨loc, off', c', hb, rfl, _, hor⟩ := rx.slice_inv
    refine ⟨fun _ => rfl, ?_⟩
    split at e
    · rename_i h0
      subst h0
      cases e
      exact ⟨by simp [lenV], #[], fun u _ => by simp [lenV, Builtin.firstCells, loadCells, loadCellsFrom], VsRel.nil⟩
    · rename_i h0
      refine ⟨by rw [rowOf_length e]; rfl, ?_⟩
      rcases hor with ⟨rfl, _⟩ | ⟨h1, _⟩
      · obtain ⟨ce, el, fr, h1, h2, h3, h4⟩ := r.row hb e
        exact ⟨_, fun u hu => by simp only [lenV, Builtin.firstCells]; exact run_loadCells (by rw [hu]; exact h1) h2, VsRel.of_row h2 h3 h4⟩
      · exact absurd h1 h0
  · cases rx.slnil_inv
    cases e
    exact ⟨fun _ => rfl, by simp [lenV], #[], fun u _ => by simp [Builtin.firstCells], VsRel.nil⟩
  · obtain ⟨a, rfl⟩ := rx.sle_inv
    cases e
    exact ⟨fun _ => rfl, by simp [lenV], #[], fun u _ => by simp [lenV, Builtin.firstCells, loadCells, loadCellsFrom], VsRel.nil⟩
  · rename_i t
    cases rx.string_inv
    simp only [Option.ite_none_right_eq_some, Option.some.injEq] at e
    obtain ⟨rfl, rfl⟩ := e
    refine ⟨fun _ => rfl, by simp only [lenV, bytesOf, Array.length_toList, Array.size_map, Nat.mul_one]; rfl, bytesOf t, fun u _ => ?_, ?_⟩
    · simp only [lenV, Builtin.firstCells, Sem.run_pure]
      congr 1
      have : t.extract 0 t.size = t := ByteArray.ext (by rw [ByteArray.data_extract]; exact Array.extract_size)
      rw [this]; rfl
    · refine VsRel.const ?_
      rw [Array.all_eq_true]
      intro i hi
      simp [bytesOf, constOk, isBase]
  · simp at e

def isIntD : TypeDesc → Bool
  | .int _ => true
  | _ => false

def opRow (l : List Value) (s : Nat) : EObj := .cells l (some s) true

def eAppend (P : Program) (st xt : TypeId) (s x : Value) (h : EH) : Option (Value × EH) :=
  match P.underlying st, P.underlying xt with
  | some (.slice el), some xd =>
    if isIntD xd = true then none else
    match zeroOf P el with
    | some (_, sz) =>
      match eSrc h sz x with
      | some new =>
        match s with
        | .slice none 0 0 =>
          if lenV x = 0 then some (.slice none 0 0, h)
          else if lenV x ≤ 1073741824 then some (.slice (some ⟨h.length, 0, none⟩) (lenV x) (lenV x), h ++ [opRow new sz]) else none
        | .slice (some ⟨0, 0, some 0⟩) 0 0 =>
          if lenV x = 0 then some (mkS, h)
          else if lenV x ≤ 1073741824 then some (.slice (some ⟨h.length, 0, none⟩) (lenV x) (lenV x), h ++ [opRow new sz]) else none
        | .slice (some ⟨b, off, none⟩) len cap =>
          if len + lenV x ≤ cap then
            (if lenV x = 0 then some (s, h) else (storeRow h b (off + len * sz) new).map fun h' => (.slice (some ⟨b, off, none⟩) (len + lenV x) cap, h'))
          else if len + lenV x ≤ 1073741824 then
            match eSrc h sz s, h[b]? with
            | some old, some (.cells _ none _) => some (.slice (some ⟨h.length, 0, none⟩) (len + lenV x) (len + lenV x), h ++ [opRow (old ++ new) sz])
            | some old, some (.cells vs (some es) wr) =>
              if off + cap * es = vs.length then
                (if es = sz ∧ wr = true ∧ new.all (fun v => oneCell v && !isUnk v) = true then some (.slice (some ⟨h.length, 0, none⟩) (len + lenV x) (len + lenV x), h.set b .dead ++ [opRow (old ++ new) sz]) else none)
              else some (.slice (some ⟨h.length, 0, none⟩) (len + lenV x) (len + lenV x), h ++ [opRow (old ++ new) sz])
            | _, _ => none
          else none
        | _ => none
      | none => none
    | none => none
  | _, _ => none

theorem growBy_le (newLen : Nat) : ∀ (k c : Nat), c ≤ newLen → Builtin.growBy newLen k c ≤ newLen + (newLen + 768) / 4 := by
  intro k
  induction k with
  | zero => intro c h; simp only [Builtin.growBy]; omega
  | succ k ih =>
    intro c h
    simp only [Builtin.growBy]
    split
    · omega
    · by_cases h2 : c + (c + 768) / 4 ≤ newLen
      · exact ih _ h2
      · have : ∀ j, Builtin.growBy newLen j (c + (c + 768) / 4) = c + (c + 768) / 4 := by
          intro j; cases j with
          | zero => rfl
          | succ j => simp only [Builtin.growBy]; rw [if_pos (by omega)]
        rw [this]; omega

theorem nextcap_le {need cap : Nat} (h : cap < need) (hn : need ≤ 1073741824) : Builtin.nextslicecap need cap ≤ 2147483648 := by
  unfold Builtin.nextslicecap
  split
  · omega
  · split
    · omega
    · have := growBy_le need 4 cap (by omega)
      omega

theorem zeroCells_size (zero : Array Value) (n : Nat) : (Builtin.zeroCells zero n).size = n * zero.size := by simp [Builtin.zeroCells]

theorem run_append_grow {P : Program} {w : World} {st xt el sz : Nat} {xd : TypeDesc} {z : Value} {base : Option Addr} {len cap n : Nat} {x' : Value} {old' new' : Array Value}
    (hu : P.underlying st = some (.slice el)) (hx : P.underlying xt = some xd) (hxd : isIntD xd = false) (hz : zeroOf P el = some (z, sz))
    (hlen : ∀ u : World, (Builtin.lenOf x').run P u = .ok n u) (hold : ∀ u : World, u.heap = w.heap → (Builtin.firstCells sz len (.slice base len cap)).run P u = .ok old' u)
    (hnew : ∀ u : World, u.heap = w.heap → (Builtin.firstCells sz n x').run P u = .ok new' u) (hcap : cap < len + n) (hb : len + n ≤ 1073741824) :
    ∃ c rest, len + n ≤ c ∧ rest.size = (c - (len + n)) * sz ∧
      (Builtin.append_ #[st, xt] st #[.slice base len cap, x']).run P w = .ok (.slice (some ⟨w.heap.size, 0, none⟩) (len + n) c) { drewW w with heap := w.heap.push (.cells (old' ++ new' ++ rest) el) } := by
  obtain ⟨i, hi, hz', _, hzs, _, _, h0, hbytes, hs⟩ := zeroOf_spec hz
  let q := Question.appendCap (len + n) cap el
  let c := q.cut (w.tape w.drawn q)
  have hc : len + n ≤ c := by simp [c, q, Question.cut]
  refine ⟨c, Builtin.zeroCells z.cells (c - (len + n)), hc, by rw [zeroCells_size, hzs], ?_⟩
  have hnc := nextcap_le hcap hb
  have hmul : Builtin.nextslicecap (len + n) cap * i.bytes ≤ 2147483648 * 16384 := Nat.mul_le_mul hnc hbytes
  have g0 : #[st, xt][0]? = some st := rfl
  have g1 : #[st, xt][1]? = some xt := rfl
  have g2 : (#[Value.slice base len cap, x'] : Array Value)[0]? = some (.slice base len cap) := rfl
  have g3 : (#[Value.slice base len cap, x'] : Array Value)[1]? = some x' := rfl
  have hcon : ∀ d : TypeDesc, isIntD d = false → P.underlying xt = some d →
      (Builtin.append_ #[st, xt] st #[.slice base len cap, x']).run P w =
        .ok (.slice (some ⟨w.heap.size, 0, none⟩) (len + n) c) { drewW w with heap := w.heap.push (.cells (old' ++ new' ++ Builtin.zeroCells z.cells (c - (len + n))) el) } := by
    intro d hd hx
    have e0 : ¬ (len + n ≤ cap) := by omega
    have e1 : ¬ (((len + n : Nat) : Int) > IntKind.i64.max ∧ (False ∨ i.bytes = 0)) := by
      have : IntKind.i64.max = 9223372036854775807 := rfl
      omega
    have e2 : ¬ (Builtin.nextslicecap (len + n) cap * i.bytes > 2 ^ 48) := by omega
    have e3 : (Question.appendCap (len + n) cap el).forced = false := rfl
    cases d <;> first
      | (simp [isIntD] at hd; done)
      | (simp only [Builtin.append_, g0, g1, g2, g3, Sem.run_bind, run_underlying hu, Result.andThen_ok, run_szOf w hs, run_underlying hx, Sem.run_pure, Bool.false_eq_true, if_false, hlen]
         rw [if_neg e0]
         simp only [Sem.run_bind, run_typeInfo w hi, Result.andThen_ok]
         rw [if_neg e1]
         simp only [Sem.run_bind, run_typeInfo w hi, Result.andThen_ok]
         rw [if_neg e2]
         simp only [Sem.run_bind, run_choose, e3, Bool.false_eq_true, if_false, Result.andThen_ok]
         simp only [Sem.run_bind, run_typeInfo _ hi, Result.andThen_ok, run_askRoom, hold { w with drawn := w.drawn + 1 } rfl, hnew { w with drawn := w.drawn + 1 } rfl, Bool.not_false, if_true, run_zeroOf _ hz, newRow, run_newObj, Sem.run_pure]
         rfl)
  exact hcon xd hxd hx
theorem run_append_room {P : Program} {w w' : World} {st xt el sz : Nat} {xd : TypeDesc} {base : Option Addr} {len cap n : Nat} {x' : Value} {new' : Array Value}
    (hu : P.underlying st = some (.slice el)) (hx : P.underlying xt = some xd) (hxd : isIntD xd = false) (hs : szOf P el = some sz)
    (hlen : ∀ u : World, (Builtin.lenOf x').run P u = .ok n u) (hnew : (Builtin.firstCells sz n x').run P w = .ok new' w) (hcap : len + n ≤ cap)
    (hst : ∀ a, base = some a → (storeCells (a.add (len * sz)) new'.toList).run P w = .ok () w') (hno : base = none → w' = w) :
    (Builtin.append_ #[st, xt] st #[.slice base len cap, x']).run P w = .ok (.slice base (len + n) cap) w' := by
  have g0 : #[st, xt][0]? = some st := rfl
  have g1 : #[st, xt][1]? = some xt := rfl
  have g2 : (#[Value.slice base len cap, x'] : Array Value)[0]? = some (.slice base len cap) := rfl
  have g3 : (#[Value.slice base len cap, x'] : Array Value)[1]? = some x' := rfl
  have hcon : ∀ d : TypeDesc, isIntD d = false → P.underlying xt = some d →
      (Builtin.append_ #[st, xt] st #[.slice base len cap, x']).run P w = .ok (.slice base (len + n) cap) w' := by
    intro d hd hx
    cases d <;> first
      | (simp [isIntD] at hd; done)
      | (simp only [Builtin.append_, g0, g1, g2, g3, Sem.run_bind, run_underlying hu, Result.andThen_ok, run_szOf w hs, run_underlying hx, Sem.run_pure, Bool.false_eq_true, if_false, hlen]
         rw [if_pos hcap]
         simp only [Sem.run_bind, Bool.not_false, if_true, hnew, Result.andThen_ok]
         cases base with
         | none => simp only [Sem.run_pure, hno rfl]
         | some a => simp only [Sem.run_bind, hst a rfl, Result.andThen_ok, Sem.run_pure])
  exact hcon xd hxd hx

theorem good_grown {φ : Phi} {h : EH} {w : World} (r : RelH φ h w) (el : TypeId) {l : List Value} {sz k c : Nat} {vs' rest : Array Value} (rv : VsRel φ l.toArray vs') (hl : l.length = k * sz) (hk : k ≤ c) (hr : rest.size = (c - k) * sz) :
    ∃ φ' loc, φ' h.length = some loc ∧ loc.blk = w.heap.size ∧ VRel φ' (.slice (some ⟨h.length, 0, none⟩) k k) (.slice (some ⟨w.heap.size, 0, none⟩) k c) ∧
      RelH φ' (h ++ [opRow l sz]) { drewW w with heap := w.heap.push (.cells (vs' ++ rest) el) } ∧ Tr φ h w φ' (h ++ [opRow l sz]) { drewW w with heap := w.heap.push (.cells (vs' ++ rest) el) } := by
  let loc : Loc := ⟨w.heap.size, 0, k * sz, sz, c - k, true⟩
  have hrel := rv.mono (Le.put r.dom loc)
  have hsz : vs'.size = k * sz := by rw [← rv.1]; simpa using hl
  obtain ⟨r1, t1⟩ := r.drew
  obtain ⟨a, b⟩ := r1.new (opRow l sz) (.cells (vs' ++ rest) el) loc rfl (by
    refine ⟨by simpa [loc] using hl, rfl, by simp [loc], by simp [loc], vs' ++ rest, el, (0, 0), by show (w.heap.push (.cells (vs' ++ rest) el))[w.heap.size]? = _; simp, ?_, ?_, by simp⟩
    · simp only [loc, Array.size_append, hsz, hr]; omega
    · intro i v hv
      simp only [loc, Nat.zero_add]
      obtain ⟨v', e1, e2⟩ := hrel.get (i := i) (v := v) (by simpa using hv)
      exact ⟨v', by rw [Array.getElem?_append_left (Array.getElem?_eq_some_iff.1 e1).1]; exact e1, e2⟩)
  refine ⟨_, loc, Phi.put_self _ _ _, rfl, ?_, a, t1.trans b⟩
  have := VRel.slice (φ := φ.put h.length loc) (off := 0) (len := k) (cap := k) (cap' := c) (Phi.put_self _ _ _) (.inr ⟨rfl, by simp [loc], by simp [loc]; omega⟩)
  simpa [loc] using this

theorem good_append {P : Program} {φ : Phi} {h h' : EH} {w : World} {st xt : TypeId} {s s' x x' v : Value} (r : RelH φ h w) (rs : VRel φ s s') (rx : VRel φ x x') (e : eAppend P st xt s x h = some (v, h')) :
    Good P φ h w (Builtin.append_ #[st, xt] st #[s', x']) v h' := by
  unfold eAppend at e
  split at e
  · rename_i el xd hu hx
    simp only [Option.ite_none_left_eq_some] at e
    obtain ⟨hxd, e⟩ := e
    have hxd : isIntD xd = false := by simpa using hxd
    split at e
    · rename_i z sz hz
      obtain ⟨i, hi, _, _, _, _, _, h0, _, hs⟩ := zeroOf_spec hz
      split at e
      · rename_i new hnew
        obtain ⟨hlen, hnl, new', hnew', rnew⟩ := good_src (P := P) r rx hnew
        split at e
        · -- onto nil
          cases rs.slnil_inv
          split at e
          · rename_i hn
            cases e
            have hn' : new' = #[] := by
              have := rnew.1
              rw [List.size_toArray, hnl, hn, Nat.zero_mul] at this
              exact Array.eq_empty_of_size_eq_zero this.symm
            have := run_append_room (P := P) (w := w) (w' := w) (base := none) (len := 0) (cap := 0) (n := lenV x) (x' := x') hu hx hxd hs hlen (hnew' w rfl) (by omega) (by simp) (fun _ => rfl)
            rw [hn] at this
            exact Good.same r this .slnil
          · rename_i hn
            simp only [Option.ite_none_right_eq_some, Option.some.injEq, Prod.mk.injEq] at e
            obtain ⟨hb, rfl, rfl⟩ := e
            obtain ⟨c, rest, hc, hrest, hrun⟩ := run_append_grow (P := P) (w := w) (base := none) (len := 0) (cap := 0) (n := lenV x) (x' := x') (old' := #[]) (new' := new') hu hx hxd hz hlen
              (fun u _ => by simp [Builtin.firstCells]) hnew' (by omega) (by omega)
            simp only [Nat.zero_add, Array.empty_append] at hc hrest hrun
            obtain ⟨φ', loc, e1, e2, e3, e4, e5⟩ := good_grown r el rnew hnl hc hrest
            exact ⟨φ', _, _, hrun, e3, e4, e5⟩
        · -- onto an empty slice somewhere
          obtain ⟨a, rfl⟩ := rs.sle_inv
          split at e
          · rename_i hn
            cases e
            have hn' : new' = #[] := by
              have := rnew.1
              rw [List.size_toArray, hnl, hn, Nat.zero_mul] at this
              exact Array.eq_empty_of_size_eq_zero this.symm
            have := run_append_room (P := P) (w := w) (w' := w) (base := some a) (len := 0) (cap := 0) (n := lenV x) (x' := x') hu hx hxd hs hlen (hnew' w rfl) (by omega) (fun _ _ => by rw [hn']; rfl) (fun _ => rfl)
            rw [hn] at this
            exact Good.same r this .sle
          · rename_i hn
            simp only [Option.ite_none_right_eq_some, Option.some.injEq, Prod.mk.injEq] at e
            obtain ⟨hb, rfl, rfl⟩ := e
            obtain ⟨c, rest, hc, hrest, hrun⟩ := run_append_grow (P := P) (w := w) (base := some a) (len := 0) (cap := 0) (n := lenV x) (x' := x') (old' := #[]) (new' := new') hu hx hxd hz hlen
              (fun u _ => by simp [Builtin.firstCells, loadCells, loadCellsFrom]) hnew' (by omega) (by omega)
            simp only [Nat.zero_add, Array.empty_append] at hc hrest hrun
            obtain ⟨φ', loc, e1, e2, e3, e4, e5⟩ := good_grown r el rnew hnl hc hrest
            exact ⟨φ', _, _, hrun, e3, e4, e5⟩
        · -- onto a row
          rename_i b off len cap
          obtain ⟨loc, off', c', hb, rfl, hcc, hor⟩ := rs.slice_inv
          split at e
          · -- room that is known
            rename_i hroom
            split at e
            · rename_i hn
              cases e
              have hn' : new' = #[] := by
                have := rnew.1
                rw [List.size_toArray, hnl, hn, Nat.zero_mul] at this
                exact Array.eq_empty_of_size_eq_zero this.symm
              have := run_append_room (P := P) (w := w) (w' := w) (base := some ⟨loc.blk, off', none⟩) (len := len) (cap := c') (n := lenV x) (x' := x') hu hx hxd hs hlen (hnew' w rfl) (by omega) (fun a _ => by rw [hn']; rfl) (fun _ => rfl)
              rw [hn] at this
              exact Good.same r this rs
            · rename_i hn
              simp only [Option.map_eq_some_iff, Prod.mk.injEq] at e
              obtain ⟨h1, hst, rfl, rfl⟩ := e
              rcases hor with ⟨rfl, hx2⟩ | ⟨h1', h2', _⟩
              · obtain ⟨w', e1, e2, e3⟩ := r.store (P := P) hb (l := new) (l' := new') rnew hst
                have := run_append_room (P := P) (w := w) (w' := w') (base := some ⟨loc.blk, loc.δ + off, none⟩) (len := len) (cap := c') (n := lenV x) (x' := x') hu hx hxd hs hlen (hnew' w rfl) (by omega)
                  (fun a ha => by cases ha; rw [Addr.add_eq, Nat.add_assoc]; exact e1) (fun h => by cases h)
                exact ⟨φ, _, w', this, .slice hb hx2, e2, e3⟩
              · omega
          · rename_i hroom
            simp only [Option.ite_none_right_eq_some] at e
            obtain ⟨hbd, e⟩ := e
            split at e
            · -- a row of a known capacity: a new one
              rename_i old vs wr hold ho
              simp only [Option.some.injEq, Prod.mk.injEq] at e
              obtain ⟨rfl, rfl⟩ := e
              obtain ⟨o, ho', _, hob⟩ := r.obj b loc hb
              rw [ho] at ho'; cases ho'
              have hop : loc.opn = false := hob.2.1
              have hcap : c' = cap := by
                rcases hor with ⟨_, h1 | ⟨h1, _⟩⟩ | ⟨_, h2, h3 | ⟨h3, _⟩⟩
                · exact h1
                · rw [hop] at h1; cases h1
                · omega
                · rw [hop] at h3; cases h3
              subst hcap
              obtain ⟨_, hol, old', hold', rold⟩ := good_src (P := P) r rs hold
              obtain ⟨c, rest, hc, hrest, hrun⟩ := run_append_grow (P := P) (w := w) (base := some ⟨loc.blk, off', none⟩) (len := len) (cap := c') (n := lenV x) (x' := x') (old' := old') (new' := new') hu hx hxd hz hlen
                (fun u hu => hold' u hu) hnew' (by omega) hbd
              have rall := rold.append rnew
              rw [List.append_toArray] at rall
              obtain ⟨φ', loc2, e1, e2, e3, e4, e5⟩ := good_grown (k := len + lenV x) r el rall (by rw [List.length_append, hol, hnl]; simp only [lenV]; rw [Nat.add_mul]) hc hrest
              exact ⟨φ', _, _, hrun, e3, e4, e5⟩
            · rename_i old vs es wr hold ho
              obtain ⟨o, ho', _, hob⟩ := r.obj b loc hb
              rw [ho] at ho'; cases ho'
              obtain ⟨hvl, hop, hes, _, ce, el2, fr, hblk, hfit, hcells, hfro⟩ := hob
              have hes : loc.es = es := hes es rfl
              have hop : loc.opn = true := hop
              obtain ⟨_, hol, old', hold', rold⟩ := good_src (P := P) r rs hold
              have rall := rold.append rnew
              rw [List.append_toArray] at rall
              have hol : old.length = len * sz := hol
              split at e
              · -- the old one is given up
                rename_i hend
                simp only [Option.ite_none_right_eq_some, Option.some.injEq, Prod.mk.injEq] at e
                obtain ⟨⟨rfl, rfl, hall⟩, rfl, rfl⟩ := e
                by_cases hin : len + lenV x ≤ c'
                · -- in the old block
                  have hoff : loc.δ ≤ off' ∧ off' + c' * es ≤ loc.δ + loc.size + loc.extra * loc.es := by
                    rcases hor with ⟨rfl, h1 | ⟨_, h2, h3⟩⟩ | ⟨h1, h2, h3 | ⟨_, _, h4, h5⟩⟩
                    · subst h1; refine ⟨by omega, ?_⟩; rw [hvl] at hend; omega
                    · subst h3; refine ⟨by omega, ?_⟩; rw [Nat.add_mul, hes]; rw [hes] at h2; omega
                    · omega
                    · rw [hes] at h5; exact ⟨h4, by rw [hes]; exact h5⟩
                  let loc' : Loc := ⟨loc.blk, off', (len + lenV x) * es, es, c' - (len + lenV x), true⟩
                  have hreg : (len + lenV x) * es + (c' - (len + lenV x)) * es = c' * es := by rw [← Nat.add_mul]; congr 1; omega
                  have hnsz : new'.toList.length = lenV x * es := by have := rnew.1; rw [List.size_toArray, hnl] at this; simp [← this]
                  have hmulx : (len + lenV x) * es = len * es + lenV x * es := Nat.add_mul _ _ _
                  have hone : ∀ v ∈ new'.toList, oneCell v = true := by
                    intro v' hv'
                    obtain ⟨i, hi⟩ := List.getElem?_of_mem hv'
                    have hi' : i < new.length := by have := (List.getElem?_eq_some_iff.1 hi).1; rw [hnsz] at this; rw [hnl]; exact this
                    obtain ⟨u', e1, e2⟩ := rnew.get (i := i) (v := new[i]) (by simp [hi'])
                    rw [Array.getElem?_toList] at hi
                    rw [hi] at e1; cases e1
                    rw [List.all_eq_true] at hall
                    have := hall new[i] (List.getElem_mem hi')
                    simp at this
                    rw [← e2.oneCell this.2]
                    exact this.1
                  obtain ⟨w', c2, f1, f2, f3, f4, f5, f6, f7, f8, f9⟩ := run_storeFrom (P := P) (b := loc.blk) (off := off' + len * es) new'.toList 0 w ce hblk (by omega) hone
                    (fun j hj => by
                      have := hfro rfl (off' + len * es + j - loc.δ) (by omega)
                      rw [show loc.δ + (off' + len * es + j - loc.δ) = off' + len * es + 0 + j from by omega] at this
                      exact this)
                  have hrun := run_append_room (P := P) (w := w) (w' := w') (base := some ⟨loc.blk, off', none⟩) (len := len) (cap := c') (n := lenV x) (x' := x') hu hx hxd hs hlen (hnew' w rfl) hin
                    (fun a ha => by cases ha; rw [Addr.add_eq]; exact f1) (fun h => by cases h)
                  have rall' := rall.mono (Le.put r.dom loc')
                  have hosz : old'.size = len * es := by have := rold.1; rw [List.size_toArray, hol] at this; exact this.symm
                  have hold2 : ∀ i, i < len * es → c2[off' + i]? = old'[i]? := by
                    intro i hi
                    rw [f9, if_neg (by omega)]
                    have hl0 : len ≠ 0 := by intro e; subst e; simp at hi
                    have hh := hold' w rfl
                    simp only [lenV, Builtin.firstCells] at hh
                    rw [run_loadCells hblk (by omega)] at hh
                    cases hh
                    rw [Array.getElem?_extract]
                    rw [if_pos (by omega)]
                  obtain ⟨a1, a2⟩ := r.regrow (o := opRow (old ++ new) es) (loc' := loc') hb ho rfl rfl f2 f3 f4 f5 f6 (by
                    refine ⟨by simp only [loc', List.length_append, hol, hnl]; omega, rfl, by simp [loc'], by simp [loc'], c2, el2, fr, f7, by simp only [loc']; omega, ?_, ?_⟩
                    · intro i u hu2
                      obtain ⟨u', g1, g2⟩ := rall'.get (i := i) (v := u) (by simpa using hu2)
                      refine ⟨u', ?_, g2⟩
                      simp only [loc']
                      by_cases hi : i < len * es
                      · rw [hold2 i hi]
                        rw [Array.getElem?_append_left (by omega)] at g1
                        exact g1
                      · rw [f9]
                        rw [Array.getElem?_append_right (by omega), hosz] at g1
                        have hlt := (Array.getElem?_eq_some_iff.1 g1).1
                        rw [if_pos (by have := Array.length_toList (xs := new'); omega), ← g1, ← Array.getElem?_toList]
                        congr 1; omega
                    · intro _ i hi
                      simp only [loc'] at hi ⊢
                      have := hfro rfl (off' + i - loc.δ) (by omega)
                      rw [show loc.δ + (off' + i - loc.δ) = off' + i from by omega] at this
                      exact this) (by simp only [f7, hblk, frzOf])
                  refine ⟨φ.put h.length loc', .slice (some ⟨loc.blk, off', none⟩) (len + lenV x) c', w', hrun, ?_, a1, a2⟩
                  have := VRel.slice (φ := φ.put h.length loc') (off := 0) (len := len + lenV x) (cap := len + lenV x) (cap' := c') (Phi.put_self _ _ _) (.inr ⟨rfl, by simp [loc'], by simp only [loc']; omega⟩)
                  simpa [loc'] using this
                · -- in a new one
                  obtain ⟨c, rest, hc, hrest, hrun⟩ := run_append_grow (P := P) (w := w) (base := some ⟨loc.blk, off', none⟩) (len := len) (cap := c') (n := lenV x) (x' := x') (old' := old') (new' := new') hu hx hxd hz hlen
                    (fun u hu => hold' u hu) hnew' (by omega) hbd
                  obtain ⟨k1, k2⟩ := r.kill hb ho rfl
                  obtain ⟨φ', loc2, e1, e2, e3, e4, e5⟩ := good_grown (k := len + lenV x) k1 el rall (by rw [List.length_append, hol, hnl, Nat.add_mul]) hc hrest
                  rw [List.length_set] at e3
                  exact ⟨φ', _, _, hrun, e3, e4, k2.trans e5⟩
              · -- a cut whose capacity is known
                rename_i hend
                simp only [Option.some.injEq, Prod.mk.injEq] at e
                obtain ⟨rfl, rfl⟩ := e
                have hcap : c' = cap := by
                  rcases hor with ⟨_, h1 | ⟨_, h1, _⟩⟩ | ⟨_, h2, h3 | ⟨_, h3, _⟩⟩
                  · exact h1
                  · rw [hes] at h1; omega
                  · omega
                  · subst h2; simp at hend; omega
                subst hcap
                obtain ⟨c, rest, hc, hrest, hrun⟩ := run_append_grow (P := P) (w := w) (base := some ⟨loc.blk, off', none⟩) (len := len) (cap := c') (n := lenV x) (x' := x') (old' := old') (new' := new') hu hx hxd hz hlen
                  (fun u hu => hold' u hu) hnew' (by omega) hbd
                obtain ⟨φ', loc2, e1, e2, e3, e4, e5⟩ := good_grown (k := len + lenV x) r el rall (by rw [List.length_append, hol, hnl]; simp only [lenV]; rw [Nat.add_mul]) hc hrest
                exact ⟨φ', _, _, hrun, e3, e4, e5⟩
            · simp at e
        · simp at e
      · simp at e
    · simp at e
  · simp at e
end Go.E
