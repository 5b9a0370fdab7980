/-
  E14: LOOPS OVER A FUNCTION (range over func): the loop's entry, a round, its ways out.
-/
import Derived.Test.YtenkebdjlajanaaEB
import Derived.Orders
set_option linter.all false
set_option linter.constructorNameAsVariable false
set_option linter.unusedSimpArgs false
set_option linter.unusedVariables false
set_option linter.unusedSectionVars false
set_option linter.unnecessarySimpa false
namespace Go.E
open Go

theorem run_getObj {P : Program} {w : World} {b : Nat} {L : Loop} (h : w.heap[b]? = some (.loop L)) : (getObj b).run P w = .ok (.loop L) w := by simp [getObj, Sem.run, h]

theorem run_setObj {P : Program} {w : World} {b : Nat} {L : Loop} {o2 : Obj} (h : w.heap[b]? = some (.loop L)) : (setObj b o2).run P w = .ok () { w with heap := w.heap.setIfInBounds b o2 } := by simp [setObj, Sem.run, h]

theorem run_newObj {P : Program} {w : World} {o : Obj} : (newObj o).run P w = .ok w.heap.size { w with heap := w.heap.push o } := by simp [newObj, Sem.run]

theorem RelH.loop {φ : Phi} {h : EH} {w : World} (r : RelH φ h w) {l : Nat} {loc : Loc} {L : Loop} (hl : φ l = some loc) (ho : h[l]? = some (.loop L)) :
    ∃ L' : Loop, w.heap[loc.blk]? = some (.loop L') ∧ LoopRel φ L L' ∧ ∀ (s : LoopState) (p : Option Code),
      RelH φ (h.set l (.loop { L with state := s, pending := p })) { w with heap := w.heap.setIfInBounds loc.blk (.loop { L' with state := s, pending := p }) } ∧
      Tr φ h w φ (h.set l (.loop { L with state := s, pending := p })) { w with heap := w.heap.setIfInBounds loc.blk (.loop { L' with state := s, pending := p }) } := by
  obtain ⟨o, ho', hlt, hor⟩ := r.obj _ _ hl
  rw [ho] at ho'; cases ho'
  obtain ⟨hδ, L', hobj, hrel⟩ := hor
  refine ⟨L', hobj, hrel, fun s p => r.turn hl ho rfl rfl rfl rfl (by simp) (fun k hk => by simp [Array.getElem?_setIfInBounds]; intro h; exact absurd h.symm hk) ?_⟩
  obtain ⟨_, _, c, d, e, f, g⟩ := hrel
  exact ⟨hδ, { L' with state := s, pending := p }, by simp [hlt], rfl, rfl, c, d, e, f, g⟩

def bindParams (ps : Array Tmp) (args tmps : Array Value) : Array Value := (ps.zip args).foldl (fun tmps (t, a) => tmps.setIfInBounds t a) tmps

theorem bind_rel {φ : Phi} : ∀ (l l' : List (Tmp × Value)) (t t' : Array Value), l.length = l'.length → (∀ (i : Nat) (x x' : Tmp × Value), l[i]? = some x → l'[i]? = some x' → x.1 = x'.1 ∧ VRel φ x.2 x'.2) → VsRel φ t t' →
    VsRel φ (l.foldl (fun tmps x => tmps.setIfInBounds x.1 x.2) t) (l'.foldl (fun tmps x => tmps.setIfInBounds x.1 x.2) t')
  | [], [], _, _, _, _, ht => ht
  | x :: l, x' :: l', t, t', hl, h, ht => by
    simp only [List.foldl_cons]
    refine bind_rel l l' _ _ (by simpa using hl) (fun i y y' e e' => h (i + 1) y y' e e') ?_
    obtain ⟨e1, e2⟩ := h 0 x x' rfl rfl
    refine ⟨by simp [ht.1], fun i h1 h2 => ?_⟩
    rw [Array.getElem_setIfInBounds, Array.getElem_setIfInBounds]
    rw [e1]
    by_cases hx : x'.1 = i
    · rw [if_pos hx, if_pos hx]; exact e2
    · rw [if_neg hx, if_neg hx]; exact ht.2 i (by simpa using h1) (by simpa using h2)
  | [], _ :: _, _, _, hl, _, _ => by simp at hl
  | _ :: _, [], _, _, hl, _, _ => by simp at hl

theorem bindParams_rel {φ : Phi} {ps : Array Tmp} {args args' t t' : Array Value} (ha : VsRel φ args args') (ht : VsRel φ t t') : VsRel φ (bindParams ps args t) (bindParams ps args' t') := by
  unfold bindParams
  rw [← Array.foldl_toList, ← Array.foldl_toList]
  refine bind_rel _ _ _ _ (by simp [ha.1]) ?_ ht
  intro i x x' e e'
  simp only [Array.getElem?_toList, Array.getElem?_zip_eq_some] at e e'
  obtain ⟨a1, a2⟩ := e
  obtain ⟨b1, b2⟩ := e'
  rw [a1] at b1
  obtain ⟨h1, h2⟩ := Array.getElem?_eq_some_iff.1 a2
  obtain ⟨h3, h4⟩ := Array.getElem?_eq_some_iff.1 b2
  refine ⟨by simpa using b1, ?_⟩
  rw [← h2, ← h4]
  exact ha.2 i h1 h3

theorem foldl_set_size : ∀ (l : List (Tmp × Value)) (t : Array Value), (l.foldl (fun tmps x => tmps.setIfInBounds x.1 x.2) t).size = t.size
  | [], _ => rfl
  | x :: l, t => by rw [List.foldl_cons, foldl_set_size l]; simp

theorem bindParams_size {ps : Array Tmp} {args t : Array Value} : (bindParams ps args t).size = t.size := by
  unfold bindParams
  rw [← Array.foldl_toList]
  exact foldl_set_size _ _

def SndRound (P : Program) (l : Nat) (args : Array Value) (h : EH) (out : Out) (h' : EH) : Prop :=
  ∀ (φ : Phi) (loc : Loc) (args' : Array Value) (w : World) (c : Frame) (cs : List Frame), φ l = some loc → RelH φ h w → VsRel φ args args' →
    ∃ φ' w', RelH φ' h' w' ∧ Tr φ h w φ' h' w' ∧ ∃ (L' : Loop), w.heap[loc.blk]? = some (.loop L') ∧ args'.size = L'.params.size ∧
      match out with
      | .ret v => ∃ v', VRel φ' v v' ∧ Steps P (lone (Frame.round loc.blk L'.fn (bindParams L'.params args' L'.tmps) L'.assign L'.body .normal) (c :: cs) w) (lone (c.finish v') cs w')
      | .pan v => ∃ v', VRel φ' v v' ∧ Steps P (lone (Frame.round loc.blk L'.fn (bindParams L'.params args' L'.tmps) L'.assign L'.body .normal) (c :: cs) w) (lone (c.raise [{ v := v', recovered := false }]) cs w')

def yieldee (f : Nat → Value) (op : Op) : Option (Nat × Array Value) :=
  match op with
  | .call c =>
    match c.callee with
    | .value x =>
      match ev f x with
      | .func (.yield l) fs _ => some (l, fs ++ c.args.map (ev f))
      | _ => none
    | _ => none
  | _ => none

theorem yieldee_run {P : Program} {φ : Phi} {N : Nat} {o : Oper} {st : St} {a : Act} {l : Nat} {args : Array Value} {w : World} (hk : opOk N o = true) (ha : ActRel φ N st a) (e : yieldee st.f o.op = some (l, args)) :
    (∀ c, o.op ≠ .defer c) ∧ ∃ loc args', φ l = some loc ∧ VsRel φ args args' ∧ (execOp a.eval o).run P w = (Instr.yield loc.blk args').run P w := by
  have hρ := opOk_ev hk ha
  obtain ⟨dst, op, type, pos, after, guard⟩ := o
  simp only at e hρ ⊢
  unfold yieldee at e
  split at e
  · rename_i c
    refine ⟨by simp, ?_⟩
    split at e
    · rename_i x hx
      have rx : VRel φ (ev st.f x) (a.eval x) := hρ x (by simp [Op.operands, Call.operands, hx])
      split at e
      · rename_i l' fs cs hv
        simp only [Option.some.injEq, Prod.mk.injEq] at e
        obtain ⟨rfl, rfl⟩ := e
        rw [hv] at rx
        obtain ⟨fn', fs', cs', he, hfn, h1, h2⟩ := rx.func_inv
        cases fn' <;> simp only [FnRel, reduceCtorEq] at hfn
        obtain ⟨loc, hl, rfl⟩ := hfn
        have ra : VsRel φ (c.args.map (ev st.f)) (c.args.map a.eval) := VsRel.map c.args fun y hy => hρ y (by simp [Op.operands, Call.operands, hx, hy])
        refine ⟨loc, _, hl, h1.append ra, ?_⟩
        simp only [execOp, resolve, hx, he, Deferred.ofValue, invoke, pure_bind]
      · simp at e
    · simp at e
  · simp at e

theorem yield_run {P : Program} {w : World} {b : Nat} {L : Loop} {args : Array Value} (h : w.heap[b]? = some (.loop L)) (hs : args.size = L.params.size) :
    (Instr.yield b args).run P w = .ok (.round b L.fn (bindParams L.params args L.tmps) L.assign L.body) w := by
  have hg := run_getObj (P := P) h
  simp only [Instr.yield, Instr.getLoop, Sem.run_bind, hg, Result.andThen_ok, Sem.run_pure]
  rw [if_neg (by simpa using hs)]
  rfl

theorem snd_yield {P : Program} {N : Nat} {ro : Option Nat} {o : Oper} {st : St} {l : Nat} {args : Array Value} {v : Value} {h' : EH} (hk : opOk N o = true) (e : yieldee st.f o.op = some (l, args))
    (hs : SndRound P l args st.h (.ret v) h') : SndOp P N ro o st .normal (st.put o.dst v h') := by
  intro φ b ops i rest k base a w rc hi hw hr ha hc he
  obtain ⟨hnd, loc, args', hl, hargs, hrun⟩ := yieldee_run (P := P) (w := w) hk ha e
  obtain ⟨φ', w', hr', ht, L', hobj, hsz, v', hv, hst⟩ := hs φ loc args' w (b.atR a (.inRegion ops (i :: rest) :: k)) (mkCs base rc) hl hr hargs
  rw [yield_run hobj hsz] at hrun
  refine ⟨φ', .normal, a.put o.dst v', w', rc, trivial, hr', ht, (ha.mono ht.le).put hv, hc.mono ht.le, rfl, ?_⟩
  have hg := stepGR_op (P := P) (b := b) (k := k) (cs := mkCs base rc) (w := w) (rest := rest) hi hw
  rw [Oper.semAt_eq _ _ _ hnd] at hg
  have hfin : ∀ v, (b.atR a (.inRegion ops (i :: rest) :: k)).finish v = b.atR (a.put o.dst v) (.inRegion ops rest :: k) := by
    intro v; rw [Frame.finish_atR, hi]; rfl
  refine .head (step_lone_go ?_) (hfin v' ▸ hst)
  rw [hg]; simp [stepG.apply, hrun]

theorem snd_yield_panic {P : Program} {N : Nat} {ro : Option Nat} {o : Oper} {st : St} {l : Nat} {args : Array Value} {v : Value} {h' : EH} (hk : opOk N o = true) (e : yieldee st.f o.op = some (l, args))
    (hs : SndRound P l args st.h (.pan v) h') : SndOp P N ro o st (.panic v) { st with h := h' } := by
  intro φ b ops i rest k base a w rc hi hw hr ha hc he
  obtain ⟨hnd, loc, args', hl, hargs, hrun⟩ := yieldee_run (P := P) (w := w) hk ha e
  obtain ⟨φ', w', hr', ht, L', hobj, hsz, v', hv, hst⟩ := hs φ loc args' w (b.atR a (.inRegion ops (i :: rest) :: k)) (mkCs base rc) hl hr hargs
  rw [yield_run hobj hsz] at hrun
  have ham := ha.mono ht.le
  refine ⟨φ', .panic v', a, w', rc, hv, hr', ht, ⟨ham.size, ham.tmps, ham.ds⟩, hc.mono ht.le, rfl, .inRegion ops (i :: rest) :: k, rfl, ?_⟩
  have hg := stepGR_op (P := P) (b := b) (k := k) (cs := mkCs base rc) (w := w) (rest := rest) hi hw
  rw [Oper.semAt_eq _ _ _ hnd] at hg
  rw [← Frame.raise_atR]
  refine .head (step_lone_go ?_) hst
  rw [hg]; simp [stepG.apply, hrun]

def roundEnd (l : Nat) (L : Loop) (h : EH) : Ex → Option (Out × EH)
  | .normal => some (.ret (.bool true), h.set l (.loop { L with state := .ready, pending := none }))
  | .exit id => some (.ret (.bool false), h.set l (.loop { L with state := .done, pending := some (.exit id) }))
  | .ret => some (.ret (.bool false), h.set l (.loop { L with state := .done, pending := some .ret }))
  | .panic v => some (.pan v, h)

theorem step_round_panic {P : Program} {b c : Frame} {a : Act} {todo : List Item} {cs : List Frame} {w : World} {ch : List PanicEntry} (hd : a.defers = []) (hc : noCall todo = true) :
    step P (lone { b.atR a todo with mode := .panicking ch } (c :: cs) w) = .next (lone (c.raise ch) cs w) := by
  have : ({ b.atR a todo with mode := .panicking ch } : Frame).catches P = false := by
    unfold Frame.catches
    simp only [Frame.atR]
    split
    · rename_i h; simp [noCall] at hc
    · rfl
  rw [Frame.atR, hd] at this
  exact step_lone_go (by simp [stepG, unwind, Frame.atR, hd, this])

theorem round_of_code {P : Program} {l : Nat} {L L₁ L₂ : Loop} {args : Array Value} {f0 : Nat → Value} {h h' : EH} {st₁ st₂ : St} {ex : Ex} {out : Out} (ho : h[l]? = some (.loop L)) (hn : args.size = L.params.size)
    (hf : ∀ t, t < L.tmps.size → f0 t = (bindParams L.params args L.tmps).getD t undef) (ha : SndCode P L.tmps.size (some l) L.assign { f := f0, ds := [], h, rc := none } .normal st₁) (ho₁ : st₁.h[l]? = some (.loop L₁)) (hs₁ : L₁.state = .ready)
    (hb : SndCode P L.tmps.size (some l) L.body { st₁ with h := st₁.h.set l (.loop { L₁ with state := .busy, pending := L₁.pending }) } ex st₂) (ho₂ : st₂.h[l]? = some (.loop L₂)) (hd : st₂.ds = []) (he : roundEnd l L₂ st₂.h ex = some (out, h')) :
    SndRound P l args h out h' := by
  intro φ loc args' w c cs hl hr hargs
  obtain ⟨L', hobj, hrel, _⟩ := hr.loop hl ho
  obtain ⟨e1, e2, e3, e4, e5, e6, e7⟩ := hrel
  have hb' := bindParams_rel (ps := L.params) hargs e3
  have hsz := hb'.1
  have hbs : (bindParams L.params args L.tmps).size = L.tmps.size := bindParams_size
  let b : Frame := { (default : Frame) with fn := L'.fn, kind := .normal, roundOf := some loc.blk }
  have henv : ∀ {ψ : Phi}, ψ l = some loc → Env ψ (some l) b (c :: cs) none := fun hψ => ⟨by simp [b], ⟨loc, hψ, rfl⟩, fun _ a todo => by simp [tryRecover, Frame.atR, b], fun x hx => by simp at hx, fun _ => ⟨rfl, rfl⟩⟩
  have hact : ActRel φ L.tmps.size { f := f0, ds := [], h, rc := none } { tmps := bindParams L.params args' L'.tmps, defers := [] } := by
    refine ⟨by rw [← hsz, hbs], fun t ht => ?_, trivial⟩
    show VRel φ (f0 t) _
    rw [hf t ht]
    simp only [Array.getD_eq_getD_getElem?]
    rw [Array.getElem?_eq_getElem (by omega), Array.getElem?_eq_getElem (by omega)]
    exact hb'.2 t (by omega) (by omega)
  obtain ⟨φ₁, ex₁, a₁, w₁, rc₁, x1, r1, t1, a1, c1, s1, arr⟩ := ha φ b [.beginRound, .code L'.body] (c :: cs) _ w none hr hact trivial (henv hl)
  cases x1.normal_inv
  have hrc : rc₁ = none := by cases rc₁ <;> simp_all
  subst hrc
  have hl1 := t1.le _ _ hl
  obtain ⟨L1', hobj1, hrel1, hturn1⟩ := r1.loop hl1 ho₁
  obtain ⟨r2, t2⟩ := hturn1 .busy L₁.pending
  have hp1 : L1'.pending = L₁.pending := hrel1.2.1.symm
  have hbegin : (Instr.beginRound loc.blk).run P w₁ = .ok () { w₁ with heap := w₁.heap.setIfInBounds loc.blk (.loop { L1' with state := .busy, pending := L₁.pending }) } := by
    have hst : L1'.state = .ready := by rw [← hrel1.1]; exact hs₁
    have hL : ({ L1' with state := .busy } : Loop) = { L1' with state := .busy, pending := L₁.pending } := by rw [← hp1]
    simp only [Instr.beginRound, Instr.getLoop, Sem.run_bind, run_getObj hobj1, Result.andThen_ok, Sem.run_pure, run_setObj hobj1, hst, hL]
  obtain ⟨φ₃, ex₃, a₃, w₃, rc₃, x3, r3, t3, a3, c3, s3, arr3⟩ := hb φ₁ b [] (c :: cs) a₁ _ none r2 ⟨a1.size, a1.tmps, a1.ds⟩ c1 (henv hl1)
  have hrc : rc₃ = none := by cases rc₃ <;> simp_all
  subst hrc
  have hl3 := t3.le _ _ hl1
  have hds := a3.ds
  rw [hd] at hds
  have hstart0 : ∀ wx, (Instr.beginRound loc.blk).run P w₁ = .ok () wx → Steps P (lone (Frame.round loc.blk L'.fn (bindParams L'.params args' L'.tmps) L'.assign L'.body .normal) (c :: cs) w) (lone (b.atR a₁ [.code L.body]) (c :: cs) wx) := fun wx hwx => by
    have := Steps.trans arr (.one (stepR_beginRound rfl hwx))
    rw [← e4, ← e5, e6]
    exact e6 ▸ this
  have hstart := hstart0 _ hbegin
  obtain ⟨L3', hobj3, hrel3, hturn3⟩ := r3.loop hl3 ho₂
  have hend : ∀ (j : Option Code), (Instr.endRound loc.blk j).run P w₃ = .ok (.bool j.isNone) { w₃ with heap := w₃.heap.setIfInBounds loc.blk (.loop { L3' with state := if j.isNone then .ready else .done, pending := j }) } := fun j => by
    simp only [Instr.endRound, Instr.getLoop, Sem.run_bind, run_getObj hobj3, Result.andThen_ok, Sem.run_pure, run_setObj hobj3]
  cases ex with
  | normal =>
    cases x3.normal_inv
    simp only [roundEnd, Option.some.injEq, Prod.mk.injEq] at he
    obtain ⟨rfl, rfl⟩ := he
    obtain ⟨r4, t4⟩ := hturn3 .ready none
    refine ⟨φ₃, _, r4, (t1.trans t2).trans (t3.trans t4), L', hobj, by rw [← e4, ← hargs.1]; exact hn, .bool true, .base rfl, ?_⟩
    exact hstart.trans (Steps.trans arr3 (.one (stepR_round_end rfl rfl (hend none))))
  | exit id =>
    cases ex₃ <;> simp only [ExRel] at x3
    subst x3
    simp only [roundEnd, Option.some.injEq, Prod.mk.injEq] at he
    obtain ⟨rfl, rfl⟩ := he
    obtain ⟨r4, t4⟩ := hturn3 .done (some (.exit id))
    obtain ⟨k1, hk1, s⟩ := arr3
    refine ⟨φ₃, _, r4, (t1.trans t2).trans (t3.trans t4), L', hobj, by rw [← e4, ← hargs.1]; exact hn, .bool false, .base rfl, ?_⟩
    exact hstart.trans (Steps.trans s (.one (stepR_round_exit rfl rfl (by rw [hk1]; rfl) (hend (some (.exit id))))))
  | ret =>
    cases ex₃ <;> simp only [ExRel] at x3
    simp only [roundEnd, Option.some.injEq, Prod.mk.injEq] at he
    obtain ⟨rfl, rfl⟩ := he
    obtain ⟨r4, t4⟩ := hturn3 .done (some .ret)
    obtain ⟨k1, s⟩ := arr3
    refine ⟨φ₃, _, r4, (t1.trans t2).trans (t3.trans t4), L', hobj, by rw [← e4, ← hargs.1]; exact hn, .bool false, .base rfl, ?_⟩
    exact hstart.trans (Steps.trans s (.one (stepR_round_ret rfl rfl (hend (some .ret)))))
  | panic v =>
    cases ex₃ <;> simp only [ExRel] at x3
    simp only [roundEnd, Option.some.injEq, Prod.mk.injEq] at he
    obtain ⟨rfl, rfl⟩ := he
    obtain ⟨k1, hno, s⟩ := arr3
    refine ⟨φ₃, _, r3, (t1.trans t2).trans t3, L', hobj, by rw [← e4, ← hargs.1]; exact hn, _, x3, ?_⟩
    exact hstart.trans (Steps.trans s (.one (step_round_panic hds.nil_inv hno)))

def newLoop (N : Nat) (f : Nat → Value) (ps : Array Tmp) (assign body : Code) (d : Nat) : Loop :=
  { state := .ready, pending := none, fn := 0, tmps := Array.ofFn (n := N) fun i => f i, params := ps, assign, body, defers := d }

def jumpEx : Option Code → Option Ex
  | none => some .normal
  | some (.exit id) => some (.exit id)
  | some .ret => some .ret
  | _ => none

def enterE (N : Nat) (st : St) (ps : Array Tmp) (assign body : Code) : Option Nat → Option (EH × Nat × List Deferred)
  | none => some (st.h ++ [.defers] ++ [.loop (newLoop N st.f ps assign body st.h.length)], st.h.length + 1, [{ target := .collected st.h.length, args := #[] }])
  | some l0 => match st.h[l0]? with
    | some (.loop L0) => some (st.h ++ [.loop (newLoop N st.f ps assign body L0.defers)], st.h.length, [])
    | _ => none

theorem tmps_rel {φ : Phi} {N : Nat} {st : St} {a : Act} (ha : ActRel φ N st a) : VsRel φ (Array.ofFn (n := N) fun i => st.f i) a.tmps := by
  refine ⟨by simp [ha.size], fun i h1 h2 => ?_⟩
  have := ha.tmps i (by rw [← ha.size]; exact h2)
  simp only [Array.getD_eq_getD_getElem?, Array.getElem?_eq_getElem h2, Option.getD_some] at this
  simpa using this

theorem enter_run {P : Program} {φ : Phi} {N : Nat} {ro : Option Nat} {st : St} {a : Act} {w : World} {b : Frame} {base : List Frame} {rc : Option (Value × Bool)} {ps : Array Tmp} {assign body : Code} {h₁ : EH} {l : Nat} {mark : List Deferred} {fn : FuncId}
    (hr : RelH φ st.h w) (ha : ActRel φ N st a) (he : Env φ ro b base rc) (e : enterE N st ps assign body ro = some (h₁, l, mark)) :
    ∃ φ' w' loc mark', (Instr.enterLoop fn a.tmps ps assign body b.roundOf).run P w = .ok (loc.blk, mark') w' ∧ RelH φ' h₁ w' ∧ Tr φ st.h w φ' h₁ w' ∧ φ' l = some loc ∧ DsRel φ' (mark ++ st.ds) (mark' ++ a.defers) := by
  have hvs := tmps_rel ha
  have hro := he.ro
  cases ro with
  | none =>
    simp only [enterE, Option.some.injEq, Prod.mk.injEq] at e
    obtain ⟨rfl, rfl, rfl⟩ := e
    have hb : b.roundOf = none := by cases hb : b.roundOf <;> simp_all [RoRel]
    rw [hb]
    let loc0 : Loc := { blk := w.heap.size, δ := 0, size := 0, es := 0, extra := 0, opn := false }
    obtain ⟨r1, t1⟩ := hr.new .defers (.deferred (some [])) loc0 rfl ⟨rfl, by simp [loc0]⟩
    let L' : Loop := { state := .ready, pending := none, fn := fn, tmps := a.tmps, params := ps, assign, body, defers := w.heap.size }
    let loc : Loc := { blk := w.heap.size + 1, δ := 0, size := 0, es := 0, extra := 0, opn := false }
    have hd0 : (φ.put st.h.length loc0) st.h.length = some loc0 := Phi.put_self _ _ _
    have hne : (st.h ++ [EObj.defers]).length ≠ st.h.length := by simp
    obtain ⟨r2, t2⟩ := r1.new (.loop (newLoop N st.f ps assign body st.h.length)) (.loop L') loc (by simp [loc]) ⟨rfl, L', by show ((w.heap.push _).push _)[w.heap.size + 1]? = _; rw [Array.getElem?_push]; simp, rfl, rfl, (hvs.mono t1.le).mono (Le.put r1.dom _), rfl, rfl, rfl, loc0, by
      rw [Phi.put_ne _ _ (by simp [newLoop])]; exact hd0, rfl⟩
    have t := t1.trans t2
    refine ⟨_, _, loc, [{ target := .collected w.heap.size, args := #[] }], ?_, r2, t, ?_, ?_⟩
    · simp only [Instr.enterLoop, Sem.run_bind, run_newObj, Result.andThen_ok, Sem.run_pure, Array.size_push]; rfl
    · have := Phi.put_self (φ.put st.h.length loc0) (st.h ++ [EObj.defers]).length loc
      simpa using this
    · exact ⟨⟨⟨loc0, t2.le _ _ hd0, rfl⟩, rfl⟩, ha.ds.mono t.le⟩
  | some l0 =>
    cases hb : b.roundOf with
    | none => simp [hb, RoRel] at hro
    | some l0' =>
      rw [hb] at hro
      obtain ⟨loc0, h0, rfl⟩ := hro
      simp only [enterE] at e
      split at e
      · rename_i L0 hL0
        simp only [Option.some.injEq, Prod.mk.injEq] at e
        obtain ⟨rfl, rfl, rfl⟩ := e
        obtain ⟨L0', hobj, hrel, _⟩ := hr.loop h0 hL0
        obtain ⟨_, _, _, _, _, _, locd, hd1, hd2⟩ := hrel
        let L' : Loop := { state := .ready, pending := none, fn := fn, tmps := a.tmps, params := ps, assign, body, defers := L0'.defers }
        let loc : Loc := { blk := w.heap.size, δ := 0, size := 0, es := 0, extra := 0, opn := false }
        have hdlt := hr.dom _ _ hd1
        obtain ⟨r2, t2⟩ := hr.new (.loop (newLoop N st.f ps assign body L0.defers)) (.loop L') loc rfl ⟨rfl, L', by simp [loc], rfl, rfl, hvs.mono (Le.put hr.dom _), rfl, rfl, rfl, locd, by
          rw [Phi.put_ne _ _ (by simp [newLoop]; omega)]; exact hd1, hd2⟩
        refine ⟨_, _, loc, [], ?_, r2, t2, Phi.put_self _ _ _, ha.ds.mono t2.le⟩
        simp only [Instr.enterLoop, Instr.getLoop, Sem.run_bind, run_getObj hobj, run_newObj, Result.andThen_ok, Sem.run_pure]; rfl
      · simp at e

def iterOf (f : Nat → Value) (x : Operand) (l : Nat) : Option (FuncId × Array Value) :=
  match ev f x with
  | .func (.func g) fs cs => some (g, fs ++ #[.func (.yield l) #[] #[]] ++ cs)
  | _ => none

theorem rangeFunc_start {P : Program} {φ₁ : Phi} {N : Nat} {st : St} {a : Act} {w w₁ : World} {b : Frame} {x : Operand} {ps : Array Tmp} {assign body : Code} {k : List Item} {cs : List Frame} {loc : Loc} {mark' : List Deferred} {l : Nat} {g : FuncId} {args : Array Value}
    (hx : opdOk N x = true) (hi : iterOf st.f x l = some (g, args)) (hg : fnOk P g = true) (hrun : (Instr.enterLoop b.fn a.tmps ps assign body b.roundOf).run P w = .ok (loc.blk, mark') w₁) (ha : ActRel φ₁ N st a) (hl : φ₁ l = some loc) :
    ∃ args', VsRel φ₁ args args' ∧ step P (lone (b.atR a (.code (.rangeFunc x ps assign body) :: k)) cs w) = .next (lone (Frame.enter P g args' .normal) (b.atR { a with defers := mark' ++ a.defers } (.inRangeFunc loc.blk :: k) :: cs) w₁) := by
  have rx := ha.ev hx
  unfold iterOf at hi
  split at hi
  · rename_i g' fs cs0 hv
    simp only [Option.some.injEq, Prod.mk.injEq] at hi
    obtain ⟨rfl, rfl⟩ := hi
    rw [hv] at rx
    obtain ⟨fn', fs', cs', he, hfn, h1, h2⟩ := rx.func_inv
    have : fn' = .func g' := by cases fn' <;> simp_all [FnRel]
    subst this
    have ry : VsRel φ₁ #[.func (.yield l) #[] #[]] #[.func (.yield loc.blk) #[] #[]] :=
      ⟨rfl, fun i h _ => by
        have : i = 0 := by simp at h; exact h
        subst this
        exact .func ⟨loc, hl, rfl⟩ rfl (fun i h => by simp at h) rfl (fun i h => by simp at h)⟩
    refine ⟨_, (h1.append ry).append h2, step_lone_go ?_⟩
    have hev : ({ b.atR a (.inRangeFunc loc.blk :: k) with defers := mark' ++ a.defers } : Frame).eval x = .func (.func g') fs' cs' := by
      rw [← he]; exact congrFun (Frame.eval_atR b { a with defers := mark' ++ a.defers } (.inRangeFunc loc.blk :: k)) x
    simp only [Frame.atR] at hev
    have hc := callFunc_run (P := P) (args := fs' ++ #[.func (.yield loc.blk) #[] #[]] ++ cs') (w := w₁) hg
    have hfin : ∀ y : Operand, y = x → True := fun _ _ => trivial
    simp only [stepG, stepG.exec, Frame.atR, Sem.runT_eq, hrun, GStep.bare_after, stepG.apply]
    have hres : (do let d ← resolve ({ fn := b.fn, tmps := a.tmps, todo := .inRangeFunc loc.blk :: k, defers := mark' ++ a.defers, mode := .run, kind := b.kind, roundOf := b.roundOf } : Frame).eval { callee := .value x, args := #[.const (.func (.yield loc.blk) #[] #[])], argTypes := #[] } 0; invoke d.target d.args : Sem Next).run P w₁ = .ok (.enter g' (fs' ++ #[.func (.yield loc.blk) #[] #[]] ++ cs')) w₁ := by
      have hm : (#[.const (.func (.yield loc.blk) #[] #[])] : Array Operand).map ({ fn := b.fn, tmps := a.tmps, todo := .inRangeFunc loc.blk :: k, defers := mark' ++ a.defers, mode := .run, kind := b.kind, roundOf := b.roundOf } : Frame).eval = #[.func (.yield loc.blk) #[] #[]] := by simp [Frame.eval]
      simp only [resolve, hev, Deferred.ofValue, pure_bind, invoke, hm]
      exact hc
    simp only [hres, GStep.bare_after]
    rfl
  · simp at hi

theorem endLoop_run {P : Program} {w : World} {b : Nat} {L : Loop} (h : w.heap[b]? = some (.loop L)) (hs : L.state ≠ .busy) :
    (Instr.endLoop b).run P w = .ok L.pending { w with heap := w.heap.setIfInBounds b (.loop { L with state := .exhausted, pending := L.pending }) } := by
  have hg := run_getObj (P := P) h
  have hs' : (L.state == .busy) = false := by cases hL : L.state <;> simp_all <;> rfl
  simp only [Instr.endLoop, Instr.getLoop, Sem.run_bind, hg, Result.andThen_ok, Sem.run_pure, hs', Bool.false_eq_true, if_false, run_setObj h]

theorem step_endRange {P : Program} {b : Frame} {a : Act} {k : List Item} {cs : List Frame} {w w' : World} {l : Nat} {j : Option Code} (h : (Instr.endLoop l).run P w = .ok j w') :
    step P (lone (b.atR a (.endRangeFunc l :: k)) cs w) = .next (lone (b.atR a ((j.map Item.code).toList ++ k)) cs w') :=
  step_lone_go (by simp [stepG, stepG.exec, Frame.atR, h])

theorem snd_rangeFunc {P : Program} {N : Nat} {ro : Option Nat} {x : Operand} {ps : Array Tmp} {assign body : Code} {st : St} {h₁ h₂ : EH} {l : Nat} {mark : List Deferred} {g : FuncId} {args : Array Value} {v : Value} {L : Loop} {ex : Ex} {j : Option Code} (hx : opdOk N x = true)
    (he : enterE N st ps assign body ro = some (h₁, l, mark)) (hi : iterOf st.f x l = some (g, args)) (hg : fnOk P g = true) (hs : SndFn P g args h₁ (.ret v) h₂) (ho : h₂[l]? = some (.loop L)) (hb : L.state ≠ .busy) (hp : L.pending = j) (hj : jumpEx j = some ex) :
    SndCode P N ro (.rangeFunc x ps assign body) st ex { st with ds := mark ++ st.ds, h := h₂.set l (.loop { L with state := .exhausted, pending := j }) } := by
  intro φ b k base a w rc hr ha hc henv
  obtain ⟨φ₁, w₁, loc, mark', hrun, r1, t1, hl, hds⟩ := enter_run (P := P) (fn := b.fn) hr ha henv he
  obtain ⟨args', hargs, hstep⟩ := rangeFunc_start (k := k) (cs := mkCs base rc) hx hi hg hrun (ha.mono t1.le) hl
  obtain ⟨φ₂, w₂, fr, r2, t2, s2, f2, v', hv, hlv⟩ := hs φ₁ args' w₁ (b.atR { a with defers := mark' ++ a.defers } (.inRangeFunc loc.blk :: k) :: mkCs base rc) r1 hargs
  have hl2 := t2.le _ _ hl
  obtain ⟨L', hobj, hrel, hturn⟩ := r2.loop hl2 ho
  obtain ⟨r3, t3⟩ := hturn .exhausted j
  have hend := endLoop_run (P := P) hobj (by rw [← hrel.1]; exact hb)
  have hp' : L'.pending = j := hrel.2.1.symm.trans hp
  rw [hp'] at hend
  generalize ({ w₂ with heap := w₂.heap.setIfInBounds loc.blk (.loop { L' with state := .exhausted, pending := j }) } : World) = w₃ at hend r3 t3
  have t := t1.trans (t2.trans t3)
  have hact : ActRel φ₂ N { st with ds := mark ++ st.ds, h := h₂.set l (.loop { L with state := .exhausted, pending := j }) } { a with defers := mark' ++ a.defers } :=
    ⟨ha.size, fun u hu => (ha.tmps u hu).mono t.le, hds.mono t2.le⟩
  have hleave := step_leave_returned (c := b.atR { a with defers := mark' ++ a.defers } (.inRangeFunc loc.blk :: k)) (cs := mkCs base rc) hlv
  have hfin : (b.atR { a with defers := mark' ++ a.defers } (.inRangeFunc loc.blk :: k)).finish v' = b.atR { a with defers := mark' ++ a.defers } (.endRangeFunc loc.blk :: k) := rfl
  rw [hfin] at hleave
  have hall : Steps P (lone (b.atR a (.code (.rangeFunc x ps assign body) :: k)) (mkCs base rc) w) (lone (b.atR { a with defers := mark' ++ a.defers } ((j.map Item.code).toList ++ k)) (mkCs base rc) w₃) :=
    .head hstep (s2.trans (.head hleave (.one (step_endRange hend))))
  match j, hj with
  | none, hj =>
    cases hj
    exact ⟨φ₂, .normal, _, _, rc, trivial, r3, t, hact, hc.mono t.le, rfl, hall⟩
  | some (.exit id), hj =>
    cases hj
    exact ⟨φ₂, .exit id, _, _, rc, rfl, r3, t, hact, hc.mono t.le, rfl, k, rfl, hall⟩
  | some .ret, hj =>
    cases hj
    exact ⟨φ₂, .ret, _, _, rc, trivial, r3, t, hact, hc.mono t.le, rfl, k, hall⟩

theorem snd_rangeFunc_panic {P : Program} {N : Nat} {ro : Option Nat} {x : Operand} {ps : Array Tmp} {assign body : Code} {st : St} {h₁ h₂ : EH} {l : Nat} {mark : List Deferred} {g : FuncId} {args : Array Value} {v : Value} (hx : opdOk N x = true)
    (he : enterE N st ps assign body ro = some (h₁, l, mark)) (hi : iterOf st.f x l = some (g, args)) (hg : fnOk P g = true) (hs : SndFn P g args h₁ (.pan v) h₂) :
    SndCode P N ro (.rangeFunc x ps assign body) st (.panic v) { st with ds := mark ++ st.ds, h := h₂ } := by
  intro φ b k base a w rc hr ha hc henv
  obtain ⟨φ₁, w₁, loc, mark', hrun, r1, t1, hl, hds⟩ := enter_run (P := P) (fn := b.fn) hr ha henv he
  obtain ⟨args', hargs, hstep⟩ := rangeFunc_start (k := k) (cs := mkCs base rc) hx hi hg hrun (ha.mono t1.le) hl
  obtain ⟨φ₂, w₂, fr, r2, t2, s2, f2, v', hv, hlv⟩ := hs φ₁ args' w₁ (b.atR { a with defers := mark' ++ a.defers } (.inRangeFunc loc.blk :: k) :: mkCs base rc) r1 hargs
  have t := t1.trans t2
  refine ⟨φ₂, .panic v', { a with defers := mark' ++ a.defers }, w₂, rc, hv, r2, t, ⟨ha.size, fun u hu => (ha.tmps u hu).mono t.le, hds.mono t2.le⟩, hc.mono t.le, rfl, .inRangeFunc loc.blk :: k, rfl, ?_⟩
  rw [← Frame.raise_atR]
  exact .head hstep (s2.trans (.one (step_leave_panicked hlv)))
end Go.E
namespace Go.E
open Go

def isQuiet : Op → Bool
  | .move _ | .assign _ | .pick .. | .alloc _ | .box .. | .build .. | .buildSlice .. | .load .. | .nilCheck _ | .binOp .. | .unOp .. | .convert .. | .makeInterface .. | .makeFunc .. | .makeMap .. | .makeSlice .. | .slice .. | .fieldAddr .. | .field ..
  | .indexAddr .. | .index .. | .lookup .. | .range .. | .typeAssert .. | .extract .. => true
  | .call c => match c.callee with
    | .builtin .len | .builtin .max | .builtin .min => true
    | _ => false
  | _ => false

def blkOf : Value → Option Nat
  | .pointer (some a) | .slice (some a) _ _ => some a.block
  | .map (some b) => some b
  | _ => none

def reads (op : Op) (ρ : Operand → Value) : Option Nat :=
  match op with
  | .load _ a => blkOf (ρ a)
  | .lookup _ x _ _ => blkOf (ρ x)
  | .slice _ x _ _ _ => blkOf (ρ x)
  | .call c => (c.args.toList.head?).bind fun x => match ρ x with
    | .map (some b) => some b
    | _ => none
  | _ => none

def QuietAt (P : Program) (op : Op) (ρ : Operand → Value) (h : EH) (v : Value) (h' : EH) : Prop :=
  ∃ new, h' = h ++ new ∧ ∀ H : EH, H.length = h.length → (∀ b, reads op ρ = some b → H[b]? = h[b]?) → estep P op ρ H = some (v, H ++ new)

theorem load_at {P : Program} {t : TypeId} {a : Value} {h H : EH} (hb : ∀ b, blkOf a = some b → H[b]? = h[b]?) : eLoad P t a H = eLoad P t a h := by
  unfold eLoad
  split
  · rename_i b off
    have := hb b rfl
    simp only [rowOf, this]
  · rfl

theorem lookup_at {P : Program} {t : TypeId} {m k : Value} {ok : Bool} {h H : EH} (hb : ∀ b, blkOf m = some b → H[b]? = h[b]?) : eLookup P t m k ok H = eLookup P t m k ok h := by
  have : eMapOf H m = eMapOf h m := by
    unfold eMapOf
    split
    · rfl
    · rename_i b; rw [hb b rfl]
    · rfl
  simp only [eLookup, this]

theorem slice_at {P : Program} {t : TypeId} {x : Value} {lo hi mx : Option Value} {h H : EH} (hb : ∀ b, blkOf x = some b → H[b]? = h[b]?) : eSlice P t x lo hi mx H = eSlice P t x lo hi mx h := by
  unfold eSlice
  split
  · rfl
  · rename_i b off len cap _
    have := hb b rfl
    have h1 : isOpn H b = isOpn h b := by simp only [isOpn, this]
    have h2 : ∀ s, esOk H b s = esOk h b s := fun s => by simp only [esOk, this]
    simp only [h1, h2]
  · rfl
  · rfl
  · rfl
  · rfl

theorem len_at {P : Program} {t : TypeId} {x : Value} {h H : EH} (hb : ∀ b, x = .map (some b) → H[b]? = h[b]?) : eLen P t x H = eLen P t x h := by
  unfold eLen
  split <;> try rfl
  rename_i b _
  rw [hb b rfl]

theorem estep_quiet {P : Program} {op : Op} {ρ : Operand → Value} {h h' : EH} {v : Value} (hq : isQuiet op = true) (e : estep P op ρ h = some (v, h')) : QuietAt P op ρ h v h' := by
  have same : ∀ {x : Option Value}, x.map (·, h) = some (v, h') → x = some v ∧ h' = h ++ [] := fun hx => by
    simp only [Option.map_eq_some_iff, Prod.mk.injEq] at hx
    obtain ⟨u, hu, rfl, rfl⟩ := hx
    exact ⟨hu, by simp⟩
  cases op <;> simp only [isQuiet, Bool.false_eq_true] at hq <;> simp only [estep] at e
  case move x => simp only [Option.some.injEq, Prod.mk.injEq] at e; obtain ⟨rfl, rfl⟩ := e; exact ⟨[], by simp, fun H _ _ => by simp [estep]⟩
  case assign x => simp only [Option.some.injEq, Prod.mk.injEq] at e; obtain ⟨rfl, rfl⟩ := e; exact ⟨[], by simp, fun H _ _ => by simp [estep]⟩
  case alloc t =>
    simp only [eAlloc, Option.map_eq_some_iff, Prod.mk.injEq] at e
    obtain ⟨z, hz, rfl, rfl⟩ := e
    exact ⟨_, rfl, fun H hl _ => by simp [estep, eAlloc, hz, hl]⟩
  case box t x =>
    simp only [eBox, Option.ite_none_left_eq_some, Option.some.injEq, Prod.mk.injEq] at e
    obtain ⟨hu, rfl, rfl⟩ := e
    exact ⟨_, rfl, fun H hl _ => by simp only [estep, eBox, if_neg hu, hl]⟩
  case buildSlice t n ps =>
    unfold eBuildSlice at e
    split at e
    · rename_i el hu
      split at e
      · rename_i z s hz
        simp only [Option.ite_none_right_eq_some, Option.map_eq_some_iff, Prod.mk.injEq] at e
        obtain ⟨hc, c, hf, rfl, rfl⟩ := e
        exact ⟨_, rfl, fun H hl _ => by simp only [estep, eBuildSlice, hu, hz, if_pos hc, hf, Option.map_some, hl]⟩
      · simp at e
    · simp at e
  case makeMap t r =>
    unfold eMakeMap at e
    split at e
    · rename_i hr
      simp only [Option.some.injEq, Prod.mk.injEq] at e
      obtain ⟨rfl, rfl⟩ := e
      exact ⟨_, rfl, fun H hl _ => by simp only [estep, eMakeMap, hr, hl]⟩
    · simp at e
  case makeSlice t l c =>
    unfold eMakeSlice at e
    split at e
    · rename_i el k1 l0 k2 c0 hu hl0 hc0
      split at e
      · rename_i z s hz
        simp only [Option.ite_none_right_eq_some, Option.some.injEq, Prod.mk.injEq] at e
        obtain ⟨hc, rfl, rfl⟩ := e
        exact ⟨_, rfl, fun H hl _ => by simp only [estep, eMakeSlice, hu, hl0, hc0, hz, if_pos hc, hl]⟩
      · simp at e
    · simp at e
  case range t x =>
    unfold eRange at e
    split at e
    · rename_i s hu hs
      simp only [Option.some.injEq, Prod.mk.injEq] at e
      obtain ⟨rfl, rfl⟩ := e
      exact ⟨_, rfl, fun H hl _ => by simp only [estep, eRange, hu, hs, hl]⟩
    · simp at e
  case load t a =>
    obtain ⟨e1, e2⟩ := same e
    exact ⟨[], e2, fun H _ hb => by simp [estep, load_at (P := P) (t := t) (a := ρ a) (h := h) hb, e1]⟩
  case lookup t m k ok =>
    obtain ⟨e1, e2⟩ := same e
    exact ⟨[], e2, fun H _ hb => by simp [estep, lookup_at (P := P) (t := t) (m := ρ m) (h := h) hb, e1]⟩
  case slice t x lo hi mx =>
    obtain ⟨e1, e2⟩ := same e
    exact ⟨[], e2, fun H _ hb => by simp [estep, slice_at (P := P) (t := t) (x := ρ x) (h := h) hb, e1]⟩
  case call c =>
    split at hq
    · rename_i hc
      simp only [hc, eBuiltin] at e
      split at e
      all_goals first
        | (rename_i hb hts hxs; simp at hb; done)
        | (rename_i hb; cases hb; done)
        | (rename_i t x hb hts hxs
           obtain ⟨e1, e2⟩ := same e
           refine ⟨[], e2, fun H _ hb => ?_⟩
           simp only [estep, hc, eBuiltin, hts, hxs]
           rw [len_at (P := P) (t := t) (x := x) (h := h) (fun b hx => hb b ?_), e1]
           · simp
           · simp only [reads]
             cases hl : c.args.toList with
             | nil => rw [hl] at hxs; simp at hxs
             | cons y ys =>
               rw [hl] at hxs
               simp only [List.map_cons, List.cons.injEq] at hxs
               simp only [List.head?_cons, Option.bind_some]
               rw [hxs.1, hx])
        | simp at e
    · rename_i hc
      simp only [hc, eBuiltin] at e
      obtain ⟨e1, e2⟩ := same e
      exact ⟨[], e2, fun H _ _ => by simp [estep, hc, eBuiltin, e1]⟩
    · rename_i hc
      simp only [hc, eBuiltin] at e
      obtain ⟨e1, e2⟩ := same e
      exact ⟨[], e2, fun H _ _ => by simp [estep, hc, eBuiltin, e1]⟩
    · simp at hq
  all_goals
    obtain ⟨e1, e2⟩ := same e
    exact ⟨[], e2, fun H _ _ => by simp [estep, e1]⟩

theorem FnRel.down {φ φ' : Phi} (h : Le φ φ') {f g f' : Fn} (r : FnRel φ f g) (r' : FnRel φ' f f') : FnRel φ f f' := by
  cases f <;> cases g <;> cases f' <;> simp_all only [FnRel, reduceCtorEq]
  obtain ⟨loc, e, rfl⟩ := r
  obtain ⟨loc', e', rfl⟩ := r'
  have := h _ _ e
  rw [this] at e'; cases e'
  exact ⟨loc, e, rfl⟩

theorem VRel.down {φ φ' : Phi} (h : Le φ φ') {v u : Value} (r : VRel φ v u) : ∀ {v' : Value}, VRel φ' v v' → VRel φ v v' := by
  induction r with
  | unk => intro _ _; exact .unk
  | base hb =>
    intro v' r'
    cases r' <;> first | exact .base hb | (simp [isBase] at hb)
  | ptr e =>
    intro v' r'
    obtain ⟨loc', e', rfl⟩ := r'.ptr_inv
    rw [h _ _ e] at e'; cases e'
    exact .ptr e
  | slnil =>
    intro v' r'
    cases r'.slnil_inv
    exact .slnil
  | @slice b off len cap cap' loc e hc =>
    intro v' r'
    cases r' with
    | base hb => simp [isBase] at hb
    | slice e' hc' => rw [h _ _ e] at e'; cases e'; exact .slice e hc'
    | slempty e' hc' => rw [h _ _ e] at e'; cases e'; exact .slempty e hc'
  | sle =>
    intro v' r'
    cases r' with
    | base hb => simp [isBase] at hb
    | sle => exact .sle
  | @slempty b off off' cap' loc e hc =>
    intro v' r'
    cases r' with
    | base hb => simp [isBase] at hb
    | slice e' hc' => rw [h _ _ e] at e'; cases e'; exact .slice e hc'
    | slempty e' hc' => rw [h _ _ e] at e'; cases e'; exact .slempty e hc'
  | map e =>
    intro v' r'
    obtain ⟨loc', e', rfl⟩ := r'.map_inv
    rw [h _ _ e] at e'; cases e'
    exact .map e
  | func hf h1 h1' h2 h2' i1 i2 =>
    intro v' r'
    obtain ⟨fn', fs', cs', rfl, hf', k1, k2⟩ := r'.func_inv
    exact .func (hf.down h hf') k1.1 (fun i x y => i1 i x (by have := k1.1; omega) (k1.2 i x y)) k2.1 (fun i x y => i2 i x (by have := k2.1; omega) (k2.2 i x y))
  | iface _ ih =>
    intro v' r'
    obtain ⟨u', rfl, r''⟩ := r'.iface_inv
    exact .iface (ih r'')
  | agg e _ ih =>
    intro v' r'
    obtain ⟨a', rfl, k⟩ := r'.agg_inv
    exact .agg k.1 (fun i x y => ih i x (by have := k.1; omega) (k.2 i x y))
  | tuple e _ ih =>
    intro v' r'
    obtain ⟨a', rfl, k⟩ := r'.tuple_inv
    exact .tuple k.1 (fun i x y => ih i x (by have := k.1; omega) (k.2 i x y))

theorem VsRel.down {φ φ' : Phi} (h : Le φ φ') {a b a' : Array Value} (r : VsRel φ a b) (r' : VsRel φ' a a') : VsRel φ a a' :=
  ⟨r'.1, fun i x y => (r.2 i x (by have := r.1; omega)).down h (r'.2 i x y)⟩

theorem ORel.down {φ φ' : Phi} (h : Le φ φ') {w w' : World} {loc : Loc} {o : EObj} (r : ORel φ w loc o) (r' : ORel φ' w' loc o) : ORel φ w' loc o := by
  cases o with
  | dead => trivial
  | cells vs opn wr =>
    obtain ⟨_, _, _, _, c, el, fr, _, _, g, _⟩ := r
    obtain ⟨a', b', c', d', c2, el2, fr2, e2, f2, g2, k2⟩ := r'
    refine ⟨a', b', c', d', c2, el2, fr2, e2, f2, fun i v hv => ?_, k2⟩
    obtain ⟨u, _, hu⟩ := g i v hv
    obtain ⟨u', hu', hr'⟩ := g2 i v hv
    exact ⟨u', hu', hu.down h hr'⟩
  | map es clock =>
    obtain ⟨_, es0, _, hl0, h0⟩ := r
    obtain ⟨hd, es', hm, hl, h1⟩ := r'
    refine ⟨hd, es', hm, hl, fun i e e' he he' => ?_⟩
    have hi : i < es0.size := by rw [← hl0]; exact (List.getElem?_eq_some_iff.1 he).1
    obtain ⟨k1, k2, k3⟩ := h0 i e _ he (Array.getElem?_eq_getElem hi)
    obtain ⟨j1, j2, j3⟩ := h1 i e e' he he'
    exact ⟨k1.down h j1, k2.down h j2, j3⟩
  | str s pos => exact r'
  | loop l =>
    obtain ⟨_, l0, _, _, _, q3, _, _, _, loc0, q7, _⟩ := r
    obtain ⟨hd, l1, hm, p1, p2, p3, p4, p5, p6, loc1, p7, p8⟩ := r'
    have := h _ _ q7
    rw [this] at p7; cases p7
    exact ⟨hd, l1, hm, p1, p2, q3.down h p3, p4, p5, p6, loc0, q7, p8⟩
  | defers => exact r'

def mask (acc : List Nat) (es : List Edge) : Nat := es.foldr (fun e s => if Region.binds .any e then 2 ^ e.on ||| (acc.getD e.on 0 ||| s) else s) 0

def clo : List Oper → List Nat → List Nat
  | [], acc => acc
  | o :: os, acc => clo os (acc ++ [mask acc o.after.toList])

def befores (ops : Array Oper) : List Nat := clo ops.toList []

def ordB (bs : List Nat) (i j : Nat) : Bool := (bs.getD j 0).testBit i

def Closed (ops : Array Oper) (S : Nat → Prop) : Prop := ∀ j, S j → ∀ o, ops[j]? = some o → ∀ e ∈ o.after.toList, Region.binds .any e = true → S e.on

theorem mask_spec {S : Nat → Prop} {acc : List Nat} (ih : ∀ j, S j → ∀ i, (acc.getD j 0).testBit i = true → S i) : ∀ (es : List Edge), (∀ e ∈ es, Region.binds .any e = true → S e.on) → ∀ i, (mask acc es).testBit i = true → S i
  | [], _, i, h => by simp [mask] at h
  | e :: es, he, i, h => by
    simp only [mask, List.foldr_cons] at h
    split at h
    · rename_i hb
      rw [Nat.testBit_or, Nat.testBit_or, Bool.or_eq_true, Bool.or_eq_true] at h
      rcases h with h | h | h
      · rw [Nat.testBit_two_pow] at h
        simp only [decide_eq_true_eq] at h
        exact h ▸ he e (List.mem_cons_self ..) hb
      · exact ih e.on (he e (List.mem_cons_self ..) hb) i h
      · exact mask_spec ih es (fun e' h' => he e' (List.mem_cons_of_mem _ h')) i h
    · exact mask_spec ih es (fun e' h' => he e' (List.mem_cons_of_mem _ h')) i h

theorem clo_spec {S : Nat → Prop} : ∀ (os : List Oper) (acc : List Nat), (∀ j, S j → ∀ i, (acc.getD j 0).testBit i = true → S i) →
    (∀ k o, os[k]? = some o → S (acc.length + k) → ∀ e ∈ o.after.toList, Region.binds .any e = true → S e.on) → ∀ j, S j → ∀ i, ((clo os acc).getD j 0).testBit i = true → S i
  | [], acc, ih, _ => ih
  | o :: os, acc, ih, hc => by
    simp only [clo]
    refine clo_spec os _ (fun j hj i hi => ?_) (fun k o' hk hS => hc (k + 1) o' (by simpa using hk) (by simp only [List.length_append, List.length_cons, List.length_nil] at hS; rw [show acc.length + (k + 1) = acc.length + (0 + 1) + k by omega]; exact hS))
    simp only [List.getD_eq_getElem?_getD] at hi
    rcases Nat.lt_trichotomy j acc.length with hl | hl | hl
    · rw [List.getElem?_append_left hl] at hi
      exact ih j hj i (by simpa only [List.getD_eq_getElem?_getD] using hi)
    · subst hl
      simp only [List.getElem?_concat_length, Option.getD_some] at hi
      exact mask_spec ih _ (hc 0 o rfl (by simpa using hj)) i hi
    · rw [List.getElem?_eq_none (by simp; omega)] at hi
      simp at hi

theorem closed_ord {ops : Array Oper} {S : Nat → Prop} (h : Closed ops S) {i j : Nat} (hj : S j) (hi : ordB (befores ops) i j = true) : S i :=
  clo_spec ops.toList [] (fun j _ i h => by simp at h) (fun k o hk hS => h k (by simpa using hS) o (by simpa using hk)) j hj i hi

def Sched (ops : Array Oper) : (Nat → Prop) → List Nat → Prop
  | S, [] => ∀ i, i < ops.size → S i
  | S, i :: l => i < ops.size ∧ ¬ S i ∧ (∀ o, ops[i]? = some o → ∀ e ∈ o.after.toList, Region.binds .any e = true → S e.on) ∧ Sched ops (fun j => S j ∨ j = i) l

theorem Sched.congr {ops : Array Oper} : ∀ {l : List Nat} {S T : Nat → Prop}, (∀ i, i < ops.size → (S i ↔ T i)) → (∀ o ∈ ops.toList, ∀ e ∈ o.after.toList, Region.binds .any e = true → e.on < ops.size) → Sched ops S l → Sched ops T l
  | [], _, _, h, _, s => fun i hi => (h i hi).1 (s i hi)
  | i :: l, _, _, h, hb, ⟨s1, s2, s3, s4⟩ =>
    ⟨s1, fun ht => s2 ((h i s1).2 ht), fun o ho e he hbe => (h e.on (hb o (by have := Array.mem_of_getElem? ho; simpa using this) e he hbe)).1 (s3 o ho e he hbe),
      Sched.congr (fun j hj => or_congr (h j hj) Iff.rfl) hb s4⟩

def edgesOk (ops : Array Oper) : Bool := ops.toList.zipIdx.all fun x => x.1.after.toList.all fun e => !Region.binds .any e || decide (e.on < x.2)

theorem edgesOk_spec {ops : Array Oper} (h : edgesOk ops = true) {j : Nat} {o : Oper} (ho : ops[j]? = some o) {e : Edge} (he : e ∈ o.after.toList) (hb : Region.binds .any e = true) : e.on < j := by
  unfold edgesOk at h
  rw [List.all_eq_true] at h
  have hm : (o, j) ∈ ops.toList.zipIdx := by
    rw [List.mem_zipIdx_iff_getElem?]
    simpa using ho
  have := h (o, j) hm
  simp only [List.all_eq_true] at this
  have := this e he
  simpa [hb] using this

theorem least {p : Nat → Prop} : ∀ n, p n → ∃ i, p i ∧ ∀ m, m < i → ¬ p m := by
  intro n
  induction n using Nat.strongRecOn with
  | _ n ih =>
    intro hn
    by_cases h : ∃ m, m < n ∧ p m
    · obtain ⟨m, hm, hp⟩ := h
      exact ih m hm hp
    · exact ⟨n, hn, fun m hm hp => h ⟨m, hm, hp⟩⟩

theorem linearise_sched {ops : Array Oper} (h : edgesOk ops = true) : ∀ (fuel t : Nat) (listed : Array Bool), listed.size = ops.size → (listed.toList.countP (· == false)) = fuel →
    Sched ops (fun i => listed.getD i true = true) (Region.linearise.go .any ops fuel t listed [])
  | 0, t, listed, hs, hc => by
    intro i hi
    simp only [List.countP_eq_zero] at hc
    have hi' : i < listed.size := by omega
    have := hc listed[i] (by simp)
    simp only [Array.getD, hi', dif_pos]
    simpa using this
  | fuel + 1, t, listed, hs, hc => by
    have key : Region.ready .any ops listed ≠ [] := by
      -- the first that is not listed may run
      have hex : ∃ i, i < ops.size ∧ listed.getD i true = false := by
        have : 0 < listed.toList.countP (· == false) := by omega
        obtain ⟨x, hx, hxe⟩ := List.countP_pos_iff.1 this
        obtain ⟨i, hi, rfl⟩ := List.getElem_of_mem hx
        refine ⟨i, by simpa [hs] using hi, ?_⟩
        have hi' : i < listed.size := by simpa using hi
        simpa [Array.getD, hi'] using hxe
      obtain ⟨i0, h0⟩ := hex
      obtain ⟨q, hmin, hlt⟩ := least (p := fun i => i < ops.size ∧ listed.getD i true = false) i0 h0
      intro hnil
      have : q ∈ Region.ready .any ops listed := by
        unfold Region.ready
        rw [List.mem_filter]
        refine ⟨List.mem_range.2 hmin.1, ?_⟩
        rw [hmin.2]
        have ho : ops[q]? = some (ops[q]'hmin.1) := Array.getElem?_eq_getElem hmin.1
        simp only [Bool.not_false, Bool.true_and, ho, Option.map_some, Option.getD_some]
        rw [Array.all_eq_true_iff_forall_mem]
        intro e he
        cases hb : Region.binds .any e with
        | false => rfl
        | true =>
          have hon := edgesOk_spec h ho (by simpa using he) hb
          have := hlt _ hon
          have hsz : e.on < listed.size := by have := hmin.1; omega
          have h2 : ¬ (listed.getD e.on true = false) := fun h' => this ⟨by omega, h'⟩
          simp only [Array.getD, hsz, dif_pos] at h2 ⊢
          simpa using h2
      rw [hnil] at this
      simp at this
    simp only [Region.linearise.go]
    change Sched ops _ (match (Region.ready .any ops listed)[t % (Region.ready .any ops listed).length]? with
      | some i => Region.linearise.go .any ops fuel (t / (Region.ready .any ops listed).length) (listed.setIfInBounds i true) [i]
      | none => [].reverse)
    cases hi : (Region.ready .any ops listed)[t % (Region.ready .any ops listed).length]? with
    | none =>
      exfalso
      have hp : 0 < (Region.ready .any ops listed).length := List.length_pos_iff.2 key
      have := Nat.mod_lt t hp
      rw [List.getElem?_eq_none_iff] at hi
      omega
    | some i =>
      simp only []
      rw [linearise_go_acc, List.reverse_singleton, List.singleton_append]
      have hm := List.mem_of_getElem? hi
      unfold Region.ready at hm
      rw [List.mem_filter] at hm
      obtain ⟨hr, hx⟩ := hm
      have hin := List.mem_range.1 hr
      simp only [Bool.and_eq_true, Bool.not_eq_true'] at hx
      obtain ⟨hx1, hx2⟩ := hx
      have hi' : i < listed.size := by omega
      refine ⟨hin, by simp [hx1], fun o ho e he hb => ?_, ?_⟩
      · rw [ho] at hx2
        simp only [Option.map_some, Option.getD_some] at hx2
        rw [Array.all_eq_true_iff_forall_mem] at hx2
        have := hx2 e (by simpa using he)
        rw [hb] at this
        have hon := edgesOk_spec h ho he hb
        have hsz : e.on < listed.size := by omega
        simp only [Array.getD, hsz, dif_pos] at this ⊢
        simpa using this
      · refine Sched.congr (fun j hj => ?_) (fun o ho e he hb => ?_) (linearise_sched h fuel (t / (Region.ready .any ops listed).length) (listed.setIfInBounds i true) (by simp [hs]) ?_)
        · have hj' : j < listed.size := by omega
          simp only [Array.getD_eq_getD_getElem?, Array.getElem?_setIfInBounds]
          by_cases hij : i = j
          · subst hij; simp [hi']
          · rw [if_neg hij]
            constructor
            · exact .inl
            · intro h'; rcases h' with h' | h'
              · exact h'
              · exact absurd h'.symm hij
        · obtain ⟨j, hj, rfl⟩ := List.getElem_of_mem ho
          have hj' : j < ops.size := by simpa using hj
          have := edgesOk_spec h (j := j) (o := ops.toList[j]) (by simp [hj']) he hb
          omega
        · have hx1' : listed[i] = false := by simpa [Array.getD, hi'] using hx1
          have : (listed.setIfInBounds i true).toList = listed.toList.set i true := by simp
          have e1 : listed.toList[i]'(by simpa using hi') = false := by simpa using hx1'
          rw [this, List.countP_set (by simpa using hi'), e1]
          show listed.toList.countP (· == false) - 1 + 0 = fuel
          omega
end Go.E
namespace Go.E
open Go

inductive XStep (P : Program) (f : Nat → Value) (h : EH) (op : Op) (v : Value) (h' : EH) : Prop
  | simple (e : estep P op (ev f) h = some (v, h'))
  | call {g : FuncId} {args : Array Value} (e : callee f op = some (g, args)) (hf : fnOk P g = true) (hs : SndFn P g args h (.ret v) h')
  | yield {l : Nat} {args : Array Value} (e : yieldee f op = some (l, args)) (hs : SndRound P l args h (.ret v) h')

theorem callee_run2 {P : Program} {φ : Phi} {o : Oper} {f : Nat → Value} {ρ' : Operand → Value} {g : FuncId} {args : Array Value} {w : World} (hρ : ∀ x ∈ o.op.operands, VRel φ (ev f x) (ρ' x)) (e : callee f o.op = some (g, args)) (hf : fnOk P g = true) :
    (∀ c, o.op ≠ .defer c) ∧ ∃ args', VsRel φ args args' ∧ (execOp ρ' o).run P w = .ok (.enter g args') w := by
  obtain ⟨dst, op, type, pos, after, guard⟩ := o
  simp only at e hρ ⊢
  unfold callee at e
  split at e
  · rename_i c
    refine ⟨by simp, ?_⟩
    split at e
    · rename_i x hx
      have rx : VRel φ (ev f x) (ρ' x) := hρ x (by simp [Op.operands, Call.operands, hx])
      split at e
      · rename_i g' fs cs hv
        simp only [Option.some.injEq, Prod.mk.injEq] at e
        obtain ⟨rfl, rfl⟩ := e
        rw [hv] at rx
        obtain ⟨fn', fs', cs', he, hfn, h1, h2⟩ := rx.func_inv
        have : fn' = .func g' := by cases fn' <;> simp_all [FnRel]
        subst this
        have ra : VsRel φ (c.args.map (ev f)) (c.args.map ρ') := VsRel.map c.args fun y hy => hρ y (by simp [Op.operands, Call.operands, hx, hy])
        refine ⟨_, (h1.append ra).append h2, ?_⟩
        simp only [execOp, resolve, hx, he, Deferred.ofValue, invoke, pure_bind]
        exact callFunc_run hf
      · simp at e
    · simp at e
  · simp at e

theorem yieldee_run2 {P : Program} {φ : Phi} {o : Oper} {f : Nat → Value} {ρ' : Operand → Value} {l : Nat} {args : Array Value} {w : World} (hρ : ∀ x ∈ o.op.operands, VRel φ (ev f x) (ρ' x)) (e : yieldee f o.op = some (l, args)) :
    (∀ c, o.op ≠ .defer c) ∧ ∃ loc args', φ l = some loc ∧ VsRel φ args args' ∧ (execOp ρ' o).run P w = (Instr.yield loc.blk args').run P w := by
  obtain ⟨dst, op, type, pos, after, guard⟩ := o
  simp only at e hρ ⊢
  unfold yieldee at e
  split at e
  · rename_i c
    refine ⟨by simp, ?_⟩
    split at e
    · rename_i x hx
      have rx : VRel φ (ev f x) (ρ' x) := hρ x (by simp [Op.operands, Call.operands, hx])
      split at e
      · rename_i l' fs cs hv
        simp only [Option.some.injEq, Prod.mk.injEq] at e
        obtain ⟨rfl, rfl⟩ := e
        rw [hv] at rx
        obtain ⟨fn', fs', cs', he, hfn, h1, h2⟩ := rx.func_inv
        cases fn' <;> simp only [FnRel, reduceCtorEq] at hfn
        obtain ⟨loc, hl, rfl⟩ := hfn
        have ra : VsRel φ (c.args.map (ev f)) (c.args.map ρ') := VsRel.map c.args fun y hy => hρ y (by simp [Op.operands, Call.operands, hx, hy])
        refine ⟨loc, _, hl, h1.append ra, ?_⟩
        simp only [execOp, resolve, hx, he, Deferred.ofValue, invoke, pure_bind]
      · simp at e
    · simp at e
  · simp at e

theorem simple_ok {P : Program} {φ : Phi} {o : Oper} {f : Nat → Value} {h h' : EH} {v : Value} {b : Frame} {ops : Array Oper} {i : Nat} {rest : List Nat} {k : List Item} {cs : List Frame} {a : Act} {w : World}
    (e : estep P o.op (ev f) h = some (v, h')) (hi : ops[i]? = some o) (hw : Region.wanted o (yielded ops a.tmps) = true) (hr : RelH φ h w) (hρ : ∀ x ∈ o.op.operands, VRel φ (ev f x) (a.eval x)) :
    ∃ φ' v' w', VRel φ' v v' ∧ RelH φ' h' w' ∧ Tr φ h w φ' h' w' ∧ Steps P (lone (b.atR a (.inRegion ops (i :: rest) :: k)) cs w) (lone (b.atR (a.put o.dst v') (.inRegion ops rest :: k)) cs w') := by
  obtain ⟨φ', v', w', n, hrun, hn, hv, hr', ht⟩ := estep_ok hr hρ e
  refine ⟨φ', v', w', hv, hr', ht, .one (step_lone_go ?_)⟩
  have hg := stepGR_op (P := P) (b := b) (k := k) (cs := cs) (w := w) (rest := rest) hi hw
  have hfin : ∀ v, (b.atR a (.inRegion ops (i :: rest) :: k)).finish v = b.atR (a.put o.dst v) (.inRegion ops rest :: k) := by
    intro v; rw [Frame.finish_atR, hi]; rfl
  rw [hg, Oper.semAt_eq _ _ _ (estep_not_defer e), ← hfin]
  rcases hn with rfl | ⟨rfl, rfl⟩
  · simp [stepG.apply, hrun]
  · simp [stepG.apply, hrun]

theorem xstep_ok {P : Program} {φ : Phi} {o : Oper} {f : Nat → Value} {h h' : EH} {v : Value} {b : Frame} {ops : Array Oper} {i : Nat} {rest : List Nat} {k : List Item} {cs : List Frame} {a : Act} {w : World}
    (x : XStep P f h o.op v h') (hi : ops[i]? = some o) (hw : Region.wanted o (yielded ops a.tmps) = true) (hr : RelH φ h w) (hρ : ∀ x ∈ o.op.operands, VRel φ (ev f x) (a.eval x)) :
    ∃ φ' v' w', VRel φ' v v' ∧ RelH φ' h' w' ∧ Tr φ h w φ' h' w' ∧ Steps P (lone (b.atR a (.inRegion ops (i :: rest) :: k)) cs w) (lone (b.atR (a.put o.dst v') (.inRegion ops rest :: k)) cs w') := by
  have hg := stepGR_op (P := P) (b := b) (k := k) (cs := cs) (w := w) (rest := rest) hi hw
  have hfin : ∀ v, (b.atR a (.inRegion ops (i :: rest) :: k)).finish v = b.atR (a.put o.dst v) (.inRegion ops rest :: k) := by
    intro v; rw [Frame.finish_atR, hi]; rfl
  cases x with
  | simple e => exact simple_ok e hi hw hr hρ
  | call e hf hs =>
    rename_i g args
    obtain ⟨hnd, args', hargs, hrun⟩ := callee_run2 (w := w) hρ e hf
    obtain ⟨φ', w', fr, hr', ht, hst, hfn, v', hv, hl⟩ := hs φ args' w (b.atR a (.inRegion ops (i :: rest) :: k) :: cs) hr hargs
    refine ⟨φ', v', w', hv, hr', ht, ?_⟩
    rw [Oper.semAt_eq _ _ _ hnd] at hg
    have henter : step P (lone (b.atR a (.inRegion ops (i :: rest) :: k)) cs w) = .next (lone (Frame.enter P g args' .normal) (b.atR a (.inRegion ops (i :: rest) :: k) :: cs) w) :=
      step_lone_go (by rw [hg]; simp [stepG.apply, hrun, Frame.atR])
    refine .head henter (hst.trans (.one ?_))
    rw [← hfin]; exact step_leave_returned hl
  | yield e hs =>
    obtain ⟨hnd, loc, args', hl, hargs, hrun⟩ := yieldee_run2 (P := P) (w := w) hρ e
    obtain ⟨φ', w', hr', ht, L', hobj, hsz, v', hv, hst⟩ := hs φ loc args' w (b.atR a (.inRegion ops (i :: rest) :: k)) cs hl hr hargs
    rw [yield_run hobj hsz] at hrun
    refine ⟨φ', v', w', hv, hr', ht, ?_⟩
    rw [Oper.semAt_eq _ _ _ hnd] at hg
    refine .head (step_lone_go ?_) (hfin v' ▸ hst)
    rw [hg]; simp [stepG.apply, hrun]

def rs (φ : Phi) (l : Nat) : Phi := fun b => if b < l then φ b else none

theorem rs_some {φ : Phi} {l b : Nat} {loc : Loc} : rs φ l b = some loc ↔ b < l ∧ φ b = some loc := by
  unfold rs
  by_cases hb : b < l
  · simp [hb]
  · simp [hb]

theorem rs_le {φ : Phi} {l l' : Nat} (h : l ≤ l') : Le (rs φ l) (rs φ l') := fun b loc e => by
  rw [rs_some] at e ⊢; exact ⟨by omega, e.2⟩

theorem rs_sub {φ : Phi} {l : Nat} : Le (rs φ l) φ := fun _ _ e => (rs_some.1 e).2

theorem rs_mono {φ φ' : Phi} {l : Nat} (h : Le φ φ') : Le (rs φ l) (rs φ' l) := fun b loc e => by
  rw [rs_some] at e ⊢; exact ⟨e.1, h _ _ e.2⟩

def pairOk (ops : Array Oper) (bs : List Nat) (i j : Nat) : Bool :=
  match ops[i]?, ops[j]? with
  | some oi, some oj => ordB bs i j || (Oper.apart ops oi oj && (isQuiet oi.op || isQuiet oj.op))
  | _, _ => true

def drawOk (ops : Array Oper) : Bool :=
  edgesOk ops && (let bs := befores ops; (List.range ops.size).all fun j => (List.range j).all fun i => pairOk ops bs i j)

theorem drawOk_pair {ops : Array Oper} (h : drawOk ops = true) {i j : Nat} {oi oj : Oper} (hij : i < j) (hi : ops[i]? = some oi) (hj : ops[j]? = some oj) (ho : ordB (befores ops) i j = false) :
    Oper.apart ops oi oj = true ∧ (isQuiet oi.op = true ∨ isQuiet oj.op = true) := by
  simp only [drawOk, Bool.and_eq_true, List.all_eq_true, List.mem_range] at h
  have := h.2 j (Array.getElem?_eq_some_iff.1 hj).1 i hij
  simp only [pairOk, hi, hj, ho, Bool.false_or, Bool.and_eq_true, Bool.or_eq_true] at this
  exact this

structure DRun (P : Program) (N : Nat) (ops : Array Oper) (f : Nat → Nat → Value) (h : Nat → EH) (J : Option Nat) : Prop where
  step : ∀ i o, ops[i]? = some o → opOk N o = true ∧ ∃ v, f (i + 1) = setT (f i) o.dst v ∧ (h i).length ≤ (h (i + 1)).length ∧
    ((wantE N ops (f i) o = some false ∧ v = undef ∧ h (i + 1) = h i) ∨
     (wantE N ops (f i) o = some true ∧ isQuiet o.op = true ∧ estep P o.op (ev (f i)) (h i) = some (v, h (i + 1))) ∨
     (wantE N ops (f i) o = some true ∧ isQuiet o.op = false ∧ XStep P (f i) (h i) o.op v (h (i + 1))) ∨
     (∃ j, J = some j ∧ j < i ∧ ordB (befores ops) j i = true ∧ h (i + 1) = h i) ∨
     (J = some i ∧ wantE N ops (f i) o = some true ∧ isQuiet o.op = false))
  side : ∀ i j oi oj, i < j → ops[i]? = some oi → ops[j]? = some oj → ordB (befores ops) i j = false → wantE N ops (f i) oi = some true → wantE N ops (f j) oj = some true →
    (isQuiet oi.op = true → isQuiet oj.op = false → (∀ b, reads oi.op (ev (f i)) = some b → b < (h i).length → (h (j + 1))[b]? = (h j)[b]?) ∧ (∀ b, (h i).length ≤ b → b < (h (i + 1)).length → (h (j + 1))[b]? = (h j)[b]?)) ∧
    (isQuiet oi.op = false → isQuiet oj.op = true → ∀ b, reads oj.op (ev (f j)) = some b → b < (h i).length → (h (i + 1))[b]? = (h i)[b]?)

section
variable {P : Program} {N : Nat} {ops : Array Oper} {f : Nat → Nat → Value} {h : Nat → EH} {J : Option Nat}

def actX (N : Nat) (ops : Array Oper) (f : Nat → Nat → Value) (i : Nat) : Prop := ∃ o, ops[i]? = some o ∧ isQuiet o.op = false ∧ wantE N ops (f i) o = some true

theorem DRun.len (R : DRun P N ops f h J) {i j : Nat} (hij : i ≤ j) (hj : j ≤ ops.size) : (h i).length ≤ (h j).length := by
  induction j with
  | zero => have : i = 0 := by omega
            subst this; exact Nat.le_refl _
  | succ j ih =>
    by_cases he : i = j + 1
    · subst he; exact Nat.le_refl _
    · obtain ⟨_, v, _, hl, _⟩ := R.step j _ (Array.getElem?_eq_getElem (by omega))
      exact Nat.le_trans (ih (by omega) (by omega)) hl

theorem DRun.pres (R : DRun P N ops f h J) {i : Nat} (hi : i < ops.size) (hx : ¬ actX N ops f i) {b : Nat} (hb : b < (h i).length) : (h (i + 1))[b]? = (h i)[b]? := by
  obtain ⟨_, v, _, _, hc⟩ := R.step i _ (Array.getElem?_eq_getElem hi)
  rcases hc with ⟨_, _, e⟩ | ⟨_, hq, e⟩ | ⟨hw, hq, _⟩ | ⟨_, _, _, _, e⟩ | ⟨_, hw, hq⟩
  · rw [e]
  · obtain ⟨new, e1, _⟩ := estep_quiet hq e
    rw [e1, List.getElem?_append_left hb]
  · exact absurd ⟨_, Array.getElem?_eq_getElem hi, hq, hw⟩ hx
  · rw [e]
  · exact absurd ⟨_, Array.getElem?_eq_getElem hi, hq, hw⟩ hx

def same (h : Nat → EH) (k m b : Nat) : Prop := ∀ l, ((k ≤ l ∧ l < m) ∨ (m ≤ l ∧ l < k)) → b < (h l).length → (h (l + 1))[b]? = (h l)[b]?

theorem walk {k k' b : Nat} (R : DRun P N ops f h J) (hk : k ≤ k') (hk' : k' ≤ ops.size) (hb : b < (h k).length) (hs : ∀ l, k ≤ l → l < k' → b < (h l).length → (h (l + 1))[b]? = (h l)[b]?) : (h k')[b]? = (h k)[b]? := by
  induction k' with
  | zero => have : k = 0 := by omega
            subst this; rfl
  | succ j ih =>
    by_cases he : k = j + 1
    · subst he; rfl
    · rw [hs j (by omega) (by omega) (Nat.lt_of_lt_of_le hb (R.len (by omega) (by omega)))]
      exact ih (by omega) (by omega) (fun l h1 h2 => hs l h1 (by omega))

theorem same_eq {k k' m b : Nat} (R : DRun P N ops f h J) (hk : k ≤ ops.size) (hk' : k' ≤ ops.size) (s : same h k m b) (s' : same h k' m b) (hb : b < (h k).length) (hb' : b < (h k').length) : (h k)[b]? = (h k')[b]? := by
  rcases Nat.le_total k k' with hle | hle
  · refine (walk R hle hk' hb fun l h1 h2 h3 => ?_).symm
    by_cases hm : l < m
    · exact s l (.inl ⟨h1, hm⟩) h3
    · exact s' l (.inr ⟨by omega, h2⟩) h3
  · refine walk R hle hk hb' fun l h1 h2 h3 => ?_
    by_cases hm : l < m
    · exact s' l (.inl ⟨h1, hm⟩) h3
    · exact s l (.inr ⟨by omega, h2⟩) h3

theorem same_refl {k b : Nat} : same h k k b := fun l hl => by omega

def Own (φ0 : Phi) (h0 : EH) (w0 : World) (k : Nat) : Prop := w0.heap.size ≤ k ∨ ∃ b0 l0 o0, φ0 b0 = some l0 ∧ h0[b0]? = some o0 ∧ o0.wrt = true ∧ l0.blk = k

structure Inv (P : Program) (N : Nat) (ops : Array Oper) (f : Nat → Nat → Value) (h : Nat → EH) (ds : List Deferred) (φ0 : Phi) (w0 : World) (S : Nat → Prop) (m : Nat) (φ : Phi) (a : Act) (w : World) : Prop where
  closed : Closed ops S
  xs : ∀ i, actX N ops f i → (S i ↔ i < m)
  mle : m ≤ ops.size
  lt : ∀ i, S i → i < ops.size
  dom : ∀ b loc, φ b = some loc → b < (h 0).length ∨ ∃ i, S i ∧ (h i).length ≤ b ∧ b < (h (i + 1)).length
  blk : ∀ b loc, φ b = some loc → loc.blk < w.heap.size
  obj : ∀ b loc, φ b = some loc → ∀ k, k ≤ ops.size → b < (h k).length → same h k m b → ∃ o, (h k)[b]? = some o ∧ ORel (rs φ (h k).length) w loc o
  inj : ∀ b₁ b₂ l₁ l₂ k₁ k₂ o₁ o₂, φ b₁ = some l₁ → φ b₂ = some l₂ → k₁ ≤ ops.size → k₂ ≤ ops.size → b₁ < (h k₁).length → b₂ < (h k₂).length → same h k₁ m b₁ → same h k₂ m b₂ →
    (h k₁)[b₁]? = some o₁ → (h k₂)[b₂]? = some o₂ → o₁.wrt = true → o₂.live = true → l₁.blk = l₂.blk → b₁ = b₂
  size : a.tmps.size = N
  tms : ∀ t, t < N → ∀ k, k ≤ ops.size → (∀ j o, ops[j]? = some o → o.dst = some t → (S j ↔ j < k)) → VRel (rs φ (h k).length) (f k t) (a.tmps.getD t undef)
  ds : DsRel (rs φ (h 0).length) ds a.defers
  le : Le φ0 φ
  os : w.os = w0.os
  tape : w.tape = w0.tape
  output : w.output = w0.output
  hsize : w0.heap.size ≤ w.heap.size
  fresh : ∀ b loc, φ b = some loc → φ0 b = some loc ∨ ((h 0).length ≤ b ∧ Own φ0 (h 0) w0 loc.blk)
  kept : ∀ k, k < w0.heap.size → ¬ Own φ0 (h 0) w0 k → w.heap[k]? = w0.heap[k]?
  turns : ∀ b o', b < (h 0).length → (h m)[b]? = some o' → o'.wrt = true → ∃ o, (h 0)[b]? = some o ∧ o.wrt = true
  live : ∀ b o', b < (h 0).length → (h m)[b]? = some o' → o'.live = true → ∃ o, (h 0)[b]? = some o ∧ o.live = true
  frz : ∀ k : Nat, frzOf w.heap[k]? = frzOf w0.heap[k]?

variable {ds : List Deferred} {φ0 : Phi} {w0 : World} {S : Nat → Prop} {m : Nat} {φ : Phi} {a : Act} {w : World}

theorem Inv.look (I : Inv P N ops f h ds φ0 w0 S m φ a w) (hc : drawOk ops = true) {i : Nat} {o : Oper} (hi : ops[i]? = some o) (hS : ¬ S i) (hcl : Closed ops (fun j => S j ∨ j = i)) {t : Nat} (ht : t ∈ o.looksAt ops) (hN : t < N) :
    VRel (rs φ (h i).length) (f i t) (a.tmps.getD t undef) := by
  have hin := (Array.getElem?_eq_some_iff.1 hi).1
  refine I.tms t hN i (by omega) fun j oj hj hd => ?_
  rcases Nat.lt_trichotomy j i with hl | hl | hl
  · refine ⟨fun _ => hl, fun _ => ?_⟩
    cases ho : ordB (befores ops) j i with
    | true =>
      rcases closed_ord hcl (.inr rfl) ho with h' | h'
      · exact h'
      · omega
    | false => exact absurd ht ((Oper.apart_spec (drawOk_pair hc hl hj hi ho).1).1 t hd)
  · subst hl
    exact ⟨fun h' => absurd h' hS, fun h' => by omega⟩
  · refine ⟨fun h' => ?_, fun h' => by omega⟩
    cases ho : ordB (befores ops) i j with
    | true => exact absurd (closed_ord I.closed h' ho) hS
    | false => exact absurd ht ((Oper.apart_spec (drawOk_pair hc hl hi hj ho).1).2.2 t hd)

theorem Inv.operand (I : Inv P N ops f h ds φ0 w0 S m φ a w) (hc : drawOk ops = true) {i : Nat} {o : Oper} (hi : ops[i]? = some o) (hS : ¬ S i) (hcl : Closed ops (fun j => S j ∨ j = i)) (hk : opOk N o = true) :
    ∀ x ∈ o.op.operands, VRel (rs φ (h i).length) (ev (f i) x) (a.eval x) := by
  intro x hx
  have hox := Array.all_eq_true'.1 hk x hx
  cases x with
  | tmp t =>
    refine I.look hc hi hS hcl ?_ (by simpa [opdOk] using hox)
    exact List.mem_append_left _ (List.mem_filterMap.2 ⟨.tmp t, by simpa using hx, rfl⟩)
  | const v => exact .constV hox
  | func g => exact .func (fn := .func g) (fn' := .func g) rfl rfl (fun i h => by simp at h) rfl (fun i h => by simp at h)
  | global g => simp [opdOk] at hox

theorem Inv.want (I : Inv P N ops f h ds φ0 w0 S m φ a w) (hc : drawOk ops = true) {i : Nat} {o : Oper} (hi : ops[i]? = some o) (hS : ¬ S i) (hcl : Closed ops (fun j => S j ∨ j = i)) {t : Bool} (hw : wantE N ops (f i) o = some t) :
    Region.wanted o (yielded ops a.tmps) = t := by
  let f' : Nat → Value := fun u => if u ∈ o.looksAt ops then f i u else .chan none
  have hf : wantE N ops f' o = some t := by
    rw [← hw]
    unfold wantE
    cases hg : o.guard with
    | none => rfl
    | some jw =>
      obtain ⟨j, g⟩ := jw
      simp only
      cases hd : (ops[j]?).bind (·.dst) with
      | none => rfl
      | some d =>
        have : f' d = f i d := if_pos (by simp [Oper.looksAt, hg, hd])
        simp only [this]
  refine wantE_ok (φ := rs φ (h i).length) (st := { f := f', ds := [], h := h i, rc := none }) (a := { a with defers := [] }) ⟨I.size, fun u hu => ?_, trivial⟩ hf
  by_cases hl : u ∈ o.looksAt ops
  · show VRel _ (f' u) _
    rw [show f' u = f i u from if_pos hl]
    exact I.look hc hi hS hcl hl hu
  · show VRel _ (f' u) _
    rw [show f' u = .chan none from if_neg hl]
    exact .unk

theorem setT_ne {g : Nat → Value} {dst : Option Nat} {v : Value} {t : Nat} (h : dst ≠ some t) : setT g dst v t = g t := by
  cases dst with
  | none => rfl
  | some d => exact if_neg (fun e => h (by rw [e]))

theorem put_ne {a : Act} {dst : Option Nat} {v : Value} {t : Nat} (h : dst ≠ some t) : (a.put dst v).tmps.getD t undef = a.tmps.getD t undef := by
  cases dst with
  | none => rfl
  | some d =>
    have : d ≠ t := fun e => h (by rw [e])
    simp only [Act.put, Array.getD_eq_getD_getElem?, Array.getElem?_setIfInBounds, if_neg this]

theorem Inv.tms_step (I : Inv P N ops f h ds φ0 w0 S m φ a w) (R : DRun P N ops f h J) (hc : drawOk ops = true) {i : Nat} {o : Oper} (hi : ops[i]? = some o) (hS : ¬ S i) {φ' : Phi} (hle : Le φ φ') {v v' : Value}
    (hf : f (i + 1) = setT (f i) o.dst v) (hv : VRel (rs φ' (h (i + 1)).length) v v') :
    ∀ t, t < N → ∀ k, k ≤ ops.size → (∀ j o, ops[j]? = some o → o.dst = some t → ((S j ∨ j = i) ↔ j < k)) → VRel (rs φ' (h k).length) (f k t) ((a.put o.dst v').tmps.getD t undef) := by
  intro t ht k hk hcond
  by_cases hd : o.dst = some t
  · have hik : i < k := (hcond i o hi hd).1 (.inr rfl)
    have hstay : ∀ l, i + 1 ≤ l → l ≤ k → f l t = v := by
      intro l h1 h2
      induction l with
      | zero => omega
      | succ l ih =>
        by_cases he : i = l
        · subst he
          rw [hf, hd]; simp [setT]
        · have hl : l < ops.size := by omega
          have hol := Array.getElem?_eq_getElem hl
          obtain ⟨_, u, hu, _⟩ := R.step l _ hol
          rw [hu, setT_ne, ih (by omega) (by omega)]
          intro hdl
          rcases (hcond l _ hol hdl).2 (by omega) with h' | h'
          · cases ho : ordB (befores ops) i l with
            | true => exact hS (closed_ord I.closed h' ho)
            | false => exact (Oper.apart_spec (drawOk_pair hc (by omega) hi hol ho).1).2.1 t hd hdl
          · omega
    rw [hstay k hik (Nat.le_refl _), hd]
    have hget : (a.put (some t) v').tmps.getD t undef = v' := by
      have : t < a.tmps.size := by rw [I.size]; exact ht
      simp [Act.put, Array.getD_eq_getD_getElem?, this]
    rw [hget]
    exact hv.mono (rs_le (R.len hik hk))
  · rw [put_ne hd]
    refine (I.tms t ht k hk fun j oj hj hdj => ?_).mono (rs_mono hle)
    have hne : j ≠ i := fun e => by subst e; rw [hi] at hj; cases hj; exact hd hdj
    rw [← hcond j oj hj hdj]
    exact ⟨.inl, fun h' => h'.resolve_right hne⟩

theorem Inv.apartDom (I : Inv P N ops f h ds φ0 w0 S m φ a w) (R : DRun P N ops f h J) {i : Nat} (hi : i < ops.size) (hS : ¬ S i) {b : Nat} {loc : Loc} (e : φ b = some loc) : ¬ ((h i).length ≤ b ∧ b < (h (i + 1)).length) := by
  rintro ⟨h1, h2⟩
  rcases I.dom b loc e with h3 | ⟨j, hj, h4, h5⟩
  · have := R.len (Nat.zero_le i) (by omega); omega
  · have hjl := I.lt j hj
    rcases Nat.lt_trichotomy j i with hl | hl | hl
    · have := R.len (i := j + 1) (j := i) hl (by omega); omega
    · subst hl; exact hS hj
    · have := R.len (i := i + 1) (j := j) hl (by omega); omega

theorem Inv.own (I : Inv P N ops f h ds φ0 w0 S m φ a w) (R : DRun P N ops f h J) (hd0 : ∀ b loc, φ0 b = some loc → b < (h 0).length) {k b : Nat} {loc : Loc} {o : EObj} (e : φ b = some loc) (hk : k ≤ ops.size) (hb : b < (h k).length) (hs : same h k m b)
    (ho : (h k)[b]? = some o) (hw : o.wrt = true) : Own φ0 (h 0) w0 loc.blk := by
  rcases I.fresh b loc e with h1 | h1
  · have hb0 := hd0 b loc h1
    have hbm : b < (h m).length := Nat.lt_of_lt_of_le hb0 (R.len (Nat.zero_le _) I.mle)
    have := same_eq R hk I.mle hs same_refl hb hbm
    rw [ho] at this
    obtain ⟨o0, e0, w0'⟩ := I.turns b o hb0 this.symm hw
    exact .inr ⟨b, loc, o0, h1, e0, w0', rfl⟩
  · exact h1.2

theorem Inv.skip (I : Inv P N ops f h ds φ0 w0 S m φ a w) (R : DRun P N ops f h J) (hc : drawOk ops = true) {i : Nat} {o : Oper} (hi : ops[i]? = some o) (hS : ¬ S i) (hcl : Closed ops (fun j => S j ∨ j = i)) (hw : wantE N ops (f i) o = some false)
    (hf : f (i + 1) = setT (f i) o.dst undef) : Inv P N ops f h ds φ0 w0 (fun j => S j ∨ j = i) m φ (a.put o.dst undef) w := by
  have hin := (Array.getElem?_eq_some_iff.1 hi).1
  refine { I with closed := hcl, xs := ?_, lt := ?_, dom := ?_, size := ?_, tms := I.tms_step R hc hi hS (.refl φ) hf .undef, ds := ?_ }
  · intro j hj
    have : j ≠ i := fun e => by
      subst e
      obtain ⟨o', h1, _, h3⟩ := hj
      rw [hi] at h1; cases h1
      rw [hw] at h3; cases h3
    rw [← I.xs j hj]
    exact ⟨fun h' => h'.resolve_right this, .inl⟩
  · rintro j (h' | rfl)
    · exact I.lt j h'
    · exact hin
  · intro b loc e
    rcases I.dom b loc e with h1 | ⟨j, hj, h2⟩
    · exact .inl h1
    · exact .inr ⟨j, .inl hj, h2⟩
  · rw [Act.put_size]; exact I.size
  · rw [Act.put_defers]; exact I.ds
end
end Go.E
namespace Go.E
open Go

section
variable {P : Program} {N : Nat} {ops : Array Oper} {f : Nat → Nat → Value} {h : Nat → EH} {J : Option Nat}
variable {ds : List Deferred} {φ0 : Phi} {w0 : World} {S : Nat → Prop} {m : Nat} {φ : Phi} {a : Act} {w : World}

def maskH (H : EH) (r : Option Nat) : EH := H.mapIdx fun b o => if r = some b then o else .dead

theorem maskH_len {H : EH} {r : Option Nat} : (maskH H r).length = H.length := by simp [maskH]

theorem maskH_get {H : EH} {r : Option Nat} {b : Nat} : (maskH H r)[b]? = (H[b]?).map fun o => if r = some b then o else .dead := by simp [maskH, List.getElem?_mapIdx]

theorem Inv.readSame (I : Inv P N ops f h ds φ0 w0 S m φ a w) (R : DRun P N ops f h J) {i : Nat} {o : Oper} (hi : ops[i]? = some o) (hS : ¬ S i) (hcl : Closed ops (fun j => S j ∨ j = i)) (hq : isQuiet o.op = true) (hw : wantE N ops (f i) o = some true)
    {b : Nat} (hr : reads o.op (ev (f i)) = some b) (hb : b < (h i).length) : same h i m b := by
  have hin := (Array.getElem?_eq_some_iff.1 hi).1
  intro l hl hbl
  have hln : l < ops.size := by have := I.mle; omega
  by_cases hx : actX N ops f l
  · obtain ⟨ol, hol, hql, hwl⟩ := hx
    rcases hl with ⟨h1, h2⟩ | ⟨h1, h2⟩
    · have hSl : S l := (I.xs l ⟨ol, hol, hql, hwl⟩).2 h2
      have hne : l ≠ i := fun e => by subst e; exact hS hSl
      cases ho : ordB (befores ops) i l with
      | true => exact absurd (closed_ord I.closed hSl ho) hS
      | false => exact ((R.side i l o ol (by omega) hi hol ho hw hwl).1 hq hql).1 b hr hb
    · cases ho : ordB (befores ops) l i with
      | true =>
        rcases closed_ord hcl (.inr rfl) ho with h' | h'
        · have := (I.xs l ⟨ol, hol, hql, hwl⟩).1 h'; omega
        · omega
      | false => exact (R.side l i ol o h2 hol hi ho hwl hw).2 hql hq b hr hbl
  · exact R.pres hln hx hbl

theorem ORel.of_dead {φ φ' : Phi} {w w' : World} {loc : Loc} {o : EObj} (hl : o.live = false) (r : ORel φ w loc o) : ORel φ' w' loc o := by
  cases o <;> simp_all [EObj.live, ORel]

theorem EObj.live_of_wrt {o : EObj} (h : o.wrt = true) : o.live = true := by cases o <;> simp_all [EObj.wrt, EObj.live]

theorem Inv.quiet (I : Inv P N ops f h ds φ0 w0 S m φ a w) (R : DRun P N ops f h J) (hd0 : ∀ b loc, φ0 b = some loc → b < (h 0).length) (hc : drawOk ops = true) {i : Nat} {o : Oper} (hi : ops[i]? = some o) (hS : ¬ S i) (hcl : Closed ops (fun j => S j ∨ j = i))
    (hk : opOk N o = true) (hq : isQuiet o.op = true) (hw : wantE N ops (f i) o = some true) {v : Value} (hf : f (i + 1) = setT (f i) o.dst v) (he : estep P o.op (ev (f i)) (h i) = some (v, h (i + 1))) (b : Frame) (rest : List Nat) (k : List Item) (cs : List Frame) :
    ∃ φ' a' w', Inv P N ops f h ds φ0 w0 (fun j => S j ∨ j = i) m φ' a' w' ∧ Steps P (lone (b.atR a (.inRegion ops (i :: rest) :: k)) cs w) (lone (b.atR a' (.inRegion ops rest :: k)) cs w') := by
  have hin := (Array.getElem?_eq_some_iff.1 hi).1
  obtain ⟨new, hnew, hat⟩ := estep_quiet hq he
  let r := reads o.op (ev (f i))
  let H := maskH (h i) r
  let ψ := rs φ (h i).length
  have hHl : H.length = (h i).length := maskH_len
  have hestep : estep P o.op (ev (f i)) H = some (v, H ++ new) := hat H hHl fun b0 hb0 => by
    rw [maskH_get]
    cases hx : (h i)[b0]? with
    | none => rfl
    | some o0 => simp only [Option.map_some]; rw [if_pos hb0]
  have hL1 : (h (i + 1)).length = (h i).length + new.length := by rw [hnew]; simp
  -- what is seen in the masked heap
  have hmask : ∀ b0 o0, H[b0]? = some o0 → o0.live = true → r = some b0 ∧ (h i)[b0]? = some o0 := by
    intro b0 o0 e hl
    rw [maskH_get] at e
    cases hx : (h i)[b0]? with
    | none => rw [hx] at e; simp at e
    | some o1 =>
      rw [hx] at e
      simp only [Option.map_some, Option.some.injEq] at e
      by_cases hrb : r = some b0
      · rw [if_pos hrb] at e; subst e; exact ⟨hrb, rfl⟩
      · rw [if_neg hrb] at e; subst e; simp [EObj.live] at hl
  have hrel : RelH ψ H w := by
    refine ⟨fun b0 loc e => ?_, fun b1 b2 l1 l2 o1 o2 _ _ g1 g2 v1 v2 _ => ?_⟩
    · obtain ⟨hlt, e1⟩ := rs_some.1 e
      have hget := List.getElem?_eq_getElem hlt
      refine ⟨_, by rw [maskH_get, hget]; rfl, I.blk _ _ e1, ?_⟩
      show ORel ψ w loc (if r = some b0 then (h i)[b0] else .dead)
      by_cases hrb : r = some b0
      · rw [if_pos hrb]
        obtain ⟨o1, g1, g2⟩ := I.obj b0 loc e1 i (by omega) hlt (I.readSame R hi hS hcl hq hw hrb hlt)
        rw [hget] at g1; cases g1
        exact g2
      · rw [if_neg hrb]; trivial
    · have e1 := (hmask _ _ g1 (EObj.live_of_wrt v1)).1
      have e2 := (hmask _ _ g2 v2).1
      rw [e1] at e2; cases e2; rfl
  obtain ⟨φ2, v', w', hv, hr2, T, hst⟩ := simple_ok (b := b) (rest := rest) (k := k) (cs := cs) hestep hi (I.want hc hi hS hcl hw) hrel (I.operand hc hi hS hcl hk)
  have hdom2 : ∀ b0 loc, φ2 b0 = some loc → b0 < (h (i + 1)).length := fun b0 loc e => by
    have := hr2.dom b0 loc e
    simp only [List.length_append, hHl] at this
    omega
  let φn : Phi := fun b0 => if (h i).length ≤ b0 ∧ b0 < (h (i + 1)).length then φ2 b0 else φ b0
  have hin1 : ∀ {b0}, (h i).length ≤ b0 ∧ b0 < (h (i + 1)).length → φn b0 = φ2 b0 := fun hb0 => if_pos hb0
  have hout : ∀ {b0}, ¬ ((h i).length ≤ b0 ∧ b0 < (h (i + 1)).length) → φn b0 = φ b0 := fun hb0 => if_neg hb0
  have hle : Le φ φn := fun b0 loc e => by rw [hout (I.apartDom R hin hS e)]; exact e
  have hold : ∀ b0 loc, φ2 b0 = some loc → b0 < (h i).length → φ b0 = some loc := fun b0 loc e hlt => by
    rcases T.fresh b0 loc e with h1 | ⟨h1, _⟩
    · exact (rs_some.1 h1).2
    · rw [hHl] at h1; omega
  have hle2 : Le φ2 (rs φn (h (i + 1)).length) := fun b0 loc e => by
    have hlt := hdom2 b0 loc e
    refine rs_some.2 ⟨hlt, ?_⟩
    by_cases hb0 : (h i).length ≤ b0
    · rw [hin1 ⟨hb0, hlt⟩]; exact e
    · rw [hout (fun h' => hb0 h'.1)]; exact hold _ _ e (by omega)
  have hle2' : Le φ2 φn := hle2.trans rs_sub
  -- a new object, seen from later states
  have hnewSame : ∀ b0, (h i).length ≤ b0 → b0 < (h (i + 1)).length → ∀ k0, k0 ≤ ops.size → b0 < (h k0).length → same h k0 m b0 → i + 1 ≤ k0 ∧ (h k0)[b0]? = (h (i + 1))[b0]? := by
    intro b0 h1 h2 k0 hk0 h3 hs
    have hik : i + 1 ≤ k0 := by
      rcases Nat.lt_or_ge i k0 with h4 | h4
      · exact h4
      · have := R.len h4 (by omega); omega
    refine ⟨hik, walk R hik hk0 h2 fun l h4 h5 h6 => ?_⟩
    by_cases hx : actX N ops f l
    · obtain ⟨ol, hol, hql, hwl⟩ := hx
      by_cases hm : l < m
      · have hSl : S l := (I.xs l ⟨ol, hol, hql, hwl⟩).2 hm
        cases ho : ordB (befores ops) i l with
        | true => exact absurd (closed_ord I.closed hSl ho) hS
        | false => exact ((R.side i l o ol (by omega) hi hol ho hw hwl).1 hq hql).2 b0 h1 h2
      · exact hs l (.inr ⟨by omega, h5⟩) h6
    · exact R.pres (by omega) hx h6
  have hgetNew : ∀ b0, (h i).length ≤ b0 → (h (i + 1))[b0]? = (H ++ new)[b0]? := fun b0 h1 => by
    rw [hnew, List.getElem?_append_right h1, List.getElem?_append_right (by omega), hHl]
  -- the objects of before lie where they lay
  have hkeep : ∀ b0 loc, φ b0 = some loc → ∀ k0 o0, k0 ≤ ops.size → b0 < (h k0).length → same h k0 m b0 → (h k0)[b0]? = some o0 → ORel (rs φ (h k0).length) w loc o0 → ORel (rs φn (h k0).length) w' loc o0 := by
    intro b0 loc e k0 o0 hk0 hb0 hs ho0 hor
    cases hl : o0.live with
    | false => exact hor.of_dead hl
    | true =>
      by_cases hrd : r = some b0 ∧ b0 < (h i).length
      · obtain ⟨hrb, hlt⟩ := hrd
        have hsi := I.readSame R hi hS hcl hq hw hrb hlt
        have heq := same_eq R hk0 (by omega) hs hsi hb0 hlt
        have e2 : φ2 b0 = some loc := T.le _ _ (rs_some.2 ⟨hlt, e⟩)
        obtain ⟨o2, g1, _, g3⟩ := hr2.obj b0 loc e2
        rw [List.getElem?_append_left (by omega), maskH_get, ← heq, ho0] at g1
        simp only [Option.map_some, if_pos hrb, Option.some.injEq] at g1
        subst g1
        exact (hor.down (rs_sub.trans hle) (g3.mono hle2' rfl)).mono (rs_mono hle) rfl
      · refine hor.mono (rs_mono hle) (T.kept loc.blk (I.blk _ _ e) fun b1 l1 o1 e1 g1 w1 hbk => ?_)
        obtain ⟨hr1, hg1⟩ := hmask b1 o1 g1 (EObj.live_of_wrt w1)
        obtain ⟨hlt1, e1'⟩ := rs_some.1 e1
        have := I.inj b1 b0 l1 loc i k0 o1 o0 e1' e (by omega) hk0 hlt1 hb0 (I.readSame R hi hS hcl hq hw hr1 hlt1) hs hg1 ho0 w1 hl hbk
        subst this
        exact hrd ⟨hr1, hlt1⟩
  have hown : ∀ b1 l1 o1, ψ b1 = some l1 → H[b1]? = some o1 → o1.wrt = true → Own φ0 (h 0) w0 l1.blk := fun b1 l1 o1 e1 g1 w1 => by
    obtain ⟨hr1, hg1⟩ := hmask b1 o1 g1 (EObj.live_of_wrt w1)
    obtain ⟨hlt1, e1'⟩ := rs_some.1 e1
    exact I.own R hd0 e1' (by omega) hlt1 (I.readSame R hi hS hcl hq hw hr1 hlt1) hg1 w1
  refine ⟨φn, a.put o.dst v', w', ?_, hst⟩
  refine { closed := hcl, xs := ?_, mle := I.mle, lt := ?_, dom := ?_, blk := ?_, obj := ?_, inj := ?_, size := ?_, tms := I.tms_step R hc hi hS hle hf (hv.mono hle2), ds := ?_, le := I.le.trans hle, os := T.os.trans I.os, tape := T.tape.trans I.tape, output := T.output.trans I.output,
           hsize := Nat.le_trans I.hsize T.size, fresh := ?_, kept := ?_, turns := I.turns, live := I.live, frz := fun k => (T.frz k).trans (I.frz k) }
  · intro j hj
    have : j ≠ i := fun e => by
      subst e
      obtain ⟨o', h1, h2, _⟩ := hj
      rw [hi] at h1; cases h1
      rw [hq] at h2; cases h2
    rw [← I.xs j hj]
    exact ⟨fun h' => h'.resolve_right this, .inl⟩
  · rintro j (h' | rfl)
    · exact I.lt j h'
    · exact hin
  · intro b0 loc e
    by_cases hb0 : (h i).length ≤ b0 ∧ b0 < (h (i + 1)).length
    · exact .inr ⟨i, .inr rfl, hb0⟩
    · rw [hout hb0] at e
      rcases I.dom b0 loc e with h1 | ⟨j, hj, h2⟩
      · exact .inl h1
      · exact .inr ⟨j, .inl hj, h2⟩
  · intro b0 loc e
    by_cases hb0 : (h i).length ≤ b0 ∧ b0 < (h (i + 1)).length
    · rw [hin1 hb0] at e
      obtain ⟨_, _, g, _⟩ := hr2.obj b0 loc e
      exact g
    · rw [hout hb0] at e
      exact Nat.lt_of_lt_of_le (I.blk _ _ e) T.size
  · intro b0 loc e k0 hk0 hlt hs
    by_cases hb0 : (h i).length ≤ b0 ∧ b0 < (h (i + 1)).length
    · rw [hin1 hb0] at e
      obtain ⟨hik, heq⟩ := hnewSame b0 hb0.1 hb0.2 k0 hk0 hlt hs
      obtain ⟨o2, g1, _, g3⟩ := hr2.obj b0 loc e
      rw [heq, hgetNew b0 hb0.1]
      exact ⟨o2, g1, g3.mono (hle2.trans (rs_le (R.len hik hk0))) rfl⟩
    · rw [hout hb0] at e
      obtain ⟨o0, g1, g2⟩ := I.obj b0 loc e k0 hk0 hlt hs
      exact ⟨o0, g1, hkeep b0 loc e k0 o0 hk0 hlt hs g1 g2⟩
  · intro b1 b2 l1 l2 k1 k2 o1 o2 e1 e2 hk1 hk2 hl1 hl2 s1 s2 g1 g2 v1 v2 hbk
    -- a new object and an old one never share a block
    have mixed : ∀ b1 b2 l1 l2 k1 k2 o1 o2, φn b1 = some l1 → φn b2 = some l2 → k1 ≤ ops.size → k2 ≤ ops.size → b1 < (h k1).length → b2 < (h k2).length → same h k1 m b1 → same h k2 m b2 → (h k1)[b1]? = some o1 → (h k2)[b2]? = some o2 → o1.live = true →
        ((h i).length ≤ b1 ∧ b1 < (h (i + 1)).length) → ¬ ((h i).length ≤ b2 ∧ b2 < (h (i + 1)).length) → l1.blk ≠ l2.blk := by
      intro b1 b2 l1 l2 k1 k2 o1 o2 e1 e2 hk1 hk2 hl1 hl2 s1 s2 g1 g2 v1 i1 i2 hbk
      rw [hin1 i1] at e1
      rw [hout i2] at e2
      obtain ⟨_, heq⟩ := hnewSame b1 i1.1 i1.2 k1 hk1 hl1 s1
      rcases T.fresh b1 l1 e1 with q | ⟨_, q | ⟨b0, l0, o0, q1, q2, q3, q4⟩⟩
      · have := (rs_some.1 q).1; omega
      · have := I.blk b2 l2 e2; omega
      · obtain ⟨hr1, hg1⟩ := hmask b0 o0 q2 (EObj.live_of_wrt q3)
        obtain ⟨hlt1, e1'⟩ := rs_some.1 q1
        have q2' : (H ++ new)[b0]? = some o0 := by rw [List.getElem?_append_left (by omega)]; exact q2
        have g1' : (H ++ new)[b1]? = some o1 := by rw [← hgetNew b1 i1.1, ← heq]; exact g1
        have := hr2.inj b0 b1 l0 l1 o0 o1 (T.le _ _ q1) e1 q2' g1' q3 v1 q4
        omega
    by_cases i1 : (h i).length ≤ b1 ∧ b1 < (h (i + 1)).length <;> by_cases i2 : (h i).length ≤ b2 ∧ b2 < (h (i + 1)).length
    · rw [hin1 i1] at e1
      rw [hin1 i2] at e2
      obtain ⟨_, heq1⟩ := hnewSame b1 i1.1 i1.2 k1 hk1 hl1 s1
      obtain ⟨_, heq2⟩ := hnewSame b2 i2.1 i2.2 k2 hk2 hl2 s2
      exact hr2.inj b1 b2 l1 l2 o1 o2 e1 e2 (by rw [← hgetNew b1 i1.1, ← heq1]; exact g1) (by rw [← hgetNew b2 i2.1, ← heq2]; exact g2) v1 v2 hbk
    · exact absurd hbk (mixed b1 b2 l1 l2 k1 k2 o1 o2 e1 e2 hk1 hk2 hl1 hl2 s1 s2 g1 g2 (EObj.live_of_wrt v1) i1 i2)
    · exact absurd hbk.symm (mixed b2 b1 l2 l1 k2 k1 o2 o1 e2 e1 hk2 hk1 hl2 hl1 s2 s1 g2 g1 v2 i2 i1)
    · rw [hout i1] at e1
      rw [hout i2] at e2
      exact I.inj b1 b2 l1 l2 k1 k2 o1 o2 e1 e2 hk1 hk2 hl1 hl2 s1 s2 g1 g2 v1 v2 hbk
  · rw [Act.put_size]; exact I.size
  · rw [Act.put_defers]; exact I.ds.mono (rs_mono hle)
  · intro b0 loc e
    by_cases hb0 : (h i).length ≤ b0 ∧ b0 < (h (i + 1)).length
    · rw [hin1 hb0] at e
      rcases T.fresh b0 loc e with q | ⟨_, q | ⟨b1, l1, o1, q1, q2, q3, q4⟩⟩
      · have := (rs_some.1 q).1; omega
      · exact .inr ⟨by have := R.len (Nat.zero_le i) (by omega); omega, .inl (Nat.le_trans I.hsize q)⟩
      · exact .inr ⟨by have := R.len (Nat.zero_le i) (by omega); omega, q4 ▸ hown b1 l1 o1 q1 q2 q3⟩
    · rw [hout hb0] at e
      exact I.fresh b0 loc e
  · intro k0 hk0 hno
    rw [T.kept k0 (Nat.lt_of_lt_of_le hk0 I.hsize) fun b1 l1 o1 e1 g1 w1 hbk => hno (hbk ▸ hown b1 l1 o1 e1 g1 w1)]
    exact I.kept k0 hk0 hno

theorem Inv.loud (I : Inv P N ops f h ds φ0 w0 S m φ a w) (R : DRun P N ops f h J) (hd0 : ∀ b loc, φ0 b = some loc → b < (h 0).length) (hc : drawOk ops = true) {i : Nat} {o : Oper} (hi : ops[i]? = some o) (hS : ¬ S i) (hcl : Closed ops (fun j => S j ∨ j = i))
    (hk : opOk N o = true) (hq : isQuiet o.op = false) (hw : wantE N ops (f i) o = some true) {v : Value} (hf : f (i + 1) = setT (f i) o.dst v) (hx : XStep P (f i) (h i) o.op v (h (i + 1))) (b : Frame) (rest : List Nat) (k : List Item) (cs : List Frame) :
    ∃ φ' a' w', Inv P N ops f h ds φ0 w0 (fun j => S j ∨ j = i) (i + 1) φ' a' w' ∧ Steps P (lone (b.atR a (.inRegion ops (i :: rest) :: k)) cs w) (lone (b.atR a' (.inRegion ops rest :: k)) cs w') := by
  have hin := (Array.getElem?_eq_some_iff.1 hi).1
  have hax : actX N ops f i := ⟨o, hi, hq, hw⟩
  have hmi : m ≤ i := by
    rcases Nat.lt_or_ge i m with h1 | h1
    · exact absurd ((I.xs i hax).2 h1) hS
    · exact h1
  have noX : ∀ l, m ≤ l → l < i → ¬ actX N ops f l := by
    intro l h1 h2 hl
    obtain ⟨ol, hol, hql, hwl⟩ := hl
    cases ho : ordB (befores ops) l i with
    | true =>
      rcases closed_ord hcl (.inr rfl) ho with h' | h'
      · have := (I.xs l ⟨ol, hol, hql, hwl⟩).1 h'; omega
      · omega
    | false =>
      rcases (drawOk_pair hc h2 hol hi ho).2 with h' | h'
      · rw [hql] at h'; cases h'
      · rw [hq] at h'; cases h'
  have sameI : ∀ b0, same h i m b0 := fun b0 l hl hb0 => by
    rcases hl with h1 | h1
    · omega
    · exact R.pres (by omega) (noX l h1.1 h1.2) hb0
  let ψ := rs φ (h i).length
  have hrel : RelH ψ (h i) w := by
    refine ⟨fun b0 loc e => ?_, fun b1 b2 l1 l2 o1 o2 e1 e2 g1 g2 v1 v2 hbk => ?_⟩
    · obtain ⟨hlt, e1⟩ := rs_some.1 e
      obtain ⟨o1, g1, g2⟩ := I.obj b0 loc e1 i (by omega) hlt (sameI b0)
      exact ⟨o1, g1, I.blk _ _ e1, g2⟩
    · obtain ⟨hl1, e1'⟩ := rs_some.1 e1
      obtain ⟨hl2, e2'⟩ := rs_some.1 e2
      exact I.inj b1 b2 l1 l2 i i o1 o2 e1' e2' (by omega) (by omega) hl1 hl2 (sameI _) (sameI _) g1 g2 v1 v2 hbk
  obtain ⟨φ2, v', w', hv, hr2, T, hst⟩ := xstep_ok (b := b) (rest := rest) (k := k) (cs := cs) hx hi (I.want hc hi hS hcl hw) hrel (I.operand hc hi hS hcl hk)
  have hdom2 := hr2.dom
  have hL : (h i).length ≤ (h (i + 1)).length := R.len (by omega) (by omega)
  let φn : Phi := fun b0 => if b0 < (h (i + 1)).length then φ2 b0 else φ b0
  have hin1 : ∀ {b0}, b0 < (h (i + 1)).length → φn b0 = φ2 b0 := fun hb0 => if_pos hb0
  have hout : ∀ {b0}, ¬ b0 < (h (i + 1)).length → φn b0 = φ b0 := fun hb0 => if_neg hb0
  have hold : ∀ b0 loc, φ2 b0 = some loc → b0 < (h i).length → φ b0 = some loc := fun b0 loc e hlt => by
    rcases T.fresh b0 loc e with h1 | ⟨h1, _⟩
    · exact (rs_some.1 h1).2
    · omega
  have hle : Le φ φn := fun b0 loc e => by
    by_cases hb0 : b0 < (h (i + 1)).length
    · rw [hin1 hb0]
      have : b0 < (h i).length := by
        rcases Nat.lt_or_ge b0 (h i).length with h1 | h1
        · exact h1
        · exact absurd ⟨h1, hb0⟩ (I.apartDom R hin hS e)
      exact T.le _ _ (rs_some.2 ⟨this, e⟩)
    · rw [hout hb0]; exact e
  have hle2 : Le φ2 (rs φn (h (i + 1)).length) := fun b0 loc e => by
    have hlt := hdom2 b0 loc e
    exact rs_some.2 ⟨hlt, by rw [hin1 hlt]; exact e⟩
  have hrs2 : ∀ k0, k0 ≤ i → Le (rs φ (h k0).length) φ2 := fun k0 hk0 b0 loc e => by
    obtain ⟨h1, h2⟩ := rs_some.1 e
    exact T.le _ _ (rs_some.2 ⟨Nat.lt_of_lt_of_le h1 (R.len hk0 (by omega)), h2⟩)
  -- an old object, untouched since before, was so before
  have sameOld : ∀ b0 k0, k0 ≤ ops.size → b0 < (h k0).length → same h k0 (i + 1) b0 → (k0 ≤ i ∨ (h (i + 1)).length ≤ b0) → same h k0 m b0 := by
    intro b0 k0 hk0 hb0 hs hcase l hl hbl
    rcases hl with ⟨h1, h2⟩ | ⟨h1, h2⟩
    · exact hs l (.inl ⟨h1, by omega⟩) hbl
    · by_cases hli : l < i
      · exact R.pres (by omega) (noX l h1 hli) hbl
      · rcases hcase with h3 | h3
        · omega
        · by_cases he : l = i
          · subst he; omega
          · exact hs l (.inr ⟨by omega, h2⟩) hbl
  have hown : ∀ b1 l1 o1, ψ b1 = some l1 → (h i)[b1]? = some o1 → o1.wrt = true → Own φ0 (h 0) w0 l1.blk := fun b1 l1 o1 e1 g1 w1 => by
    obtain ⟨hlt1, e1'⟩ := rs_some.1 e1
    exact I.own R hd0 e1' (by omega) hlt1 (sameI _) g1 w1
  refine ⟨φn, a.put o.dst v', w', ?_, hst⟩
  refine { closed := hcl, xs := ?_, mle := by omega, lt := ?_, dom := ?_, blk := ?_, obj := ?_, inj := ?_, size := ?_, tms := I.tms_step R hc hi hS hle hf (hv.mono hle2), ds := ?_, le := I.le.trans hle, os := T.os.trans I.os, tape := T.tape.trans I.tape, output := T.output.trans I.output,
           hsize := Nat.le_trans I.hsize T.size, fresh := ?_, kept := ?_, turns := ?_, live := ?_, frz := fun k => (T.frz k).trans (I.frz k) }
  · intro j hj
    constructor
    · rintro (h' | rfl)
      · have := (I.xs j hj).1 h'; omega
      · omega
    · intro hlt
      by_cases he : j = i
      · exact .inr he
      · refine .inl ((I.xs j hj).2 ?_)
        rcases Nat.lt_or_ge j m with h1 | h1
        · exact h1
        · exact absurd hj (noX j h1 (by omega))
  · rintro j (h' | rfl)
    · exact I.lt j h'
    · exact hin
  · intro b0 loc e
    have old : φ b0 = some loc → b0 < (h 0).length ∨ ∃ j, (S j ∨ j = i) ∧ (h j).length ≤ b0 ∧ b0 < (h (j + 1)).length := fun e' => by
      rcases I.dom b0 loc e' with h1 | ⟨j, hj, h2⟩
      · exact .inl h1
      · exact .inr ⟨j, .inl hj, h2⟩
    by_cases hb0 : b0 < (h (i + 1)).length
    · rw [hin1 hb0] at e
      by_cases hb1 : b0 < (h i).length
      · exact old (hold _ _ e hb1)
      · exact .inr ⟨i, .inr rfl, by omega, hb0⟩
    · rw [hout hb0] at e; exact old e
  · intro b0 loc e
    by_cases hb0 : b0 < (h (i + 1)).length
    · rw [hin1 hb0] at e
      obtain ⟨_, _, g, _⟩ := hr2.obj b0 loc e
      exact g
    · rw [hout hb0] at e
      exact Nat.lt_of_lt_of_le (I.blk _ _ e) T.size
  · intro b0 loc e k0 hk0 hlt hs
    by_cases hb0 : b0 < (h (i + 1)).length
    · rw [hin1 hb0] at e
      obtain ⟨o2, g1, _, g3⟩ := hr2.obj b0 loc e
      have heq := same_eq R hk0 (by omega : i + 1 ≤ ops.size) hs same_refl hlt hb0
      rw [heq]
      refine ⟨o2, g1, ?_⟩
      by_cases hki : i + 1 ≤ k0
      · exact g3.mono (hle2.trans (rs_le (R.len hki hk0))) rfl
      · have hki' : k0 ≤ i := by omega
        have hb1 : b0 < (h i).length := Nat.lt_of_lt_of_le hlt (R.len hki' (by omega))
        obtain ⟨o0, q1, q2⟩ := I.obj b0 loc (hold _ _ e hb1) k0 hk0 hlt (sameOld b0 k0 hk0 hlt hs (.inl hki'))
        rw [heq, g1] at q1; cases q1
        exact (q2.down (hrs2 k0 hki') g3).mono (rs_mono hle) rfl
    · rw [hout hb0] at e
      have hs' := sameOld b0 k0 hk0 hlt hs (.inr (by omega))
      obtain ⟨o0, q1, q2⟩ := I.obj b0 loc e k0 hk0 hlt hs'
      refine ⟨o0, q1, ?_⟩
      cases hl : o0.live with
      | false => exact q2.of_dead hl
      | true =>
        refine q2.mono (rs_mono hle) (T.kept loc.blk (I.blk _ _ e) fun b1 l1 o1 e1 g1 w1 hbk => ?_)
        obtain ⟨hlt1, e1'⟩ := rs_some.1 e1
        have := I.inj b1 b0 l1 loc i k0 o1 o0 e1' e (by omega) hk0 hlt1 hlt (sameI _) hs' g1 q1 w1 hl hbk
        omega
  · intro b1 b2 l1 l2 k1 k2 o1 o2 e1 e2 hk1 hk2 hl1 hl2 s1 s2 g1 g2 v1 v2 hbk
    have mixed : ∀ b1 b2 l1 l2 k1 k2 o1 o2, φn b1 = some l1 → φn b2 = some l2 → k1 ≤ ops.size → k2 ≤ ops.size → b1 < (h k1).length → b2 < (h k2).length → same h k1 (i + 1) b1 → same h k2 (i + 1) b2 → (h k1)[b1]? = some o1 → (h k2)[b2]? = some o2 → (o1.wrt = true ∧ o2.live = true ∨ o1.live = true ∧ o2.wrt = true) →
        b1 < (h (i + 1)).length → ¬ b2 < (h (i + 1)).length → l1.blk ≠ l2.blk := by
      intro b1 b2 l1 l2 k1 k2 o1 o2 e1 e2 hk1 hk2 hl1 hl2 s1 s2 g1 g2 v i1 i2 hbk
      have v2 : o2.live = true := by
        rcases v with h1 | h1
        · exact h1.2
        · exact EObj.live_of_wrt h1.2
      rw [hin1 i1] at e1
      rw [hout i2] at e2
      have s2' := sameOld b2 k2 hk2 hl2 s2 (.inr (by omega))
      have heq := same_eq R hk1 (by omega : i + 1 ≤ ops.size) s1 same_refl hl1 i1
      rw [heq] at g1
      rcases T.fresh b1 l1 e1 with q | ⟨_, q | ⟨b0, l0, o0, q1, q2, q3, q4⟩⟩
      · obtain ⟨q1, q2⟩ := rs_some.1 q
        rcases v with ⟨h1, _⟩ | ⟨h1, h2⟩
        · obtain ⟨o1', p1, p2⟩ := T.turns b1 o1 g1 h1 q1
          have := I.inj b1 b2 l1 l2 i k2 o1' o2 q2 e2 (by omega) hk2 q1 hl2 (sameI _) s2' p1 g2 p2 v2 hbk
          omega
        · obtain ⟨o1', p1, p2⟩ := T.live b1 o1 g1 h1 q1
          have := I.inj b2 b1 l2 l1 k2 i o2 o1' e2 q2 hk2 (by omega) hl2 q1 s2' (sameI _) g2 p1 h2 p2 hbk.symm
          omega
      · have := I.blk b2 l2 e2; omega
      · obtain ⟨hlt0, e0⟩ := rs_some.1 q1
        have := I.inj b0 b2 l0 l2 i k2 o0 o2 e0 e2 (by omega) hk2 hlt0 hl2 (sameI _) s2' q2 g2 q3 v2 (by rw [q4]; exact hbk)
        omega
    by_cases i1 : b1 < (h (i + 1)).length <;> by_cases i2 : b2 < (h (i + 1)).length
    · rw [hin1 i1] at e1
      rw [hin1 i2] at e2
      rw [same_eq R hk1 (by omega : i + 1 ≤ ops.size) s1 same_refl hl1 i1] at g1
      rw [same_eq R hk2 (by omega : i + 1 ≤ ops.size) s2 same_refl hl2 i2] at g2
      exact hr2.inj b1 b2 l1 l2 o1 o2 e1 e2 g1 g2 v1 v2 hbk
    · exact absurd hbk (mixed b1 b2 l1 l2 k1 k2 o1 o2 e1 e2 hk1 hk2 hl1 hl2 s1 s2 g1 g2 (.inl ⟨v1, v2⟩) i1 i2)
    · exact absurd hbk.symm (mixed b2 b1 l2 l1 k2 k1 o2 o1 e2 e1 hk2 hk1 hl2 hl1 s2 s1 g2 g1 (.inr ⟨v2, v1⟩) i2 i1)
    · rw [hout i1] at e1
      rw [hout i2] at e2
      exact I.inj b1 b2 l1 l2 k1 k2 o1 o2 e1 e2 hk1 hk2 hl1 hl2 (sameOld b1 k1 hk1 hl1 s1 (.inr (by omega))) (sameOld b2 k2 hk2 hl2 s2 (.inr (by omega))) g1 g2 v1 v2 hbk
  · rw [Act.put_size]; exact I.size
  · rw [Act.put_defers]; exact I.ds.mono (rs_mono hle)
  · intro b0 loc e
    by_cases hb0 : b0 < (h (i + 1)).length
    · rw [hin1 hb0] at e
      rcases T.fresh b0 loc e with q | ⟨h1, q | ⟨b1, l1, o1, q1, q2, q3, q4⟩⟩
      · exact I.fresh b0 loc (rs_some.1 q).2
      · exact .inr ⟨by have := R.len (Nat.zero_le i) (by omega); omega, .inl (Nat.le_trans I.hsize q)⟩
      · exact .inr ⟨by have := R.len (Nat.zero_le i) (by omega); omega, q4 ▸ hown b1 l1 o1 q1 q2 q3⟩
    · rw [hout hb0] at e
      exact I.fresh b0 loc e
  · intro k0 hk0 hno
    rw [T.kept k0 (Nat.lt_of_lt_of_le hk0 I.hsize) fun b1 l1 o1 e1 g1 w1 hbk => hno (hbk ▸ hown b1 l1 o1 e1 g1 w1)]
    exact I.kept k0 hk0 hno
  · intro b0 o' hb0 ho' hw'
    have hbi := Nat.lt_of_lt_of_le hb0 (R.len (Nat.zero_le i) (by omega))
    obtain ⟨o1, q1, q2⟩ := T.turns b0 o' ho' hw' hbi
    have hbm := Nat.lt_of_lt_of_le hb0 (R.len (Nat.zero_le m) I.mle)
    rw [same_eq R (by omega : i ≤ ops.size) I.mle (sameI b0) same_refl hbi hbm] at q1
    exact I.turns b0 o1 hb0 q1 q2
  · intro b0 o' hb0 ho' hw'
    have hbi := Nat.lt_of_lt_of_le hb0 (R.len (Nat.zero_le i) (by omega))
    obtain ⟨o1, q1, q2⟩ := T.live b0 o' ho' hw' hbi
    have hbm := Nat.lt_of_lt_of_le hb0 (R.len (Nat.zero_le m) I.mle)
    rw [same_eq R (by omega : i ≤ ops.size) I.mle (sameI b0) same_refl hbi hbm] at q1
    exact I.live b0 o1 hb0 q1 q2

theorem Sched.closed {S : Nat → Prop} {i : Nat} (hcl : Closed ops S) (hs : ∀ o, ops[i]? = some o → ∀ e ∈ o.after.toList, Region.binds .any e = true → S e.on) : Closed ops (fun j => S j ∨ j = i) := by
  rintro j (hj | rfl) o ho e he hb
  · exact .inl (hcl j hj o ho e he hb)
  · exact .inl (hs o ho e he hb)

def RunTo (P : Program) (N : Nat) (ops : Array Oper) (f : Nat → Nat → Value) (h : Nat → EH) (J : Option Nat) (ds : List Deferred) (φ0 : Phi) (w0 : World) (b : Frame) (k : List Item) (cs : List Frame) (M : Machine) : Prop :=
  (∃ S' m' φ' a' w', (∀ i, i < ops.size → S' i) ∧ (∀ j, J = some j → ¬ S' j) ∧ Inv P N ops f h ds φ0 w0 S' m' φ' a' w' ∧ Steps P M (lone (b.atR a' k) cs w')) ∨
  (∃ j S' m' φ' a' w' rest, J = some j ∧ j < ops.size ∧ ¬ S' j ∧ Closed ops (fun i => S' i ∨ i = j) ∧ Inv P N ops f h ds φ0 w0 S' m' φ' a' w' ∧ Steps P M (lone (b.atR a' (.inRegion ops (j :: rest) :: k)) cs w'))

theorem RunTo.after {b : Frame} {k : List Item} {cs : List Frame} {M M' : Machine} (s : Steps P M M') (r : RunTo P N ops f h J ds φ0 w0 b k cs M') : RunTo P N ops f h J ds φ0 w0 b k cs M := by
  rcases r with ⟨S', m', φ', a', w', g1, g2, g3, g4⟩ | ⟨j, S', m', φ', a', w', rest, g1, g2, g3, g4, g5, g6⟩
  · exact .inl ⟨S', m', φ', a', w', g1, g2, g3, s.trans g4⟩
  · exact .inr ⟨j, S', m', φ', a', w', rest, g1, g2, g3, g4, g5, s.trans g6⟩

theorem Inv.run (R : DRun P N ops f h J) (hd0 : ∀ b loc, φ0 b = some loc → b < (h 0).length) (hc : drawOk ops = true) (b : Frame) (k : List Item) (cs : List Frame) : ∀ (l : List Nat) {S : Nat → Prop} {m : Nat} {φ : Phi} {a : Act} {w : World},
    Inv P N ops f h ds φ0 w0 S m φ a w → (∀ j, J = some j → ¬ S j) → Sched ops S l → RunTo P N ops f h J ds φ0 w0 b k cs (lone (b.atR a (.inRegion ops l :: k)) cs w)
  | [], S, m, φ, a, w, I, hJ, hs => .inl ⟨S, m, φ, a, w, hs, hJ, I, .one stepR_region_end⟩
  | i :: l, S, m, φ, a, w, I, hJ, ⟨s1, s2, s3, s4⟩ => by
    have hi := Array.getElem?_eq_getElem s1
    have hcl := Sched.closed I.closed s3
    by_cases hji : J = some i
    · exact .inr ⟨i, S, m, φ, a, w, l, hji, s1, s2, hcl, I, .refl _ _⟩
    · have hJ' : ∀ j, J = some j → ¬ (S j ∨ j = i) := fun j hj h' => h'.elim (hJ j hj) (fun e => hji (e ▸ hj))
      have on : ∀ {φ1 : Phi} {a1 : Act} {w1 : World} {m1 : Nat}, Inv P N ops f h ds φ0 w0 (fun j => S j ∨ j = i) m1 φ1 a1 w1 → Steps P (lone (b.atR a (.inRegion ops (i :: l) :: k)) cs w) (lone (b.atR a1 (.inRegion ops l :: k)) cs w1) →
          RunTo P N ops f h J ds φ0 w0 b k cs (lone (b.atR a (.inRegion ops (i :: l) :: k)) cs w) := fun I1 st1 => (Inv.run R hd0 hc b k cs l I1 hJ' s4).after st1
      obtain ⟨hk, v, hf, _, hcase⟩ := R.step i _ hi
      rcases hcase with ⟨hw, rfl, _⟩ | ⟨hw, hq, he⟩ | ⟨hw, hq, hx⟩ | ⟨j, hj1, hj2, hj3, _⟩ | ⟨hj, _⟩
      · refine on (I.skip R hc hi s2 hcl hw hf) (.one ?_)
        have hwt := I.want hc hi s2 hcl hw
        have hstep := stepR_op_skip (P := P) (b := b) (a := a) (k := k) (cs := cs) (w := w) (ops := ops) (i := i) (rest := l) (by simp [hi, hwt])
        simpa only [hi, Option.bind_some] using hstep
      · obtain ⟨φ1, a1, w1, I1, st1⟩ := I.quiet R hd0 hc hi s2 hcl hk hq hw hf he b l k cs
        exact on I1 st1
      · obtain ⟨φ1, a1, w1, I1, st1⟩ := I.loud R hd0 hc hi s2 hcl hk hq hw hf hx b l k cs
        exact on I1 st1
      · rcases closed_ord hcl (.inr rfl) hj3 with h' | h'
        · exact absurd h' (hJ j hj1)
        · omega
      · exact absurd hj hji

theorem Inv.start (R : DRun P N ops f h J) {rc : Option (Value × Bool)} (hr1 : RelH φ (h 0) (drewW w)) (ha : ActRel φ N { f := f 0, ds := ds, h := h 0, rc := rc } a) : Inv P N ops f h ds φ (drewW w) (fun _ => False) 0 φ a (drewW w) := by
  have hd0 := hr1.dom
  have rs0 : ∀ k0, k0 ≤ ops.size → Le φ (rs φ (h k0).length) := fun k0 hk0 b0 loc e => rs_some.2 ⟨Nat.lt_of_lt_of_le (hd0 _ _ e) (R.len (Nat.zero_le _) hk0), e⟩
  have sm : ∀ b0 k0, b0 < (h 0).length → k0 ≤ ops.size → same h k0 0 b0 → (h k0)[b0]? = (h 0)[b0]? := fun b0 k0 hb0 hk0 hs => same_eq R hk0 (Nat.zero_le _) hs same_refl (Nat.lt_of_lt_of_le hb0 (R.len (Nat.zero_le _) hk0)) hb0
  refine { closed := fun _ h' => h'.elim, xs := fun i _ => ⟨fun h' => h'.elim, fun h' => by omega⟩, mle := Nat.zero_le _, lt := fun _ h' => h'.elim, dom := fun b0 loc e => .inl (hd0 _ _ e), blk := ?_, obj := ?_, inj := ?_, size := ha.size, tms := ?_, ds := ha.ds.mono (rs0 0 (Nat.zero_le _)),
           le := .refl φ, os := rfl, tape := rfl, output := rfl, hsize := Nat.le_refl _, fresh := fun _ _ e => .inl e, kept := fun _ _ _ => rfl, turns := fun _ o' _ e m => ⟨o', e, m⟩, live := fun _ o' _ e m => ⟨o', e, m⟩, frz := fun _ => rfl }
  · intro b0 loc e
    obtain ⟨_, _, g, _⟩ := hr1.obj b0 loc e
    exact g
  · intro b0 loc e k0 hk0 hlt hs
    obtain ⟨o, g1, _, g3⟩ := hr1.obj b0 loc e
    exact ⟨o, by rw [sm b0 k0 (hd0 _ _ e) hk0 hs]; exact g1, g3.mono (rs0 k0 hk0) rfl⟩
  · intro b1 b2 l1 l2 k1 k2 o1 o2 e1 e2 hk1 hk2 _ _ s1 s2 g1 g2 v1 v2 hbk
    rw [sm b1 k1 (hd0 _ _ e1) hk1 s1] at g1
    rw [sm b2 k2 (hd0 _ _ e2) hk2 s2] at g2
    exact hr1.inj b1 b2 l1 l2 o1 o2 e1 e2 g1 g2 v1 v2 hbk
  · intro t ht k0 hk0 hcond
    have hstay : ∀ l, l ≤ k0 → f l t = f 0 t := by
      intro l hl
      induction l with
      | zero => rfl
      | succ l ih =>
        have hol := Array.getElem?_eq_getElem (show l < ops.size by omega)
        obtain ⟨_, u, hu, _⟩ := R.step l _ hol
        rw [hu, setT_ne, ih (by omega)]
        intro hd
        exact (hcond l _ hol hd).2 (by omega)
    rw [hstay k0 (Nat.le_refl _)]
    exact (ha.tmps t ht).mono (rs0 k0 hk0)

theorem sched_start (hm : P.follows .mixedOrders = true) (hedges : edgesOk ops = true) (t : Nat) : Sched ops (fun _ => False) (Region.schedule (P.follows .mixedOrders) ops t) := by
  simp only [Region.schedule, hm, Bool.true_or, if_true]
  have := linearise_sched hedges ops.size t (Array.replicate ops.size false) (by simp) (by simp [List.countP_replicate])
  refine Sched.congr (fun i hi => by simp [Array.getD, hi]) (fun o ho e he' hb => ?_) this
  obtain ⟨j, hj, rfl⟩ := List.getElem_of_mem ho
  have hj' : j < ops.size := by simpa using hj
  have := edgesOk_spec hedges (j := j) (o := ops.toList[j]) (by simp [hj']) he' hb
  omega

theorem snd_draw {ro : Option Nat} {id : Nat} {rc : Option (Value × Bool)} (hm : P.follows .mixedOrders = true) (hc : drawOk ops = true) (R : DRun P N ops f h none) :
    SndCode P N ro (.region id ops true) { f := f 0, ds := ds, h := h 0, rc := rc } .normal { f := f ops.size, ds := ds, h := h ops.size, rc := rc } := by
  intro φ b k base a w rc0 hr ha hrc he
  obtain ⟨hr1, ht1⟩ := hr.drew
  have hd0 := hr.dom
  have hedges : edgesOk ops = true := by simp only [drawOk, Bool.and_eq_true] at hc; exact hc.1
  have I0 : Inv P N ops f h ds φ (drewW w) (fun _ => False) 0 φ a (drewW w) := Inv.start R hr1 ha
  have hsch := sched_start (ops := ops) hm hedges (w.tape w.drawn (.order b.fn id))
  obtain ⟨S', m', φ', a', w', hall, _, I, hst⟩ | ⟨j, _, _, _, _, _, _, hj, _⟩ := Inv.run R hd0 hc b k (mkCs base rc0) _ I0 (fun _ hj => by cases hj) hsch
  rotate_left
  · cases hj
  have hnoX : ∀ l, m' ≤ l → l < ops.size → ¬ actX N ops f l := fun l h1 h2 hx => by
    have := (I.xs l hx).1 (hall l h2); omega
  have sameN : ∀ b0, same h ops.size m' b0 := fun b0 l hl hb0 => by
    rcases hl with h1 | h1
    · have := I.mle; omega
    · exact R.pres h1.2 (hnoX l h1.1 h1.2) hb0
  have hdomN : ∀ b0 loc, φ' b0 = some loc → b0 < (h ops.size).length := fun b0 loc e => by
    rcases I.dom b0 loc e with h1 | ⟨j, hj, _, h2⟩
    · exact Nat.lt_of_lt_of_le h1 (R.len (Nat.zero_le _) (Nat.le_refl _))
    · exact Nat.lt_of_lt_of_le h2 (R.len (I.lt j hj) (Nat.le_refl _))
  have hrsN : Le (rs φ' (h ops.size).length) φ' := rs_sub
  have hfin : RelH φ' (h ops.size) w' := by
    refine ⟨fun b0 loc e => ?_, fun b1 b2 l1 l2 o1 o2 e1 e2 g1 g2 v1 v2 hbk => ?_⟩
    · obtain ⟨o, g1, g2⟩ := I.obj b0 loc e ops.size (Nat.le_refl _) (hdomN _ _ e) (sameN _)
      exact ⟨o, g1, I.blk _ _ e, g2.mono hrsN rfl⟩
    · exact I.inj b1 b2 l1 l2 _ _ o1 o2 e1 e2 (Nat.le_refl _) (Nat.le_refl _) (hdomN _ _ e1) (hdomN _ _ e2) (sameN _) (sameN _) g1 g2 v1 v2 hbk
  have hT : Tr φ (h 0) (drewW w) φ' (h ops.size) w' := by
    refine { le := I.le, dom := hd0, os := I.os, tape := I.tape, output := I.output, size := I.hsize, len := R.len (Nat.zero_le _) (Nat.le_refl _), fresh := ?_, turns := ?_, kept := ?_, live := ?_, frz := I.frz }
    · intro b0 loc e
      rcases I.fresh b0 loc e with h1 | ⟨h1, h2⟩
      · exact .inl h1
      · exact .inr ⟨h1, h2⟩
    · intro b0 o' e hw' hb0
      have hbm := Nat.lt_of_lt_of_le hb0 (R.len (Nat.zero_le m') I.mle)
      rw [same_eq R (Nat.le_refl _) I.mle (sameN b0) same_refl (Nat.lt_of_lt_of_le hb0 (R.len (Nat.zero_le _) (Nat.le_refl _))) hbm] at e
      exact I.turns b0 o' hb0 e hw'
    · intro k0 hk0 hno
      refine I.kept k0 hk0 ?_
      rintro (h1 | ⟨b0, l0, o0, h1, h2, h3, h4⟩)
      · omega
      · exact hno b0 l0 o0 h1 h2 h3 h4
    · intro b0 o' e hw' hb0
      have hbm := Nat.lt_of_lt_of_le hb0 (R.len (Nat.zero_le m') I.mle)
      rw [same_eq R (Nat.le_refl _) I.mle (sameN b0) same_refl (Nat.lt_of_lt_of_le hb0 (R.len (Nat.zero_le _) (Nat.le_refl _))) hbm] at e
      exact I.live b0 o' hb0 e hw'
  refine ⟨φ', .normal, a', w', rc0, trivial, hfin, ht1.trans hT, ⟨I.size, fun t ht => ?_, I.ds.mono rs_sub⟩, hrc.mono I.le, rfl, .head stepR_region_draw hst⟩
  refine (I.tms t ht ops.size (Nat.le_refl _) fun j o hj _ => ?_).mono hrsN
  have := (Array.getElem?_eq_some_iff.1 hj).1
  exact ⟨fun _ => this, fun _ => hall j this⟩

def panicF (ops : Array Oper) (f : Nat → Value) : Nat → Value := fun t => if ops.toList.any (fun o => o.dst == some t) then .chan none else f t

theorem snd_draw_panic {ro : Option Nat} {id : Nat} {rc : Option (Value × Bool)} {j : Nat} {o : Oper} {g : FuncId} {args : Array Value} {v : Value} {h' : EH} (hm : P.follows .mixedOrders = true) (hc : drawOk ops = true) (R : DRun P N ops f h (some j))
    (hj : ops[j]? = some o) (hk : opOk N o = true) (hw : wantE N ops (f j) o = some true) (hq : isQuiet o.op = false) (e : callee (f j) o.op = some (g, args)) (hf : fnOk P g = true) (hs : SndFn P g args (h j) (.pan v) h') :
    SndCode P N ro (.region id ops true) { f := f 0, ds := ds, h := h 0, rc := rc } (.panic v) { f := panicF ops (f 0), ds := ds, h := h', rc := rc } := by
  intro φ b k base a w rc0 hr ha hrc he
  obtain ⟨hr1, ht1⟩ := hr.drew
  have hd0 := hr.dom
  have hedges : edgesOk ops = true := by simp only [drawOk, Bool.and_eq_true] at hc; exact hc.1
  have I0 : Inv P N ops f h ds φ (drewW w) (fun _ => False) 0 φ a (drewW w) := Inv.start R hr1 ha
  have hsch := sched_start (ops := ops) hm hedges (w.tape w.drawn (.order b.fn id))
  rcases Inv.run R hd0 hc b k (mkCs base rc0) _ I0 (fun _ _ h' => h') hsch with ⟨S', m', φ', a', w', hall, hno, _, _⟩ | ⟨j', S, m, φ', a', w', rest, hj', hjl, hS, hcl, I, hst⟩
  · exact absurd (hall j (Array.getElem?_eq_some_iff.1 hj).1) (hno j rfl)
  · cases hj'
    have hax : actX N ops f j := ⟨o, hj, hq, hw⟩
    have hmi : m ≤ j := by
      rcases Nat.lt_or_ge j m with h1 | h1
      · exact absurd ((I.xs j hax).2 h1) hS
      · exact h1
    have noX : ∀ l, m ≤ l → l < j → ¬ actX N ops f l := by
      intro l h1 h2 hl
      obtain ⟨ol, hol, hql, hwl⟩ := hl
      cases ho : ordB (befores ops) l j with
      | true =>
        rcases closed_ord hcl (.inr rfl) ho with h' | h'
        · have := (I.xs l ⟨ol, hol, hql, hwl⟩).1 h'; omega
        · omega
      | false =>
        rcases (drawOk_pair hc h2 hol hj ho).2 with h' | h'
        · rw [hql] at h'; cases h'
        · rw [hq] at h'; cases h'
    have sameI : ∀ b0, same h j m b0 := fun b0 l hl hb0 => by
      rcases hl with h1 | h1
      · omega
      · exact R.pres (by omega) (noX l h1.1 h1.2) hb0
    have hrel : RelH (rs φ' (h j).length) (h j) w' := by
      refine ⟨fun b0 loc e => ?_, fun b1 b2 l1 l2 o1 o2 e1 e2 g1 g2 v1 v2 hbk => ?_⟩
      · obtain ⟨hlt, e1⟩ := rs_some.1 e
        obtain ⟨o1, g1, g2⟩ := I.obj b0 loc e1 j (by omega) hlt (sameI b0)
        exact ⟨o1, g1, I.blk _ _ e1, g2⟩
      · obtain ⟨hl1, e1'⟩ := rs_some.1 e1
        obtain ⟨hl2, e2'⟩ := rs_some.1 e2
        exact I.inj b1 b2 l1 l2 j j o1 o2 e1' e2' (by omega) (by omega) hl1 hl2 (sameI _) (sameI _) g1 g2 v1 v2 hbk
    have hL0 := R.len (Nat.zero_le j) (by omega)
    obtain ⟨hnd, args', hargs, hrun⟩ := callee_run2 (w := w') (I.operand hc hj hS hcl hk) e hf
    obtain ⟨φ2, w2, fr, hr2, T, hst2, hfn, v', hv, hl⟩ := hs (rs φ' (h j).length) args' w' (b.atR a' (.inRegion ops (j :: rest) :: k) :: mkCs base rc0) hrel hargs
    have hup : Le (rs φ' (h 0).length) φ2 := (rs_le hL0).trans T.le
    have hle : Le φ φ2 := fun b0 loc e0 => hup _ _ (rs_some.2 ⟨hd0 _ _ e0, I.le _ _ e0⟩)
    have hown : ∀ b1 l1 o1, rs φ' (h j).length b1 = some l1 → (h j)[b1]? = some o1 → o1.wrt = true → Own φ (h 0) (drewW w) l1.blk := fun b1 l1 o1 e1 g1 w1 => by
      obtain ⟨hlt1, e1'⟩ := rs_some.1 e1
      exact I.own R hd0 e1' (by omega) hlt1 (sameI _) g1 w1
    have atM : ∀ b0, b0 < (h 0).length → (h j)[b0]? = (h m)[b0]? := fun b0 hb0 =>
      same_eq R (by omega) I.mle (sameI b0) same_refl (Nat.lt_of_lt_of_le hb0 hL0) (Nat.lt_of_lt_of_le hb0 (R.len (Nat.zero_le m) I.mle))
    have hT : Tr φ (h 0) (drewW w) φ2 h' w2 := by
      refine { le := hle, dom := hd0, os := T.os.trans I.os, tape := T.tape.trans I.tape, output := T.output.trans I.output, size := Nat.le_trans I.hsize T.size, len := Nat.le_trans hL0 T.len, fresh := ?_, turns := ?_, kept := ?_, live := ?_, frz := fun k => (T.frz k).trans (I.frz k) }
      · intro b0 loc e0
        rcases T.fresh b0 loc e0 with q | ⟨h1, q | ⟨b1, l1, o1, q1, q2, q3, q4⟩⟩
        · exact I.fresh b0 loc (rs_some.1 q).2
        · exact .inr ⟨by omega, .inl (Nat.le_trans I.hsize q)⟩
        · have := hown b1 l1 o1 q1 q2 q3
          rw [q4] at this
          exact .inr ⟨by omega, this⟩
      · intro b0 o' e0 hw' hb0
        obtain ⟨o1, q1, q2⟩ := T.turns b0 o' e0 hw' (Nat.lt_of_lt_of_le hb0 hL0)
        rw [atM b0 hb0] at q1
        exact I.turns b0 o1 hb0 q1 q2
      · intro k0 hk0 hno
        have hn : ¬ Own φ (h 0) (drewW w) k0 := by
          rintro (h1 | ⟨b0, l0, o0, h1, h2, h3, h4⟩)
          · omega
          · exact hno b0 l0 o0 h1 h2 h3 h4
        rw [T.kept k0 (Nat.lt_of_lt_of_le hk0 I.hsize) fun b1 l1 o1 e1 g1 w1 hbk => hn (hbk ▸ hown b1 l1 o1 e1 g1 w1)]
        exact I.kept k0 hk0 hn
      · intro b0 o' e0 hw' hb0
        obtain ⟨o1, q1, q2⟩ := T.live b0 o' e0 hw' (Nat.lt_of_lt_of_le hb0 hL0)
        rw [atM b0 hb0] at q1
        exact I.live b0 o1 hb0 q1 q2
    have hwt := I.want hc hj hS hcl hw
    have hg := stepGR_op (P := P) (b := b) (k := k) (cs := mkCs base rc0) (w := w') (rest := rest) hj hwt
    rw [Oper.semAt_eq _ _ _ hnd] at hg
    have henter : step P (lone (b.atR a' (.inRegion ops (j :: rest) :: k)) (mkCs base rc0) w') =
        .next (lone (Frame.enter P g args' .normal) (b.atR a' (.inRegion ops (j :: rest) :: k) :: mkCs base rc0) w') :=
      step_lone_go (by rw [hg]; simp [stepG.apply, hrun, Frame.atR])
    refine ⟨φ2, .panic v', a', w2, rc0, hv, hr2, ht1.trans hT, ⟨I.size, fun t ht => ?_, I.ds.mono hup⟩, hrc.mono hle, rfl, .inRegion ops (j :: rest) :: k, rfl, ?_⟩
    · show VRel φ2 (panicF ops (f 0) t) _
      unfold panicF
      split
      · exact .unk
      · rename_i hnot
        refine (I.tms t ht 0 (Nat.zero_le _) fun i oi hi hd => ?_).mono hup
        exfalso
        apply hnot
        rw [List.any_eq_true]
        exact ⟨oi, by have := Array.mem_of_getElem? hi; simpa using this, by simp [hd]⟩
    · rw [← Frame.raise_atR]
      exact .head stepR_region_draw (hst.trans (.head henter (hst2.trans (.one (step_leave_panicked hl)))))
end
end Go.E
namespace Go.E
open Go

def W (P : Program) (N : Nat) (ro : Option Nat) (c : Code) (st : St) (Q : Ex → St → Prop) : Prop := ∃ ex st', SndCode P N ro c st ex st' ∧ Q ex st'

def WO (P : Program) (N : Nat) (ro : Option Nat) (ops : Array Oper) (i : Nat) (st : St) (Q : Ex → St → Prop) : Prop :=
  ∃ ex st', SndOps P N ro ops ((List.range (ops.size - i)).map (· + i)) st ex st' ∧ Q ex st'

def WF (P : Program) (g : FuncId) (args : Array Value) (h : EH) (Q : Out → EH → Prop) : Prop := ∃ out h', SndFn P g args h out h' ∧ Q out h'

section
variable {P : Program} {N : Nat} {ro : Option Nat} {st : St} {Q : Ex → St → Prop}

theorem W.mono {c : Code} {Q' : Ex → St → Prop} (h : W P N ro c st Q) (hq : ∀ ex st, Q ex st → Q' ex st) : W P N ro c st Q' :=
  let ⟨ex, st', s, q⟩ := h; ⟨ex, st', s, hq _ _ q⟩

theorem WF.mono {g : FuncId} {args : Array Value} {h : EH} {Q Q' : Out → EH → Prop} (w : WF P g args h Q) (hq : ∀ o h', Q o h' → Q' o h') : WF P g args h Q' :=
  let ⟨o, h', s, q⟩ := w; ⟨o, h', s, hq _ _ q⟩

theorem W.skip (q : Q .normal st) : W P N ro .skip st Q := ⟨_, _, snd_skip, q⟩
theorem W.label {l : Nat} (q : Q .normal st) : W P N ro (.label l) st Q := ⟨_, _, snd_label, q⟩
theorem W.exit {id : Nat} (q : Q (.exit id) st) : W P N ro (.exit id) st Q := ⟨_, _, snd_exit, q⟩
theorem W.ret (q : Q .ret st) : W P N ro .ret st Q := ⟨_, _, snd_ret, q⟩

def onward (K : St → Prop) (Q : Ex → St → Prop) : Ex → St → Prop
  | .normal, st => K st
  | ex, st => Q ex st

theorem W.seq {c d : Code} (h : W P N ro c st (onward (fun st' => W P N ro d st' Q) Q)) : W P N ro (.seq c d) st Q := by
  obtain ⟨ex, st₁, s, q⟩ := h
  cases ex with
  | normal =>
    obtain ⟨ex, st₂, s2, q2⟩ := q
    exact ⟨ex, st₂, snd_seq s s2, q2⟩
  | exit id => exact ⟨_, _, snd_seq_out (by simp) s, q⟩
  | ret => exact ⟨_, _, snd_seq_out (by simp) s, q⟩
  | panic v => exact ⟨_, _, snd_seq_out (by simp) s, q⟩

theorem W.cond {x : Operand} {c d : Code} {t : Bool} (ho : opdOk N x = true) (hx : ev st.f x = .bool t) (h1 : t = true → W P N ro c st Q) (h2 : t = false → W P N ro d st Q) : W P N ro (.cond x c d) st Q := by
  cases t with
  | true =>
    obtain ⟨ex, st', s, q⟩ := h1 rfl
    exact ⟨ex, st', snd_cond ho hx s, q⟩
  | false =>
    obtain ⟨ex, st', s, q⟩ := h2 rfl
    exact ⟨ex, st', snd_cond ho hx s, q⟩

def outside (id : Nat) (Q : Ex → St → Prop) : Ex → St → Prop
  | .exit i, st => if i = id then Q .normal st else Q (.exit i) st
  | ex, st => Q ex st

theorem W.block {id : Nat} {c : Code} (h : W P N ro c st (outside id Q)) : W P N ro (.block id c) st Q := by
  obtain ⟨ex, st', s, q⟩ := h
  refine ⟨_, _, snd_block s, ?_⟩
  cases ex with
  | exit i =>
    simp only [outside] at q
    by_cases hi : i = id
    · rw [show Ex.outOf id (.exit i) = .normal from if_pos hi]; rwa [if_pos hi] at q
    · rw [show Ex.outOf id (.exit i) = .exit i from if_neg hi]; rwa [if_neg hi] at q
  | normal => exact q
  | ret => exact q
  | panic v => exact q

theorem W.loop {c : Code} (I : St → Prop) (μ : St → Nat) (h0 : I st) (round : ∀ st, I st → W P N ro c st (onward (fun st' => I st' ∧ μ st' < μ st) Q)) : W P N ro (.loop c) st Q := by
  have key : ∀ n st, μ st = n → I st → ∃ ex st', SndHead P N ro c st ex st' ∧ Q ex st' := by
    intro n
    induction n using Nat.strongRecOn with
    | _ n ih =>
      intro st hn hI
      obtain ⟨ex, st₁, s, q⟩ := round st hI
      cases ex with
      | normal =>
        obtain ⟨hI1, hlt⟩ := q
        obtain ⟨ex, st₂, s2, q2⟩ := ih (μ st₁) (by omega) st₁ rfl hI1
        exact ⟨ex, st₂, head_next s s2, q2⟩
      | exit id => exact ⟨_, _, head_out (by simp) s, q⟩
      | ret => exact ⟨_, _, head_out (by simp) s, q⟩
      | panic v => exact ⟨_, _, head_out (by simp) s, q⟩
  obtain ⟨ex, st', s, q⟩ := key _ st rfl h0
  exact ⟨ex, st', snd_loop s, q⟩

theorem W.region {id : Nat} {ops : Array Oper} (h : WO P N ro ops 0 st Q) : W P N ro (.region id ops false) st Q := by
  obtain ⟨ex, st', s, q⟩ := h
  refine ⟨ex, st', snd_region ?_, q⟩
  simpa using s

variable {ops : Array Oper} {i : Nat}

theorem range_from {n i : Nat} (h : i < n) : (List.range (n - i)).map (· + i) = i :: (List.range (n - (i + 1))).map (· + (i + 1)) := by
  have : n - i = (n - (i + 1)) + 1 := by omega
  rw [this, List.range_succ_eq_map]
  simp only [List.map_cons, List.map_map, Nat.zero_add, List.cons.injEq, true_and]
  apply List.map_congr_left
  intro a _
  simp only [Function.comp]
  omega

theorem WO.done (hi : ops.size = i) (q : Q .normal st) : WO P N ro ops i st Q := by
  subst hi
  refine ⟨_, _, ?_, q⟩
  simp only [Nat.sub_self]
  exact ops_nil

theorem WO.skip {o : Oper} (hi : ops[i]? = some o) (hw : wantE N ops st.f o = some false) (h : WO P N ro ops (i + 1) (st.put o.dst undef st.h) Q) : WO P N ro ops i st Q := by
  obtain ⟨ex, st', s, q⟩ := h
  refine ⟨ex, st', ?_, q⟩
  rw [range_from (Array.getElem?_eq_some_iff.1 hi).1]
  exact ops_skip hi hw s

theorem WO.step {o : Oper} {st₁ : St} (hi : ops[i]? = some o) (hw : wantE N ops st.f o = some true) (h1 : SndOp P N ro o st .normal st₁) (h : WO P N ro ops (i + 1) st₁ Q) : WO P N ro ops i st Q := by
  obtain ⟨ex, st', s, q⟩ := h
  refine ⟨ex, st', ?_, q⟩
  rw [range_from (Array.getElem?_eq_some_iff.1 hi).1]
  exact ops_cons hi hw h1 s

theorem WO.out {o : Oper} {st₁ : St} {ex : Ex} (hi : ops[i]? = some o) (hw : wantE N ops st.f o = some true) (h1 : SndOp P N ro o st ex st₁) (hn : ex ≠ .normal) (q : Q ex st₁) : WO P N ro ops i st Q := by
  refine ⟨ex, st₁, ?_, q⟩
  rw [range_from (Array.getElem?_eq_some_iff.1 hi).1]
  exact ops_out hi hw h1 hn

theorem WO.op {o : Oper} {v : Value} {h' : EH} (hi : ops[i]? = some o) (hw : wantE N ops st.f o = some true) (hk : opOk N o = true) (e : estep P o.op (ev st.f) st.h = some (v, h')) (h : WO P N ro ops (i + 1) (st.put o.dst v h') Q) : WO P N ro ops i st Q :=
  .step hi hw (snd_simple hk e) h

def backTo (K : Value → EH → Prop) (R : Value → EH → Prop) : Out → EH → Prop
  | .ret v, h => K v h
  | .pan v, h => R v h

theorem WO.call {o : Oper} {g : FuncId} {args : Array Value} (hi : ops[i]? = some o) (hw : wantE N ops st.f o = some true) (hk : opOk N o = true) (e : callee st.f o.op = some (g, args)) (hf : fnOk P g = true)
    (h : WF P g args st.h (backTo (fun v h' => WO P N ro ops (i + 1) (st.put o.dst v h') Q) (fun v h' => Q (.panic v) { st with h := h' }))) : WO P N ro ops i st Q := by
  obtain ⟨out, h', s, q⟩ := h
  cases out with
  | ret v => exact .step hi hw (snd_call hk e hf s) q
  | pan v => exact .out hi hw (snd_call_panic hk e hf s) (by simp) q

theorem WO.panic {o : Oper} {x : Operand} {t : TypeId} {u : Value} (hi : ops[i]? = some o) (hw : wantE N ops st.f o = some true) (hk : opOk N o = true) (ho : o.op = .panic x) (hx : ev st.f x = .iface t u) (q : Q (.panic (.iface t u)) st) : WO P N ro ops i st Q :=
  .out hi hw (snd_panic hk ho hx) (by simp) q

theorem WO.defer {o : Oper} {c : Call} {x : Operand} {fn : Fn} {fs cs : Array Value} (hi : ops[i]? = some o) (hw : wantE N ops st.f o = some true) (hk : opOk N o = true) (ho : o.op = .defer c) (hc : c.callee = .value x) (hx : ev st.f x = .func fn fs cs)
    (h : WO P N none ops (i + 1) { st with f := setT st.f o.dst undef, ds := { target := .fn fn cs, args := fs ++ c.args.map (ev st.f) } :: st.ds } Q) : WO P N none ops i st Q :=
  .step hi hw (snd_defer hk ho hc hx) h

theorem WO.recover {o : Oper} {c : Call} (hi : ops[i]? = some o) (hw : wantE N ops st.f o = some true) (ho : o.op = .call c) (hc : c.callee = .builtin .recover)
    (h : WO P N none ops (i + 1) { st with f := setT st.f o.dst (recVal st.rc), rc := recRc st.rc } Q) : WO P N none ops i st Q :=
  .step hi hw (snd_recover ho hc) h

theorem WF.body {g : FuncId} {fn : Func} {c : Code} {args : Array Value} {h : EH} {Q : Out → EH → Prop} (hf : P.funcs[g]? = some fn) (hb : fn.body = some c) (hn : args.size ≤ fn.ntmps)
    (w : W P fn.ntmps none c (initSt args h none) fun ex st' => ∃ pm out h', ex.ends = some pm ∧ SndEnd P fn st' pm out h' ∧ Q out h') : WF P g args h Q := by
  obtain ⟨ex, st', s, pm, out, h', hx, he, q⟩ := w
  exact ⟨out, h', fn_of_code hf hb hn s hx he, q⟩

def bodyQ (P : Program) (fn : Func) (Q : Out → EH → Prop) : Ex → St → Prop
  | .normal, st | .ret, st => st.ds = [] ∧ ∃ v, eResults P fn.ntmps fn.results st.f st.h = some v ∧ Q (.ret v) st.h
  | .panic v, st => st.ds = [] ∧ Q (.pan v) st.h
  | .exit _, _ => False

theorem WF.plain {g : FuncId} {fn : Func} {c : Code} {args : Array Value} {h : EH} {Q : Out → EH → Prop} (hf : P.funcs[g]? = some fn) (hb : fn.body = some c) (hn : args.size ≤ fn.ntmps)
    (w : W P fn.ntmps none c (initSt args h none) (bodyQ P fn Q)) : WF P g args h Q := by
  refine WF.body hf hb hn (w.mono fun ex st' q => ?_)
  cases ex with
  | normal =>
    obtain ⟨hd, v, e, q⟩ := q
    exact ⟨_, _, _, rfl, end_ret hd e, q⟩
  | ret =>
    obtain ⟨hd, v, e, q⟩ := q
    exact ⟨_, _, _, rfl, end_ret hd e, q⟩
  | panic v => exact ⟨_, _, _, rfl, end_pan q.1, q.2⟩
  | exit id => exact q.elim

inductive DSeq (P : Program) (N : Nat) (ops : Array Oper) : Nat → (Nat → Value) → EH → List ((Nat → Value) × EH) → Prop
  | done {i : Nat} {f : Nat → Value} {h : EH} (hi : ops.size = i) : DSeq P N ops i f h []
  | skip {i : Nat} {f : Nat → Value} {h : EH} {o : Oper} {tr : List ((Nat → Value) × EH)} (hi : ops[i]? = some o) (hk : opOk N o = true) (hw : wantE N ops f o = some false) (k : DSeq P N ops (i + 1) (setT f o.dst undef) h tr) :
      DSeq P N ops i f h ((setT f o.dst undef, h) :: tr)
  | op {i : Nat} {f : Nat → Value} {h h' : EH} {o : Oper} {v : Value} {tr : List ((Nat → Value) × EH)} (hi : ops[i]? = some o) (hk : opOk N o = true) (hw : wantE N ops f o = some true) (hl : h.length ≤ h'.length)
      (e : (isQuiet o.op = true ∧ estep P o.op (ev f) h = some (v, h')) ∨ (isQuiet o.op = false ∧ XStep P f h o.op v h')) (k : DSeq P N ops (i + 1) (setT f o.dst v) h' tr) : DSeq P N ops i f h ((setT f o.dst v, h') :: tr)

def stAt (s : (Nat → Value) × EH) (tr : List ((Nat → Value) × EH)) (k : Nat) : (Nat → Value) × EH := (s :: tr).getD k (tr.getLastD s)

theorem DSeq.len {i : Nat} {f : Nat → Value} {h : EH} {tr : List ((Nat → Value) × EH)} (d : DSeq P N ops i f h tr) : i + tr.length = ops.size := by
  induction d with
  | done hi => simpa using hi.symm
  | skip _ _ _ _ ih => simp only [List.length_cons]; omega
  | op _ _ _ _ _ _ ih => simp only [List.length_cons]; omega

def looksOrMakes : Op → Bool
  | .load .. | .lookup .. | .slice .. | .alloc _ | .box .. | .buildSlice .. | .makeMap .. | .makeSlice .. | .range .. | .call _ => true
  | _ => false

def badPairs (ops : Array Oper) : List (Nat × Nat) :=
  let bs := befores ops
  (List.range ops.size).flatMap fun j => (List.range j).filterMap fun i =>
    match ops[i]?, ops[j]? with
    | some oi, some oj =>
      if !ordB bs i j && ((isQuiet oi.op && looksOrMakes oi.op && !isQuiet oj.op) || (!isQuiet oi.op && isQuiet oj.op && looksOrMakes oj.op)) then some (i, j) else none
    | _, _ => none

theorem quiet_makes {P : Program} {op : Op} {ρ : Operand → Value} {h h' : EH} {v : Value} (hq : isQuiet op = true) (hm : looksOrMakes op = false) (e : estep P op ρ h = some (v, h')) : h' = h ∧ reads op ρ = none := by
  cases op <;> simp only [isQuiet, Bool.false_eq_true] at hq <;> simp only [looksOrMakes, Bool.true_eq_false] at hm <;> simp only [estep, Option.map_eq_some_iff, Option.some.injEq, Prod.mk.injEq] at e <;> simp only [reads, and_true]
  case move => exact e.2.symm
  case assign => exact e.2.symm
  all_goals (obtain ⟨_, _, _, e⟩ := e; exact e.symm)
end
end Go.E
namespace Go.E
open Go

section
variable {P : Program} {N : Nat} {ro : Option Nat} {st : St} {Q : Ex → St → Prop} {ops : Array Oper} {i : Nat}

def Step1 (P : Program) (N : Nat) (ops : Array Oper) (i : Nat) (s s' : (Nat → Value) × EH) : Prop :=
  ∀ o, ops[i]? = some o → opOk N o = true ∧ ∃ v, s'.1 = setT s.1 o.dst v ∧ s.2.length ≤ s'.2.length ∧
    ((wantE N ops s.1 o = some false ∧ v = undef ∧ s'.2 = s.2) ∨
     (wantE N ops s.1 o = some true ∧ isQuiet o.op = true ∧ estep P o.op (ev s.1) s.2 = some (v, s'.2)) ∨
     (wantE N ops s.1 o = some true ∧ isQuiet o.op = false ∧ XStep P s.1 s.2 o.op v s'.2))

theorem stAt_zero {s : (Nat → Value) × EH} {tr : List ((Nat → Value) × EH)} : stAt s tr 0 = s := rfl

theorem stAt_succ {s s' : (Nat → Value) × EH} {tr : List ((Nat → Value) × EH)} {k : Nat} (hk : k ≤ tr.length) : stAt s (s' :: tr) (k + 1) = stAt s' tr k := by
  simp only [stAt, List.getD_cons_succ, List.getD_eq_getElem?_getD]
  have : k < (s' :: tr).length := by simp; omega
  rw [List.getElem?_cons_succ, List.getElem?_eq_getElem this]
  rfl

theorem DSeq.steps {i : Nat} {f : Nat → Value} {h : EH} {tr : List ((Nat → Value) × EH)} (d : DSeq P N ops i f h tr) : ∀ k, Step1 P N ops (i + k) (stAt (f, h) tr k) (stAt (f, h) tr (k + 1)) := by
  induction d with
  | done hi =>
    intro k o ho
    have := (Array.getElem?_eq_some_iff.1 ho).1
    omega
  | @skip i f h o tr hi hk hw kk ih =>
    intro k o' ho
    have hlen := kk.len
    have hk' : i + k < ops.size := (Array.getElem?_eq_some_iff.1 ho).1
    cases k with
    | zero =>
      rw [Nat.add_zero, hi] at ho; cases ho
      rw [stAt_succ (Nat.zero_le _)]
      exact ⟨hk, _, rfl, Nat.le_refl _, .inl ⟨hw, rfl, rfl⟩⟩
    | succ k =>
      rw [stAt_succ (by omega), stAt_succ (by omega)]
      exact ih k o' (by rw [show i + 1 + k = i + (k + 1) by omega]; exact ho)
  | @op i f h h' o v tr hi hk hw hl e kk ih =>
    intro k o' ho
    have hlen := kk.len
    have hk' : i + k < ops.size := (Array.getElem?_eq_some_iff.1 ho).1
    cases k with
    | zero =>
      rw [Nat.add_zero, hi] at ho; cases ho
      rw [stAt_succ (Nat.zero_le _)]
      refine ⟨hk, v, rfl, hl, ?_⟩
      rcases e with ⟨e1, e2⟩ | ⟨e1, e2⟩
      · exact .inr (.inl ⟨hw, e1, e2⟩)
      · exact .inr (.inr ⟨hw, e1, e2⟩)
    | succ k =>
      rw [stAt_succ (by omega), stAt_succ (by omega)]
      exact ih k o' (by rw [show i + 1 + k = i + (k + 1) by omega]; exact ho)

def SideOk (ops : Array Oper) (s : (Nat → Value) × EH) (tr : List ((Nat → Value) × EH)) (p : Nat × Nat) : Prop :=
  ∀ oi oj, ops[p.1]? = some oi → ops[p.2]? = some oj →
    (isQuiet oi.op = true → (∀ b, reads oi.op (ev (stAt s tr p.1).1) = some b → b < (stAt s tr p.1).2.length → (stAt s tr (p.2 + 1)).2[b]? = (stAt s tr p.2).2[b]?) ∧
      (∀ b, (stAt s tr p.1).2.length ≤ b → b < (stAt s tr (p.1 + 1)).2.length → (stAt s tr (p.2 + 1)).2[b]? = (stAt s tr p.2).2[b]?)) ∧
    (isQuiet oj.op = true → ∀ b, reads oj.op (ev (stAt s tr p.2).1) = some b → b < (stAt s tr p.1).2.length → (stAt s tr (p.1 + 1)).2[b]? = (stAt s tr p.1).2[b]?)

theorem mem_badPairs {i j : Nat} {oi oj : Oper} (hij : i < j) (hi : ops[i]? = some oi) (hj : ops[j]? = some oj) (ho : ordB (befores ops) i j = false)
    (hb : (isQuiet oi.op = true ∧ looksOrMakes oi.op = true ∧ isQuiet oj.op = false) ∨ (isQuiet oi.op = false ∧ isQuiet oj.op = true ∧ looksOrMakes oj.op = true)) : (i, j) ∈ badPairs ops := by
  simp only [badPairs, List.mem_flatMap, List.mem_range, List.mem_filterMap]
  refine ⟨j, (Array.getElem?_eq_some_iff.1 hj).1, i, hij, ?_⟩
  simp only [hi, hj, ho]
  rcases hb with ⟨h1, h2, h3⟩ | ⟨h1, h2, h3⟩ <;> simp [h1, h2, h3]

theorem DSeq.run {f : Nat → Value} {h : EH} {tr : List ((Nat → Value) × EH)} (d : DSeq P N ops 0 f h tr) (side : ∀ p ∈ badPairs ops, SideOk ops (f, h) tr p) :
    DRun P N ops (fun k => (stAt (f, h) tr k).1) (fun k => (stAt (f, h) tr k).2) none := by
  have st := d.steps
  simp only [Nat.zero_add] at st
  refine ⟨fun i o hi => by
    obtain ⟨a1, v, a2, a3, a4⟩ := st i o hi
    refine ⟨a1, v, a2, a3, ?_⟩
    rcases a4 with q | q | q
    · exact .inl q
    · exact .inr (.inl q)
    · exact .inr (.inr (.inl q)), ?_⟩
  intro i j oi oj hij hi hj ho hwi hwj
  have quietSame : ∀ k o, ops[k]? = some o → isQuiet o.op = true → looksOrMakes o.op = false → wantE N ops (stAt (f, h) tr k).1 o = some true →
      (stAt (f, h) tr (k + 1)).2 = (stAt (f, h) tr k).2 ∧ reads o.op (ev (stAt (f, h) tr k).1) = none := by
    intro k o hk hq hm hw
    obtain ⟨_, v, _, _, h1 | h1 | h1⟩ := st k o hk
    · rw [h1.1] at hw; cases hw
    · exact quiet_makes hq hm h1.2.2
    · rw [h1.2.1] at hq; cases hq
  constructor
  · intro hqi hqj
    cases hm : looksOrMakes oi.op with
    | true => exact (side (i, j) (mem_badPairs hij hi hj ho (.inl ⟨hqi, hm, hqj⟩)) oi oj hi hj).1 hqi
    | false =>
      obtain ⟨e1, e2⟩ := quietSame i oi hi hqi hm hwi
      refine ⟨fun b hb => ?_, fun b h1 h2 => ?_⟩
      · rw [e2] at hb; cases hb
      · rw [e1] at h2; omega
  · intro hqi hqj
    cases hm : looksOrMakes oj.op with
    | true => exact (side (i, j) (mem_badPairs hij hi hj ho (.inr ⟨hqi, hqj, hm⟩)) oi oj hi hj).2 hqj
    | false =>
      obtain ⟨e1, e2⟩ := quietSame j oj hj hqj hm hwj
      intro b hb
      rw [e2] at hb; cases hb

def WD (P : Program) (N : Nat) (ops : Array Oper) (i : Nat) (f : Nat → Value) (h : EH) (Q : List ((Nat → Value) × EH) → Prop) : Prop := ∃ tr, DSeq P N ops i f h tr ∧ Q tr

theorem W.draw {id : Nat} (hm : P.follows .mixedOrders = true) (hc : drawOk ops = true)
    (w : WD P N ops 0 st.f st.h fun tr => (∀ p ∈ badPairs ops, SideOk ops (st.f, st.h) tr p) ∧ Q .normal { st with f := (tr.getLastD (st.f, st.h)).1, h := (tr.getLastD (st.f, st.h)).2 }) : W P N ro (.region id ops true) st Q := by
  obtain ⟨tr, d, side, q⟩ := w
  refine ⟨.normal, _, ?_, q⟩
  have := snd_draw (ro := ro) (id := id) (ds := st.ds) (rc := st.rc) hm hc (d.run side)
  have hlen : tr.length = ops.size := by simpa using d.len
  have hlast : stAt (st.f, st.h) tr ops.size = tr.getLastD (st.f, st.h) := by
    rw [← hlen]
    cases tr with
    | nil => rfl
    | cons x tr =>
      simp only [stAt, List.length_cons, List.getD_eq_getElem?_getD]
      rw [List.getElem?_eq_getElem (by simp)]
      simp only [Option.getD_some, List.getLastD_cons]
      rw [List.getElem_cons_succ]
      have : (x :: tr).getLast (by simp) = tr.getLastD x := by cases tr <;> rfl
      rw [← this, List.getLast_eq_getElem]
      simp
  simp only [hlast] at this
  exact this

variable {f : Nat → Value} {h : EH} {K : List ((Nat → Value) × EH) → Prop}

theorem WD.done (hi : ops.size = i) (q : K []) : WD P N ops i f h K := ⟨[], .done hi, q⟩

theorem WD.skip {o : Oper} (hi : ops[i]? = some o) (hk : opOk N o = true) (hw : wantE N ops f o = some false) (w : WD P N ops (i + 1) (setT f o.dst undef) h fun tr => K ((setT f o.dst undef, h) :: tr)) : WD P N ops i f h K := by
  obtain ⟨tr, d, q⟩ := w
  exact ⟨_, .skip hi hk hw d, q⟩

theorem estep_len {P : Program} {op : Op} {ρ : Operand → Value} {h h' : EH} {v : Value} (hq : isQuiet op = true) (e : estep P op ρ h = some (v, h')) : h.length ≤ h'.length := by
  obtain ⟨new, e1, _⟩ := estep_quiet hq e
  rw [e1]; simp

theorem WD.op {o : Oper} {v : Value} {h' : EH} (hi : ops[i]? = some o) (hk : opOk N o = true) (hw : wantE N ops f o = some true) (hq : isQuiet o.op = true) (e : estep P o.op (ev f) h = some (v, h')) (w : WD P N ops (i + 1) (setT f o.dst v) h' fun tr => K ((setT f o.dst v, h') :: tr)) : WD P N ops i f h K := by
  obtain ⟨tr, d, q⟩ := w
  exact ⟨_, .op hi hk hw (estep_len hq e) (.inl ⟨hq, e⟩) d, q⟩

theorem WD.loud {o : Oper} {v : Value} {h' : EH} (hi : ops[i]? = some o) (hk : opOk N o = true) (hw : wantE N ops f o = some true) (hq : isQuiet o.op = false) (hl : h.length ≤ h'.length) (e : estep P o.op (ev f) h = some (v, h'))
    (w : WD P N ops (i + 1) (setT f o.dst v) h' fun tr => K ((setT f o.dst v, h') :: tr)) : WD P N ops i f h K := by
  obtain ⟨tr, d, q⟩ := w
  exact ⟨_, .op hi hk hw hl (.inr ⟨hq, .simple e⟩) d, q⟩

theorem WD.call {o : Oper} {g : FuncId} {args : Array Value} (hi : ops[i]? = some o) (hk : opOk N o = true) (hw : wantE N ops f o = some true) (hq : isQuiet o.op = false) (e : callee f o.op = some (g, args)) (hf : fnOk P g = true)
    (w : WF P g args h (backTo (fun v h' => h.length ≤ h'.length ∧ WD P N ops (i + 1) (setT f o.dst v) h' fun tr => K ((setT f o.dst v, h') :: tr)) (fun _ _ => False))) : WD P N ops i f h K := by
  obtain ⟨out, h', s, q⟩ := w
  cases out with
  | ret v =>
    obtain ⟨hl, tr, d, q⟩ := q
    exact ⟨_, .op hi hk hw hl (.inr ⟨hq, .call e hf s⟩) d, q⟩
  | pan v => exact q.elim
end
end Go.E
namespace Go.E
open Go

def regOk (N : Nat) (ops : Array Oper) : Bool := ops.toList.all (opOk N)

theorem regOk_op {N : Nat} {ops : Array Oper} (h : regOk N ops = true) {i : Nat} {o : Oper} (hi : ops[i]? = some o) : opOk N o = true := by
  have := List.all_eq_true.1 h o (by
    have := Array.mem_of_getElem? hi
    simpa using this)
  exact this

def codeOk (N : Nat) : Code → Bool
  | .region _ ops draw => regOk N ops && (!draw || drawOk ops)
  | .seq a b => codeOk N a && codeOk N b
  | .cond c a b => opdOk N c && codeOk N a && codeOk N b
  | .block _ c => codeOk N c
  | .loop c => codeOk N c
  | .scope c => codeOk N c
  | .rangeFunc f _ a b => opdOk N f && codeOk N a && codeOk N b
  | _ => true

theorem stepR_scope {P : Program} {b : Frame} {a : Act} {c : Code} {k : List Item} {cs : List Frame} {w : World} : step P (lone (b.atR a (.code (.scope c) :: k)) cs w) = .next (lone (b.atR a (.code c :: .inScope c :: k)) cs w) :=
  step_lone_go (by simp [stepG, stepG.exec, Frame.atR])
theorem stepR_inScope {P : Program} {b : Frame} {a : Act} {c : Code} {k : List Item} {cs : List Frame} {w : World} : step P (lone (b.atR a (.inScope c :: k)) cs w) = .next (lone (b.atR a k) cs w) :=
  step_lone_go (by simp [stepG, stepG.exec, Frame.atR])

theorem snd_scope {P : Program} {N : Nat} {ro : Option Nat} {c : Code} {st st' : St} {ex : Ex} (h : SndCode P N ro c st ex st') : SndCode P N ro (.scope c) st ex st' := by
  intro φ b k base a w rc hr ha hc he
  obtain ⟨φ₁, ex₁, a₁, w₁, rc₁, x1, r1, t1, a1, c1, s1, arr⟩ := h φ b (.inScope c :: k) base a w rc hr ha hc he
  cases ex with
  | normal =>
    cases x1.normal_inv
    exact ⟨φ₁, .normal, a₁, w₁, rc₁, trivial, r1, t1, a1, c1, s1, .head stepR_scope (Steps.trans arr (.one stepR_inScope))⟩
  | ret =>
    cases ex₁ <;> simp only [ExRel] at x1
    obtain ⟨k1, s⟩ := arr
    exact ⟨φ₁, .ret, a₁, w₁, rc₁, trivial, r1, t1, a1, c1, s1, k1, .head stepR_scope s⟩
  | panic v =>
    cases ex₁ <;> simp only [ExRel] at x1
    obtain ⟨k1, n, s⟩ := arr
    exact ⟨φ₁, .panic _, a₁, w₁, rc₁, x1, r1, t1, a1, c1, s1, k1, n, .head stepR_scope s⟩
  | exit i =>
    cases ex₁ <;> simp only [ExRel] at x1
    subst x1
    obtain ⟨k1, e, s⟩ := arr
    exact ⟨φ₁, .exit i, a₁, w₁, rc₁, rfl, r1, t1, a1, c1, s1, k1, by rw [e]; simp [exitTo], .head stepR_scope s⟩

def WL (P : Program) (N : Nat) (ro : Option Nat) (ops : Array Oper) (os : List Oper) (st : St) (Q : Ex → St → Prop) : Prop :=
  ∀ i, ops.toList.drop i = os → i ≤ ops.size → WO P N ro ops i st Q

def DL (P : Program) (N : Nat) (ops : Array Oper) (os : List Oper) (f : Nat → Value) (h : EH) (K : List ((Nat → Value) × EH) → Prop) : Prop :=
  ∀ i, ops.toList.drop i = os → i ≤ ops.size → WD P N ops i f h K

section
variable {P : Program} {N : Nat} {ro : Option Nat} {f : Nat → Value} {ds : List Deferred} {h h' : EH} {rc : Option (Value × Bool)} {Q : Ex → St → Prop} {ops : Array Oper} {os : List Oper} {o : Oper} {v : Value} {K : List ((Nat → Value) × EH) → Prop}

theorem drop_cons {i : Nat} (hd : ops.toList.drop i = o :: os) : ops[i]? = some o ∧ ops.toList.drop (i + 1) = os ∧ i + 1 ≤ ops.size := by
  have h1 : ops.toList[i]? = some o := by
    have := congrArg List.head? hd
    simpa [List.head?_drop] using this
  refine ⟨by simpa using h1, ?_, ?_⟩
  · have := congrArg List.tail hd
    simpa [List.tail_drop] using this
  · have h2 := (List.getElem?_eq_some_iff.1 h1).1
    have : i < ops.size := by simpa using h2
    omega

theorem WL.nil (q : Q .normal ⟨f, ds, h, rc⟩) : WL P N ro ops [] ⟨f, ds, h, rc⟩ Q := by
  intro i hd hi
  have : ops.size ≤ i := by
    have := List.drop_eq_nil_iff.1 hd
    simpa using this
  exact WO.done (by omega) q

theorem WL.skip (hw : wantE N ops f o = some false) (w : WL P N ro ops os ⟨setT f o.dst undef, ds, h, rc⟩ Q) : WL P N ro ops (o :: os) ⟨f, ds, h, rc⟩ Q := by
  intro i hd hi
  obtain ⟨h1, h2, h3⟩ := drop_cons hd
  exact WO.skip h1 hw (w _ h2 h3)

theorem WL.op (hr : regOk N ops = true) (hw : wantE N ops f o = some true) (e : estep P o.op (ev f) h = some (v, h')) (w : WL P N ro ops os ⟨setT f o.dst v, ds, h', rc⟩ Q) : WL P N ro ops (o :: os) ⟨f, ds, h, rc⟩ Q := by
  intro i hd hi
  obtain ⟨h1, h2, h3⟩ := drop_cons hd
  exact WO.op h1 hw (regOk_op hr h1) e (w _ h2 h3)

theorem WL.call {g : FuncId} {args : Array Value} (hr : regOk N ops = true) (hw : wantE N ops f o = some true) (e : callee f o.op = some (g, args)) (hf : fnOk P g = true)
    (w : WF P g args h (backTo (fun v h' => WL P N ro ops os ⟨setT f o.dst v, ds, h', rc⟩ Q) (fun v h' => Q (.panic v) ⟨f, ds, h', rc⟩))) : WL P N ro ops (o :: os) ⟨f, ds, h, rc⟩ Q := by
  intro i hd hi
  obtain ⟨h1, h2, h3⟩ := drop_cons hd
  refine WO.call h1 hw (regOk_op hr h1) e hf (w.mono fun out h' q => ?_)
  cases out with
  | ret v => exact q _ h2 h3
  | pan v => exact q

theorem WL.panic {x : Operand} {t : TypeId} {u : Value} (hr : regOk N ops = true) (hw : wantE N ops f o = some true) (ho : o.op = .panic x) (hx : ev f x = .iface t u) (q : Q (.panic (.iface t u)) ⟨f, ds, h, rc⟩) : WL P N ro ops (o :: os) ⟨f, ds, h, rc⟩ Q := by
  intro i hd hi
  obtain ⟨h1, h2, h3⟩ := drop_cons hd
  exact WO.panic h1 hw (regOk_op hr h1) ho hx q

theorem WL.defer {c : Call} {x : Operand} {fn : Fn} {fs cs : Array Value} (hr : regOk N ops = true) (hw : wantE N ops f o = some true) (ho : o.op = .defer c) (hc : c.callee = .value x) (hx : ev f x = .func fn fs cs)
    (w : WL P N none ops os ⟨setT f o.dst undef, { target := .fn fn cs, args := fs ++ c.args.map (ev f) } :: ds, h, rc⟩ Q) : WL P N none ops (o :: os) ⟨f, ds, h, rc⟩ Q := by
  intro i hd hi
  obtain ⟨h1, h2, h3⟩ := drop_cons hd
  exact WO.defer h1 hw (regOk_op hr h1) ho hc hx (w _ h2 h3)

theorem WL.recover {c : Call} (hw : wantE N ops f o = some true) (ho : o.op = .call c) (hc : c.callee = .builtin .recover)
    (w : WL P N none ops os ⟨setT f o.dst (recVal rc), ds, h, recRc rc⟩ Q) : WL P N none ops (o :: os) ⟨f, ds, h, rc⟩ Q := by
  intro i hd hi
  obtain ⟨h1, h2, h3⟩ := drop_cons hd
  exact WO.recover h1 hw ho hc (w _ h2 h3)

theorem DL.nil (q : K []) : DL P N ops [] f h K := by
  intro i hd hi
  have : ops.size ≤ i := by
    have := List.drop_eq_nil_iff.1 hd
    simpa using this
  exact WD.done (by omega) q

theorem DL.skip (hr : regOk N ops = true) (hw : wantE N ops f o = some false) (w : DL P N ops os (setT f o.dst undef) h fun tr => K ((setT f o.dst undef, h) :: tr)) : DL P N ops (o :: os) f h K := by
  intro i hd hi
  obtain ⟨h1, h2, h3⟩ := drop_cons hd
  exact WD.skip h1 (regOk_op hr h1) hw (w _ h2 h3)

theorem DL.op (hr : regOk N ops = true) (hw : wantE N ops f o = some true) (hq : isQuiet o.op = true) (e : estep P o.op (ev f) h = some (v, h')) (w : DL P N ops os (setT f o.dst v) h' fun tr => K ((setT f o.dst v, h') :: tr)) : DL P N ops (o :: os) f h K := by
  intro i hd hi
  obtain ⟨h1, h2, h3⟩ := drop_cons hd
  exact WD.op h1 (regOk_op hr h1) hw hq e (w _ h2 h3)

theorem DL.loud (hr : regOk N ops = true) (hw : wantE N ops f o = some true) (hq : isQuiet o.op = false) (hl : h.length ≤ h'.length) (e : estep P o.op (ev f) h = some (v, h')) (w : DL P N ops os (setT f o.dst v) h' fun tr => K ((setT f o.dst v, h') :: tr)) : DL P N ops (o :: os) f h K := by
  intro i hd hi
  obtain ⟨h1, h2, h3⟩ := drop_cons hd
  exact WD.loud h1 (regOk_op hr h1) hw hq hl e (w _ h2 h3)

theorem DL.call {g : FuncId} {args : Array Value} (hr : regOk N ops = true) (hw : wantE N ops f o = some true) (hq : isQuiet o.op = false) (e : callee f o.op = some (g, args)) (hf : fnOk P g = true)
    (w : WF P g args h (backTo (fun v h' => h.length ≤ h'.length ∧ DL P N ops os (setT f o.dst v) h' fun tr => K ((setT f o.dst v, h') :: tr)) (fun _ _ => False))) : DL P N ops (o :: os) f h K := by
  intro i hd hi
  obtain ⟨h1, h2, h3⟩ := drop_cons hd
  refine WD.call h1 (regOk_op hr h1) hw hq e hf (w.mono fun out h' q => ?_)
  cases out with
  | ret v => exact ⟨q.1, q.2 _ h2 h3⟩
  | pan v => exact q
end
end Go.E
namespace Go.E
open Go

def bad : Value := .chan (some 0)

def renAt (σ : Nat → Option Nat) : Option Addr → Option (Option Addr)
  | none => some none
  | some ⟨b, off, none⟩ => (σ b).map fun c => some ⟨c, off, none⟩
  | some ⟨0, 0, some 0⟩ => some (some ⟨0, 0, some 0⟩)
  | some _ => none

mutual
def ren (σ : Nat → Option Nat) : Value → Value
  | .pointer a => match renAt σ a with | some a' => .pointer a' | none => bad
  | .slice a len cap => match renAt σ a with | some a' => .slice a' len cap | none => bad
  | .map none => .map none
  | .map (some b) => match σ b with | some c => .map (some c) | none => bad
  | .chan none => .chan none
  | .chan (some _) => bad
  | .func fn fs cs => match fn with
    | .yield l => match σ l with | some c => .func (.yield c) (renA σ fs) (renA σ cs) | none => bad
    | fn => .func fn (renA σ fs) (renA σ cs)
  | .iface t v => .iface t (ren σ v)
  | .agg a => .agg (renA σ a)
  | .tuple a => .tuple (renA σ a)
  | v => v
def renA (σ : Nat → Option Nat) : Array Value → Array Value
  | ⟨l⟩ => ⟨renL σ l⟩
def renL (σ : Nat → Option Nat) : List Value → List Value
  | [] => []
  | v :: vs => ren σ v :: renL σ vs
end

theorem renL_eq (σ : Nat → Option Nat) (l : List Value) : renL σ l = l.map (ren σ) := by
  induction l with
  | nil => rfl
  | cons v l ih => simp only [renL, ih, List.map_cons]

theorem renA_eq (σ : Nat → Option Nat) (a : Array Value) : renA σ a = a.map (ren σ) := by
  cases a; simp [renA, renL_eq]

theorem renA_get {σ : Nat → Option Nat} {a : Array Value} {i : Nat} (h : i < (renA σ a).size) : (renA σ a)[i] = ren σ (a[i]'(by simpa [renA_eq] using h)) := by
  simp [renA_eq]

theorem renA_size {σ : Nat → Option Nat} {a : Array Value} : (renA σ a).size = a.size := by simp [renA_eq]

def via (Φ : Phi) (σ : Nat → Option Nat) : Phi := fun b => (σ b).bind Φ

theorem ren_base {σ : Nat → Option Nat} {v : Value} (h : isBase v = true) : ren σ v = v := by
  cases v with
  | pointer a => cases a <;> simp_all [isBase, ren, renAt]
  | map r => cases r <;> simp_all [isBase, ren]
  | _ => simp_all [isBase, ren]

theorem renAt_some {σ : Nat → Option Nat} {a : Option Addr} {x y : Nat} (h : renAt σ a = some (some ⟨x, y, none⟩)) : ∃ b off c, a = some ⟨b, off, none⟩ ∧ σ b = some c ∧ (⟨x, y, none⟩ : Addr) = ⟨c, off, none⟩ := by
  unfold renAt at h
  split at h
  · cases h
  · rename_i b off
    rw [Option.map_eq_some_iff] at h
    obtain ⟨c, h1, h2⟩ := h
    exact ⟨b, off, c, rfl, h1, (Option.some.inj h2).symm⟩
  · simp at h
  · cases h

theorem renAt_mk {σ : Nat → Option Nat} {a : Option Addr} (h : renAt σ a = some (some ⟨0, 0, some 0⟩)) : a = some ⟨0, 0, some 0⟩ := by
  unfold renAt at h
  split at h
  · cases h
  · rename_i b off
    rw [Option.map_eq_some_iff] at h
    obtain ⟨c, h1, h2⟩ := h
    simp at h2
  · rfl
  · cases h

theorem renAt_none {σ : Nat → Option Nat} {a : Option Addr} (h : renAt σ a = some none) : a = none := by
  unfold renAt at h
  split at h
  · rfl
  · simp at h
  · simp at h
  · cases h

theorem ren_eq_base {σ : Nat → Option Nat} {v u : Value} (e : ren σ v = u) (h : isBase u = true) : v = u := by
  cases v with
  | pointer a =>
    simp only [ren] at e
    split at e
    · rename_i a' ha
      subst e
      cases a' with
      | none => rw [renAt_none ha]
      | some a' => simp [isBase] at h
    · subst e; simp [bad, isBase] at h
  | slice a n c =>
    simp only [ren] at e
    split at e <;> subst e <;> simp [bad, isBase] at h
  | map r =>
    cases r with
    | none => simpa [ren] using e
    | some b =>
      simp only [ren] at e
      split at e <;> subst e <;> simp [bad, isBase] at h
  | chan r =>
    cases r <;> simp only [ren] at e <;> subst e <;> simp [bad, isBase] at h
  | func fn fs cs =>
    cases fn <;> simp only [ren] at e <;> (try split at e) <;> subst e <;> simp [bad, isBase] at h
  | iface t v => simp only [ren] at e; subst e; simp [isBase] at h
  | agg a => simp only [ren] at e; subst e; simp [isBase] at h
  | tuple a => simp only [ren] at e; subst e; simp [isBase] at h
  | _ => simpa [ren] using e

theorem VRel.unren {Φ : Phi} {σ : Nat → Option Nat} {u v' : Value} (r : VRel Φ u v') : ∀ v, ren σ v = u → VRel (via Φ σ) v v' := by
  induction r with
  | unk =>
    intro v e
    cases v with
    | chan r =>
      cases r with
      | none => exact .unk
      | some _ => simp [ren, bad] at e
    | pointer a => simp only [ren] at e; split at e <;> simp [bad] at e
    | slice a n c => simp only [ren] at e; split at e <;> simp [bad] at e
    | map r => cases r <;> simp only [ren] at e <;> (try split at e) <;> simp [bad] at e
    | func fn fs cs => cases fn <;> simp only [ren] at e <;> (try split at e) <;> simp [bad] at e
    | _ => simp [ren] at e
  | base h => intro v e; rw [ren_eq_base e h]; exact .base h
  | @ptr b off loc h =>
    intro v e
    cases v with
    | pointer a =>
      simp only [ren] at e
      split at e
      · rename_i a' ha
        simp only [Value.pointer.injEq] at e; subst e
        obtain ⟨b0, off0, c, rfl, hc, e2⟩ := renAt_some ha
        cases e2
        exact .ptr (by simp [via, hc, h])
      · simp [bad] at e
    | map r => cases r <;> simp only [ren] at e <;> (try split at e) <;> simp [bad] at e
    | chan r => cases r <;> simp [ren, bad] at e
    | func fn fs cs => cases fn <;> simp only [ren] at e <;> (try split at e) <;> simp [bad] at e
    | slice a n c => simp only [ren] at e; split at e <;> simp [bad] at e
    | _ => simp [ren] at e
  | @slnil len cap =>
    intro v e
    cases v with
    | slice a n c =>
      simp only [ren] at e
      split at e
      · rename_i a' ha
        simp only [Value.slice.injEq] at e
        obtain ⟨rfl, rfl, rfl⟩ := e
        rw [renAt_none ha]; exact .slnil
      · simp [bad] at e
    | pointer a => simp only [ren] at e; split at e <;> simp [bad] at e
    | map r => cases r <;> simp only [ren] at e <;> (try split at e) <;> simp [bad] at e
    | chan r => cases r <;> simp [ren, bad] at e
    | func fn fs cs => cases fn <;> simp only [ren] at e <;> (try split at e) <;> simp [bad] at e
    | _ => simp [ren] at e
  | @slice b off len cap cap' loc h hc =>
    intro v e
    cases v with
    | slice a n c =>
      simp only [ren] at e
      split at e
      · rename_i a' ha
        simp only [Value.slice.injEq] at e
        obtain ⟨rfl, rfl, rfl⟩ := e
        obtain ⟨b0, off0, c0, rfl, hc0, e2⟩ := renAt_some ha
        cases e2
        exact .slice (by simp [via, hc0, h]) hc
      · simp [bad] at e
    | pointer a => simp only [ren] at e; split at e <;> simp [bad] at e
    | map r => cases r <;> simp only [ren] at e <;> (try split at e) <;> simp [bad] at e
    | chan r => cases r <;> simp [ren, bad] at e
    | func fn fs cs => cases fn <;> simp only [ren] at e <;> (try split at e) <;> simp [bad] at e
    | _ => simp [ren] at e
  | sle =>
    intro v e
    cases v with
    | slice a n c =>
      simp only [ren] at e
      split at e
      · rename_i a' ha
        simp only [Value.slice.injEq] at e
        obtain ⟨rfl, rfl, rfl⟩ := e
        rw [renAt_mk ha]; exact .sle
      · simp [bad] at e
    | pointer a => simp only [ren] at e; split at e <;> simp [bad] at e
    | map r => cases r <;> simp only [ren] at e <;> (try split at e) <;> simp [bad] at e
    | chan r => cases r <;> simp [ren, bad] at e
    | func fn fs cs => cases fn <;> simp only [ren] at e <;> (try split at e) <;> simp [bad] at e
    | _ => simp [ren] at e
  | @slempty b off off' cap' loc h hc =>
    intro v e
    cases v with
    | slice a n c =>
      simp only [ren] at e
      split at e
      · rename_i a' ha
        simp only [Value.slice.injEq] at e
        obtain ⟨rfl, rfl, rfl⟩ := e
        obtain ⟨b0, off0, c0, rfl, hc0, e2⟩ := renAt_some ha
        cases e2
        exact .slempty (by simp [via, hc0, h]) hc
      · simp [bad] at e
    | pointer a => simp only [ren] at e; split at e <;> simp [bad] at e
    | map r => cases r <;> simp only [ren] at e <;> (try split at e) <;> simp [bad] at e
    | chan r => cases r <;> simp [ren, bad] at e
    | func fn fs cs => cases fn <;> simp only [ren] at e <;> (try split at e) <;> simp [bad] at e
    | _ => simp [ren] at e
  | @map b loc h =>
    intro v e
    cases v with
    | map r =>
      cases r with
      | none => simp [ren] at e
      | some b0 =>
        simp only [ren] at e
        split at e
        · rename_i c hc
          simp only [Value.map.injEq, Option.some.injEq] at e
          subst e
          exact .map (by simp [via, hc, h])
        · simp [bad] at e
    | pointer a => simp only [ren] at e; split at e <;> simp [bad] at e
    | slice a n c => simp only [ren] at e; split at e <;> simp [bad] at e
    | chan r => cases r <;> simp [ren, bad] at e
    | func fn fs cs => cases fn <;> simp only [ren] at e <;> (try split at e) <;> simp [bad] at e
    | _ => simp [ren] at e
  | @func fn fn' fs fs' cs cs' hf h1 h1' h2 h2' i1 i2 =>
    intro v e
    cases v with
    | func gn gs ks =>
      have fin : ∀ {gn' : Fn}, FnRel (via Φ σ) gn' fn' → renA σ gs = fs → renA σ ks = cs → VRel (via Φ σ) (.func gn' gs ks) (.func fn' fs' cs') := by
        intro gn' hg e1 e2
        subst e1; subst e2
        rw [renA_size] at h1 h2
        exact .func hg h1 (fun i x y => i1 i (by rw [renA_size]; exact x) y _ (renA_get (by rw [renA_size]; exact x)).symm) h2 (fun i x y => i2 i (by rw [renA_size]; exact x) y _ (renA_get (by rw [renA_size]; exact x)).symm)
      cases gn with
      | yield l =>
        simp only [ren] at e
        split at e
        · rename_i c hc
          simp only [Value.func.injEq] at e
          obtain ⟨rfl, e1, e2⟩ := e
          refine fin ?_ e1 e2
          cases fn' <;> simp only [FnRel] at hf ⊢
          obtain ⟨loc, k1, k2⟩ := hf
          exact ⟨loc, by simp [via, hc, k1], k2⟩
        · simp [bad] at e
      | _ =>
        simp only [ren, Value.func.injEq] at e
        obtain ⟨rfl, e1, e2⟩ := e
        refine fin ?_ e1 e2
        cases fn' <;> simp_all [FnRel]
    | pointer a => simp only [ren] at e; split at e <;> simp [bad] at e
    | slice a n c => simp only [ren] at e; split at e <;> simp [bad] at e
    | map r => cases r <;> simp only [ren] at e <;> (try split at e) <;> simp [bad] at e
    | chan r => cases r <;> simp [ren, bad] at e
    | _ => simp [ren] at e
  | @iface t x x' h ih =>
    intro v e
    cases v with
    | iface t0 x0 =>
      simp only [ren, Value.iface.injEq] at e
      obtain ⟨rfl, e⟩ := e
      exact .iface (ih x0 e)
    | pointer a => simp only [ren] at e; split at e <;> simp [bad] at e
    | slice a n c => simp only [ren] at e; split at e <;> simp [bad] at e
    | map r => cases r <;> simp only [ren] at e <;> (try split at e) <;> simp [bad] at e
    | chan r => cases r <;> simp [ren, bad] at e
    | func fn fs cs => cases fn <;> simp only [ren] at e <;> (try split at e) <;> simp [bad] at e
    | _ => simp [ren] at e
  | @agg a a' h h' ih =>
    intro v e
    cases v with
    | agg a0 =>
      simp only [ren, Value.agg.injEq] at e
      subst e
      rw [renA_size] at h
      exact .agg h (fun i x y => ih i (by rw [renA_size]; exact x) y _ (renA_get (by rw [renA_size]; exact x)).symm)
    | pointer a => simp only [ren] at e; split at e <;> simp [bad] at e
    | slice a n c => simp only [ren] at e; split at e <;> simp [bad] at e
    | map r => cases r <;> simp only [ren] at e <;> (try split at e) <;> simp [bad] at e
    | chan r => cases r <;> simp [ren, bad] at e
    | func fn fs cs => cases fn <;> simp only [ren] at e <;> (try split at e) <;> simp [bad] at e
    | _ => simp [ren] at e
  | @tuple a a' h h' ih =>
    intro v e
    cases v with
    | tuple a0 =>
      simp only [ren, Value.tuple.injEq] at e
      subst e
      rw [renA_size] at h
      exact .tuple h (fun i x y => ih i (by rw [renA_size]; exact x) y _ (renA_get (by rw [renA_size]; exact x)).symm)
    | pointer a => simp only [ren] at e; split at e <;> simp [bad] at e
    | slice a n c => simp only [ren] at e; split at e <;> simp [bad] at e
    | map r => cases r <;> simp only [ren] at e <;> (try split at e) <;> simp [bad] at e
    | chan r => cases r <;> simp [ren, bad] at e
    | func fn fs cs => cases fn <;> simp only [ren] at e <;> (try split at e) <;> simp [bad] at e
    | _ => simp [ren] at e

def Carries (σ : Nat → Option Nat) (φ Φ : Phi) : Prop := ∀ b loc, φ b = some loc → ∃ c, σ b = some c ∧ Φ c = some loc

theorem VRel.ren {φ Φ : Phi} {σ : Nat → Option Nat} (hc : Carries σ φ Φ) {v v' : Value} (r : VRel φ v v') : VRel Φ (ren σ v) v' := by
  induction r with
  | unk => exact .unk
  | base h => rw [ren_base h]; exact .base h
  | ptr h => obtain ⟨c, h1, h2⟩ := hc _ _ h; simp only [E.ren, renAt, h1, Option.map_some]; exact .ptr h2
  | slnil => simp only [E.ren, renAt]; exact .slnil
  | slice h k => obtain ⟨c, h1, h2⟩ := hc _ _ h; simp only [E.ren, renAt, h1, Option.map_some]; exact .slice h2 k
  | sle => simp only [E.ren, renAt]; exact .sle
  | slempty h k => obtain ⟨c, h1, h2⟩ := hc _ _ h; simp only [E.ren, renAt, h1, Option.map_some]; exact .slempty h2 k
  | map h => obtain ⟨c, h1, h2⟩ := hc _ _ h; simp only [E.ren, h1]; exact .map h2
  | @func fn fn' fs fs' cs cs' hf h1 h1' h2 h2' i1 i2 =>
    have fin : ∀ {gn : Fn}, FnRel Φ gn fn' → VRel Φ (.func gn (renA σ fs) (renA σ cs)) (.func fn' fs' cs') := fun hg =>
      .func hg (by rw [renA_size]; exact h1) (fun i x y => by rw [renA_get]; exact i1 i (by rw [renA_size] at x; exact x) y) (by rw [renA_size]; exact h2) (fun i x y => by rw [renA_get]; exact i2 i (by rw [renA_size] at x; exact x) y)
    cases fn with
    | yield l =>
      cases fn' <;> simp only [FnRel] at hf
      obtain ⟨loc, k1, k2⟩ := hf
      obtain ⟨c, q1, q2⟩ := hc _ _ k1
      simp only [E.ren, q1]
      exact fin ⟨loc, q2, k2⟩
    | _ =>
      simp only [E.ren]
      refine fin ?_
      cases fn' <;> simp_all [FnRel]
  | iface _ ih => simp only [E.ren]; exact .iface ih
  | agg h _ ih => simp only [E.ren]; exact .agg (by rw [renA_size]; exact h) (fun i x y => by rw [renA_get]; exact ih i (by rw [renA_size] at x; exact x) y)
  | tuple h _ ih => simp only [E.ren]; exact .tuple (by rw [renA_size]; exact h) (fun i x y => by rw [renA_get]; exact ih i (by rw [renA_size] at x; exact x) y)
end Go.E
namespace Go.E
open Go

def renE (σ : Nat → Option Nat) (e : MapEntry) : MapEntry := { e with key := ren σ e.key, val := ren σ e.val }

def renObj (σ : Nat → Option Nat) (z : Nat) : EObj → EObj
  | .cells vs opn wr => .cells (vs.map (ren σ)) opn wr
  | .dead => .dead
  | .map es clock => .map (es.map (renE σ)) clock
  | .str s pos => .str s pos
  | .loop l => .loop { l with tmps := renA σ l.tmps, defers := (σ l.defers).getD z }
  | .defers => .defers

theorem renObj_wrt {σ : Nat → Option Nat} {z : Nat} {o : EObj} : (renObj σ z o).wrt = o.wrt := by cases o <;> rfl
theorem renObj_live {σ : Nat → Option Nat} {z : Nat} {o : EObj} : (renObj σ z o).live = o.live := by cases o <;> rfl

theorem ORel.unren {Φ : Phi} {σ : Nat → Option Nat} {z : Nat} {w : World} {loc : Loc} {o : EObj} (hz : Φ z = none) (r : ORel Φ w loc (renObj σ z o)) : ORel (via Φ σ) w loc o := by
  cases o with
  | dead => trivial
  | cells vs opn wr =>
    obtain ⟨a, b, c, d, cs, el, fr, e, f, g, k⟩ := r
    refine ⟨by simpa using a, b, c, d, cs, el, fr, e, f, fun i v hv => ?_, k⟩
    obtain ⟨v', h1, h2⟩ := g i (ren σ v) (by simp [hv])
    exact ⟨v', h1, h2.unren v rfl⟩
  | map es clock =>
    obtain ⟨a, es', b, c, d⟩ := r
    refine ⟨a, es', b, by simpa using c, fun i e e' h1 h2 => ?_⟩
    obtain ⟨k1, k2, k3⟩ := d i (renE σ e) e' (by simp [h1]) h2
    exact ⟨k1.unren _ rfl, k2.unren _ rfl, k3⟩
  | str s pos => exact r
  | loop l =>
    obtain ⟨hd, l', hm, p1, p2, p3, p4, p5, p6, loc1, p7, p8⟩ := r
    have p7' : Φ ((σ l.defers).getD z) = some loc1 := p7
    refine ⟨hd, l', hm, p1, p2, ?_, p4, p5, p6, loc1, ?_, p8⟩
    · have p3' : VsRel Φ (renA σ l.tmps) l'.tmps := p3
      exact ⟨by have := p3'.1; rwa [renA_size] at this, fun i x y => (p3'.2 i (by rw [renA_size]; exact x) y).unren _ (renA_get (by rw [renA_size]; exact x)).symm⟩
    · cases hs : σ l.defers with
      | none => rw [hs] at p7'; simp only [Option.getD_none] at p7'; rw [hz] at p7'; cases p7'
      | some c => rw [hs] at p7'; simp only [via, hs, Option.bind_some]; exact p7'
  | defers => exact r

theorem ORel.ren {φ Φ : Phi} {σ : Nat → Option Nat} (hc : Carries σ φ Φ) {z : Nat} {w : World} {loc : Loc} {o : EObj} (r : ORel φ w loc o) : ORel Φ w loc (renObj σ z o) := by
  cases o with
  | dead => trivial
  | cells vs opn wr =>
    obtain ⟨a, b, c, d, cs, el, fr, e, f, g, k⟩ := r
    refine ⟨by simpa using a, b, c, d, cs, el, fr, e, f, fun i v hv => ?_, k⟩
    simp only [List.getElem?_map, Option.map_eq_some_iff] at hv
    obtain ⟨v0, h0, rfl⟩ := hv
    obtain ⟨v', h1, h2⟩ := g i v0 h0
    exact ⟨v', h1, h2.ren hc⟩
  | map es clock =>
    obtain ⟨a, es', b, c, d⟩ := r
    refine ⟨a, es', b, by simpa using c, fun i e e' h1 h2 => ?_⟩
    simp only [List.getElem?_map, Option.map_eq_some_iff] at h1
    obtain ⟨e0, h0, rfl⟩ := h1
    obtain ⟨k1, k2, k3⟩ := d i e0 e' h0 h2
    exact ⟨k1.ren hc, k2.ren hc, k3⟩
  | str s pos => exact r
  | loop l =>
    obtain ⟨hd, l', hm, p1, p2, p3, p4, p5, p6, loc1, p7, p8⟩ := r
    obtain ⟨c, q1, q2⟩ := hc _ _ p7
    refine ⟨hd, l', hm, p1, p2, ⟨by rw [renA_size]; exact p3.1, fun i x y => ?_⟩, p4, p5, p6, loc1, by simp only [q1, Option.getD_some]; exact q2, p8⟩
    have x' : i < l.tmps.size := by rw [renA_size] at x; exact x
    show VRel Φ ((renA σ l.tmps)[i]) _
    rw [renA_get]
    exact (p3.2 i x' y).ren hc
  | defers => exact r

theorem VsRel.unren {Φ : Phi} {σ : Nat → Option Nat} {a a' : Array Value} (r : VsRel Φ (renA σ a) a') : VsRel (via Φ σ) a a' :=
  ⟨by have := r.1; rwa [renA_size] at this, fun i x y => (r.2 i (by rw [renA_size]; exact x) y).unren _ (renA_get (by rw [renA_size]; exact x)).symm⟩

def renOut (σ : Nat → Option Nat) : Out → Out
  | .ret v => .ret (ren σ v)
  | .pan v => .pan (ren σ v)

structure Lies (σ : Nat → Option Nat) (h H : EH) : Prop where
  obj : ∀ b c, σ b = some c → ∃ o z, h[b]? = some o ∧ H[c]? = some (renObj σ z o) ∧ H.length ≤ z
  inj : ∀ b b' c, σ b = some c → σ b' = some c → b = b'

def σAfter (σ : Nat → Option Nat) (h h' H : EH) : Nat → Option Nat := fun b => if b < h.length then σ b else if b < h'.length then some (H.length + (b - h.length)) else none

def back (σ : Nat → Option Nat) (n c : Nat) : Option Nat := (List.range n).find? fun b => σ b == some c

def HAfter (σ : Nat → Option Nat) (h h' H : EH) : EH :=
  (List.range (H.length + (h'.length - h.length))).map fun c =>
    if c < H.length then
      match back σ h.length c with
      | some b => renObj (σAfter σ h h' H) (H.length + h'.length) (h'.getD b .dead)
      | none => H.getD c .dead
    else renObj (σAfter σ h h' H) (H.length + h'.length) (h'.getD (h.length + (c - H.length)) .dead)

theorem back_some {σ : Nat → Option Nat} {h H : EH} (L : Lies σ h H) {b c : Nat} (e : σ b = some c) : back σ h.length c = some b := by
  obtain ⟨o, _, ho, _⟩ := L.obj b c e
  have hb := (List.getElem?_eq_some_iff.1 ho).1
  cases hx : back σ h.length c with
  | none =>
    have := List.find?_eq_none.1 hx b (List.mem_range.2 hb)
    simp [e] at this
  | some b' =>
    have h1 := List.find?_some hx
    have : σ b' = some c := by simpa using h1
    rw [L.inj b' b c this e]

theorem back_spec {σ : Nat → Option Nat} {n b c : Nat} (e : back σ n c = some b) : σ b = some c ∧ b < n := by
  have h1 := List.find?_some e
  have h2 := List.mem_of_find?_eq_some e
  exact ⟨by simpa using h1, List.mem_range.1 h2⟩

theorem getD_eq {h : EH} {b : Nat} {o : EObj} (e : h[b]? = some o) : h.getD b .dead = o := by simp [List.getD_eq_getElem?_getD, e]

theorem HAfter_len {σ : Nat → Option Nat} {h h' H : EH} : (HAfter σ h h' H).length = H.length + (h'.length - h.length) := by simp [HAfter]

theorem HAfter_in {σ : Nat → Option Nat} {h h' H : EH} (L : Lies σ h H) {b c : Nat} {o : EObj} (e : σ b = some c) (ho : h'[b]? = some o) : (HAfter σ h h' H)[c]? = some (renObj (σAfter σ h h' H) (H.length + h'.length) o) := by
  obtain ⟨_, _, _, hH, _⟩ := L.obj b c e
  have hc := (List.getElem?_eq_some_iff.1 hH).1
  simp only [HAfter, List.getElem?_map]
  rw [List.getElem?_range (by omega)]
  simp only [Option.map_some, if_pos hc, back_some L e, getD_eq ho]

theorem HAfter_out {σ : Nat → Option Nat} {h h' H : EH} {c : Nat} {o : EObj} (e : ∀ b, σ b ≠ some c) (ho : H[c]? = some o) : (HAfter σ h h' H)[c]? = some o := by
  have hc := (List.getElem?_eq_some_iff.1 ho).1
  have hb : back σ h.length c = none := by
    cases hx : back σ h.length c with
    | none => rfl
    | some b => exact absurd (back_spec hx).1 (e b)
  simp only [HAfter, List.getElem?_map]
  rw [List.getElem?_range (by omega)]
  simp only [Option.map_some, if_pos hc, hb, getD_eq ho]

theorem HAfter_new {σ : Nat → Option Nat} {h h' H : EH} {b : Nat} {o : EObj} (hb : h.length ≤ b) (ho : h'[b]? = some o) : (HAfter σ h h' H)[H.length + (b - h.length)]? = some (renObj (σAfter σ h h' H) (H.length + h'.length) o) := by
  have hlt := (List.getElem?_eq_some_iff.1 ho).1
  simp only [HAfter, List.getElem?_map]
  rw [List.getElem?_range (by omega)]
  have h1 : ¬ H.length + (b - h.length) < H.length := by omega
  have h2 : h.length + (H.length + (b - h.length) - H.length) = b := by omega
  simp only [Option.map_some, if_neg h1, h2, getD_eq ho]

theorem Lies.after {σ : Nat → Option Nat} {h h' H : EH} (L : Lies σ h H) (hl : h.length ≤ h'.length) : Lies (σAfter σ h h' H) h' (HAfter σ h h' H) := by
  refine ⟨fun b c e => ?_, fun b b' c e e' => ?_⟩
  · simp only [σAfter] at e
    by_cases hb : b < h.length
    · rw [if_pos hb] at e
      have ho := List.getElem?_eq_getElem (show b < h'.length by omega)
      exact ⟨_, _, ho, HAfter_in L e ho, by rw [HAfter_len]; omega⟩
    · rw [if_neg hb] at e
      split at e
      · rename_i hb'
        cases e
        have ho := List.getElem?_eq_getElem hb'
        exact ⟨_, _, ho, HAfter_new (by omega) ho, by rw [HAfter_len]; omega⟩
      · cases e
  · simp only [σAfter] at e e'
    by_cases hb : b < h.length <;> by_cases hb' : b' < h.length
    · rw [if_pos hb] at e; rw [if_pos hb'] at e'; exact L.inj _ _ _ e e'
    · rw [if_pos hb] at e; rw [if_neg hb'] at e'
      obtain ⟨_, _, _, hH, _⟩ := L.obj b c e
      have := (List.getElem?_eq_some_iff.1 hH).1
      split at e'
      · cases e'; omega
      · cases e'
    · rw [if_neg hb] at e; rw [if_pos hb'] at e'
      obtain ⟨_, _, _, hH, _⟩ := L.obj b' c e'
      have := (List.getElem?_eq_some_iff.1 hH).1
      split at e
      · cases e; omega
      · cases e
    · rw [if_neg hb] at e; rw [if_neg hb'] at e'
      split at e
      · split at e'
        · cases e; simp only [Option.some.injEq] at e'; omega
        · cases e'
      · cases e

theorem SndFn.frame {P : Program} {g : FuncId} {args : Array Value} {h h' H : EH} {out : Out} {σ : Nat → Option Nat} (s : SndFn P g args h out h') (L : Lies σ h H) :
    SndFn P g (renA σ args) H (renOut (σAfter σ h h' H) out) (HAfter σ h h' H) := by
  intro Φ args' w cs hR hargs
  let φ := via Φ σ
  have hφ : ∀ {b loc}, φ b = some loc ↔ ∃ c, σ b = some c ∧ Φ c = some loc := by
    intro b loc
    simp only [φ, via, Option.bind_eq_some_iff]
  have hrel : RelH φ h w := by
    refine ⟨fun b loc e => ?_, fun b1 b2 l1 l2 o1 o2 e1 e2 g1 g2 v1 v2 hbk => ?_⟩
    · obtain ⟨c, hc, e'⟩ := hφ.1 e
      obtain ⟨o, z, ho, hH, hn⟩ := L.obj b c hc
      obtain ⟨o', ho', hlt, hor⟩ := hR.obj c loc e'
      rw [hH] at ho'; cases ho'
      exact ⟨o, ho, hlt, hor.unren (by cases hx : Φ z with | none => rfl | some l => exact absurd (hR.dom _ _ hx) (by omega))⟩
    · obtain ⟨c1, hc1, e1'⟩ := hφ.1 e1
      obtain ⟨c2, hc2, e2'⟩ := hφ.1 e2
      obtain ⟨p1, _, q1, r1, _⟩ := L.obj b1 c1 hc1
      obtain ⟨p2, _, q2, r2, _⟩ := L.obj b2 c2 hc2
      rw [g1] at q1; cases q1
      rw [g2] at q2; cases q2
      have := hR.inj c1 c2 l1 l2 _ _ e1' e2' r1 r2 (by rw [renObj_wrt]; exact v1) (by rw [renObj_live]; exact v2) hbk
      subst this
      exact L.inj _ _ _ hc1 hc2
  obtain ⟨φ', w', fr, hr', T, hst, hfn, hleft⟩ := s φ args' w cs hrel hargs.unren
  let τ := σAfter σ h h' H
  let Φ' : Phi := fun c => if c < H.length then Φ c else φ' (h.length + (c - H.length))
  have hΦlow : ∀ {c}, c < H.length → Φ' c = Φ c := fun hc => if_pos hc
  have hΦhigh : ∀ {b}, h.length ≤ b → Φ' (H.length + (b - h.length)) = φ' b := fun {b} hb => by
    have h1 : ¬ H.length + (b - h.length) < H.length := by omega
    have h2 : h.length + (H.length + (b - h.length) - H.length) = b := by omega
    simp only [Φ', if_neg h1, h2]
  have hlen := T.len
  -- what is known of an old object
  have hold : ∀ b loc, φ' b = some loc → b < h.length → φ b = some loc := fun b loc e hb => by
    rcases T.fresh b loc e with h1 | ⟨h1, _⟩
    · exact h1
    · omega
  have hcar : Carries τ φ' Φ' := by
    intro b loc e
    have hb' := hr'.dom b loc e
    by_cases hb : b < h.length
    · obtain ⟨c, hc, e'⟩ := hφ.1 (hold b loc e hb)
      refine ⟨c, by simp only [τ, σAfter, if_pos hb]; exact hc, ?_⟩
      rw [hΦlow (hR.dom _ _ e')]; exact e'
    · exact ⟨H.length + (b - h.length), by simp only [τ, σAfter, if_neg hb, if_pos hb'], by rw [hΦhigh (by omega)]; exact e⟩
  have hle : Le Φ Φ' := fun c loc e => by rw [hΦlow (hR.dom _ _ e)]; exact e
  -- a named object is named from the small heap, or is none of its
  have hcase : ∀ c loc, Φ' c = some loc → (∃ b, τ b = some c ∧ φ' b = some loc) ∨ (c < H.length ∧ Φ c = some loc ∧ ∀ b, σ b ≠ some c) := by
    intro c loc e
    by_cases hc : c < H.length
    · rw [hΦlow hc] at e
      by_cases hx : ∃ b, σ b = some c
      · obtain ⟨b, hb⟩ := hx
        obtain ⟨o, _, ho, _⟩ := L.obj b c hb
        have hbl := (List.getElem?_eq_some_iff.1 ho).1
        exact .inl ⟨b, by simp only [τ, σAfter, if_pos hbl]; exact hb, T.le _ _ (hφ.2 ⟨c, hb, e⟩)⟩
      · exact .inr ⟨hc, e, fun b hb => hx ⟨b, hb⟩⟩
    · have e2 : φ' (h.length + (c - H.length)) = some loc := by simpa only [Φ', if_neg hc] using e
      have hd := hr'.dom _ _ e2
      refine .inl ⟨h.length + (c - H.length), ?_, e2⟩
      simp only [τ, σAfter, if_neg (show ¬ h.length + (c - H.length) < h.length by omega), if_pos hd]
      congr 1; omega
  have hget : ∀ b c o, τ b = some c → h'[b]? = some o → (HAfter σ h h' H)[c]? = some (renObj τ (H.length + h'.length) o) := by
    intro b c o e ho
    simp only [τ, σAfter] at e
    by_cases hb : b < h.length
    · rw [if_pos hb] at e
      exact HAfter_in L e ho
    · rw [if_neg hb] at e
      split at e
      · cases e; exact HAfter_new (by omega) ho
      · cases e
  have τinj : ∀ b b' c, τ b = some c → τ b' = some c → b = b' := by
    intro b b' c e e'
    simp only [τ, σAfter] at e e'
    by_cases hb : b < h.length <;> by_cases hb' : b' < h.length
    · rw [if_pos hb] at e; rw [if_pos hb'] at e'; exact L.inj _ _ _ e e'
    · rw [if_pos hb] at e; rw [if_neg hb'] at e'
      obtain ⟨_, _, _, hH, _⟩ := L.obj b c e
      have := (List.getElem?_eq_some_iff.1 hH).1
      split at e'
      · cases e'; omega
      · cases e'
    · rw [if_neg hb] at e; rw [if_pos hb'] at e'
      obtain ⟨_, _, _, hH, _⟩ := L.obj b' c e'
      have := (List.getElem?_eq_some_iff.1 hH).1
      split at e
      · cases e; omega
      · cases e
    · rw [if_neg hb] at e; rw [if_neg hb'] at e'
      split at e
      · split at e'
        · cases e; simp only [Option.some.injEq] at e'; omega
        · cases e'
      · cases e
  -- an object outside shares no block with one of the small heap, if one of them may be written
  have apart : ∀ b l1 c l2 o1 o2, φ' b = some l1 → h'[b]? = some o1 → c < H.length → Φ c = some l2 → (∀ b, σ b ≠ some c) → H[c]? = some o2 → (o1.wrt = true ∧ o2.live = true ∨ o1.live = true ∧ o2.wrt = true) → l1.blk ≠ l2.blk := by
    intro b l1 c l2 o1 o2 e1 g1 hc e2 hno g2 hw hbk
    have v2 : o2.live = true := by
      rcases hw with h1 | h1
      · exact h1.2
      · exact EObj.live_of_wrt h1.2
    have hit : ∀ b0 l0 o0, φ b0 = some l0 → h[b0]? = some o0 → (o0.wrt = true ∨ o0.live = true ∧ o2.wrt = true) → l0.blk = l2.blk → False := by
      intro b0 l0 o0 e0 g0 w0 hb0
      obtain ⟨c0, hc0, e0'⟩ := hφ.1 e0
      obtain ⟨p, _, q, r, _⟩ := L.obj b0 c0 hc0
      rw [g0] at q; cases q
      rcases w0 with w0 | ⟨w0, w2⟩
      · have := hR.inj c0 c l0 l2 _ o2 e0' e2 r g2 (by rw [renObj_wrt]; exact w0) v2 hb0
        subst this; exact hno b0 hc0
      · have := hR.inj c c0 l2 l0 o2 _ e2 e0' g2 r w2 (by rw [renObj_live]; exact w0) hb0.symm
        subst this; exact hno b0 hc0
    rcases T.fresh b l1 e1 with q | ⟨_, q | ⟨b0, l0, o0, q1, q2, q3, q4⟩⟩
    · have hb := hrel.dom _ _ q
      rcases hw with ⟨h1, _⟩ | ⟨h1, h2⟩
      · obtain ⟨o0, k1, k2⟩ := T.turns b o1 g1 h1 hb
        exact hit b l1 o0 q k1 (.inl k2) hbk
      · obtain ⟨o0, k1, k2⟩ := T.live b o1 g1 h1 hb
        exact hit b l1 o0 q k1 (.inr ⟨k2, h2⟩) hbk
    · obtain ⟨_, _, hlt, _⟩ := hR.obj c l2 e2
      omega
    · exact hit b0 l0 o0 q1 q2 (.inl q3) (by rw [q4]; exact hbk)
  have hfin : RelH Φ' (HAfter σ h h' H) w' := by
    refine ⟨fun c loc e => ?_, fun c1 c2 l1 l2 o1 o2 e1 e2 g1 g2 v1 v2 hbk => ?_⟩
    · rcases hcase c loc e with ⟨b, hb, e'⟩ | ⟨hc, e', hno⟩
      · obtain ⟨o, ho, hlt, hor⟩ := hr'.obj b loc e'
        exact ⟨_, hget b c o hb ho, hlt, hor.ren hcar⟩
      · obtain ⟨o, ho, hlt, hor⟩ := hR.obj c loc e'
        refine ⟨o, HAfter_out hno ho, Nat.lt_of_lt_of_le hlt T.size, ?_⟩
        cases hl : o.live with
        | false => exact hor.of_dead hl
        | true =>
          refine hor.mono hle (T.kept loc.blk hlt fun b0 l0 o0 e0 g0 w0 hb0 => ?_)
          obtain ⟨c0, hc0, e0'⟩ := hφ.1 e0
          obtain ⟨p, _, q, r, _⟩ := L.obj b0 c0 hc0
          rw [g0] at q; cases q
          have := hR.inj c0 c l0 loc _ o e0' e' r ho (by rw [renObj_wrt]; exact w0) hl hb0
          subst this; exact hno b0 hc0
    · rcases hcase c1 l1 e1 with ⟨b1, hb1, e1'⟩ | ⟨hc1, e1', hno1⟩ <;> rcases hcase c2 l2 e2 with ⟨b2, hb2, e2'⟩ | ⟨hc2, e2', hno2⟩
      · obtain ⟨p1, q1, _⟩ := hr'.obj b1 l1 e1'
        obtain ⟨p2, q2, _⟩ := hr'.obj b2 l2 e2'
        rw [hget b1 c1 p1 hb1 q1] at g1; cases g1
        rw [hget b2 c2 p2 hb2 q2] at g2; cases g2
        rw [renObj_wrt] at v1; rw [renObj_live] at v2
        have := hr'.inj b1 b2 l1 l2 p1 p2 e1' e2' q1 q2 v1 v2 hbk
        subst this
        rw [hb1] at hb2; cases hb2; rfl
      · obtain ⟨p1, q1, _⟩ := hr'.obj b1 l1 e1'
        obtain ⟨p2, q2, _⟩ := hR.obj c2 l2 e2'
        rw [hget b1 c1 p1 hb1 q1] at g1; cases g1
        rw [HAfter_out hno2 q2] at g2; cases g2
        rw [renObj_wrt] at v1
        exact absurd hbk (apart b1 l1 c2 l2 p1 _ e1' q1 hc2 e2' hno2 q2 (.inl ⟨v1, v2⟩))
      · obtain ⟨p1, q1, _⟩ := hR.obj c1 l1 e1'
        obtain ⟨p2, q2, _⟩ := hr'.obj b2 l2 e2'
        rw [HAfter_out hno1 q1] at g1; cases g1
        rw [hget b2 c2 p2 hb2 q2] at g2; cases g2
        rw [renObj_live] at v2
        exact absurd hbk.symm (apart b2 l2 c1 l1 p2 _ e2' q2 hc1 e1' hno1 q1 (.inr ⟨v2, v1⟩))
      · obtain ⟨p1, q1, _⟩ := hR.obj c1 l1 e1'
        obtain ⟨p2, q2, _⟩ := hR.obj c2 l2 e2'
        rw [HAfter_out hno1 q1] at g1; cases g1
        rw [HAfter_out hno2 q2] at g2; cases g2
        exact hR.inj c1 c2 l1 l2 _ _ e1' e2' q1 q2 v1 v2 hbk
  have wrtUp : ∀ b0 l0 o0, φ b0 = some l0 → h[b0]? = some o0 → o0.wrt = true → ∃ c0 o, Φ c0 = some l0 ∧ H[c0]? = some o ∧ o.wrt = true := by
    intro b0 l0 o0 e0 g0 w0
    obtain ⟨c0, hc0, e0'⟩ := hφ.1 e0
    obtain ⟨p, _, q, r, _⟩ := L.obj b0 c0 hc0
    rw [g0] at q; cases q
    exact ⟨c0, _, e0', r, by rw [renObj_wrt]; exact w0⟩
  refine ⟨Φ', w', fr, hfin, ?_, hst, hfn, ?_⟩
  · refine { le := hle, dom := hR.dom, os := T.os, tape := T.tape, output := T.output, size := T.size, len := by rw [HAfter_len]; omega, fresh := ?_, turns := ?_, kept := ?_, live := ?_, frz := T.frz }
    · intro c loc e
      rcases hcase c loc e with ⟨b, hb, e'⟩ | ⟨_, e', _⟩
      · by_cases hbl : b < h.length
        · have hs : σ b = some c := by simpa only [τ, σAfter, if_pos hbl] using hb
          obtain ⟨c', hc', e2⟩ := hφ.1 (hold b loc e' hbl)
          rw [hs] at hc'; cases hc'
          exact .inl e2
        · have hd := hr'.dom _ _ e'
          have hs : c = H.length + (b - h.length) := by
            have := hb
            simp only [τ, σAfter, if_neg hbl, if_pos hd, Option.some.injEq] at this
            exact this.symm
          refine .inr ⟨by omega, ?_⟩
          rcases T.fresh b loc e' with q | ⟨_, q | ⟨b0, l0, o0, q1, q2, q3, q4⟩⟩
          · have := hrel.dom _ _ q; omega
          · exact .inl q
          · obtain ⟨c0, o, k1, k2, k3⟩ := wrtUp b0 l0 o0 q1 q2 q3
            exact .inr ⟨c0, l0, o, k1, k2, k3, q4⟩
      · exact .inl e'
    · intro c o' e hw hc
      by_cases hx : ∃ b, σ b = some c
      · obtain ⟨b, hb⟩ := hx
        obtain ⟨o, _, ho, hH, _⟩ := L.obj b c hb
        have hbl := (List.getElem?_eq_some_iff.1 ho).1
        have hbl' : b < h'.length := by omega
        have := HAfter_in L hb (List.getElem?_eq_getElem hbl')
        rw [e] at this; cases this
        rw [renObj_wrt] at hw
        obtain ⟨o2, k1, k2⟩ := T.turns b _ (List.getElem?_eq_getElem hbl') hw hbl
        rw [ho] at k1; cases k1
        exact ⟨_, hH, by rw [renObj_wrt]; exact k2⟩
      · have hH := List.getElem?_eq_getElem hc
        have := HAfter_out (σ := σ) (h := h) (h' := h') (fun b hb => hx ⟨b, hb⟩) hH
        rw [e] at this; cases this
        exact ⟨_, hH, hw⟩
    · intro k hk hno
      refine T.kept k hk fun b0 l0 o0 e0 g0 w0 hb0 => ?_
      obtain ⟨c0, o, k1, k2, k3⟩ := wrtUp b0 l0 o0 e0 g0 w0
      exact hno c0 l0 o k1 k2 k3 hb0
    · intro c o' e hw hc
      by_cases hx : ∃ b, σ b = some c
      · obtain ⟨b, hb⟩ := hx
        obtain ⟨o, _, ho, hH, _⟩ := L.obj b c hb
        have hbl := (List.getElem?_eq_some_iff.1 ho).1
        have hbl' : b < h'.length := by omega
        have := HAfter_in L hb (List.getElem?_eq_getElem hbl')
        rw [e] at this; cases this
        rw [renObj_live] at hw
        obtain ⟨o2, k1, k2⟩ := T.live b _ (List.getElem?_eq_getElem hbl') hw hbl
        rw [ho] at k1; cases k1
        exact ⟨_, hH, by rw [renObj_live]; exact k2⟩
      · have hH := List.getElem?_eq_getElem hc
        have := HAfter_out (σ := σ) (h := h) (h' := h') (fun b hb => hx ⟨b, hb⟩) hH
        rw [e] at this; cases this
        exact ⟨_, hH, hw⟩
  · cases out with
    | ret v =>
      obtain ⟨v', k1, k2⟩ := hleft
      exact ⟨v', k1.ren hcar, k2⟩
    | pan v =>
      obtain ⟨v', k1, k2⟩ := hleft
      exact ⟨v', k1.ren hcar, k2⟩
end Go.E
namespace Go.E
open Go

def Val (P : Program) (h : EH) (B : Nat) : Nat → TypeId → List Value → Prop
  | 0, _, _ => False
  | n + 1, t, cs =>
    match P.underlying t with
    | some .bool => ∃ b, cs = [.bool b]
    | some (.int k) => ∃ x, cs = [.int k x] ∧ k.min ≤ x ∧ x ≤ k.max
    | some .string => ∃ s, cs = [.string s] ∧ s.size ≤ B
    | some (.slice e) => cs = [.slice none 0 0] ∨ ∃ b off len cap vs opn wr s, szOf P e = some s ∧ cs = [.slice (some ⟨b, off, none⟩) len cap] ∧ len ≤ cap ∧ len ≤ B ∧ h[b]? = some (.cells vs opn wr) ∧ off + cap * s ≤ vs.length ∧
        ∀ i, i < len → Val P h B n e ((vs.drop (off + i * s)).take s)
    | some (.struct fs) => szOf P t = some cs.length ∧ ∀ f ∈ fs.toList, ∃ s, szOf P f.type = some s ∧ f.offset + s ≤ cs.length ∧ Val P h B n f.type ((cs.drop f.offset).take s)
    | some (.array m e) => ∃ s, szOf P e = some s ∧ cs.length = m * s ∧ ∀ i, i < m → Val P h B n e ((cs.drop (i * s)).take s)
    | _ => False

def Ext (h h' : EH) : Prop := ∀ (b : Nat) (o : EObj), h[b]? = some o → h'[b]? = some o

theorem Ext.refl (h : EH) : Ext h h := fun _ _ e => e
theorem Ext.trans {a b c : EH} (h : Ext a b) (k : Ext b c) : Ext a c := fun _ _ e => k _ _ (h _ _ e)
theorem Ext.append (h new : EH) : Ext h (h ++ new) := fun b o e => by
  rw [List.getElem?_append_left (List.getElem?_eq_some_iff.1 e).1]; exact e
theorem Ext.len {h h' : EH} (e : Ext h h') : h.length ≤ h'.length := by
  cases hl : h.length with
  | zero => exact Nat.zero_le _
  | succ n =>
    have := e n _ (List.getElem?_eq_getElem (show n < h.length by omega))
    have := (List.getElem?_eq_some_iff.1 this).1
    omega

theorem Val.mono {P : Program} {h h' : EH} {B B' : Nat} (hx : Ext h h') (hB : B ≤ B') : ∀ {n : Nat} {t : TypeId} {cs : List Value}, Val P h B n t cs → Val P h' B' n t cs
  | 0, _, _, v => v.elim
  | n + 1, t, cs, v => by
    unfold Val at v ⊢
    split at v
    · exact v
    · exact v
    · obtain ⟨s, e, hs⟩ := v; exact ⟨s, e, by omega⟩
    · rcases v with v | ⟨b, off, len, cap, vs, opn, wr, s, v1, v2, v3, v4, v5, v6, v7⟩
      · exact .inl v
      · exact .inr ⟨b, off, len, cap, vs, opn, wr, s, v1, v2, v3, by omega, hx _ _ v5, v6, fun i hi => (v7 i hi).mono hx hB⟩
    · exact ⟨v.1, fun f hf => by obtain ⟨s, a, b, c⟩ := v.2 f hf; exact ⟨s, a, b, c.mono hx hB⟩⟩
    · obtain ⟨s, a, b, c⟩ := v; exact ⟨s, a, b, fun i hi => (c i hi).mono hx hB⟩
    · exact v.elim

def loadV (P : Program) (t : TypeId) (vs : List Value) (off : Nat) : Option Value :=
  match P.underlying t, szOf P t with
  | some d, some n =>
    if aggD d then (if off + n ≤ vs.length then some (.agg ((vs.drop off).take n).toArray) else none)
    else vs[off]?
  | _, _ => none

theorem load_row {P : Program} {t : TypeId} {h : EH} {b off : Nat} {vs : List Value} {opn : Option Nat} {wr : Bool} {v : Value} (hb : h[b]? = some (.cells vs opn wr)) (hv : loadV P t vs off = some v) : eLoad P t (.pointer (some ⟨b, off, none⟩)) h = some v := by
  unfold loadV at hv
  simp only [eLoad]
  split at hv
  · rename_i d n hu hs
    simp only [hu, hs]
    split at hv
    · rename_i hd
      simp only [hd, if_true]
      simp only [Option.ite_none_right_eq_some, Option.some.injEq] at hv
      obtain ⟨h1, rfl⟩ := hv
      simp only [rowOf, hb, if_pos h1, Option.map_some]
    · rename_i hd
      have hlt := (List.getElem?_eq_some_iff.1 hv).1
      simp only [hd, Bool.false_eq_true, if_false, rowOf, hb, if_pos (show off + 1 ≤ vs.length by omega), Option.bind_some]
      rw [List.getElem?_take, if_pos (by omega), List.getElem?_drop]
      simpa using hv
  · simp at hv

theorem es_load {P : Program} {t : TypeId} {x : Operand} {f : Nat → Value} {h : EH} {b off : Nat} {vs : List Value} {opn : Option Nat} {wr : Bool} {v : Value} (ha : ev f x = .pointer (some ⟨b, off, none⟩)) (hb : h[b]? = some (.cells vs opn wr))
    (hv : loadV P t vs off = some v) : estep P (.load t x) (ev f) h = some (v, h) := by
  simp only [estep, ha, load_row hb hv, Option.map_some]

def storeV (P : Program) (t : TypeId) (vs : List Value) (off : Nat) (u : Value) : Option (List Value) :=
  if szOf P t = some u.cells.size ∧ isUnk u = false ∧ off + u.cells.toList.length ≤ vs.length ∧ u.cells.toList.all (fun v => oneCell v && !isUnk v) = true then some (splice vs off u.cells.toList) else none

theorem store_row {P : Program} {t : TypeId} {h : EH} {b off : Nat} {vs vs' : List Value} {opn : Option Nat} {u : Value} (hb : h[b]? = some (.cells vs opn true)) (hv : storeV P t vs off u = some vs') :
    eStore P t (.pointer (some ⟨b, off, none⟩)) u h = some (h.set b (.cells vs' opn true)) := by
  simp only [storeV, Option.ite_none_right_eq_some, Option.some.injEq] at hv
  obtain ⟨⟨h1, h2, h3, h4⟩, rfl⟩ := hv
  simp only [eStore, storeRow, hb]
  rw [if_pos ⟨h1, h2⟩, if_pos ⟨h3, h4⟩]

theorem es_store {P : Program} {t : TypeId} {x y : Operand} {f : Nat → Value} {h : EH} {b off : Nat} {vs vs' : List Value} {opn : Option Nat} {u : Value} (ha : ev f x = .pointer (some ⟨b, off, none⟩)) (hy : ev f y = u) (hb : h[b]? = some (.cells vs opn true))
    (hv : storeV P t vs off u = some vs') : estep P (.store t x y) (ev f) h = some (undef, h.set b (.cells vs' opn true)) := by
  simp only [estep, ha, hy, store_row hb hv, Option.map_some]

theorem set_same {h : EH} {b : Nat} {o o' : EObj} (hb : h[b]? = some o) : (h.set b o')[b]? = some o' := by
  have := (List.getElem?_eq_some_iff.1 hb).1
  simp [this]

theorem set_other {h : EH} {b c : Nat} {o' : EObj} {o : EObj} (hc : h[c]? = some o) (hne : c ≠ b) : (h.set b o')[c]? = some o := by
  rw [List.getElem?_set_ne (Ne.symm hne)]; exact hc

theorem app_new {h : EH} {o : EObj} : (h ++ [o])[h.length]? = some o := by simp

theorem app_old {h new : EH} {b : Nat} {o : EObj} (hb : h[b]? = some o) : (h ++ new)[b]? = some o := Ext.append h new b o hb

theorem get_lt {h : EH} {b : Nat} {o : EObj} (hb : h[b]? = some o) : b < h.length := (List.getElem?_eq_some_iff.1 hb).1
end Go.E
namespace Go.E
open Go

def appSz (P : Program) (st xt : TypeId) : Option Nat :=
  match P.underlying st, P.underlying xt with
  | some (.slice el), some xd => if isIntD xd = true then none else (zeroOf P el).map (·.2)
  | _, _ => none

theorem appSz_spec {P : Program} {st xt s : Nat} (h : appSz P st xt = some s) : ∃ el xd z, P.underlying st = some (.slice el) ∧ P.underlying xt = some xd ∧ isIntD xd = false ∧ zeroOf P el = some (z, s) := by
  unfold appSz at h
  split at h
  · rename_i el xd h1 h2
    simp only [Option.ite_none_left_eq_some, Option.map_eq_some_iff] at h
    obtain ⟨h3, ⟨z, s'⟩, h4, rfl⟩ := h
    exact ⟨el, xd, z, h1, h2, by simpa using h3, h4⟩
  · simp at h

theorem src_row {h : EH} {b n c s : Nat} {vs : List Value} {opn : Option Nat} {wr : Bool} (hb : h[b]? = some (.cells vs opn wr)) (hl : vs.length = n * s) : eSrc h s (.slice (some ⟨b, 0, none⟩) n c) = some vs := by
  simp only [eSrc, rowOf, hb]
  by_cases hn : n = 0
  · subst hn
    have : vs = [] := List.eq_nil_of_length_eq_zero (by rw [hl]; simp)
    simp [this]
  · have h1 : 0 + n * s ≤ vs.length := by omega
    simp only [hn, if_false, h1, if_true, List.drop_zero]
    rw [← hl, List.take_length]

theorem append_nil {P : Program} {st xt s b n c : Nat} {h : EH} {vs : List Value} {opn : Option Nat} {wr : Bool} (hz : appSz P st xt = some s) (hb : h[b]? = some (.cells vs opn wr)) (hl : vs.length = n * s) (h0 : n ≠ 0) (hn : n ≤ 1073741824) :
    eAppend P st xt (.slice none 0 0) (.slice (some ⟨b, 0, none⟩) n c) h = some (.slice (some ⟨h.length, 0, none⟩) n n, h ++ [opRow vs s]) := by
  obtain ⟨el, xd, z, h1, h2, h3, h4⟩ := appSz_spec hz
  simp only [eAppend, h1, h2, h3, h4, src_row hb hl, lenV, Bool.false_eq_true, if_false, h0, hn, if_true]

theorem es_append {P : Program} {c : Call} {x y : Operand} {st xt : TypeId} {f : Nat → Value} {h h' : EH} {u v w : Value} (hc : c.callee = .builtin .append) (ha : c.args = #[x, y]) (ht : c.argTypes = #[st, xt]) (hx : ev f x = u) (hy : ev f y = v)
    (e : eAppend P st xt u v h = some (w, h')) : estep P (.call c) (ev f) h = some (w, h') := by
  simp only [estep, hc, ha, ht, eBuiltin, List.map_cons, List.map_nil, hx, hy, e]
end Go.E
namespace Go.E
open Go

def fnEq : Fn → Fn → Bool
  | .func f, .func g => f == g
  | .yield l, .yield k => l == k
  | _, _ => false

theorem fnEq_sound {f g : Fn} (h : fnEq f g = true) : f = g := by
  cases f <;> cases g <;> simp_all [fnEq]

mutual
def valEq : Value → Value → Bool
  | .bool a, .bool b => a == b
  | .int k a, .int j b => k == j && a == b
  | .string a, .string b => decide (a.data.toList = b.data.toList)
  | .pointer a, .pointer b => decide (a = b)
  | .slice a n c, .slice b m d => decide (a = b) && n == m && c == d
  | .map a, .map b => a == b
  | .nilFunc, .nilFunc => true
  | .nilIface, .nilIface => true
  | .func f a c, .func g b d => fnEq f g && arrEq a b && arrEq c d
  | .iface t v, .iface u w => t == u && valEq v w
  | .agg a, .agg b => arrEq a b
  | .tuple a, .tuple b => arrEq a b
  | _, _ => false
def arrEq : Array Value → Array Value → Bool
  | ⟨a⟩, ⟨b⟩ => lstEq a b
def lstEq : List Value → List Value → Bool
  | [], [] => true
  | a :: as, b :: bs => valEq a b && lstEq as bs
  | _, _ => false
end

mutual
theorem valEq_sound : ∀ (a b : Value), valEq a b = true → a = b
  | .bool a, b, h => by cases b <;> simp_all [valEq]
  | .int k a, b, h => by cases b <;> simp_all [valEq]
  | .float k a, b, h => by cases b <;> simp_all [valEq]
  | .complex k a c, b, h => by cases b <;> simp_all [valEq]
  | .string a, b, h => by
    cases b <;> simp only [valEq, Bool.false_eq_true, decide_eq_true_eq] at h
    rename_i b
    congr 1
    cases a; cases b
    simp only [ByteArray.mk.injEq]
    exact Array.toList_inj.1 h
  | .pointer a, b, h => by cases b <;> simp_all [valEq]
  | .slice a n c, b, h => by cases b <;> simp_all [valEq]
  | .map a, b, h => by cases b <;> simp_all [valEq]
  | .chan a, b, h => by cases b <;> simp_all [valEq]
  | .nilFunc, b, h => by cases b <;> simp_all [valEq]
  | .nilIface, b, h => by cases b <;> simp_all [valEq]
  | .func f a c, b, h => by
    cases b <;> simp only [valEq, Bool.false_eq_true, Bool.and_eq_true] at h
    obtain ⟨⟨h1, h2⟩, h3⟩ := h
    rw [fnEq_sound h1, arrEq_sound _ _ h2, arrEq_sound _ _ h3]
  | .iface t v, b, h => by
    cases b <;> simp only [valEq, Bool.false_eq_true, Bool.and_eq_true, beq_iff_eq] at h
    rw [h.1, valEq_sound _ _ h.2]
  | .agg a, b, h => by
    cases b <;> simp only [valEq, Bool.false_eq_true] at h
    rw [arrEq_sound _ _ h]
  | .tuple a, b, h => by
    cases b <;> simp only [valEq, Bool.false_eq_true] at h
    rw [arrEq_sound _ _ h]
theorem arrEq_sound : ∀ (a b : Array Value), arrEq a b = true → a = b
  | ⟨a⟩, ⟨b⟩, h => by rw [lstEq_sound a b h]
theorem lstEq_sound : ∀ (a b : List Value), lstEq a b = true → a = b
  | [], [], _ => rfl
  | a :: as, b :: bs, h => by
    simp only [lstEq, Bool.and_eq_true] at h
    rw [valEq_sound a b h.1, lstEq_sound as bs h.2]
  | [], _ :: _, h => by simp [lstEq] at h
  | _ :: _, [], h => by simp [lstEq] at h
end

def entEq : List MapEntry → List MapEntry → Bool
  | [], [] => true
  | a :: as, b :: bs => valEq a.key b.key && valEq a.val b.val && a.born == b.born && entEq as bs
  | _, _ => false

theorem entEq_sound : ∀ (a b : List MapEntry), entEq a b = true → a = b
  | [], [], _ => rfl
  | ⟨k, v, n⟩ :: as, ⟨k', v', n'⟩ :: bs, h => by
    simp only [entEq, Bool.and_eq_true, beq_iff_eq] at h
    obtain ⟨⟨⟨h1, h2⟩, h3⟩, h4⟩ := h
    rw [valEq_sound _ _ h1, valEq_sound _ _ h2, h3, entEq_sound as bs h4]
  | [], _ :: _, h => by simp [entEq] at h
  | _ :: _, [], h => by simp [entEq] at h

def objEq : EObj → EObj → Bool
  | .cells vs o w, .cells us p x => lstEq vs us && decide (o = p) && w == x
  | .dead, .dead => true
  | .map es c, .map fs d => entEq es fs && c == d
  | .str s p, .str t q => decide (s.data.toList = t.data.toList) && p == q
  | .defers, .defers => true
  | _, _ => false

theorem objEq_sound {a b : EObj} (h : objEq a b = true) : a = b := by
  cases a <;> cases b <;> simp only [objEq, Bool.false_eq_true, Bool.and_eq_true, decide_eq_true_eq, beq_iff_eq] at h
  · obtain ⟨⟨h1, h2⟩, h3⟩ := h
    rw [lstEq_sound _ _ h1, h2, h3]
  · rfl
  · rw [entEq_sound _ _ h.1, h.2]
  · obtain ⟨h1, h2⟩ := h
    rename_i s p t q
    have : s = t := by
      cases s; cases t
      simp only [ByteArray.mk.injEq]
      exact Array.toList_inj.1 h1
    rw [this, h2]
  · rfl

def oobjEq : Option EObj → Option EObj → Bool
  | some a, some b => objEq a b
  | none, none => true
  | _, _ => false

theorem oobjEq_sound {a b : Option EObj} (h : oobjEq a b = true) : a = b := by
  cases a <;> cases b <;> simp only [oobjEq, Bool.false_eq_true] at h
  · rfl
  · rw [objEq_sound h]
end Go.E
namespace Go.E
open Go

section
variable {P : Program} {N : Nat} {ops : Array Oper}

inductive DSeqP (P : Program) (N : Nat) (ops : Array Oper) (j : Nat) : Nat → (Nat → Value) → EH → List ((Nat → Value) × EH) → Prop
  | done {i : Nat} {f : Nat → Value} {h : EH} (hi : ops.size = i) : DSeqP P N ops j i f h []
  | skip {i : Nat} {f : Nat → Value} {h : EH} {o : Oper} {tr : List ((Nat → Value) × EH)} (hi : ops[i]? = some o) (hk : opOk N o = true) (hw : wantE N ops f o = some false) (k : DSeqP P N ops j (i + 1) (setT f o.dst undef) h tr) :
      DSeqP P N ops j i f h ((setT f o.dst undef, h) :: tr)
  | op {i : Nat} {f : Nat → Value} {h h' : EH} {o : Oper} {v : Value} {tr : List ((Nat → Value) × EH)} (hi : ops[i]? = some o) (hk : opOk N o = true) (hw : wantE N ops f o = some true) (hl : h.length ≤ h'.length)
      (e : (isQuiet o.op = true ∧ estep P o.op (ev f) h = some (v, h')) ∨ (isQuiet o.op = false ∧ XStep P f h o.op v h')) (k : DSeqP P N ops j (i + 1) (setT f o.dst v) h' tr) : DSeqP P N ops j i f h ((setT f o.dst v, h') :: tr)
  | pan {f : Nat → Value} {h : EH} {o : Oper} {tr : List ((Nat → Value) × EH)} (hi : ops[j]? = some o) (hk : opOk N o = true) (hw : wantE N ops f o = some true) (hq : isQuiet o.op = false) (k : DSeqP P N ops j (j + 1) (setT f o.dst (.chan none)) h tr) :
      DSeqP P N ops j j f h ((setT f o.dst (.chan none), h) :: tr)
  | behind {i : Nat} {f : Nat → Value} {h : EH} {o : Oper} {tr : List ((Nat → Value) × EH)} (hi : ops[i]? = some o) (hk : opOk N o = true) (hj : j < i) (hb : ordB (befores ops) j i = true) (k : DSeqP P N ops j (i + 1) (setT f o.dst (.chan none)) h tr) :
      DSeqP P N ops j i f h ((setT f o.dst (.chan none), h) :: tr)

theorem DSeqP.len {j i : Nat} {f : Nat → Value} {h : EH} {tr : List ((Nat → Value) × EH)} (d : DSeqP P N ops j i f h tr) : i + tr.length = ops.size := by
  induction d with
  | done hi => simpa using hi.symm
  | skip _ _ _ _ ih => simp only [List.length_cons]; omega
  | op _ _ _ _ _ _ ih => simp only [List.length_cons]; omega
  | pan _ _ _ _ _ ih => simp only [List.length_cons]; omega
  | behind _ _ _ _ _ ih => simp only [List.length_cons]; omega

def Step1P (P : Program) (N : Nat) (ops : Array Oper) (j i : Nat) (s s' : (Nat → Value) × EH) : Prop :=
  ∀ o, ops[i]? = some o → opOk N o = true ∧ ∃ v, s'.1 = setT s.1 o.dst v ∧ s.2.length ≤ s'.2.length ∧
    ((wantE N ops s.1 o = some false ∧ v = undef ∧ s'.2 = s.2) ∨
     (wantE N ops s.1 o = some true ∧ isQuiet o.op = true ∧ estep P o.op (ev s.1) s.2 = some (v, s'.2)) ∨
     (wantE N ops s.1 o = some true ∧ isQuiet o.op = false ∧ XStep P s.1 s.2 o.op v s'.2) ∨
     (∃ j', some j = some j' ∧ j' < i ∧ ordB (befores ops) j' i = true ∧ s'.2 = s.2) ∨
     (some j = some i ∧ wantE N ops s.1 o = some true ∧ isQuiet o.op = false))

theorem DSeqP.steps {j i : Nat} {f : Nat → Value} {h : EH} {tr : List ((Nat → Value) × EH)} (d : DSeqP P N ops j i f h tr) : ∀ k, Step1P P N ops j (i + k) (stAt (f, h) tr k) (stAt (f, h) tr (k + 1)) := by
  have gen : ∀ {i : Nat} {f f' : Nat → Value} {h h' : EH} {tr : List ((Nat → Value) × EH)}, DSeqP P N ops j (i + 1) f' h' tr → (∀ k, Step1P P N ops j (i + 1 + k) (stAt (f', h') tr k) (stAt (f', h') tr (k + 1))) → Step1P P N ops j i (f, h) (f', h') →
      ∀ k, Step1P P N ops j (i + k) (stAt (f, h) ((f', h') :: tr) k) (stAt (f, h) ((f', h') :: tr) (k + 1)) := by
    intro i f f' h h' tr kk ih h0 k o' ho
    have hlen := kk.len
    have hk' : i + k < ops.size := (Array.getElem?_eq_some_iff.1 ho).1
    cases k with
    | zero =>
      rw [stAt_succ (Nat.zero_le _)]
      exact h0 o' (by simpa using ho)
    | succ k =>
      rw [stAt_succ (by omega), stAt_succ (by omega)]
      have := ih k o' (by rw [show i + 1 + k = i + (k + 1) by omega]; exact ho)
      rw [show i + 1 + k = i + (k + 1) by omega] at this
      exact this
  induction d with
  | done hi =>
    intro k o ho
    have := (Array.getElem?_eq_some_iff.1 ho).1
    omega
  | skip hi hk hw kk ih => exact gen kk ih (fun o' ho => by rw [hi] at ho; cases ho; exact ⟨hk, _, rfl, Nat.le_refl _, .inl ⟨hw, rfl, rfl⟩⟩)
  | op hi hk hw hl e kk ih =>
    refine gen kk ih (fun o' ho => ?_)
    rw [hi] at ho; cases ho
    refine ⟨hk, _, rfl, hl, ?_⟩
    rcases e with ⟨e1, e2⟩ | ⟨e1, e2⟩
    · exact .inr (.inl ⟨hw, e1, e2⟩)
    · exact .inr (.inr (.inl ⟨hw, e1, e2⟩))
  | pan hi hk hw hq kk ih => exact gen kk ih (fun o' ho => by rw [hi] at ho; cases ho; exact ⟨hk, _, rfl, Nat.le_refl _, .inr (.inr (.inr (.inr ⟨rfl, hw, hq⟩)))⟩)
  | behind hi hk hj hb kk ih => exact gen kk ih (fun o' ho => by rw [hi] at ho; cases ho; exact ⟨hk, _, rfl, Nat.le_refl _, .inr (.inr (.inr (.inl ⟨j, rfl, hj, hb, rfl⟩)))⟩)

theorem DSeqP.run {j : Nat} {f : Nat → Value} {h : EH} {tr : List ((Nat → Value) × EH)} (d : DSeqP P N ops j 0 f h tr) (side : ∀ p ∈ badPairs ops, SideOk ops (f, h) tr p) :
    DRun P N ops (fun k => (stAt (f, h) tr k).1) (fun k => (stAt (f, h) tr k).2) (some j) := by
  have st := d.steps
  simp only [Nat.zero_add] at st
  refine ⟨fun i o hi => st i o hi, ?_⟩
  intro i j' oi oj hij hi hj ho hwi hwj
  have quietSame : ∀ k o, ops[k]? = some o → isQuiet o.op = true → looksOrMakes o.op = false → wantE N ops (stAt (f, h) tr k).1 o = some true →
      (stAt (f, h) tr (k + 1)).2 = (stAt (f, h) tr k).2 ∧ reads o.op (ev (stAt (f, h) tr k).1) = none := by
    intro k o hk hq hm hw
    have hrd : reads o.op (ev (stAt (f, h) tr k).1) = none := by
      cases hop : o.op <;> rw [hop] at hm <;> simp only [looksOrMakes, Bool.true_eq_false] at hm <;> rfl
    obtain ⟨_, v, _, _, h1 | h1 | h1 | ⟨_, _, _, _, h1⟩ | h1⟩ := st k o hk
    · rw [h1.1] at hw; cases hw
    · exact quiet_makes hq hm h1.2.2
    · rw [h1.2.1] at hq; cases hq
    · exact ⟨h1, hrd⟩
    · rw [h1.2.2] at hq; cases hq
  constructor
  · intro hqi hqj
    cases hm : looksOrMakes oi.op with
    | true => exact (side (i, j') (mem_badPairs hij hi hj ho (.inl ⟨hqi, hm, hqj⟩)) oi oj hi hj).1 hqi
    | false =>
      obtain ⟨e1, e2⟩ := quietSame i oi hi hqi hm hwi
      refine ⟨fun b hb => ?_, fun b h1 h2 => ?_⟩
      · rw [e2] at hb; cases hb
      · rw [e1] at h2; omega
  · intro hqi hqj
    cases hm : looksOrMakes oj.op with
    | true => exact (side (i, j') (mem_badPairs hij hi hj ho (.inr ⟨hqi, hqj, hm⟩)) oi oj hi hj).2 hqj
    | false =>
      obtain ⟨e1, e2⟩ := quietSame j' oj hj hqj hm hwj
      intro b hb
      rw [e2] at hb; cases hb

theorem W.draw_panic {ro : Option Nat} {id : Nat} {st : St} {Q : Ex → St → Prop} {j : Nat} {o : Oper} {g : FuncId} {args : Array Value} {v : Value} {h' : EH} {tr : List ((Nat → Value) × EH)} (hm : P.follows .mixedOrders = true) (hc : drawOk ops = true)
    (d : DSeqP P N ops j 0 st.f st.h tr) (side : ∀ p ∈ badPairs ops, SideOk ops (st.f, st.h) tr p) (hj : ops[j]? = some o) (hk : opOk N o = true) (hw : wantE N ops (stAt (st.f, st.h) tr j).1 o = some true) (hq : isQuiet o.op = false)
    (e : callee (stAt (st.f, st.h) tr j).1 o.op = some (g, args)) (hf : fnOk P g = true) (hs : SndFn P g args (stAt (st.f, st.h) tr j).2 (.pan v) h') (q : Q (.panic v) { f := panicF ops st.f, ds := st.ds, h := h', rc := st.rc }) : W P N ro (.region id ops true) st Q :=
  ⟨_, _, snd_draw_panic (ro := ro) (id := id) (ds := st.ds) (rc := st.rc) hm hc (d.run side) hj hk hw hq e hf hs, q⟩
end
end Go.E
