/-
  G15: PARTS OF ELEMENTS; rows cloned out of memory; the call's own rows read as memory beside the old.
-/
import Derived.Test.YtenkebdjlajanaaGB
import Derived.Test.YtenkebdjlajanaaRA
set_option linter.all false
set_option linter.constructorNameAsVariable false
set_option linter.unusedSimpArgs false
set_option linter.unusedVariables false
set_option linter.unusedSectionVars false
set_option linter.unnecessarySimpa false
namespace Go.E
open Go

section
variable {P : Program} {f : Nat → Value} {C : EH → Prop} {hr : RO} {h0 : EH} {F : List Nat} {L L' L1 : Ents} {x y i : Operand} {t : TypeId} {v u : Value} {b o n c m d z zt : Nat} {a : Option Addr} {e : List Lay} {l : Lay}

theorem Cell.okv {l : Lay} {v : Value} (c : Cell hr l v) : Go.E.okv v = true := by cases c <;> rfl

theorem Cell.base {l : Lay} {v : Value} (hl : l.base = true) (c : Cell hr l v) : Cell (fun _ => none) l v := by
  cases c with
  | int h => exact .int h
  | bool => exact .bool
  | str h => exact .str h
  | nil => cases hl
  | sle => cases hl
  | sl => cases hl

theorem pos_split {z p : Nat} (hz : 0 < z) : p = p / z * z + p % z ∧ p % z < z := ⟨by rw [Nat.mul_comm]; exact (Nat.div_add_mod p z).symm, Nat.mod_lt _ hz⟩

def romV (hr : RO) (a : Option Addr) (k : Nat) : List Value := ((rv hr a).drop (so a)).take k

theorem Cell.romV (hc : Cell hr (.sl e) (.slice a n c)) (hb : e.all Lay.base = true) (hz : e.length = z) (hz0 : 0 < z) :
    (Go.E.romV hr a (n * z)).length = n * z ∧ RowT e (Go.E.romV hr a (n * z)) ∧ (Go.E.romV hr a (n * z)).all Go.E.okv = true := by
  subst hz
  have hbl : ∀ (j : Nat) (l : Lay), e[j]? = some l → l.base = true := fun j l h => List.all_eq_true.1 hb l (List.mem_of_getElem? h)
  have key : ∀ vs : List Value, vs.length = n * e.length → (∀ i, i < n → ∀ (j : Nat) (l : Lay), e[j]? = some l → Cell hr l (vs.getD (i * e.length + j) undef)) → vs.length = n * e.length ∧ RowT e vs ∧ vs.all Go.E.okv = true := by
    intro vs hl hv
    have hv' : ∀ (p : Nat) (v : Value), vs[p]? = some v → ∃ l, e[p % e.length]? = some l ∧ Cell hr l v := by
      intro p v hp
      have hp' := (List.getElem?_eq_some_iff.1 hp).1
      obtain ⟨q1, q2⟩ := pos_split (p := p) hz0
      refine ⟨_, List.getElem?_eq_getElem q2, ?_⟩
      have := hv (p / e.length) (by rw [Nat.div_lt_iff_lt_mul hz0]; omega) (p % e.length) _ (List.getElem?_eq_getElem q2)
      rw [← q1, List.getD_eq_getElem?_getD, hp] at this
      exact this
    refine ⟨hl, ?_, ?_⟩
    · intro i j l v hj hv2
      obtain ⟨l', h1, h2⟩ := hv' _ _ hv2
      have hj' := (List.getElem?_eq_some_iff.1 hj).1
      rw [Nat.mul_add_mod_self_right, Nat.mod_eq_of_lt hj', hj] at h1
      cases h1
      exact h2.base (hbl _ _ hj)
    · rw [List.all_eq_true]
      intro v hm
      obtain ⟨p, hp⟩ := List.getElem?_of_mem hm
      obtain ⟨l', _, h2⟩ := hv' _ _ hp
      exact h2.okv
  by_cases h0 : n = 0
  · subst h0
    refine key _ (by simp [Go.E.romV]) (fun i hi => absurd hi (by omega))
  have hlt : 0 < n := by omega
  obtain ⟨_, _, hl⟩ := hc.hit hlt
  have hle := hc.le
  have : n * e.length ≤ c * e.length := Nat.mul_le_mul_right _ hle.1
  refine key _ (by simp only [Go.E.romV, List.length_take, List.length_drop]; omega) fun i hi j l hj => ?_
  have hj' := (List.getElem?_eq_some_iff.1 hj).1
  have h2 : i * e.length + e.length ≤ n * e.length := by rw [← Nat.succ_mul]; exact Nat.mul_le_mul_right _ (by omega)
  have h3 := hc.atE hi hj
  have h4 := hc.at hi hj
  rw [Go.E.romV, List.getD_eq_getElem?_getD, List.getElem?_take, if_pos (by omega), List.getElem?_drop, h3]
  exact h4

theorem Src.cell {vs : List Value} (ex : ev f x = .slice a n c) (hc : Cell hr (.sl e) (.slice a n c)) (hz : e.length = z) (hv : Go.E.romV hr a (n * z) = vs) : Src f (Hp hr h0 F L) z x n vs := by
  subst hz hv
  refine .rom ex fun h H => ?_
  by_cases h0 : n = 0
  · subst h0
    simp only [Go.E.romV, Nat.zero_mul, List.take_zero]
    generalize hs : Value.slice a 0 c = sv at hc
    cases hc with
    | nil => cases hs; rfl
    | sle => cases hs; rfl
    | sl => cases hs; simp [eSrc]
  have hlt : 0 < n := by omega
  obtain ⟨ha, ⟨opn, wr, hb, _⟩, hl⟩ := hc.hit hlt
  have hle := hc.le
  have : n * e.length ≤ c * e.length := Nat.mul_le_mul_right _ hle.1
  generalize hs : Go.E.romV hr a (n * e.length) = V
  rw [ha]
  simp only [eSrc, if_neg h0, rowOf, H.rom _ _ hb]
  rw [if_pos (by omega), ← hs]
  rfl
end

section
variable {f : Nat → Value} {ds : List Deferred} {rc : Option (Value × Bool)} {Q : Ex → St → Prop} {hr : RO} {h0 : EH} {F : List Nat} {L L1 : Ents}
theorem GQ.nextT {X : Type} {Rg : X → List (Nat × Value)} {LI : X → Ents} {I : X → Prop} {μ : X → Nat} {m : Nat} (x' : X) (hR : Regs f (Rg x')) (t : Take L (LI x') L1) (hI : I x') (hm : μ x' < m) :
    GQ .normal f ds rc (Hp hr h0 F L) (onward (fun st => ∃ x', Regs st.f (Rg x') ∧ Hp hr h0 F (LI x') st.h ∧ I x' ∧ μ x' < m ∧ st.ds = ds ∧ st.rc = rc) Q) := GQ.next x' hI hm hR t
end

section
variable {P : Program} {f : Nat → Value} {C C' : EH → Prop} {hr : RO} {h0 : EH} {F : List Nat} {L L' L1 E : Ents} {x y i : Operand} {st xt : TypeId} {v : Value} {n m z : Nat} {l new : List Int} {vs : List Value}

theorem Src.mono (hC : ∀ h, C' h → C h) (s : Src f C z x n vs) : Src f C' z x n vs := by
  cases s with
  | row e m hl => exact .row e (fun h hc => m h (hC h hc)) hl
  | rom e h => exact .rom e (fun h' hc => h h' (hC h' hc))

theorem SN.apN (hz : appSz P st xt = some z) (nr : NR z v E m l) (ex : ev f x = v) (s : Src f (Hp hr h0 F L) z y n (ints new)) (hn0 : n ≠ 0) (hn : m + n ≤ 1073741824) (t : Take L E L1) :
    SN P (.call ⟨.builtin .append, #[x, y], #[st, xt]⟩) f (Hp hr h0 F L) (fun a => rowS a (m + n)) (fun a => Hp hr h0 F ((a, opRow (ints (l ++ new)) z) :: L1)) := by
  intro h H
  have hp := t.perm
  cases nr with
  | nil =>
    obtain ⟨a, h', e, H'⟩ := SN.ap0 hz ex s hn0 (by omega) h H
    refine ⟨a, h', by rw [Nat.zero_add]; exact e, ?_⟩
    rw [List.nil_append]
    exact H'.perm (List.Perm.cons _ (by simpa using hp))
  | row hm hl =>
    obtain ⟨a, h', e, H'⟩ := SN.apO (L := _ :: L1) hz ex (s.mono fun h' H' => H'.perm hp.symm) hn0 hn (by
      rw [List.all_eq_true]
      intro u hu
      simp only [Go.E.ints, List.mem_map] at hu
      obtain ⟨q, _, rfl⟩ := hu
      rfl) .z (by rw [ints_len]; exact hl) h (H.perm hp)
    refine ⟨a, h', e, ?_⟩
    have : Go.E.ints (l ++ new) = Go.E.ints l ++ Go.E.ints new := by simp [Go.E.ints]
    rw [this]
    exact H'

theorem NR.app {r : Nat} (nr : NR z v E m l) (hn : 0 < n) (hl : new.length = n * z) : NR z (rowS r (m + n)) [(r, opRow (ints (l ++ new)) z)] (m + n) (l ++ new) := by
  refine .row (by omega) ?_
  rw [List.length_append, hl, Nat.add_mul]
  cases nr with
  | nil => simp
  | row _ h => rw [h]
end

theorem NR.two {v : Value} {E : Ents} {m z : Nat} {l : List Int} (nr : NR z v E m l) : (m = 0 ∧ v = nilS ∧ E = []) ∨ (0 < m ∧ ∃ r, v = rowS r m ∧ E = [(r, opRow (ints l) z)] ∧ l.length = m * z) := by
  cases nr with
  | nil => exact .inl ⟨rfl, rfl, rfl⟩
  | row hm hl => exact .inr ⟨hm, _, rfl, rfl, hl⟩

theorem RowT.toInts {e : List Lay} (he : ∀ l ∈ e, ∃ s, l = .int .i64 s) {m : Nat} {vs : List Value} (h : RowT e vs) (hl : vs.length = m * e.length) (hz : 0 < e.length) : ∃ l : List Int, vs = Go.E.ints l ∧ l.length = m * e.length := by
  refine ⟨vs.map iv, ?_, by rw [List.length_map, hl]⟩
  unfold Go.E.ints
  rw [List.map_map]
  conv => lhs; rw [← List.map_id vs]
  apply List.map_congr_left
  intro v hv
  obtain ⟨p, hp⟩ := List.getElem?_of_mem hv
  obtain ⟨q1, q2⟩ := pos_split (p := p) hz
  have := h (p / e.length) (p % e.length) _ v (List.getElem?_eq_getElem q2) (by rw [← q1]; exact hp)
  obtain ⟨s, hs⟩ := he _ (List.getElem_mem q2)
  rw [hs] at this
  cases this
  rfl

theorem Cell.mono {hr hr' : RO} (u : ∀ b o, hr b = some o → hr' b = some o) {l : Lay} {v : Value} (c : Cell hr l v) : Cell hr' l v := by
  induction c with
  | int h => exact .int h
  | bool => exact .bool
  | str h => exact .str h
  | nil => exact .nil
  | sle => exact .sle
  | sl hb hn hc hl ho he ih => exact .sl (u _ _ hb) hn hc hl ho ih

end Go.E
namespace Go.E
open Go

section
variable {P : Program} {N : Nat} {ro : Option Nat} {f : Nat → Value} {ds : List Deferred} {rc : Option (Value × Bool)} {C : EH → Prop} {Q : Ex → St → Prop} {hr : RO} {h0 : EH} {F : List Nat} {L L1 ps : Ents}

def marks (dd : List Nat) : List Deferred := dd.map fun d => ⟨.collected d, #[]⟩
inductive EndM (P : Program) (fn : Func) (Q : Out → EH → Prop) : Ex → St → Prop
  | base {ex : Ex} {st : St} (q : bodyQ P fn Q ex st) : EndM P fn Q ex st
  | mark {ex : Ex} {st : St} {d : Nat} {ds : List Deferred} (hx : ex.ends = some none) (hd : st.ds = ⟨.collected d, #[]⟩ :: ds) (ho : st.h[d]? = some .defers) (k : EndM P fn Q .ret { st with ds := ds, h := st.h.set d .dead }) : EndM P fn Q ex st

theorem EndM.go {fn : Func} {Q : Out → EH → Prop} {ex : Ex} {st : St} (q : EndM P fn Q ex st) : ∃ pm out h', ex.ends = some pm ∧ SndEnd P fn st pm out h' ∧ Q out h' := by
  induction q with
  | @base ex st q =>
    cases ex with
    | normal =>
      obtain ⟨hd, v, e, q⟩ := q
      exact ⟨_, _, _, rfl, end_ret hd e, q⟩
    | ret =>
      obtain ⟨hd, v, e, q⟩ := q
      exact ⟨_, _, _, rfl, end_ret hd e, q⟩
    | panic v => exact ⟨_, _, _, rfl, end_pan q.1, q.2⟩
    | exit id => exact q.elim
  | mark hx hd ho _ ih =>
    obtain ⟨pm, out, h', h1, s, q⟩ := ih
    cases h1
    exact ⟨none, out, h', hx, end_collected hd rfl ho s, q⟩

end
end Go.E
namespace Go.E
open Go

def Sw (l l' : List Int) : Prop := l'.length = l.length ∧ ∀ x ∈ l', x ∈ l

theorem Sw.refl (l : List Int) : Sw l l := ⟨rfl, fun _ h => h⟩
theorem Sw.trans {a b c : List Int} (h : Sw a b) (k : Sw b c) : Sw a c := ⟨k.1.trans h.1, fun x hx => h.2 x (k.2 x hx)⟩
theorem getD_mem {l : List Int} {k : Nat} (h : k < l.length) : l.getD k 0 ∈ l := by
  rw [List.getD_eq_getElem?_getD, List.getElem?_eq_getElem h]
  exact List.getElem_mem h
theorem Sw.setG {l0 l1 l : List Int} {i k : Nat} (s : Sw l0 l1) (s2 : Sw l0 l) (hk : k < l.length) : Sw l0 (l1.set i (l.getD k 0)) := by
  refine ⟨by rw [List.length_set]; exact s.1, fun x hx => ?_⟩
  rcases List.mem_or_eq_of_mem_set hx with h | rfl
  · exact s.2 x h
  · exact s2.2 _ (getD_mem hk)
theorem Sw.sw {l0 l : List Int} {i j k m : Nat} (s : Sw l0 l) (hk : k < l.length) (hm : m < l.length) : Sw l0 ((l.set i (l.getD k 0)).set j (l.getD m 0)) := (s.setG s hk).setG s hm

section
variable {P : Program} {f : Nat → Value} {C : EH → Prop} {x y : Operand} {t t2 : TypeId} {p q : Int}
theorem S1.quoI (ex : ev f x = .int .i64 p) (ey : ev f y = .int .i64 q) (h0 : 0 ≤ p) (h1 : p ≤ 9223372036854775807) (hq : 0 < q) : S1 P (.binOp .quo t x y t2) f C (.int .i64 (p / q)) C := by
  have h2 : p / q ≤ p := Int.ediv_le_self _ h0
  have h3 : 0 ≤ p / q := Int.ediv_nonneg h0 (by omega)
  have := S1.quo (P := P) (t := t) (t2 := t2) (C := C) ex ey (by omega)
  rwa [Int.tdiv_eq_ediv_of_nonneg h0, wrap64 (by omega) (by omega)] at this
end

section
variable {P : Program} {f : Nat → Value} {rc : Option (Value × Bool)} {hr : RO} {h0 : EH} {F : List Nat} {L L1 : Ents}
variable {fn : Func} {X : Type} {V : X → Value} {R : X → Prop} {M : X → Ents} {E : Value → EH → Prop}
theorem GQ.retT (x : X) {vs : List Value} {w : Value} (hres : RsL P fn.ntmps f L fn.results.toList vs) (hv : RsV vs w) (hw : w = V x) (t : Take L (M x) L1) (hR : R x) :
    GQ .ret f [] rc (Hp hr h0 F L) (bodyQ P fn (backTo (fun v h' => ∃ x, v = V x ∧ R x ∧ Post F h0 h' (M x)) E)) := GQ.ret (fn := fn) x hres hv hw hR t
end

theorem wrapU {p : Int} (h0 : 0 ≤ p) (h : p < 18446744073709551616) : IntKind.u64.wrap p = p := by
  have e1 : IntKind.u64.signed = false := rfl
  have e2 : IntKind.u64.bits = 64 := rfl
  unfold IntKind.wrap
  simp only [e1, e2, Bool.false_and, Bool.false_eq_true, if_false]
  exact Int.emod_eq_of_lt h0 (by simpa using h)
theorem wrapU8 {p : Int} (h0 : 0 ≤ p) (h : p < 256) : IntKind.u8.wrap p = p := by
  have e1 : IntKind.u8.signed = false := rfl
  have e2 : IntKind.u8.bits = 8 := rfl
  unfold IntKind.wrap
  simp only [e1, e2, Bool.false_and, Bool.false_eq_true, if_false]
  exact Int.emod_eq_of_lt h0 (by simpa using h)

section
variable {P : Program} {f : Nat → Value} {C : EH → Prop} {x y : Operand} {t t2 src dst : TypeId} {p q d : Int} {k2 : IntKind}
theorem S1.cvI (s1 : (P.underlying src).isSome = true) (s : inD P dst = some .i64) (e : ev f x = .int k2 p) (h1 : -9223372036854775808 ≤ p) (h2 : p ≤ 9223372036854775807) : S1 P (.convert src dst x) f C (.int .i64 p) C := by
  have := S1.cv (P := P) (C := C) s1 s e
  rwa [wrap64 h1 h2] at this
theorem S1.cvU (s1 : (P.underlying src).isSome = true) (s : inD P dst = some .u64) (e : ev f x = .int k2 p) (h1 : 0 ≤ p) (h2 : p < 18446744073709551616) : S1 P (.convert src dst x) f C (.int .u64 p) C := by
  have := S1.cv (P := P) (C := C) s1 s e
  rwa [wrapU h1 h2] at this
theorem S1.cvU8 (s1 : (P.underlying src).isSome = true) (s : inD P dst = some .u8) (e : ev f x = .int k2 p) (h1 : 0 ≤ p) (h2 : p < 256) : S1 P (.convert src dst x) f C (.int .u8 p) C := by
  have := S1.cv (P := P) (C := C) s1 s e
  rwa [wrapU8 h1 h2] at this
theorem S1.shrU {kk : IntKind} (ex : ev f x = .int kk p) (ey : ev f y = .int k2 q) (hq : 0 ≤ q) (hd : (2 : Int) ^ (min q.toNat kk.bits) = d) (h0 : 0 < d) : S1 P (.binOp .shr t x y t2) f C (.int kk (p / d)) C := by
  have := S1.shr (P := P) (t := t) (t2 := t2) (C := C) ex ey hq
  rwa [hd, Int.fdiv_eq_ediv_of_nonneg _ (by omega)] at this
theorem S1.subU (ex : ev f x = .int .u64 p) (ey : ev f y = .int .u64 q) (h1 : 0 ≤ p - q) (h2 : p - q < 18446744073709551616) : S1 P (.binOp .sub t x y t2) f C (.int .u64 (p - q)) C := by
  have := S1.sub (P := P) (t := t) (t2 := t2) (C := C) ex ey
  rwa [wrapU h1 h2] at this
theorem SX.andU {hr : RO} {h0 : EH} {F : List Nat} {L : Ents} (ex : ev f x = .int .u64 p) (ey : ev f y = .int .u64 q) (h1 : 0 ≤ q) (h2 : q < 18446744073709551616) :
    SX P (.binOp .and t x y t2) f (Hp hr h0 F L) (fun r : Int => .int .u64 r) (fun r => 0 ≤ r ∧ r ≤ q) := by
  intro h H
  have hb : (BitVec.ofInt 64 q).toNat = q.toNat := by
    rw [BitVec.toNat_ofInt]
    have : q % ((2 ^ 64 : Nat) : Int) = q := Int.emod_eq_of_lt h1 (by simpa using h2)
    rw [this]
  have hle : (BitVec.ofInt 64 p &&& BitVec.ofInt 64 q).toNat ≤ q.toNat := by
    rw [BitVec.toNat_and, hb]
    exact Nat.and_le_right
  have hi : intBits .and .u64 p q = some (((BitVec.ofInt 64 p &&& BitVec.ofInt 64 q).toNat : Nat) : Int) := by
    show some (IntKind.u64.wrap (((BitVec.ofInt 64 p &&& BitVec.ofInt 64 q).toNat : Nat) : Int)) = _
    exact congrArg some (wrapU (by omega) (by omega))
  refine ⟨(((BitVec.ofInt 64 p &&& BitVec.ofInt 64 q).toNat : Nat) : Int), ?_, Int.natCast_nonneg _, by omega⟩
  have hv : intBin .and .u64 p q = some (.int .u64 (((BitVec.ofInt 64 p &&& BitVec.ofInt 64 q).toNat : Nat) : Int)) := by simp [intBin, hi]
  have hg : eGuardOk P .and t x y (.int .u64 p) (.int .u64 q) = true := rfl
  have he : eBin P .and t x y (ev f x) (ev f y) = some (.int .u64 (((BitVec.ofInt 64 p &&& BitVec.ofInt 64 q).toNat : Nat) : Int)) := by
    rw [ex, ey]
    simp only [eBin, hg, if_true]
    simpa using hv
  simp only [estep, he, Option.map_some]
end

def tabOk (s : ByteArray) : Bool := s.size == 256 && (List.range 256).all fun m => decide ((s.data.toList.getD m 0).toNat ≤ 8) && (m == 0 || decide (2 ^ (s.data.toList.getD m 0).toNat ≤ 2 * m))

theorem SX.tab8 {P : Program} {f : Nat → Value} {hr : RO} {h0 : EH} {F : List Nat} {L : Ents} {x i : Operand} {t : TypeId} {s : ByteArray} {kk : IntKind} {v : Int} (hs : isStrD P t = true) (ex : ev f x = .string s) (hT : tabOk s = true) (ei : ev f i = .int kk v) (h1 : 0 ≤ v) (h2 : v < 256) :
    SX P (.index t x i) f (Hp hr h0 F L) (fun k : Nat => .int .u8 (k : Int)) (fun k => k ≤ 8 ∧ (0 < v → 2 ^ k ≤ 2 * v.toNat)) := by
  obtain ⟨m, rfl⟩ := Int.eq_ofNat_of_zero_le h1
  simp only [tabOk, Bool.and_eq_true, beq_iff_eq, List.all_eq_true, List.mem_range, Bool.or_eq_true, decide_eq_true_eq] at hT
  obtain ⟨hsz, hT⟩ := hT
  have hm : m < s.size := by omega
  intro h H
  have hb : s.data.toList.getD m 0 = s[m]'hm := by
    rw [List.getD_eq_getElem?_getD, List.getElem?_eq_getElem (by simpa using hm)]
    rfl
  obtain ⟨q1, q2⟩ := hT m (by omega)
  rw [hb] at q1 q2
  refine ⟨(s[m]'hm).toNat, ?_, q1, fun h0 => ?_⟩
  · unfold isStrD at hs
    split at hs
    · rename_i hu
      simp only [estep, eIndex, hu, ex, ei]
      rw [if_pos (by omega)]
      simp [hm]
    · cases hs
  · rcases q2 with rfl | q2
    · omega
    · simpa using q2

theorem S1.shl1 {P : Program} {f : Nat → Value} {C : EH → Prop} {x y : Operand} {t t2 : TypeId} {k2 : IntKind} {k : Nat} (ex : ev f x = .int .u64 1) (ey : ev f y = .int k2 (k : Int)) (hk : k ≤ 62) : S1 P (.binOp .shl t x y t2) f C (.int .u64 ((2 ^ k : Nat) : Int)) C := by
  have := S1.shl (P := P) (t := t) (t2 := t2) (C := C) ex ey (by omega)
  have e2 : min (k : Int).toNat IntKind.u64.bits = k := by
    have : IntKind.u64.bits = 64 := rfl
    rw [this]; omega
  have h2 : 2 ^ k ≤ 2 ^ 62 := Nat.pow_le_pow_right (by decide) hk
  rw [e2, Int.one_mul, wrapU (by exact Int.pow_nonneg (by decide)) (by
    have : ((2 ^ k : Nat) : Int) ≤ ((2 ^ 62 : Nat) : Int) := Int.ofNat_le.2 h2
    rw [Int.natCast_pow] at this
    simp at this
    omega)] at this
  rw [Int.natCast_pow]
  exact this

theorem GQ.cutEndT {f : Nat → Value} {ds : List Deferred} {rc : Option (Value × Bool)} {Q : Ex → St → Prop} {hr : RO} {h0 : EH} {F : List Nat} {L L1 : Ents} {X : Type} {Rg : X → List (Nat × Value)} {LI : X → Ents} {I : X → Prop} (x' : X) (hR : Regs f (Rg x')) (t : Take L (LI x') L1) (hI : I x') :
    GQ .normal f ds rc (Hp hr h0 F L) (onward (fun st => ∃ x', Regs st.f (Rg x') ∧ Hp hr h0 F (LI x') st.h ∧ I x' ∧ st.ds = ds ∧ st.rc = rc) Q) := GQ.cutEnd x' hI hR t
end Go.E
namespace Go.E
open Go

section
variable {P : Program} {f : Nat → Value} {hr : RO} {h0 : EH} {F : List Nat} {L L' : Ents} {x y : Operand} {t t2 : TypeId} {b n c z : Nat} {a : Option Addr} {e : List Lay} {vs us : List Value} {opn : Option Nat}

end

end Go.E
namespace Go.E
open Go

def flF (fl : TypeId → Option Nat) : List Field → Nat → Option Nat
  | [], o => some o
  | f :: fs, o => if f.name ≠ "_" ∧ f.offset = o then (match fl f.type with | some c => flF fl fs (o + c) | none => none) else none

def flT (P : Program) : Nat → TypeId → Option Nat
  | 0, _ => none
  | d + 1, t =>
    match P.underlying t with
    | some (.int .i64) => if szOf P t = some 1 then some 1 else none
    | some (.struct fs) => (match flF (flT P d) fs.toList 0 with | some n => if P.stoodInHeld t = false ∧ szOf P t = some n then some n else none | none => none)
    | some (.array m e) => (match flT P d e with | some c => if szOf P e = some c ∧ szOf P t = some (m * c) ∧ 0 < c then some (m * c) else none | none => none)
    | _ => none

def flV (P : Program) (t : TypeId) (l : List Int) : Value :=
  match P.underlying t with
  | some d => if aggD d then .agg ⟨ints l⟩ else .int .i64 (l.getD 0 0)
  | none => .agg ⟨ints l⟩

theorem flF_le {fl : TypeId → Option Nat} : ∀ {fs : List Field} {o n : Nat}, flF fl fs o = some n → o ≤ n
  | [], o, n, h => by simp only [flF, Option.some.injEq] at h; omega
  | f :: fs, o, n, h => by
    simp only [flF] at h
    split at h
    · split at h
      · have := flF_le h; omega
      · cases h
    · cases h

theorem flT_sz {P : Program} : ∀ {d : Nat} {t : TypeId} {c : Nat}, flT P d t = some c → szOf P t = some c
  | 0, t, c, h => by cases h
  | d + 1, t, c, h => by
    simp only [flT] at h
    split at h
    · split at h
      · cases h; assumption
      · cases h
    · split at h
      · split at h
        · rename_i q; cases h; exact q.2
        · cases h
      · cases h
    · split at h
      · split at h
        · rename_i q; cases h; exact q.2.1
        · cases h
      · cases h
    · cases h

theorem flT_int {P : Program} {d : Nat} {t : TypeId} {c : Nat} (h : flT P d t = some c) : ∃ u, P.underlying t = some u ∧ (aggD u = false → u = .int .i64 ∧ c = 1) := by
  cases d with
  | zero => cases h
  | succ d =>
    simp only [flT] at h
    split at h
    · rename_i hu
      split at h
      · cases h; exact ⟨_, hu, fun _ => ⟨rfl, rfl⟩⟩
      · cases h
    · rename_i hu
      exact ⟨_, hu, fun h => by cases h⟩
    · rename_i hu
      exact ⟨_, hu, fun h => by cases h⟩
    · cases h

theorem fl_part {P : Program} {d : Nat} {t : TypeId} {c o : Nat} {l : List Int} (h : flT P d t = some c) (ho : o + c ≤ l.length) : ePart P t ⟨ints l⟩ o = some (flV P t ((l.drop o).take c)) := by
  obtain ⟨u, hu, hi⟩ := flT_int h
  simp only [ePart, flV, hu, flT_sz h]
  cases ha : aggD u with
  | false =>
    obtain ⟨rfl, rfl⟩ := hi ha
    simp only [Bool.false_eq_true, if_false, List.getElem?_toArray]
    rw [ints_get (by omega), List.getD_eq_getElem?_getD, List.getD_eq_getElem?_getD, List.getElem?_take, if_pos (by omega), List.getElem?_drop, Nat.add_zero]
  | true =>
    simp only [if_true]
    rw [if_pos (by simp [ints]; omega)]
    congr 2
    apply Array.toList_inj.1
    simp only [List.extract_toArray, ints, List.extract_eq_take_drop, List.map_take, List.map_drop]
    rw [show o + c - o = c by omega]

theorem cut_eq {l l' : List Int} {o c : Nat} (h1 : (l.drop o).take c = (l'.drop o).take c) (h2 : l.drop (o + c) = l'.drop (o + c)) : l.drop o = l'.drop o := by
  rw [← List.take_append_drop c (l.drop o), ← List.take_append_drop c (l'.drop o), h1, List.drop_drop, List.drop_drop, h2]

theorem rows_eq {l l' : List Int} {m c : Nat} (hc : 0 < c) (hl : l.length = m * c) (hl' : l'.length = m * c) (h : ∀ i, i < m → (l.drop (i * c)).take c = (l'.drop (i * c)).take c) : l = l' := by
  apply List.ext_getElem?
  intro k
  by_cases hk : k < m * c
  · have h1 : k / c < m := Nat.div_lt_of_lt_mul (by rw [Nat.mul_comm]; exact hk)
    have h2 := congrArg (·[k % c]?) (h (k / c) h1)
    have h3 : k % c < c := Nat.mod_lt _ hc
    simp only [List.getElem?_take, if_pos h3, List.getElem?_drop] at h2
    rwa [show k / c * c + k % c = k by rw [Nat.mul_comm]; exact Nat.div_add_mod k c] at h2
  · rw [List.getElem?_eq_none (by omega), List.getElem?_eq_none (by omega)]

theorem fl_eq {P : Program} : ∀ (d : Nat) (t : TypeId) (c : Nat), flT P d t = some c → ∀ l l' : List Int, l.length = c → l'.length = c →
    ∃ r, eEqIn P d t (flV P t l) (flV P t l') = some r ∧ (r = true → l = l')
  | 0, t, c, h => by cases h
  | d + 1, t, c, h => by
    intro l l' hl hl'
    have IH := fl_eq (P := P) d
    have h0 := h
    simp only [flT] at h
    split at h
    · rename_i hu
      split at h
      · cases h
        obtain ⟨a, rfl⟩ := List.length_eq_one_iff.1 hl
        obtain ⟨b, rfl⟩ := List.length_eq_one_iff.1 hl'
        refine ⟨a == b, by simp [eEqIn, eEqStep, flV, hu, aggD], fun h => by rw [eq_of_beq h]⟩
      · cases h
    · rename_i fs hu
      split at h
      · rename_i n hf
        split at h
        · rename_i q
          cases h
          have key : ∀ (fs : List Field) (o : Nat), flF (flT P d) fs o = some c → ∃ r, eqFieldsE P (eEqIn P d) ⟨ints l⟩ ⟨ints l'⟩ fs = some r ∧ (r = true → l.drop o = l'.drop o) := by
            intro fs
            induction fs with
            | nil =>
              intro o ho
              simp only [flF, Option.some.injEq] at ho
              subst ho
              exact ⟨true, rfl, fun _ => by rw [List.drop_of_length_le (by omega), List.drop_of_length_le (by omega)]⟩
            | cons f fs ih =>
              intro o ho
              simp only [flF] at ho
              split at ho
              · rename_i hfo
                split at ho
                · rename_i k hk
                  have hle := flF_le ho
                  simp only [eqFieldsE, if_pos hfo.1, hfo.2, fl_part hk (show o + k ≤ l.length by omega), fl_part hk (show o + k ≤ l'.length by omega)]
                  obtain ⟨r, q1, q2⟩ := IH f.type k hk ((l.drop o).take k) ((l'.drop o).take k) (by simp; omega) (by simp; omega)
                  obtain ⟨r2, q3, q4⟩ := ih _ ho
                  rw [q1]
                  cases r with
                  | true => exact ⟨r2, q3, fun e => cut_eq (q2 rfl) (q4 e)⟩
                  | false => exact ⟨false, rfl, fun e => by cases e⟩
                · cases ho
              · cases ho
          obtain ⟨r, q1, q2⟩ := key fs.toList 0 hf
          refine ⟨r, ?_, fun e => by simpa using q2 e⟩
          simp only [eEqIn, eEqStep, flV, hu, aggD, if_true, q.1, Bool.false_eq_true, if_false]
          exact q1
        · cases h
      · cases h
    · rename_i m e hu
      split at h
      · rename_i k hk
        split at h
        · rename_i q
          cases h
          have key : ∀ (is : List Nat), (∀ i ∈ is, i < m) → ∃ r, eqItemsE P (eEqIn P d) e k ⟨ints l⟩ ⟨ints l'⟩ is = some r ∧ (r = true → ∀ i ∈ is, (l.drop (i * k)).take k = (l'.drop (i * k)).take k) := by
            intro is
            induction is with
            | nil => exact fun _ => ⟨true, rfl, fun _ _ h => by cases h⟩
            | cons i is ih =>
              intro hi
              have h1 := hi i (.head _)
              have h2 : i * k + k ≤ m * k := by rw [← Nat.succ_mul]; exact Nat.mul_le_mul_right _ h1
              obtain ⟨r, q1, q2⟩ := IH e k hk ((l.drop (i * k)).take k) ((l'.drop (i * k)).take k) (by simp; omega) (by simp; omega)
              obtain ⟨r2, q3, q4⟩ := ih fun j hj => hi j (.tail _ hj)
              simp only [eqItemsE, fl_part hk (show i * k + k ≤ l.length by omega), fl_part hk (show i * k + k ≤ l'.length by omega)]
              rw [q1]
              cases r with
              | true => exact ⟨r2, q3, fun e j hj => by
                  rcases List.mem_cons.1 hj with rfl | hj
                  · exact q2 rfl
                  · exact q4 e j hj⟩
              | false => exact ⟨false, rfl, fun e => by cases e⟩
          obtain ⟨r, q1, q2⟩ := key (List.range m) fun i hi => List.mem_range.1 hi
          refine ⟨r, ?_, fun e => rows_eq q.2.2 hl hl' fun i hi => q2 e i (List.mem_range.2 hi)⟩
          simp only [eEqIn, eEqStep, flV, hu, aggD, if_true, q.1, Option.bind_some]
          exact q1
        · cases h
      · cases h
    · cases h

theorem fl_ok {P : Program} : ∀ (d : Nat) (t : TypeId) (c : Nat), flT P d t = some c → ∀ l : List Int, l.length = c → eKeyOk P d t (flV P t l) = true
  | 0, t, c, h => by cases h
  | d + 1, t, c, h => by
    intro l hl
    have IH := fl_ok (P := P) d
    simp only [flT] at h
    split at h
    · rename_i hu
      simp only [eKeyOk, hu]
    · rename_i fs hu
      split at h
      · rename_i n hf
        split at h
        · rename_i q
          cases h
          have key : ∀ (fs : List Field) (o : Nat), flF (flT P d) fs o = some c → eKeyFields P (eKeyOk P d) ⟨ints l⟩ fs = true := by
            intro fs
            induction fs with
            | nil => exact fun _ _ => rfl
            | cons f fs ih =>
              intro o ho
              simp only [flF] at ho
              split at ho
              · rename_i hfo
                split at ho
                · rename_i k hk
                  have hle := flF_le ho
                  simp only [eKeyFields, if_pos hfo.1, hfo.2, fl_part hk (show o + k ≤ l.length by omega), Bool.and_eq_true]
                  exact ⟨IH _ _ hk _ (by simp; omega), ih _ ho⟩
                · cases ho
              · cases ho
          simp only [eKeyOk, flV, hu, aggD, if_true]
          exact key _ 0 hf
        · cases h
      · cases h
    · rename_i m e hu
      split at h
      · rename_i k hk
        split at h
        · rename_i q
          cases h
          have key : ∀ (is : List Nat), (∀ i ∈ is, i < m) → eKeyItems P (eKeyOk P d) e k ⟨ints l⟩ is = true := by
            intro is
            induction is with
            | nil => exact fun _ => rfl
            | cons i is ih =>
              intro hi
              have h1 := hi i (.head _)
              have h2 : i * k + k ≤ m * k := by rw [← Nat.succ_mul]; exact Nat.mul_le_mul_right _ h1
              simp only [eKeyItems, fl_part hk (show i * k + k ≤ l.length by omega), Bool.and_eq_true]
              exact ⟨IH _ _ hk _ (by simp; omega), ih fun j hj => hi j (.tail _ hj)⟩
          simp only [eKeyOk, flV, hu, aggD, if_true, q.1]
          exact key _ fun i hi => List.mem_range.1 hi
        · cases h
      · cases h
    · cases h

theorem flatKey_ints {l : List Int} : flatKey (.agg ⟨ints l⟩) = true := by
  simp only [flatKey, List.all_toArray, ints, List.all_map]
  rw [List.all_eq_true]
  intro x _
  rfl

theorem keyEq_ints {l : List Int} : keyEq (.agg ⟨ints l⟩) (.agg ⟨ints l⟩) = true := by
  simp only [keyEq, beq_self_eq_true, Bool.true_and]
  induction l with
  | nil => rfl
  | cons x l ih => simpa [ints, cellEq] using ih

structure MF (P : Program) (t : TypeId) (n : Nat) (z : Value) : Prop where
  ex : ∃ kt el w d, P.underlying t = some (.map kt el) ∧ flT P 50 kt = some n ∧ P.underlying kt = some d ∧ aggD d = true ∧ zeroOf P el = some (z, w)

def IMF (n : Nat) (V : List Int → Value → Prop) (es : List MapEntry) : Prop := ∀ e ∈ es, ∃ l : List Int, l.length = n ∧ e.key = .agg ⟨ints l⟩ ∧ V l e.val

theorem IMF.nil {n : Nat} {V : List Int → Value → Prop} : IMF n V [] := by intro e h; cases h

theorem eFind_mf {P : Program} {kt : TypeId} {n : Nat} {V : List Int → Value → Prop} {d : TypeDesc} (hk : flT P 50 kt = some n) (hu : P.underlying kt = some d) (ha : aggD d = true) {l : List Int} (hl : l.length = n) :
    ∀ (es : List MapEntry) (i : Nat), IMF n V es → ∃ r, eFind P kt (.agg ⟨ints l⟩) es i = some r ∧ ∀ j e, r = some (j, e) → e ∈ es ∧ e.key = .agg ⟨ints l⟩ ∧ V l e.val
  | [], i, _ => ⟨none, rfl, fun _ _ h => by cases h⟩
  | e :: es, i, h => by
    obtain ⟨l', h1, h2, h3⟩ := h e (.head _)
    obtain ⟨r, q1, q2⟩ := fl_eq 50 kt n hk l l' hl h1
    simp only [flV, hu, ha, if_true] at q1
    simp only [eFind, h2, q1]
    cases r with
    | true =>
      obtain rfl := q2 rfl
      exact ⟨_, rfl, fun j e' q => by cases q; exact ⟨.head _, h2, h3⟩⟩
    | false =>
      obtain ⟨r, q1, q2⟩ := eFind_mf hk hu ha hl es (i + 1) (fun e he => h e (.tail _ he))
      exact ⟨r, q1, fun j e' q => ⟨.tail _ (q2 j e' q).1, (q2 j e' q).2⟩⟩

section
variable {P : Program} {N : Nat} {ro : Option Nat} {f : Nat → Value} {ds : List Deferred} {rc : Option (Value × Bool)} {C C' : EH → Prop} {Q : Ex → St → Prop}
variable {ops : Array Oper} {i : Nat} {d : Option Nat} {op : Op} {ty : TypeId} {pos : String} {aft : Array Edge} {gd : Option (Nat × Bool)} {hr : RO} {h0 : EH} {F : List Nat} {L L1 ps : Ents}
variable {n : Nat} {z : Value} {V : List Int → Value → Prop} {l : List Int}

theorem lk_step {t : TypeId} {b cl : Nat} {ok : Bool} {es : List MapEntry} {h : EH} (s : MF P t n z) (hb : h[b]? = some (.map es cl)) (hi : IMF n V es) (hl : l.length = n) :
    ∃ (v : Value) (is : Bool), eLookup P t (.map (some b)) (.agg ⟨ints l⟩) ok h = some (if ok then .tuple #[v, .bool is] else v) ∧ (if is = true then V l v else v = z) := by
  obtain ⟨kt, el, w, d, hu, hk, hd, ha, hz⟩ := s.ex
  obtain ⟨r, q1, q2⟩ := eFind_mf hk hd ha hl es 0 hi
  have hm : eMapOf h (.map (some b)) = some es := by simp only [eMapOf, hb]
  have hok : eKeyOk P 50 kt (.agg ⟨ints l⟩) = true := by
    have := fl_ok 50 kt n hk l hl
    simpa only [flV, hd, ha, if_true] using this
  cases r with
  | none => exact ⟨z, false, by simp only [eLookup, hu, hm, hok, if_true, q1, hz]; rfl, rfl⟩
  | some r =>
    obtain ⟨j, e⟩ := r
    exact ⟨e.val, true, by simp only [eLookup, hu, hm, hok, if_true, q1, hz]; rfl, (q2 j e rfl).2.2⟩

theorem SX.lkF {t : TypeId} {x y : Operand} {b cl : Nat} {es : List MapEntry} (s : MF P t n z) (ex : ev f x = .map (some b)) (ey : ev f y = .agg ⟨ints l⟩) (m : Kn C b (.map es cl)) (hi : IMF n V es) (hl : l.length = n) :
    SX P (.lookup t x y true) f C (fun v : Value × Bool => .tuple ⟨[v.1, .bool v.2]⟩) (fun v => if v.2 = true then V l v.1 else v.1 = z) := by
  intro h hC
  obtain ⟨v, is, q1, q2⟩ := lk_step (ok := true) s (m h hC) hi hl
  exact ⟨(v, is), by simp only [estep, ex, ey, q1]; rfl, q2⟩

theorem muF_step {t : TypeId} {b cl : Nat} {v : Value} {es : List MapEntry} {h : EH} (s : MF P t n z) (hb : h[b]? = some (.map es cl)) (hi : IMF n V es) (hl : l.length = n) (hv : V l v) :
    ∃ es' cl', IMF n V es' ∧ eMapUpdate P t (.map (some b)) (.agg ⟨ints l⟩) v h = some (h.set b (.map es' cl')) := by
  obtain ⟨kt, el, w, d, hu, hk, hd, ha, hz⟩ := s.ex
  obtain ⟨r, q1, q2⟩ := eFind_mf hk hd ha hl es 0 hi
  have hok : eKeyOk P 50 kt (.agg ⟨ints l⟩) = true ∧ flatKey (.agg ⟨ints l⟩) = true := ⟨by
    have := fl_ok 50 kt n hk l hl
    simpa only [flV, hd, ha, if_true] using this, flatKey_ints⟩
  cases r with
  | none =>
    refine ⟨es ++ [{ key := .agg ⟨ints l⟩, val := v, born := cl }], cl + 1, ?_, by simp only [eMapUpdate, hu, hb, if_pos hok, q1]⟩
    intro e he
    rcases List.mem_append.1 he with h1 | h1
    · exact hi e h1
    · simp only [List.mem_singleton] at h1
      subst h1
      exact ⟨l, hl, rfl, hv⟩
  | some r =>
    obtain ⟨j, e⟩ := r
    obtain ⟨h1, h2, h3⟩ := q2 j e rfl
    have hke : keyEq e.key (.agg ⟨ints l⟩) = true := by rw [h2]; exact keyEq_ints
    refine ⟨es.set j { e with val := v }, cl, ?_, by simp only [eMapUpdate, hu, hb, if_pos hok, q1, if_pos hke]⟩
    intro e' he
    rcases List.mem_or_eq_of_mem_set he with h3 | h3
    · exact hi e' h3
    · subst h3
      exact ⟨l, hl, h2, hv⟩

theorem GL.muF {t : TypeId} {x y u : Operand} {b cl : Nat} {v : Value} {es : List MapEntry} (hi : ops.toList[i]? = some ⟨d, .mapUpdate t x y u, ty, pos, aft, gd⟩) (hw : Want N ops f gd true) (s : MF P t n z) (ex : ev f x = .map (some b)) (ey : ev f y = .agg ⟨ints l⟩) (ez : ev f u = v)
    (r : Rem L (b, .map es cl) L1) (hm : IMF n V es) (hl : l.length = n) (hv : V l v) (g : ∀ es' cl', IMF n V es' → GL P N ro ops (i + 1) (setT f d undef) ds rc (Hp hr h0 F ((b, .map es' cl') :: L1)) Q) : GL P N ro ops i f ds rc (Hp hr h0 F L) Q := by
  intro hk h hC
  obtain ⟨es', cl', q1, q2⟩ := muF_step s (hC.at_ _ r.mem) hm hl hv
  rw [Array.getElem?_toList] at hi
  exact WO.op hi hw.want (regOk_op hk hi) (by simp only [estep, ex, ey, ez, q2]; rfl) (g es' cl' q1 hk _ (hC.putR r))

theorem GE.muF {W : Nat → Prop} {t : TypeId} {x y u : Operand} {b cl : Nat} {v : Value} {es : List MapEntry} (hi : ops.toList[i]? = some ⟨d, .mapUpdate t x y u, ty, pos, aft, gd⟩) (hw : Want N ops f gd true) (s : MF P t n z) (ex : ev f x = .map (some b)) (ey : ev f y = .agg ⟨ints l⟩) (ez : ev f u = v)
    (sd : SdL ops i (.mapUpdate t x y u) f W) (r : Rem L (b, .map es cl) L1) (hm : IMF n V es) (hl : l.length = n) (hv : V l v) (g : ∀ es' cl', IMF n V es' → GE P N W ops (i + 1) (setT f d undef) ds rc (Hp hr h0 F ((b, .map es' cl') :: L1)) Q) : GE P N W ops i f ds rc (Hp hr h0 F L) Q := by
  intro hk h hC
  obtain ⟨es', cl', q1, q2⟩ := muF_step s (hC.at_ _ r.mem) hm hl hv
  rw [Array.getElem?_toList] at hi
  have e : estep P (.mapUpdate t x y u) (ev f) h = some (undef, h.set b (.map es' cl')) := by simp only [estep, ex, ey, ez, q2]; rfl
  exact DX.op (h' := h.set b (.map es' cl')) hi (regOk_op hk hi) hw.want (by simp) (.inr ⟨rfl, .simple e⟩) (fun hm => SdL.go (o := ⟨d, _, ty, pos, aft, gd⟩) sd rfl rfl e hi hm) (g es' cl' q1 hk _ (hC.putR r))
end
end Go.E
namespace Go.E
open Go

def splI (l : List Int) (o : Nat) (new : List Int) : List Int := l.take o ++ new ++ l.drop (o + new.length)
theorem splI_len {l new : List Int} {o : Nat} (h : o + new.length ≤ l.length) : (splI l o new).length = l.length := by
  simp only [splI, List.length_append, List.length_take, List.length_drop]; omega
theorem ints_splice {l new : List Int} {o : Nat} : splice (ints l) o (ints new) = ints (splI l o new) := by
  simp only [splice, splI, ints, List.map_append, List.map_take, List.map_drop, List.length_map]
theorem ints_one {l : List Int} : (ints l).all (fun v => oneCell v && !isUnk v) = true := by
  rw [List.all_eq_true]
  intro v hv
  simp only [ints, List.mem_map] at hv
  obtain ⟨x, _, rfl⟩ := hv
  rfl
theorem splI_nil {l : List Int} {o : Nat} : splI l o [] = l := by simp [splI]

theorem set_self' {h : EH} {b : Nat} {o : EObj} (e : h[b]? = some o) : h.set b o = h := by
  apply List.ext_getElem?
  intro i
  rw [List.getElem?_set]
  split
  · rename_i hbi
    subst hbi
    rw [if_pos (List.getElem?_eq_some_iff.1 e).1, e]
  · rfl

theorem storeRow_ints {h : EH} {b o : Nat} {l new : List Int} {opn : Option Nat} (e : h[b]? = some (.cells (ints l) opn true)) (hl : o + new.length ≤ l.length) : storeRow h b o (ints new) = some (h.set b (.cells (ints (splI l o new)) opn true)) := by
  simp only [storeRow, e]
  rw [if_pos ⟨by rw [ints_len, ints_len]; exact hl, ints_one⟩, ints_splice]

section
variable {P : Program} {f : Nat → Value} {C : EH → Prop} {hr : RO} {h0 : EH} {F : List Nat} {L L' : Ents} {x y : Operand} {t st xt : TypeId} {b o n c z k : Nat} {l new : List Int} {opn : Option Nat} {vs : List Value} {wr : Bool} {v : Value}

theorem S1.cutG {lo hi : Option Operand} {j u cp : Nat} (s : elD P t = some z) (mm : Kn C b (.cells vs opn wr)) (hop : opn = none ∨ opn = some z) (ex : ev f x = .slice (some ⟨b, o, none⟩) n cp) (hlo : Bd f lo 0 j) (hhi : Bd f hi n u) (h1 : j ≤ u) (h2 : u ≤ cp) (hn : n ≤ cp) (hlt : j < cp) :
    S1 P (.slice t x lo hi none) f C (.slice (some ⟨b, o + j * z, none⟩) (u - j) (cp - j)) C := by
  intro h H
  obtain ⟨elt, hu, hsz⟩ := elD_spec s
  have hrow := mm h H
  have hes : esOk h b z = true := by
    simp only [esOk, hrow]
    rcases hop with rfl | rfl <;> simp
  refine ⟨h, ?_, H⟩
  simp only [estep, eSlice, hu, ex, hsz, Option.map_none]
  rw [if_pos ⟨hn, hes⟩, hhi.eq h2]
  simp only
  rw [hlo.eq h1]
  simp only [Option.map_some, cutAt]
  rw [if_neg (by omega : ¬ cp = j), ite_self]

end
theorem Ct.keep {P : Program} {g : FuncId} {args : Array Value} {h : EH} {F : List Nat} {K : Ents} {X : Type} {V : X → Value} {R : X → Prop} {M : X → Ents} (c : Ct P g args h (F ++ K.map (·.1)) V R (fun x => M x ++ K)) (hK : ∀ p ∈ K, h[p.1]? = some p.2) : Ct P g args h F V R M := by
  refine WF.mono c fun o h' q => ?_
  cases o with
  | pan v => exact q.elim
  | ret v =>
    obtain ⟨x, e, r, p⟩ := q
    have hnd := p.nd
    rw [List.map_append, List.nodup_append] at hnd
    refine ⟨x, e, r, fun b o hb hF => ?_, p.len, fun y hy => p.at_ y (List.mem_append_left _ hy), hnd.1, fun y hy => ?_⟩
    · by_cases hk : b ∈ K.map (·.1)
      · obtain ⟨y, hy, rfl⟩ := List.mem_map.1 hk
        have h1 := p.at_ y (List.mem_append_right _ hy)
        rw [hK y hy] at hb
        rw [h1, hb]
      · exact p.old b o hb fun hm => by
          rcases List.mem_append.1 hm with h | h
          · exact hF h
          · exact hk h
    · rcases p.own y (List.mem_append_left _ hy) with h1 | h1
      · rcases List.mem_append.1 h1 with h | h
        · exact .inl h
        · exact absurd rfl (hnd.2.2 _ (List.mem_map_of_mem hy) _ h)
      · exact .inr h1

def arS (P : Program) (t : TypeId) : Option Nat := match P.underlying t with
  | some (.array n el) => (match P.underlying el with | some d => if aggD d = false ∧ szOf P el = some 1 then some n else none | none => none)
  | _ => none
theorem S1.ixP {P : Program} {f : Nat → Value} {C : EH → Prop} {x i : Operand} {t : TypeId} {n m b o : Nat} {kk : IntKind} (s : arS P t = some n) (ex : ev f x = .pointer (some ⟨b, o, none⟩)) (ei : ev f i = .int kk (m : Int)) (hm : m < n) : S1 P (.indexAddr t x i) f C (.pointer (some ⟨b, o + m, none⟩)) C := .pure fun h => by
  unfold arS at s
  split at s
  · rename_i n' el hu
    split at s
    · rename_i d hd
      split at s
      · rename_i q
        cases s
        simp only [estep, eIndexAddr, hu, ex, ei, q.2]
        rw [if_pos (by omega)]
        simp
      · cases s
    · cases s
  · cases s

end Go.E
namespace Go.E
open Go

def sg (nm : List Nat) : Nat → Option Nat := fun b => nm[b]?
def sgx (nm : List Nat) (m x : Nat) : Nat → Option Nat := fun b => if b < nm.length then nm[b]? else if b < m then some (x + (b - nm.length)) else none

noncomputable section
def keepB : EH → HT → Nat → Bool
  | [], _, _ => true
  | o :: l, h, i => objEq (h.g i) o && keepB l h (i + 1)

def isRun (P : Program) (L : Nat × Nat) (n : Nat) (g : FuncId) (args : List Value) (h0 : EH) (v : Value) (m : Nat) (ks : Ents) : Bool :=
  match run P L n (.fn g ⟨args⟩ (HT.ofL h0)) with
  | some (.out (.ret w) h1) => valEq w v && (Nat.beq h1.len m && (Nat.ble h0.length m && (keepB h0 h1 0 && ks.all fun p => Nat.ble h0.length p.1 && (Nat.blt p.1 m && objEq (h1.g p.1) p.2))))
  | _ => false
end

theorem keepB_spec {h1 : HT} : ∀ (l : EH) (i : Nat), keepB l h1 i = true → ∀ j o, l[j]? = some o → h1.g (i + j) = o
  | [], _, _, j, o, e => by cases e
  | x :: l, i, h, j, o, e => by
    simp only [keepB, Bool.and_eq_true] at h
    cases j with
    | zero => cases e; exact objEq_sound h.1
    | succ j => rw [show i + (j + 1) = i + 1 + j by omega]; exact keepB_spec l (i + 1) h.2 j o e

theorem isRun_spec {P : Program} {L : Nat × Nat} {n : Nat} {g : FuncId} {args : List Value} {h0 : EH} {v : Value} {m : Nat} {ks : Ents} (e : isRun P L n g args h0 v m ks = true) :
    ∃ h1 : HT, run P L n (.fn g ⟨args⟩ (HT.ofL h0)) = some (.out (.ret v) h1) ∧ h1.len = m ∧ h0.length ≤ m ∧ (∀ (i : Nat) (o : EObj), h0[i]? = some o → h1.abs[i]? = some o) ∧ ∀ p ∈ ks, h0.length ≤ p.1 ∧ p.1 < m ∧ h1.abs[p.1]? = some p.2 := by
  unfold isRun at e
  split at e
  · rename_i w h1 hr
    simp only [Bool.and_eq_true, Nat.beq_eq, Nat.ble_eq, List.all_eq_true, blt_eq, decide_eq_true_eq] at e
    obtain ⟨e1, e2, e3, e4, e5⟩ := e
    obtain rfl := valEq_sound _ _ e1
    refine ⟨h1, hr, e2, e3, fun i o ho => ?_, fun p hp => ?_⟩
    · have := keepB_spec _ _ e4 i o ho
      rw [Nat.zero_add] at this
      have hi := (List.getElem?_eq_some_iff.1 ho).1
      rw [HT.abs_get, HT.get_eq, if_pos (by omega), this]
    · obtain ⟨q1, q2, q3⟩ := e5 p hp
      refine ⟨q1, q2, ?_⟩
      rw [HT.abs_get, HT.get_eq, if_pos (by omega), objEq_sound q3]
  · cases e

theorem Ct.of_run {P : Program} {L : Nat × Nat} (hL : okFns P L = true) (hm : P.follows .mixedOrders = true) {n : Nat} {g : FuncId} {args : List Value} {h0 : EH} {v : Value} {m : Nat} {ks : Ents} {hr : RO} {hh H : EH} {F : List Nat} {ps : Ents} {args' : Array Value} {V : Nat → Value} {N : Nat → Ents}
    (e : isRun P L n g args h0 v m ks = true) (G : Hp hr hh F ps H)
    (h1 : ∀ z, h0.map (renObj (sg (ps.map (·.1))) z) = ps.map (·.2)) (h2 : ∀ x z, h0.map (renObj (sgx (ps.map (·.1)) m x) z) = ps.map (·.2))
    (h3 : renA (sg (ps.map (·.1))) ⟨args⟩ = args') (h4 : ∀ x, ren (sgx (ps.map (·.1)) m x) v = V x) (h5 : ∀ x, ks.map (fun p => (x + (p.1 - h0.length), renObj (sgx (ps.map (·.1)) m x) (x + m) p.2)) = N x) (h6 : (ks.map (·.1)).Nodup) :
    Ct P g args' H [] V (fun _ => True) N := by
  obtain ⟨r1, hrun, hlen, hle, hk1, hk2⟩ := isRun_spec e
  have s := SndFn.of_run hL hm hrun
  rw [HT.abs_ofL] at s
  have hpl : ps.length = h0.length := by
    have := congrArg List.length (h1 0)
    simpa using this.symm
  have hget : ∀ (i c : Nat), sg (ps.map (·.1)) i = some c → ∃ p, ps[i]? = some p ∧ p.1 = c := by
    intro i c hc
    simp only [sg, List.getElem?_map, Option.map_eq_some_iff] at hc
    exact hc
  have L0 : Lies (sg (ps.map (·.1))) h0 H := by
    refine ⟨fun i c hc => ?_, fun i j c hi hj => ?_⟩
    · obtain ⟨p, hp, rfl⟩ := hget i c hc
      have hi : i < h0.length := by rw [← hpl]; exact (List.getElem?_eq_some_iff.1 hp).1
      refine ⟨h0[i], H.length, List.getElem?_eq_getElem hi, ?_, Nat.le_refl _⟩
      have := congrArg (·[i]?) (h1 H.length)
      simp only [List.getElem?_map, List.getElem?_eq_getElem hi, Option.map_some, hp, Option.some.injEq] at this
      rw [this]
      exact G.at_ p (List.mem_of_getElem? hp)
    · obtain ⟨p, hp, e1⟩ := hget i c hi
      obtain ⟨q, hq, e2⟩ := hget j c hj
      have a1 : (ps.map (·.1))[i]? = some c := by rw [List.getElem?_map, hp, ← e1]; rfl
      have a2 : (ps.map (·.1))[j]? = some c := by rw [List.getElem?_map, hq, ← e2]; rfl
      have hi' := (List.getElem?_eq_some_iff.1 a1).1
      exact (List.getElem?_inj hi' G.nd).1 (a1.trans a2.symm)
  have f := s.frame L0
  have hσ : σAfter (sg (ps.map (·.1))) h0 r1.abs H = sgx (ps.map (·.1)) m H.length := by
    funext b
    simp only [σAfter, sgx, sg, HT.abs_len, hlen, List.length_map, hpl]
  rw [h3] at f
  refine ⟨_, _, f, H.length, ?_, trivial, ?_⟩
  · rw [hσ]; exact h4 _
  · rw [← h5]
    refine ⟨fun b o hb _ => ?_, by rw [HAfter_len]; omega, fun q hq => ?_, ?_, fun q hq => ?_⟩
    · by_cases hm : ∃ i, sg (ps.map (·.1)) i = some b
      · obtain ⟨i, hi⟩ := hm
        obtain ⟨p, hp, rfl⟩ := hget i b hi
        have hil : i < h0.length := by rw [← hpl]; exact (List.getElem?_eq_some_iff.1 hp).1
        rw [HAfter_in L0 hi (hk1 i _ (List.getElem?_eq_getElem hil)), hσ, HT.abs_len, hlen]
        have := congrArg (·[i]?) (h2 H.length (H.length + m))
        simp only [List.getElem?_map, List.getElem?_eq_getElem hil, Option.map_some, hp, Option.some.injEq] at this
        rw [this]
        exact (G.at_ p (List.mem_of_getElem? hp)).symm.trans hb
      · exact HAfter_out (fun i hi => hm ⟨i, hi⟩) hb
    · obtain ⟨p, hp, rfl⟩ := List.mem_map.1 hq
      obtain ⟨q1, q2, q3⟩ := hk2 p hp
      rw [HAfter_new q1 q3, hσ, HT.abs_len, hlen]
    · rw [List.map_map]
      have : (ks.map fun p => H.length + (p.1 - h0.length)) = (ks.map (·.1)).map fun k => H.length + (k - h0.length) := by rw [List.map_map]; rfl
      show (ks.map fun p => H.length + (p.1 - h0.length)).Nodup
      rw [this]
      refine List.pairwise_map.2 (List.Pairwise.imp_of_mem ?_ h6)
      intro a b ha hb hab he
      obtain ⟨p, hp, rfl⟩ := List.mem_map.1 ha
      obtain ⟨p', hp', rfl⟩ := List.mem_map.1 hb
      have := (hk2 p hp).1
      have := (hk2 p' hp').1
      omega
    · obtain ⟨p, hp, rfl⟩ := List.mem_map.1 hq
      exact .inr (Nat.le_add_right _ _)
end Go.E
namespace Go.E
open Go
section
variable {P : Program} {N : Nat} {ro : Option Nat} {f : Nat → Value} {ds : List Deferred} {rc : Option (Value × Bool)} {C C' : EH → Prop} {Q : Ex → St → Prop}
variable {ops : Array Oper} {i : Nat} {d : Option Nat} {op : Op} {ty : TypeId} {pos : String} {aft : Array Edge} {v : Value}
theorem GL.o (hi : ops.toList[i]? = some ⟨d, op, ty, pos, aft, none⟩) (s : S1 P op f C v C') (g : GL P N ro ops (i + 1) (setT f d v) ds rc C' Q) : GL P N ro ops i f ds rc C Q := .one hi .no s g
theorem GD.o (hi : ops.toList[i]? = some ⟨d, op, ty, pos, aft, none⟩) (s : S1 P op f C v C') (hq : isQuiet op = true) (g : GD P N ops (i + 1) (setT f d v) ds rc C' Q) : GD P N ops i f ds rc C Q := .one hi .no s hq g
theorem GW.sr {c : Code} {id : Nat} (e : c = .seq (cL c) (cR c)) (e2 : cL c = .region id (cO (cL c)) false) (g : GL P N ro (cO (cL c)) 0 f ds rc C (onward (fun st => codeOk N (cR c) = true → W P N ro (cR c) st Q) Q)) : GW P N ro c f ds rc C Q := .toSeq e (.toReg e2 g)
theorem GL.dn {c : Code} (hi : ops.toList.length = i) (g : GW P N ro c f ds rc C Q) : GL P N ro ops i f ds rc C (onward (fun st => codeOk N c = true → W P N ro c st Q) Q) := .done hi (.on g)
end
end Go.E
namespace Go.E
open Go

theorem outB_n {lo hi n : Int} : (outB lo hi n = false) ↔ (lo ≤ n ∧ n ≤ hi) := ⟨outB_f, outB_in⟩

theorem fl_refl {P : Program} : ∀ (d : Nat) (t : TypeId) (c : Nat), flT P d t = some c → ∀ l : List Int, l.length = c → eEqIn P d t (flV P t l) (flV P t l) = some true
  | 0, t, c, h => by cases h
  | d + 1, t, c, h => by
    intro l hl
    have IH := fl_refl (P := P) d
    simp only [flT] at h
    split at h
    · rename_i hu
      split at h
      · cases h
        simp [eEqIn, eEqStep, flV, hu, aggD]
      · cases h
    · rename_i fs hu
      split at h
      · rename_i n hf
        split at h
        · rename_i q
          cases h
          have key : ∀ (fs : List Field) (o : Nat), flF (flT P d) fs o = some c → eqFieldsE P (eEqIn P d) ⟨ints l⟩ ⟨ints l⟩ fs = some true := by
            intro fs
            induction fs with
            | nil => exact fun _ _ => rfl
            | cons f fs ih =>
              intro o ho
              simp only [flF] at ho
              split at ho
              · rename_i hfo
                split at ho
                · rename_i k hk
                  have hle := flF_le ho
                  simp only [eqFieldsE, if_pos hfo.1, hfo.2, fl_part hk (show o + k ≤ l.length by omega)]
                  rw [IH f.type k hk ((l.drop o).take k) (by simp; omega)]
                  exact ih _ ho
                · cases ho
              · cases ho
          simp only [eEqIn, eEqStep, flV, hu, aggD, if_true, q.1, Bool.false_eq_true, if_false]
          exact key fs.toList 0 hf
        · cases h
      · cases h
    · rename_i m e hu
      split at h
      · rename_i k hk
        split at h
        · rename_i q
          cases h
          have key : ∀ (is : List Nat), (∀ i ∈ is, i < m) → eqItemsE P (eEqIn P d) e k ⟨ints l⟩ ⟨ints l⟩ is = some true := by
            intro is
            induction is with
            | nil => exact fun _ => rfl
            | cons i is ih =>
              intro hi
              have h1 := hi i (.head _)
              have h2 : i * k + k ≤ m * k := by rw [← Nat.succ_mul]; exact Nat.mul_le_mul_right _ h1
              simp only [eqItemsE, fl_part hk (show i * k + k ≤ l.length by omega)]
              rw [IH e k hk ((l.drop (i * k)).take k) (by simp; omega)]
              exact ih fun j hj => hi j (.tail _ hj)
          simp only [eEqIn, eEqStep, flV, hu, aggD, if_true, q.1, Option.bind_some]
          exact key _ fun i hi => List.mem_range.1 hi
        · cases h
      · cases h
    · cases h

structure FLT (P : Program) (t : TypeId) (n : Nat) : Prop where
  ex : ∃ d, flT P 50 t = some n ∧ P.underlying t = some d ∧ aggD d = true ∧ P.eqGuardType P.depth t = false

theorem FLT.eq {P : Program} {t : TypeId} {n : Nat} (s : FLT P t n) {l l' : List Int} (h : l.length = n) (h' : l'.length = n) : eEqIn P 50 t (.agg ⟨ints l⟩) (.agg ⟨ints l'⟩) = some (decide (l = l')) := by
  obtain ⟨d, hk, hd, ha, _⟩ := s.ex
  have e1 := fl_eq 50 t n hk l l' h h'
  simp only [flV, hd, ha, if_true] at e1
  obtain ⟨r, q1, q2⟩ := e1
  by_cases he : l = l'
  · subst he
    have := fl_refl 50 t n hk l h
    simp only [flV, hd, ha, if_true] at this
    simpa using this
  · cases r with
    | true => exact absurd (q2 rfl) he
    | false => rw [q1]; simp [he]

section
variable {P : Program} {f : Nat → Value} {C : EH → Prop} {hr : RO} {h0 : EH} {F : List Nat} {L L' : Ents} {x y : Operand} {t t2 : TypeId} {b o n m z : Nat} {l l' us : List Int} {opn : Option Nat} {vs : List Value} {wr : Bool} {a : Option Addr} {c : Nat} {e : List Lay}

theorem S1.eqF (s : FLT P t n) (ex : ev f x = .agg ⟨ints l⟩) (ey : ev f y = .agg ⟨ints l'⟩) (h : l.length = n) (h' : l'.length = n) : S1 P (.binOp .eql t x y t2) f C (.bool (decide (l = l'))) C := .bin (by
  obtain ⟨d, _, _, _, hg⟩ := s.ex
  rw [ex, ey]
  simp [eBin, eGuardOk, guardXY, hg, s.eq h h'])
theorem S1.neF (s : FLT P t n) (ex : ev f x = .agg ⟨ints l⟩) (ey : ev f y = .agg ⟨ints l'⟩) (h : l.length = n) (h' : l'.length = n) : S1 P (.binOp .neq t x y t2) f C (.bool (decide (l ≠ l'))) C := .bin (by
  obtain ⟨d, _, _, _, hg⟩ := s.ex
  rw [ex, ey]
  simp [eBin, eGuardOk, guardXY, hg, s.eq h h'])

theorem S1.ldL (s : agD P t = some n) (ex : ev f x = .pointer (some ⟨b, o, none⟩)) (mm : Kn C b (.cells (ints l) opn wr)) (g : o + n ≤ l.length) : S1 P (.load t x) f C (.agg ⟨ints ((l.drop o).take n)⟩) C :=
  S1.ldRA s ex mm (by rw [ints_len]; exact g) (by simp only [ints, List.map_take, List.map_drop])

theorem S1.stW (s : agD P t = some n) (ex : ev f x = .pointer (some ⟨b, 0, none⟩)) (ey : ev f y = .agg ⟨ints l'⟩) (h' : l'.length = n) (h : vs.length = n) (mm : Upd L b (.cells vs opn true) (.cells (ints l') opn true) L') : S1 P (.store t x y) f (Hp hr h0 F L) undef (Hp hr h0 F L') := by
  have key : ∀ (us vs : List Value), us.length = vs.length → Spl vs 0 us us := by
    intro us
    induction us with
    | nil => intro vs h; cases vs <;> simp at h; exact .z
    | cons u us ih =>
      intro vs h
      cases vs with
      | nil => simp at h
      | cons v vs => exact .t (ih vs (by simpa using h))
  refine .stA s ex ey (by rw [ints_len]; exact h') ?_ (key _ _ (by rw [ints_len]; omega)) mm
  rw [List.all_eq_true]
  intro v hv
  simp only [ints, List.mem_map] at hv
  obtain ⟨q, _, rfl⟩ := hv
  rfl

theorem S1.cutA (s : arS P t = some n) (hn : 0 < n) (ex : ev f x = .pointer (some ⟨b, o, none⟩)) : S1 P (.slice t x none none none) f C (.slice (some ⟨b, o, none⟩) n n) C := by
  intro h H
  unfold arS at s
  split at s
  · rename_i n' el hu
    split at s
    · rename_i d hd
      split at s
      · rename_i q
        cases s
        refine ⟨h, ?_, H⟩
        simp only [estep, eSlice, hu, ex, q.2, Option.map_none]
        have e1 : eOptBound (none : Option Value) n n = some n := rfl
        have e2 : eOptBound (none : Option Value) n 0 = some 0 := rfl
        rw [e1]
        simp only [e2, Option.map_some, cutAt]
        rw [if_neg (by omega)]
        simp
      · cases s
    · cases s
  · cases s

theorem S1.ixPI {kk : IntKind} {p : Int} {i : Operand} (s : arS P t = some n) (ex : ev f x = .pointer (some ⟨b, o, none⟩)) (ei : ev f i = .int kk p) (hm : 0 ≤ p ∧ p < n) : S1 P (.indexAddr t x i) f C (.pointer (some ⟨b, o + p.toNat, none⟩)) C := by
  obtain ⟨k, rfl⟩ : ∃ k : Nat, p = k := ⟨p.toNat, by omega⟩
  exact S1.ixP s ex ei (by omega)

theorem S1.copyP (s : elD P t = some 1) (ex : ev f x = .slice (some ⟨b, o, none⟩) m z) (ey : ev f y = .slice a n c) (hc : Cell hr (.sl e) (.slice a n c)) (he : e.length = 1) (hv : romV hr a n = ints us) (hul : us.length = n) (g : o + m ≤ l.length) (mm : Upd L b (.cells (ints l) opn true) (.cells (ints (splI l o (us.take (Nat.min n m)))) opn true) L') :
    S1 P (.call ⟨.builtin .copy, #[x, y], #[t, t2]⟩) f (Hp hr h0 F L) (.int .i64 (Nat.min n m)) (Hp hr h0 F L') := by
  intro h H
  obtain ⟨elt, hu, hsz⟩ := elD_spec s
  have hrow : h[b]? = some (.cells (ints l) opn true) := H.at_ _ mm.perm.2.1
  by_cases hk : Nat.min n m = 0
  · refine ⟨h, ?_, ?_⟩
    · simp only [estep, List.map_cons, List.map_nil, ex, ey, eBuiltin, eCopy, hu, hsz, lenV, hk]
      simp
    · have := H.set mm
      rw [hk, List.take_zero, splI_nil, set_self' hrow] at this
      exact this
  · have hn : 0 < n := by
      rcases Nat.eq_zero_or_pos n with h0 | h0
      · subst h0; simp at hk
      · exact h0
    obtain ⟨ha, ⟨o2, w2, hb2, _⟩, hlen⟩ := hc.hit hn
    have hle := hc.le
    rw [he, Nat.mul_one] at hlen
    have hmin : Nat.min n m ≤ n := Nat.min_le_left _ _
    have hmin2 : Nat.min n m ≤ m := Nat.min_le_right _ _
    have hro : rowOf h (sb a) (so a) (Nat.min n m) = some (ints (us.take (Nat.min n m))) := by
      simp only [rowOf, H.rom _ _ hb2]
      rw [if_pos (by omega)]
      have : ints (us.take (Nat.min n m)) = (ints us).take (Nat.min n m) := by simp only [ints, List.map_take]
      rw [this, ← hv, romV, List.take_take, Nat.min_eq_left hmin]
    have hst := storeRow_ints (new := us.take (Nat.min n m)) (o := o) hrow (by rw [List.length_take]; omega)
    refine ⟨_, ?_, H.set mm⟩
    rw [ha] at ey
    simp only [estep, List.map_cons, List.map_nil, ex, ey, eBuiltin, eCopy, hu, hsz, lenV, if_neg hk, Nat.mul_one, hro, hst]
    simp
end
theorem MF.of {P : Program} {t kt el : TypeId} {n w : Nat} {z : Value} (h1 : P.underlying t = some (.map kt el)) (h2 : flT P 50 kt = some n) (h3 : (match P.underlying kt with | some d => aggD d | none => false) = true) (h4 : zeroOf P el = some (z, w)) : MF P t n z := by
  split at h3
  · rename_i d hd
    exact ⟨kt, el, w, d, h1, h2, hd, h3, h4⟩
  · cases h3
theorem FLT.of {P : Program} {t : TypeId} {n : Nat} (h2 : flT P 50 t = some n) (h3 : (match P.underlying t with | some d => aggD d | none => false) = true) (h4 : P.eqGuardType P.depth t = false) : FLT P t n := by
  split at h3
  · rename_i d hd
    exact ⟨d, h2, hd, h3, h4⟩
  · cases h3

theorem GD.muF {P : Program} {N : Nat} {f : Nat → Value} {ds : List Deferred} {rc : Option (Value × Bool)} {Q : Ex → St → Prop} {ops : Array Oper} {i : Nat} {d : Option Nat} {ty : TypeId} {pos : String} {aft : Array Edge} {gd : Option (Nat × Bool)} {hr : RO} {h0 : EH} {F : List Nat} {L L1 : Ents} {n : Nat} {z : Value} {V : List Int → Value → Prop} {l : List Int}
    {t : TypeId} {x y u : Operand} {b cl : Nat} {v : Value} {es : List MapEntry} (hi : ops.toList[i]? = some ⟨d, .mapUpdate t x y u, ty, pos, aft, gd⟩) (hw : Want N ops f gd true) (s : MF P t n z) (ex : ev f x = .map (some b)) (ey : ev f y = .agg ⟨ints l⟩) (ez : ev f u = v)
    (hn : (lbOf ops).contains i = false) (r : Rem L (b, .map es cl) L1) (hm : IMF n V es) (hl : l.length = n) (hv : V l v) (g : ∀ es' cl', IMF n V es' → GD P N ops (i + 1) (setT f d undef) ds rc (Hp hr h0 F ((b, .map es' cl') :: L1)) Q) : GD P N ops i f ds rc (Hp hr h0 F L) Q := GE.muF hi hw s ex ey ez (.f hn) r hm hl hv g

theorem S1.bu0 {P : Program} {f : Nat → Value} {C : EH → Prop} {t : TypeId} {n : Nat} {zs : List Value} (hz : azD P t = some n) (hzc : zcD P t = some zs) : S1 P (.build t #[]) f C (.agg ⟨zs⟩) C := .pure fun h => by
  unfold azD at hz
  rw [hzc] at hz
  split at hz
  · rename_i n' el zs' hu he
    cases he
    simp only [Option.ite_none_right_eq_some, Option.some.injEq] at hz
    obtain ⟨⟨h1, h2⟩, rfl⟩ := hz
    unfold zcD at hzc
    rw [Option.map_eq_some_iff] at hzc
    obtain ⟨⟨z, w⟩, hz1, hz2⟩ := hzc
    have hzl : z.cells = ⟨zs⟩ := Array.toList_inj.1 (by simpa using hz2)
    simp only [estep, eBuild, hz1, hu, h1, Array.map_empty]
    simp [Instr.fill, hzl]
  · cases hz
end Go.E
namespace Go.E
open Go

structure IRw where
  v : Value
  E : Ents
  m : Nat
  l : List Int

def inn (ps : List IRw) : Ents := ps.reverse.flatMap (·.E)
theorem inn_snoc {ps : List IRw} {p : IRw} : inn (ps ++ [p]) = p.E ++ inn ps := by simp [inn]
theorem inn_mem {ps : List IRw} {p : IRw} (h : p ∈ ps) : ∀ e ∈ p.E, e ∈ inn ps := fun e he => List.mem_flatMap.2 ⟨p, List.mem_reverse.2 h, he⟩

inductive NNR : Value → Ents → Nat → List IRw → Prop
  | nil : NNR nilS [] 0 []
  | row {r n : Nat} {ps : List IRw} (h0 : 0 < n) (hl : ps.length = n) : NNR (rowS r n) [(r, opRow (ps.map (·.v)) 1)] n ps

def IRwOk (b : Nat) (p : IRw) : Prop := NR 1 p.v p.E p.m p.l ∧ p.m ≤ b

theorem NNR.len {v : Value} {E : Ents} {n : Nat} {ps : List IRw} (o : NNR v E n ps) : ps.length = n := by cases o with | nil => rfl | row _ h => exact h
theorem NNR.okv {v : Value} {E : Ents} {n : Nat} {ps : List IRw} (o : NNR v E n ps) : Go.E.okv v = true := by cases o <;> rfl

theorem NNR.app {v : Value} {E : Ents} {n r : Nat} {ps : List IRw} (o : NNR v E n ps) {p : IRw} : NNR (rowS r (n + 1)) [(r, opRow ((ps ++ [p]).map (·.v)) 1)] (n + 1) (ps ++ [p]) :=
  .row (Nat.succ_pos _) (by rw [List.length_append, o.len]; rfl)

theorem NNR.cell {b n : Nat} {v : Value} {E B : Ents} {ps : List IRw} {e : List Lay} (o : NNR v E n ps) (hp : ∀ p ∈ ps, IRwOk b p) (hb : b ≤ 1073741824) (hz : e.length = 1) (he : ∀ l ∈ e, l = .int .i64 false) (hn : n ≤ 1073741824) (nd : (B.map (·.1)).Nodup) (hs : ∀ p ∈ E, p ∈ B) (hi : ∀ p ∈ inn ps, p ∈ B) : Cell (roOf B) (.sl [.sl e]) v := by
  cases o with
  | nil => exact .nil
  | row h0 hl =>
    refine .sl (roOf_of nd (hs _ (.head _))) (Nat.le_refl _) hn (by simp [hl]) (.inr rfl) fun i hi' j l hj => ?_
    have : j = 0 ∧ l = .sl e := by
      cases j with
      | zero => simp at hj; exact ⟨rfl, hj.symm⟩
      | succ j => simp at hj
    obtain ⟨rfl, rfl⟩ := this
    have hlt : i < ps.length := by omega
    have hm : ps[i] ∈ ps := List.getElem_mem hlt
    have hg : (ps.map (·.v)).getD (0 + (i * [Lay.sl e].length + 0)) undef = (ps[i]).v := by
      rw [List.getD_eq_getElem?_getD]
      simp [hlt]
    rw [hg]
    have q := hp _ hm
    exact (q.1.or hz he (by have := q.2; omega)).cell nd (fun e' he' => hi _ (inn_mem hm e' he'))

section
variable {P : Program} {f : Nat → Value} {hr : RO} {h0 : EH} {F : List Nat} {L L1 : Ents}

theorem SN.apNN {st xt : TypeId} {x y : Operand} {v : Value} {E : Ents} {n : Nat} {ps : List IRw} {p : IRw} (hz : appSz P st xt = some 1) (nn : NNR v E n ps) (ex : ev f x = v) (s : Src f (Hp hr h0 F L) 1 y 1 [p.v]) (hn : n + 1 ≤ 1073741824) (hu : okv p.v = true) (t : Take L E L1) :
    SN P (.call ⟨.builtin .append, #[x, y], #[st, xt]⟩) f (Hp hr h0 F L) (fun a => rowS a (n + 1)) (fun a => Hp hr h0 F ((a, opRow ((ps ++ [p]).map (·.v)) 1) :: L1)) := by
  intro h H
  have hp := t.perm
  cases nn with
  | nil =>
    obtain ⟨a, h', e, H'⟩ := SN.ap0 hz ex s (by decide) (by omega) h H
    exact ⟨a, h', e, H'.perm (List.Perm.cons _ (by simpa using hp))⟩
  | row hm hl =>
    obtain ⟨a, h', e, H'⟩ := SN.apO (L := _ :: L1) hz ex (s.mono fun h' H' => H'.perm hp.symm) (by decide) hn (by simp [hu]) .z (by rw [List.length_map, hl, Nat.mul_one]) h (H.perm hp)
    refine ⟨a, h', e, ?_⟩
    rw [List.map_append]
    exact H'
end
end Go.E
