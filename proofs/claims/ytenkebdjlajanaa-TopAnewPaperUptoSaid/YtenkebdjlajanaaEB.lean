/-
  E6: THE SIMPLE OPERATIONS (III): arithmetic, comparisons, conversions, lengths, closures, interfaces.
-/
import Derived.Test.YtenkebdjlajanaaEA
import Derived.Laws.StructEq
import Derived.AtR
set_option linter.all false
set_option linter.constructorNameAsVariable false
set_option linter.unusedSimpArgs false
set_option linter.unusedVariables false
set_option linter.unusedSectionVars false
set_option linter.unnecessarySimpa false
namespace Go.E
open Go

theorem VRel.zero {P : Program} {φ : Phi} {t : TypeId} {z : Value} {n : Nat} (h : zeroOf P t = some (z, n)) : VRel φ z z := by
  obtain ⟨_, _, _, _, _, hc, hu, _⟩ := zeroOf_spec h
  cases z with
  | agg cs =>
    have := VsRel.const (φ := φ) (a := cs) hc
    exact .agg this.1 this.2
  | _ => exact VRel.const (by simpa [Value.cells] using hc)

def intBits (op : BinOp) (k : IntKind) (x y : Int) : Option Int :=
  match op with
  | .and => some (k.wrap (BitVec.ofInt k.bits x &&& BitVec.ofInt k.bits y).toNat)
  | .or => some (k.wrap (BitVec.ofInt k.bits x ||| BitVec.ofInt k.bits y).toNat)
  | .xor => some (k.wrap (BitVec.ofInt k.bits x ^^^ BitVec.ofInt k.bits y).toNat)
  | .andNot => some (k.wrap (BitVec.ofInt k.bits x &&& ~~~(BitVec.ofInt k.bits y)).toNat)
  | _ => none

def intBin (op : BinOp) (k : IntKind) (a b : Int) : Option Value :=
  match op with
  | .add => some (.int k (k.wrap (a + b)))
  | .sub => some (.int k (k.wrap (a - b)))
  | .mul => some (.int k (k.wrap (a * b)))
  | .quo => if b = 0 then none else some (.int k (k.wrap (a.tdiv b)))
  | .rem => if b = 0 then none else some (.int k (a.tmod b))
  | .eql => some (.bool (a == b))
  | .neq => some (.bool (a != b))
  | .lss => some (.bool (a < b))
  | .leq => some (.bool (a ≤ b))
  | .gtr => some (.bool (a > b))
  | .geq => some (.bool (a ≥ b))
  | .shl | .shr => none
  | op => (intBits op k a b).map (.int k)

def intShift (op : BinOp) (k : IntKind) (a b : Int) : Option Value :=
  if b < 0 then none else
  match op with
  | .shl => some (.int k (k.wrap (a * 2 ^ (min b.toNat k.bits))))
  | .shr => some (.int k (a.fdiv (2 ^ (min b.toNat k.bits))))
  | _ => none

def strBin (op : BinOp) (a b : ByteArray) : Option Value :=
  match op with
  | .add => if a.size + b.size ≤ 9223372036854775807 then some (.string (a ++ b)) else none
  | .eql => some (.bool (a.toList == b.toList))
  | .neq => some (.bool !(a.toList == b.toList))
  | .lss => some (.bool (Op.bytesLess a.toList b.toList))
  | .leq => some (.bool (Op.bytesLess a.toList b.toList || a.toList == b.toList))
  | .gtr => some (.bool !(Op.bytesLess a.toList b.toList || a.toList == b.toList))
  | .geq => some (.bool !(Op.bytesLess a.toList b.toList))
  | _ => none

def eqFieldsE (P : Program) (eq : TypeId → Value → Value → Option Bool) (xs ys : Array Value) : List Field → Option Bool
  | [] => some true
  | f :: fs =>
    if f.name ≠ "_" then
      match ePart P f.type xs f.offset, ePart P f.type ys f.offset with
      | some a, some b =>
        match eq f.type a b with
        | some true => eqFieldsE P eq xs ys fs
        | some false => some false
        | none => none
      | _, _ => none
    else eqFieldsE P eq xs ys fs

def eqItemsE (P : Program) (eq : TypeId → Value → Value → Option Bool) (e : TypeId) (c : Nat) (xs ys : Array Value) : List Nat → Option Bool
  | [] => some true
  | i :: is =>
    match ePart P e xs (i * c), ePart P e ys (i * c) with
    | some a, some b =>
      match eq e a b with
      | some true => eqItemsE P eq e c xs ys is
      | some false => some false
      | none => none
    | _, _ => none

def eEqStep (P : Program) (eq : TypeId → Value → Value → Option Bool) (t : TypeId) (x y : Value) : Option Bool :=
  match P.underlying t, x, y with
  | some .bool, .bool a, .bool b => some (a == b)
  | some (.int _), .int k a, .int k' b => if k = k' then some (a == b) else none
  | some .string, .string a, .string b => some (a.toList == b.toList)
  | some (.struct fs), .agg xs, .agg ys => if P.stoodInHeld t = true then none else eqFieldsE P eq xs ys fs.toList
  | some (.array n e), .agg xs, .agg ys => (szOf P e).bind fun c => eqItemsE P eq e c xs ys (List.range n)
  | some (.slice _), .slice none _ _, .slice b _ _ => some b.isNone
  | some (.slice _), .slice (some _) _ _, .slice none _ _ => some false
  | some (.pointer _), .pointer none, .pointer b => some b.isNone
  | some (.pointer _), .pointer (some _), .pointer none => some false
  | some (.interface _), .nilIface, .nilIface => some true
  | some (.interface _), .nilIface, .iface _ _ => some false
  | some (.interface _), .iface _ _, .nilIface => some false
  | _, _, _ => none

def eEqIn (P : Program) : Nat → TypeId → Value → Value → Option Bool
  | 0, _, _, _ => none
  | d + 1, t, x, y => eEqStep P (eEqIn P d) t x y

theorem VRel.slice_isNone {φ : Phi} {a : Option Addr} {n c : Nat} {v' : Value} (r : VRel φ (.slice a n c) v') : ∃ a' c', v' = .slice a' n c' ∧ a'.isNone = a.isNone := by
  cases r with
  | base h => simp [isBase] at h
  | slnil => exact ⟨_, _, rfl, rfl⟩
  | slice h hc => exact ⟨_, _, rfl, rfl⟩
  | slempty h c => exact ⟨_, _, rfl, rfl⟩
  | sle => exact ⟨_, _, rfl, rfl⟩

theorem VRel.ptr_isNone {φ : Phi} {a : Option Addr} {v' : Value} (r : VRel φ (.pointer a) v') : ∃ a', v' = .pointer a' ∧ a'.isNone = a.isNone := by
  cases r with
  | base h => exact ⟨_, rfl, rfl⟩
  | ptr h => exact ⟨_, rfl, rfl⟩

theorem run_eqFields {P : Program} {φ : Phi} {w : World} {d : Nat} {eq : TypeId → Value → Value → Option Bool}
    (IH : ∀ t x y x' y' r, VRel φ x x' → VRel φ y y' → eq t x y = some r → (Op.equalIn d t x' y').run P w = .ok r w)
    {xs ys xs' ys' : Array Value} (rx : VsRel φ xs xs') (ry : VsRel φ ys ys') : ∀ (fs : List Field) (r : Bool), eqFieldsE P eq xs ys fs = some r → (Op.eqFields d xs' ys' fs).run P w = .ok r w := by
  intro fs
  induction fs with
  | nil => intro r e; simp only [eqFieldsE, Option.some.injEq] at e; subst e; rfl
  | cons f fs ih =>
    intro r e
    simp only [eqFieldsE] at e
    simp only [Op.eqFields]
    split at e
    · rename_i hn
      rw [if_pos hn]
      split at e
      · rename_i a b ha hb
        obtain ⟨a', e1, e2⟩ := good_part (P := P) (w := w) rx ha
        obtain ⟨b', f1, f2⟩ := good_part (P := P) (w := w) ry hb
        split at e
        · rename_i hq
          simp only [Sem.run_bind, e1, f1, Result.andThen_ok, IH _ _ _ _ _ _ e2 f2 hq, Bool.not_true, Bool.false_eq_true, if_false]
          exact ih r e
        · rename_i hq
          simp only [Option.some.injEq] at e; subst e
          simp only [Sem.run_bind, e1, f1, Result.andThen_ok, IH _ _ _ _ _ _ e2 f2 hq, Bool.not_false, if_true, Sem.run_pure]
        · simp at e
      · simp at e
    · rename_i hn
      rw [if_neg hn]
      exact ih r e

theorem run_eqItems {P : Program} {φ : Phi} {w : World} {d : Nat} {eq : TypeId → Value → Value → Option Bool}
    (IH : ∀ t x y x' y' r, VRel φ x x' → VRel φ y y' → eq t x y = some r → (Op.equalIn d t x' y').run P w = .ok r w) (t c : Nat)
    {xs ys xs' ys' : Array Value} (rx : VsRel φ xs xs') (ry : VsRel φ ys ys') : ∀ (is : List Nat) (r : Bool), eqItemsE P eq t c xs ys is = some r → (Op.eqItems d t c xs' ys' is).run P w = .ok r w := by
  intro is
  induction is with
  | nil => intro r e; simp only [eqItemsE, Option.some.injEq] at e; subst e; rfl
  | cons i is ih =>
    intro r e
    simp only [eqItemsE] at e
    simp only [Op.eqItems]
    split at e
    · rename_i a b ha hb
      obtain ⟨a', e1, e2⟩ := good_part (P := P) (w := w) rx ha
      obtain ⟨b', f1, f2⟩ := good_part (P := P) (w := w) ry hb
      split at e
      · rename_i hq
        simp only [Sem.run_bind, e1, f1, Result.andThen_ok, IH _ _ _ _ _ _ e2 f2 hq, Bool.not_true, Bool.false_eq_true, if_false]
        exact ih r e
      · rename_i hq
        simp only [Option.some.injEq] at e; subst e
        simp only [Sem.run_bind, e1, f1, Result.andThen_ok, IH _ _ _ _ _ _ e2 f2 hq, Bool.not_false, if_true, Sem.run_pure]
      · simp at e
    · simp at e

theorem fieldsOf_eq {P : Program} {t : TypeId} {fs : Array Field} (h : P.underlying t = some (.struct fs)) : P.fieldsOf t = fs := by simp [Program.fieldsOf, h]
theorem cellsOf_eq {P : Program} {t n : Nat} (h : szOf P t = some n) : ∃ i, P.info? t = some i ∧ P.cellsOf t = n := by
  unfold szOf at h
  cases hi : P.info? t with
  | none => simp [hi] at h
  | some i => simp [hi] at h; exact ⟨i, rfl, by simp [Program.cellsOf, hi, h]⟩

theorem run_equalIn_E {P : Program} {φ : Phi} (w : World) : ∀ (d : Nat) (t : TypeId) (x y x' y' : Value) (r : Bool), VRel φ x x' → VRel φ y y' → eEqIn P d t x y = some r → (Op.equalIn d t x' y').run P w = .ok r w := by
  intro d
  induction d with
  | zero => intro t x y x' y' r _ _ e; simp [eEqIn] at e
  | succ d ih =>
    intro t x y x' y' r rx ry e
    simp only [eEqIn, eEqStep] at e
    split at e
    · rename_i a b hu
      cases rx.bool_inv; cases ry.bool_inv
      simp only [Option.some.injEq] at e; subst e
      simp [Op.equalIn, run_underlying hu]
    · rename_i k a k' b hu
      cases rx.int_inv; cases ry.int_inv
      simp only [Option.ite_none_right_eq_some, Option.some.injEq] at e
      obtain ⟨hk, rfl⟩ := e
      simp [Op.equalIn, run_underlying hu, hk]
    · rename_i a b hu
      cases rx.string_inv; cases ry.string_inv
      simp only [Option.some.injEq] at e; subst e
      simp [Op.equalIn, run_underlying hu, beq_toListBytes]
    · rename_i fs xs ys hu
      obtain ⟨xs', rfl, rx2⟩ := rx.agg_inv
      obtain ⟨ys', rfl, ry2⟩ := ry.agg_inv
      simp only [Option.ite_none_left_eq_some] at e
      obtain ⟨hs, e⟩ := e
      rw [run_equalIn_struct w d t xs' ys' (by rw [fieldsOf_eq hu]; exact hu) (by simpa using hs), fieldsOf_eq hu]
      exact run_eqFields (fun t x y x' y' r h1 h2 h3 => ih t x y x' y' r h1 h2 h3) rx2 ry2 _ _ e
    · rename_i n el xs ys hu
      obtain ⟨xs', rfl, rx2⟩ := rx.agg_inv
      obtain ⟨ys', rfl, ry2⟩ := ry.agg_inv
      cases hs : szOf P el with
      | none => simp [hs] at e
      | some c =>
        simp only [hs, Option.bind_some] at e
        obtain ⟨i, hi, hc⟩ := cellsOf_eq hs
        rw [run_equalIn_array w d xs' ys' hu hi, hc]
        exact run_eqItems (fun t x y x' y' r h1 h2 h3 => ih t x y x' y' r h1 h2 h3) _ _ rx2 ry2 _ _ e
    · rename_i el n c b n2 c2 hu
      obtain ⟨a', c', rfl, h1⟩ := rx.slice_isNone
      obtain ⟨b', c2', rfl, h2⟩ := ry.slice_isNone
      cases a' with
      | some _ => simp at h1
      | none =>
        simp only [Option.some.injEq] at e; subst e
        simp [Op.equalIn, run_underlying hu, h2]
    · rename_i el a n c n2 c2 hu
      obtain ⟨a', c', rfl, h1⟩ := rx.slice_isNone
      obtain ⟨b', c2', rfl, h2⟩ := ry.slice_isNone
      cases a' with
      | none => simp at h1
      | some a' =>
        cases b' with
        | some _ => simp at h2
        | none =>
          simp only [Option.some.injEq] at e; subst e
          simp [Op.equalIn, run_underlying hu]
    · rename_i el b hu
      cases rx.nilPtr_inv
      obtain ⟨b', rfl, h2⟩ := ry.ptr_isNone
      simp only [Option.some.injEq] at e; subst e
      simp [Op.equalIn, run_underlying hu, h2]
    · rename_i el a hu
      obtain ⟨a', rfl, h1⟩ := rx.ptr_isNone
      cases ry.nilPtr_inv
      cases a' with
      | none => simp at h1
      | some a' =>
        simp only [Option.some.injEq] at e; subst e
        simp [Op.equalIn, run_underlying hu]
    · rename_i ms hu
      cases rx.nilIface_inv; cases ry.nilIface_inv
      simp only [Option.some.injEq] at e; subst e
      simp [Op.equalIn, run_underlying hu]
    · rename_i ms t1 v1 hu
      cases rx.nilIface_inv
      obtain ⟨u, rfl, _⟩ := ry.iface_inv
      simp only [Option.some.injEq] at e; subst e
      simp [Op.equalIn, run_underlying hu]
    · rename_i ms t1 v1 hu
      obtain ⟨u, rfl, _⟩ := rx.iface_inv
      cases ry.nilIface_inv
      simp only [Option.some.injEq] at e; subst e
      simp [Op.equalIn, run_underlying hu]
    · simp at e

theorem eEqIn_mono {P : Program} : ∀ (d : Nat) (t : TypeId) (x y : Value) (r : Bool), eEqIn P d t x y = some r → eEqIn P (d + 1) t x y = some r := by
  intro d
  induction d with
  | zero => intro t x y r e; simp [eEqIn] at e
  | succ d ih =>
    have hf : ∀ (xs ys : Array Value) (fs : List Field) (r : Bool), eqFieldsE P (eEqIn P d) xs ys fs = some r → eqFieldsE P (eEqIn P (d + 1)) xs ys fs = some r := by
      intro xs ys fs
      induction fs with
      | nil => intro r e; exact e
      | cons f fs ihf =>
        intro r e
        simp only [eqFieldsE] at e ⊢
        split at e
        · rename_i hn
          rw [if_pos hn]
          split at e
          · split at e
            · rename_i hq; rw [ih _ _ _ _ hq]; exact ihf r e
            · rename_i hq; rw [ih _ _ _ _ hq]; exact e
            · simp at e
          · simp at e
        · rename_i hn
          rw [if_neg hn]; exact ihf r e
    have hi : ∀ (t c : Nat) (xs ys : Array Value) (is : List Nat) (r : Bool), eqItemsE P (eEqIn P d) t c xs ys is = some r → eqItemsE P (eEqIn P (d + 1)) t c xs ys is = some r := by
      intro t c xs ys is
      induction is with
      | nil => intro r e; exact e
      | cons i is ihi =>
        intro r e
        simp only [eqItemsE] at e ⊢
        split at e
        · split at e
          · rename_i hq; rw [ih _ _ _ _ hq]; exact ihi r e
          · rename_i hq; rw [ih _ _ _ _ hq]; exact e
          · simp at e
        · simp at e
    intro t x y r e
    have e : eEqStep P (eEqIn P d) t x y = some r := e
    show eEqStep P (eEqIn P (d + 1)) t x y = some r
    unfold eEqStep at e ⊢
    split at e
    case h_4 =>
      simp only [Option.ite_none_left_eq_some] at e ⊢
      exact ⟨e.1, hf _ _ _ _ e.2⟩
    case h_5 =>
      rename_i el _ _ _ _
      cases hs : szOf P el with
      | none => simp [hs] at e
      | some c => simp only [hs, Option.bind_some] at e ⊢; exact hi _ _ _ _ _ _ e
    all_goals first
      | (cases e; done)
      | exact e

theorem eEqIn_le {P : Program} {d d' : Nat} (h : d ≤ d') {t : TypeId} {x y : Value} {r : Bool} (e : eEqIn P d t x y = some r) : eEqIn P d' t x y = some r := by
  induction d' with
  | zero => have : d = 0 := by omega
            subst this; exact e
  | succ d' ih =>
    by_cases h2 : d ≤ d'
    · exact eEqIn_mono _ _ _ _ _ (ih h2)
    · have : d = d' + 1 := by omega
      subst this; exact e
end Go.E
namespace Go.E
open Go

def isC : Operand → Bool
  | .const _ => true
  | _ => false

def guardXY (P : Program) (t : TypeId) (xo yo : Operand) (x y : Value) : Bool :=
  match x, y with
  | .nilIface, .nilIface => isC xo || isC yo
  | .agg _, .agg _ => !(P.eqGuardType P.depth t)
  | .chan _, _ => false
  | _, .chan _ => false
  | _, _ => true

def eGuardOk (P : Program) (op : BinOp) (t : TypeId) (xo yo : Operand) (x y : Value) : Bool :=
  match op with
  | .eql => guardXY P t xo yo x y
  | .neq => guardXY P t xo yo x y
  | _ => true

theorem run_guardXY {P : Program} {φ : Phi} {w : World} {op : BinOp} {t : TypeId} {xo yo : Operand} {x y x' y' : Value} (hop : op = .eql ∨ op = .neq) (rx : VRel φ x x') (ry : VRel φ y y') (h : guardXY P t xo yo x y = true) :
    (eqGuard op t xo yo x' y').run P w = .ok () w := by
  rcases hop with rfl | rfl <;>
  · unfold guardXY at h
    split at h
    · cases rx.nilIface_inv; cases ry.nilIface_inv
      cases xo <;> cases yo <;> first | rfl | simp [isC] at h
    · obtain ⟨a', rfl, _⟩ := rx.agg_inv
      obtain ⟨b', rfl, _⟩ := ry.agg_inv
      simp only [Bool.not_eq_true'] at h
      simp [eqGuard, h]
    · cases h
    · cases h
    · rename_i n1 n2 n3 n4
      have back : ∀ {z z' : Value}, VRel φ z z' → (∀ r, z = .chan r → False) → (z' = .nilIface → z = .nilIface) ∧ (∀ a', z' = .agg a' → ∃ a, z = .agg a) := by
        intro z z' rz hz
        cases rz with
        | unk => exact absurd rfl (hz _)
        | base h => exact ⟨fun h => h, fun a' h => ⟨a', h⟩⟩
        | agg h h' => exact ⟨fun h => (by cases h), fun a' _ => ⟨_, rfl⟩⟩
        | _ => exact ⟨fun h => (by cases h), fun a' h => (by cases h)⟩
      obtain ⟨b1, b2⟩ := back rx n1
      obtain ⟨b3, b4⟩ := back ry n2
      cases x' <;> first
        | rfl
        | (cases y' <;> first
            | rfl
            | exact absurd (b3 rfl) (n3 (b1 rfl))
            | (obtain ⟨_, rfl⟩ := b2 _ rfl; obtain ⟨_, rfl⟩ := b4 _ rfl; exact absurd rfl (n4 _ _ rfl)))

theorem run_guard {P : Program} {φ : Phi} {w : World} {op : BinOp} {t : TypeId} {xo yo : Operand} {x y x' y' : Value} (rx : VRel φ x x') (ry : VRel φ y y') (h : eGuardOk P op t xo yo x y = true) :
    (eqGuard op t xo yo x' y').run P w = .ok () w := by
  cases op <;> first | exact run_guardXY (.inl rfl) rx ry h | exact run_guardXY (.inr rfl) rx ry h | rfl

def eBin (P : Program) (op : BinOp) (t : TypeId) (xo yo : Operand) (x y : Value) : Option Value :=
  if eGuardOk P op t xo yo x y = true then
    match x, y with
    | .int k a, .int k' b =>
      match op with
      | .shl | .shr => intShift op k a b
      | _ => if k = k' then intBin op k a b else none
    | .string a, .string b => strBin op a b
    | x, y =>
      match op with
      | .eql => (eEqIn P 50 t x y).map .bool
      | .neq => (eEqIn P 50 t x y).map fun b => .bool !b
      | _ => none
  else none

theorem intBits_run {P : Program} {w : World} {op : BinOp} {k : IntKind} {a b n : Int} (h : intBits op k a b = some n) : (Op.intBits op k a b).run P w = .ok (.int k n) w := by
  cases op <;> simp only [intBits, Option.some.injEq] at h <;> first | (cases h; done) | (subst h; rfl)

theorem intBin_run {P : Program} {w : World} {op : BinOp} {t : TypeId} {k : IntKind} {a b : Int} {v : Value} (h : intBin op k a b = some v) : (binOp op t (.int k a) (.int k b)).run P w = .ok v w := by
  cases op <;> simp only [intBin, Option.some.injEq, Option.ite_none_left_eq_some, Option.map_eq_some_iff] at h
  all_goals first
    | (cases h; done)
    | (subst h; simp [binOp, Op.intArith, Op.intCmp]; done)
    | (obtain ⟨hb, rfl⟩ := h; simp [binOp, Op.intDiv, hb]; done)
    | (obtain ⟨n, hn, rfl⟩ := h; simp [binOp, intBits_run hn]; done)

theorem intShift_run {P : Program} {w : World} {op : BinOp} {t : TypeId} {k yk : IntKind} {a b : Int} {v : Value} (h : intShift op k a b = some v) : (binOp op t (.int k a) (.int yk b)).run P w = .ok v w := by
  unfold intShift at h
  simp only [Option.ite_none_left_eq_some] at h
  obtain ⟨hb, h⟩ := h
  cases op <;> simp only [Option.some.injEq] at h
  all_goals first
    | (cases h; done)
    | (subst h; simp [binOp, Op.shift, hb]; done)

theorem strBin_run {P : Program} {w : World} {op : BinOp} {t : TypeId} {a b : ByteArray} {v : Value} (h : strBin op a b = some v) : (binOp op t (.string a) (.string b)).run P w = .ok v w := by
  have e : IntKind.i64.max = 9223372036854775807 := rfl
  cases op <;> simp only [strBin, Option.some.injEq, Option.ite_none_right_eq_some] at h
  all_goals first
    | (cases h; done)
    | (subst h; simp [binOp, Op.stringOp]; done)
    | (obtain ⟨hb, rfl⟩ := h
       have : ¬ (((a.size + b.size : Nat) : Int) > IntKind.i64.max) := by omega
       simp only [binOp, Op.stringOp]
       rw [if_neg this]
       rfl)

theorem eEqIn_shape {P : Program} {d : Nat} {t : TypeId} {x y : Value} {r : Bool} (h : eEqIn P (d + 1) t x y = some r) :
    (∃ a b, x = .bool a ∧ y = .bool b) ∨ (∃ k a k' b, x = .int k a ∧ y = .int k' b) ∨ (∃ a b, x = .string a ∧ y = .string b) ∨ (∃ a b, x = .agg a ∧ y = .agg b) ∨
    (∃ a n c b m e, x = .slice a n c ∧ y = .slice b m e) ∨ (∃ a b, x = .pointer a ∧ y = .pointer b) ∨ ((x = .nilIface ∨ ∃ t v, x = .iface t v) ∧ (y = .nilIface ∨ ∃ t v, y = .iface t v)) := by
  have h : eEqStep P (eEqIn P d) t x y = some r := h
  unfold eEqStep at h
  split at h <;> first | (cases h; done) | simp

theorem good_bin {P : Program} {φ : Phi} {h : EH} {w : World} {op : BinOp} {t : TypeId} {xo yo : Operand} {x x' y y' v : Value} (r : RelH φ h w) (rx : VRel φ x x') (ry : VRel φ y y')
    (e : eBin P op t xo yo x y = some v) : Good P φ h w (do eqGuard op t xo yo x' y'; binOp op t x' y') v h := by
  unfold eBin at e
  simp only [Option.ite_none_right_eq_some] at e
  obtain ⟨hg, e⟩ := e
  have hrun := run_guard (P := P) (w := w) rx ry hg
  have done : ∀ v' : Value, (binOp op t x' y').run P w = .ok v' w → VRel φ v v' → Good P φ h w (do eqGuard op t xo yo x' y'; binOp op t x' y') v h := fun v' h1 h2 =>
    Good.same r (by simp only [Sem.run_bind, hrun, Result.andThen_ok, h1]) h2
  have base : ∀ (op : BinOp) (k : IntKind) (a b : Int) (v : Value), intBin op k a b = some v → isBase v = true := by
    intro op k a b v h
    cases op <;> simp only [intBin, Option.some.injEq, Option.ite_none_left_eq_some, Option.map_eq_some_iff] at h
    all_goals first
      | (cases h; done)
      | (subst h; rfl)
      | (obtain ⟨_, rfl⟩ := h; rfl)
      | (obtain ⟨_, _, rfl⟩ := h; rfl)
  split at e
  · rename_i k a k' b
    cases rx.int_inv; cases ry.int_inv
    split at e
    · refine done v (intShift_run e) (.base ?_)
      simp only [intShift, Option.ite_none_left_eq_some, Option.some.injEq] at e
      obtain ⟨_, rfl⟩ := e; rfl
    · refine done v (intShift_run e) (.base ?_)
      simp only [intShift, Option.ite_none_left_eq_some, Option.some.injEq] at e
      obtain ⟨_, rfl⟩ := e; rfl
    · simp only [Option.ite_none_right_eq_some] at e
      obtain ⟨rfl, e⟩ := e
      exact done v (intBin_run e) (.base (base _ _ _ _ _ e))
  · rename_i a b
    cases rx.string_inv; cases ry.string_inv
    refine done v (strBin_run e) (.base ?_)
    cases op <;> simp only [strBin, Option.some.injEq, Option.ite_none_right_eq_some] at e
    all_goals first
      | (cases e; done)
      | (subst e; rfl)
      | (obtain ⟨_, rfl⟩ := e; rfl)
  · rename_i n1 n2
    have eqlRun : ∀ b : Bool, eEqIn P 50 t x y = some b → (binOp .eql t x' y').run P w = .ok (.bool b) w ∧ (binOp .neq t x' y').run P w = .ok (.bool !b) w := by
      intro b hb
      have hq : (Op.equal t x' y').run P w = .ok b w := run_equalIn_E w 10000 t x y x' y' b rx ry (eEqIn_le (by omega) hb)
      rcases eEqIn_shape hb with ⟨_, _, rfl, rfl⟩ | ⟨_, _, _, _, rfl, rfl⟩ | ⟨_, _, rfl, rfl⟩ | ⟨_, _, rfl, rfl⟩ | ⟨_, _, _, _, _, _, rfl, rfl⟩ | ⟨_, _, rfl, rfl⟩ | ⟨h1, h2⟩
      · cases rx.bool_inv; cases ry.bool_inv
        constructor <;> simp [binOp, hq]
      · exact absurd rfl (n1 _ _ _ _ rfl)
      · exact absurd rfl (n2 _ _ rfl)
      · obtain ⟨_, rfl, _⟩ := rx.agg_inv; obtain ⟨_, rfl, _⟩ := ry.agg_inv
        constructor <;> simp [binOp, hq]
      · obtain ⟨_, _, rfl, _⟩ := rx.slice_isNone; obtain ⟨_, _, rfl, _⟩ := ry.slice_isNone
        constructor <;> simp [binOp, hq]
      · obtain ⟨_, rfl, _⟩ := rx.ptr_isNone; obtain ⟨_, rfl, _⟩ := ry.ptr_isNone
        constructor <;> simp [binOp, hq]
      · rcases h1 with rfl | ⟨t1, v1, rfl⟩ <;> rcases h2 with rfl | ⟨t2, v2, rfl⟩
        · cases rx.nilIface_inv; cases ry.nilIface_inv
          constructor <;> simp [binOp, hq]
        · cases rx.nilIface_inv; obtain ⟨_, rfl, _⟩ := ry.iface_inv
          constructor <;> simp [binOp, hq]
        · obtain ⟨_, rfl, _⟩ := rx.iface_inv; cases ry.nilIface_inv
          constructor <;> simp [binOp, hq]
        · obtain ⟨_, rfl, _⟩ := rx.iface_inv; obtain ⟨_, rfl, _⟩ := ry.iface_inv
          constructor <;> simp [binOp, hq]
    cases op <;> simp only [Option.map_eq_some_iff] at e
    all_goals first
      | (cases e; done)
      | (obtain ⟨b, hb, rfl⟩ := e; exact done _ (eqlRun b hb).1 (.base rfl))
      | (obtain ⟨b, hb, rfl⟩ := e; exact done _ (eqlRun b hb).2 (.base rfl))

def eUn (op : UnOp) (x : Value) : Option Value :=
  match op, x with
  | .neg, .int k n => some (.int k (k.wrap (0 - n)))
  | .not, .bool b => some (.bool !b)
  | .xor, .int k n => (intBits .xor k (if k.signed then -1 else k.max) n).map (.int k)
  | _, _ => none

theorem good_un {P : Program} {φ : Phi} {h : EH} {w : World} {op : UnOp} {x x' v : Value} (r : RelH φ h w) (rx : VRel φ x x') (e : eUn op x = some v) : Good P φ h w (Op.unary op x') v h := by
  unfold eUn at e
  split at e
  · cases rx.int_inv; cases e
    exact Good.same r (v' := _) (by simp [Op.unary, Op.intArith]) (.base rfl)
  · cases rx.bool_inv; cases e
    exact Good.same r (v' := _) (by simp [Op.unary]) (.base rfl)
  · cases rx.int_inv
    simp only [Option.map_eq_some_iff] at e
    obtain ⟨n, hn, rfl⟩ := e
    exact Good.same r (v' := _) (by simp only [Op.unary]; exact intBits_run hn) (.base rfl)
  · simp at e

def eConv (P : Program) (src dst : TypeId) (x : Value) : Option Value :=
  match P.underlying src, P.underlying dst, x with
  | some _, some (.int k), .int _ n => some (.int k (k.wrap n))
  | some _, some .string, .string s => some (.string s)
  | _, _, _ => none

theorem good_conv {P : Program} {φ : Phi} {h : EH} {w : World} {src dst : TypeId} {x x' v : Value} (r : RelH φ h w) (rx : VRel φ x x') (e : eConv P src dst x = some v) : Good P φ h w (convert src dst x') v h := by
  unfold eConv at e
  split at e
  · rename_i d k q n hs hd
    cases rx.int_inv; cases e
    exact Good.same r (v' := .int k (k.wrap n)) (by simp [convert, run_underlying hs, run_underlying hd, Conv.intToInt]) (.base rfl)
  · rename_i d s hs hd
    cases rx.string_inv; cases e
    refine Good.same r (v' := .string s) ?_ (.base rfl)
    simp only [convert, Sem.run_bind, run_underlying hs, run_underlying hd, Result.andThen_ok]
    cases d <;> rfl
  · simp at e

def ePick (c a b : Value) : Option Value :=
  match c with
  | .bool t => some (if t then a else b)
  | _ => none

theorem good_pick {P : Program} {φ : Phi} {h : EH} {w : World} {c a b c' a' b' v : Value} (r : RelH φ h w) (rc : VRel φ c c') (ra : VRel φ a a') (rb : VRel φ b b') (e : ePick c a b = some v) :
    Good P φ h w (do pure (if ← asBool c' then a' else b')) v h := by
  unfold ePick at e
  split at e
  · rename_i t
    cases rc.bool_inv; cases e
    exact Good.same r (v' := if t then a' else b') (by simp [asBool]) (by cases t <;> assumption)
  · simp at e

def eLen (P : Program) (t : TypeId) (x : Value) (h : EH) : Option Value :=
  match P.underlying t, x with
  | some .string, .string s => some (.int .i64 s.size)
  | some (.array n _), _ => some (.int .i64 n)
  | some (.slice _), .slice _ n _ => some (.int .i64 n)
  | some (.map _ _), .map none => some (.int .i64 0)
  | some (.map _ _), .map (some b) => match h[b]? with
    | some (.map es _) => some (.int .i64 es.length)
    | _ => none
  | _, _ => none

theorem VRel.slice_len {φ : Phi} {a : Option Addr} {n c : Nat} {v' : Value} (r : VRel φ (.slice a n c) v') : ∃ a' c', v' = .slice a' n c' := by
  cases r with
  | base h => simp [isBase] at h
  | slnil => exact ⟨_, _, rfl⟩
  | slice h hc => exact ⟨_, _, rfl⟩
  | slempty h c => exact ⟨_, _, rfl⟩
  | sle => exact ⟨_, _, rfl⟩

theorem good_len {P : Program} {φ : Phi} {h : EH} {w : World} {t ty : TypeId} {x x' v : Value} (r : RelH φ h w) (rx : VRel φ x x') (e : eLen P t x h = some v) : Good P φ h w (Builtin.len_ #[t] ty #[x']) v h := by
  unfold eLen at e
  split at e
  · rename_i s hu
    cases rx.string_inv; cases e
    exact Good.same r (v' := .int .i64 s.size) (by simp [Builtin.len_, run_underlying hu, goInt]) (.base rfl)
  · rename_i n el hu
    cases e
    refine Good.same r (v' := .int .i64 n) ?_ (.base rfl)
    simp only [Builtin.len_, List.getElem?_toArray, List.getElem?_cons_zero, Sem.run_bind, run_underlying hu, Result.andThen_ok]
    cases x' <;> rfl
  · rename_i el a n c hu
    obtain ⟨a', c', rfl⟩ := rx.slice_len
    cases e
    exact Good.same r (v' := .int .i64 n) (by simp [Builtin.len_, run_underlying hu, goInt]) (.base rfl)
  · rename_i k el hu
    cases rx.nilMap_inv; cases e
    exact Good.same r (v' := .int .i64 0) (by simp [Builtin.len_, run_underlying hu, goInt]) (.base rfl)
  · rename_i k el b hu
    obtain ⟨loc, hb, rfl⟩ := rx.map_inv
    obtain ⟨o, ho, _, hob⟩ := r.obj b loc hb
    rw [ho] at e
    cases o with
    | map es clock =>
      cases e
      obtain ⟨_, es', hw, hsz, _⟩ := hob
      refine Good.same r (v' := .int .i64 es.length) ?_ (.base rfl)
      simp [Builtin.len_, run_underlying hu, getObj, Sem.run, hw, goInt, hsz]
    | _ => simp at e
  · simp at e

def eMax (op : Int → Int → Bool) : Value → List Value → Option Value
  | v, [] => some v
  | .int k x, .int _ y :: rest => eMax op (.int k (if op y x then y else x)) rest
  | _, _ :: _ => none

theorem run_foldInt {P : Program} {φ : Phi} {w : World} {f2 : Value → Value → Sem Value} {op : Int → Int → Bool} (hf : ∀ k x k2 y, f2 (.int k x) (.int k2 y) = pure (.int k (if op y x then y else x))) :
    ∀ (rest : List Value) (x x' : Value) (rest' : List Value) (v : Value), (∃ k n, x = .int k n) → VRel φ x x' → VsRel φ rest.toArray rest'.toArray → eMax op x rest = some v →
      ∃ k n, v = .int k n ∧ (rest'.foldlM f2 x').run P w = .ok v w := by
  intro rest
  induction rest with
  | nil =>
    intro x x' rest' v hi rx rr e
    obtain ⟨k, n, rfl⟩ := hi
    cases rx.int_inv
    cases rest' with
    | nil => simp only [eMax, Option.some.injEq] at e; subst e; exact ⟨k, n, rfl, rfl⟩
    | cons a l => have := rr.1; simp at this
  | cons y rest ih =>
    intro x x' rest' v hi rx rr e
    obtain ⟨k, n, rfl⟩ := hi
    cases rx.int_inv
    cases rest' with
    | nil => have := rr.1; simp at this
    | cons y' rest' =>
      have ry : VRel φ y y' := rr.2 0 (by simp) (by simp)
      have rr' : VsRel φ rest.toArray rest'.toArray := ⟨by have := rr.1; simpa using this, fun i h1 h2 => by
        have := rr.2 (i + 1) (by simpa using h1) (by simpa using h2)
        simpa using this⟩
      cases y with
      | int k2 m =>
        cases ry.int_inv
        simp only [eMax] at e
        obtain ⟨k3, n3, rfl, h3⟩ := ih _ _ rest' v ⟨_, _, rfl⟩ (.base rfl) rr' e
        exact ⟨k3, n3, rfl, by simp only [List.foldlM_cons, hf, Sem.run_bind, Sem.run_pure, Result.andThen_ok]; simpa using h3⟩
      | _ => simp [eMax] at e

def eMaxAll (op : Int → Int → Bool) (args : List Value) : Option Value :=
  match args with
  | .int k n :: rest => eMax op (.int k n) rest
  | _ => none

theorem good_fold {P : Program} {φ : Phi} {h : EH} {w : World} {f2 : Value → Value → Sem Value} {op : Int → Int → Bool} (hf : ∀ k x k2 y, f2 (.int k x) (.int k2 y) = pure (.int k (if op y x then y else x)))
    {s : List Value → Sem Value} (hs : ∀ x rest, s (x :: rest) = rest.foldlM f2 x) {args : List Value} {args' : Array Value} {v : Value} (r : RelH φ h w) (ra : VsRel φ args.toArray args')
    (e : eMaxAll op args = some v) : Good P φ h w (s args'.toList) v h := by
  unfold eMaxAll at e
  split at e
  · rename_i k n rest
    have hlen : args'.toList.length = rest.length + 1 := by have := ra.1; rw [Array.length_toList, ← this]; simp
    have hget : ∀ i u, (Value.int k n :: rest)[i]? = some u → ∃ u', args'.toList[i]? = some u' ∧ VRel φ u u' := fun i u hu => by
      obtain ⟨u', e1, e2⟩ := ra.get (i := i) (v := u) (by simpa using hu)
      exact ⟨u', by rw [Array.getElem?_toList]; exact e1, e2⟩
    unfold Good
    cases hl : args'.toList with
    | nil => rw [hl] at hlen; simp at hlen
    | cons a l =>
      rw [hl] at hlen hget
      obtain ⟨u0, e1, e2⟩ := hget 0 _ rfl
      simp only [List.getElem?_cons_zero, Option.some.injEq] at e1
      subst e1
      obtain ⟨k2, n2, hv, hr⟩ := run_foldInt (P := P) (w := w) hf rest _ a l v ⟨_, _, rfl⟩ e2 (VsRel.of_get (by simpa using hlen.symm) fun i u hu => by
        obtain ⟨u', f1, f2⟩ := hget (i + 1) u (by simpa using hu)
        exact ⟨u', by simpa using f1, f2⟩) e
      exact ⟨φ, v, w, by rw [hs]; exact hr, by rw [hv]; exact .base rfl, r, r.tr⟩
  · simp at e

theorem good_max {P : Program} {φ : Phi} {h : EH} {w : World} {ts : Array TypeId} {ty : TypeId} {args : List Value} {args' : Array Value} {v : Value} (r : RelH φ h w) (ra : VsRel φ args.toArray args')
    (e : eMaxAll (fun y x => decide (y > x)) args = some v) : Good P φ h w (Builtin.max_ ts ty args') v h :=
  good_fold (P := P) (f2 := Builtin.max2) (s := fun l => match l with | [] => stuck "max: at least one argument expected" | x :: rest => rest.foldlM Builtin.max2 x) (fun k x k2 y => by simp [Builtin.max2]) (fun _ _ => rfl) r ra e

theorem good_min {P : Program} {φ : Phi} {h : EH} {w : World} {ts : Array TypeId} {ty : TypeId} {args : List Value} {args' : Array Value} {v : Value} (r : RelH φ h w) (ra : VsRel φ args.toArray args')
    (e : eMaxAll (fun y x => decide (y < x)) args = some v) : Good P φ h w (Builtin.min_ ts ty args') v h :=
  good_fold (P := P) (f2 := Builtin.min2) (s := fun l => match l with | [] => stuck "min: at least one argument expected" | x :: rest => rest.foldlM Builtin.min2 x) (fun k x k2 y => by simp [Builtin.min2]) (fun _ _ => rfl) r ra e
end Go.E
namespace Go.E
open Go

def isIfaceD : TypeDesc → Bool
  | .interface _ => true
  | _ => false

def eMkIface (P : Program) (t : TypeId) (x : Value) : Option Value :=
  match P.underlying t with
  | some d => if isIfaceD d = true then none else some (.iface t x)
  | none => none

theorem good_mkIface {P : Program} {φ : Phi} {h : EH} {w : World} {t : TypeId} {x x' v : Value} (r : RelH φ h w) (rx : VRel φ x x') (e : eMkIface P t x = some v) : Good P φ h w (Instr.makeInterface t x') v h := by
  unfold eMkIface at e
  split at e
  · rename_i d hu
    simp only [Option.ite_none_left_eq_some, Option.some.injEq] at e
    obtain ⟨hd, rfl⟩ := e
    refine Good.same r (v' := .iface t x') ?_ (.iface rx)
    simp only [Instr.makeInterface, Sem.run_bind, run_underlying hu, Result.andThen_ok]
    cases d <;> first | rfl | (simp [isIfaceD] at hd)
  · simp at e

def eAssert (P : Program) (x : Value) (asserted : TypeId) (ok : Bool) : Option Value :=
  match P.underlying asserted, x with
  | some d, .iface t v => if isIfaceD d = false ∧ t = asserted ∧ ok = false then some v else none
  | _, _ => none

theorem good_assert {P : Program} {φ : Phi} {h : EH} {w : World} {xt t : TypeId} {x x' v : Value} {ok : Bool} (r : RelH φ h w) (rx : VRel φ x x') (e : eAssert P x t ok = some v) : Good P φ h w (Instr.typeAssert x' xt t ok) v h := by
  unfold eAssert at e
  split at e
  · rename_i d t2 u hu
    simp only [Option.ite_none_right_eq_some, Option.some.injEq] at e
    obtain ⟨⟨hd, rfl, rfl⟩, rfl⟩ := e
    obtain ⟨u', rfl, ru⟩ := rx.iface_inv
    refine Good.same r (v' := u') ?_ ru
    simp only [Instr.typeAssert, Sem.run_bind, run_underlying hu, Result.andThen_ok]
    cases d <;> first | (simp [isIfaceD] at hd; done) | simp
  · simp at e

def eNilCheck (x : Value) : Option Value :=
  match x with
  | .pointer (some a) => some (.pointer (some a))
  | .func (.func f) fs cs => some (.func (.func f) fs cs)
  | _ => none

def eMkFunc (fn : Fn) (first captured : Array Value) : Option Value :=
  match fn with
  | .func f => some (.func (.func f) first captured)
  | _ => none

theorem good_mkFunc {P : Program} {φ : Phi} {h : EH} {w : World} {fn : Fn} {a a' c c' : Array Value} {v : Value} (r : RelH φ h w) (ra : VsRel φ a a') (rc : VsRel φ c c') (e : eMkFunc fn a c = some v) :
    Good P φ h w (Instr.makeFunc fn a' c') v h := by
  unfold eMkFunc at e
  split at e
  · cases e
    exact Good.same r (v' := _) rfl (.func rfl ra.1 ra.2 rc.1 rc.2)
  · simp at e

def eCopy (P : Program) (t : TypeId) (dst src : Value) (h : EH) : Option (Value × EH) :=
  match P.underlying t, dst with
  | some (.slice el), .slice base n _ =>
    match szOf P el with
    | some s =>
      let k := Nat.min (lenV src) n
      match (if k = 0 then some [] else match src with
        | .slice (some ⟨b, off, none⟩) _ _ => rowOf h b off (k * s)
        | _ => none) with
      | some l =>
        if k = 0 then (match src with
          | .slice _ _ _ => some (.int .i64 0, h)
          | _ => none) else
        match base with
        | some ⟨b, off, none⟩ => (storeRow h b off l).map fun h' => (.int .i64 k, h')
        | _ => none
      | none => none
    | none => none
  | _, _ => none

theorem good_copy {P : Program} {φ : Phi} {h h' : EH} {w : World} {t xt ty : TypeId} {x x' y y' v : Value} (r : RelH φ h w) (rx : VRel φ x x') (ry : VRel φ y y') (e : eCopy P t x y h = some (v, h')) :
    Good P φ h w (Builtin.copy_ #[t, xt] ty #[x', y']) v h' := by
  have g0 : #[t, xt][0]? = some t := rfl
  have g2 : (#[x', y'] : Array Value)[0]? = some x' := rfl
  have g3 : (#[x', y'] : Array Value)[1]? = some y' := rfl
  unfold eCopy at e
  split at e
  · rename_i el base n c hu
    obtain ⟨base', c', rfl⟩ := rx.slice_len
    split at e
    · rename_i s hs
      by_cases hk : Nat.min (lenV y) n = 0
      · simp only [hk, if_true] at e
        split at e
        · rename_i b m c2
          obtain ⟨b', c2', rfl⟩ := ry.slice_len
          cases e
          refine Good.same r (v' := .int .i64 0) ?_ (.base rfl)
          simp only [Builtin.copy_, g0, g2, g3, Sem.run_bind, run_underlying hu, Result.andThen_ok, Builtin.lenOf, Sem.run_pure, run_szOf w hs]
          have hk : Nat.min m n = 0 := hk
          rw [hk]
          have hz : ∀ u : World, (Builtin.firstCells s 0 (.slice b' m c2')).run P u = .ok #[] u := by
            intro u
            cases b' with
            | none => rfl
            | some a => simp only [Builtin.firstCells, Nat.zero_mul]; rfl
          simp only [hz, Result.andThen_ok]
          cases base' with
          | none => rfl
          | some a => rfl
        · simp at e
      · simp only [if_neg hk] at e
        split at e
        · rename_i l hl
          split at hl
          · rename_i b off m c2
            split at e
            · rename_i b2 off2
              simp only [Option.map_eq_some_iff, Prod.mk.injEq] at e
              obtain ⟨h1, hst, rfl, rfl⟩ := e
              have hmin : Nat.min (lenV (.slice (some ⟨b, off, none⟩) m c2)) n = Nat.min m n := rfl
              rw [hmin] at hk hl ⊢
              have hm0 : m ≠ 0 := by intro h; subst h; simp [Nat.min_def] at hk
              have hn0 : n ≠ 0 := by intro h; subst h; simp [Nat.min_def] at hk
              obtain ⟨loc, off', c3, hb, hy, _, hor⟩ := ry.slice_inv
              subst hy
              obtain ⟨loc2, off2', c4, hb2, hx, _, hor2⟩ := rx.slice_inv
              simp only [Value.slice.injEq] at hx
              obtain ⟨rfl, _, rfl⟩ := hx
              rcases hor with ⟨rfl, _⟩ | ⟨h0, _⟩
              · rcases hor2 with ⟨rfl, _⟩ | ⟨h0, _⟩
                · obtain ⟨vs', e1, e2⟩ := r.load (P := P) hb hl
                  obtain ⟨w', f1, f2, f3⟩ := r.store (P := P) hb2 (l := l) (l' := vs') e2 hst
                  refine ⟨φ, .int .i64 (Nat.min m n), w', ?_, .base rfl, f2, f3⟩
                  simp only [Builtin.copy_, g0, g2, g3, Sem.run_bind, run_underlying hu, Result.andThen_ok, Builtin.lenOf, Sem.run_pure, run_szOf w hs, Builtin.firstCells, e1, f1, goInt]
                · exact absurd h0 hn0
              · exact absurd h0 hm0
            · simp at e
          · simp at hl
        · simp at e
    · simp at e
  · simp at e

def eKeyFields (P : Program) (ok : TypeId → Value → Bool) (cs : Array Value) : List Field → Bool
  | [] => true
  | f :: fs => (if f.name ≠ "_" then match ePart P f.type cs f.offset with | some v => ok f.type v | none => false else true) && eKeyFields P ok cs fs

def eKeyItems (P : Program) (ok : TypeId → Value → Bool) (e : TypeId) (c : Nat) (cs : Array Value) : List Nat → Bool
  | [] => true
  | i :: is => (match ePart P e cs (i * c) with | some v => ok e v | none => false) && eKeyItems P ok e c cs is

def eKeyOk (P : Program) : Nat → TypeId → Value → Bool
  | 0, _, _ => false
  | d + 1, t, v =>
    match P.underlying t, v with
    | some .bool, _ | some (.int _), _ | some .string, _ => true
    | some (.struct fs), .agg cs => eKeyFields P (eKeyOk P d) cs fs.toList
    | some (.array n e), .agg cs => match szOf P e with | some c => eKeyItems P (eKeyOk P d) e c cs (List.range n) | none => false
    | _, _ => false

theorem run_keyFields {P : Program} {φ : Phi} {w : World} {em : Bool} {d : Nat} {ok : TypeId → Value → Bool} (IH : ∀ t x x', VRel φ x x' → ok t x = true → (Instr.checkKey em d t x').run P w = .ok () w)
    {cs cs' : Array Value} (rc : VsRel φ cs cs') : ∀ fs : List Field, eKeyFields P ok cs fs = true →
      (forIn fs PUnit.unit (fun f _ => if f.name ≠ "_" then do Instr.checkKey em d f.type (← part f.type cs' f.offset); pure (ForInStep.yield PUnit.unit) else pure (ForInStep.yield PUnit.unit) : Field → PUnit → Sem (ForInStep PUnit))).run P w = .ok PUnit.unit w := by
  intro fs
  induction fs with
  | nil => intro _; rfl
  | cons f fs ih =>
    intro h
    simp only [eKeyFields, Bool.and_eq_true] at h
    obtain ⟨h1, h2⟩ := h
    have := ih h2
    simp only [List.forIn_cons, Sem.run_bind]
    by_cases hn : f.name ≠ "_"
    · rw [if_pos hn] at h1 ⊢
      split at h1
      · rename_i v hv
        obtain ⟨v', e1, e2⟩ := good_part (P := P) (w := w) rc hv
        simp only [Sem.run_bind, e1, Result.andThen_ok, IH _ _ _ e2 h1, Sem.run_pure]
        exact this
      · simp at h1
    · rw [if_neg hn]
      simp only [Sem.run_pure, Result.andThen_ok]
      exact this

theorem run_keyItems {P : Program} {φ : Phi} {w : World} {em : Bool} {d e c : Nat} {ok : TypeId → Value → Bool} (IH : ∀ t x x', VRel φ x x' → ok t x = true → (Instr.checkKey em d t x').run P w = .ok () w) (hs : szOf P e = some c)
    {cs cs' : Array Value} (rc : VsRel φ cs cs') : ∀ is : List Nat, eKeyItems P ok e c cs is = true →
      (forIn is PUnit.unit (fun i _ => do Instr.checkKey em d e (← part e cs' (i * (← sizeOf e))); pure (ForInStep.yield PUnit.unit) : Nat → PUnit → Sem (ForInStep PUnit))).run P w = .ok PUnit.unit w := by
  intro is
  induction is with
  | nil => intro _; rfl
  | cons i is ih =>
    intro h
    simp only [eKeyItems, Bool.and_eq_true] at h
    obtain ⟨h1, h2⟩ := h
    have := ih h2
    simp only [List.forIn_cons, Sem.run_bind, run_szOf w hs, Result.andThen_ok]
    split at h1
    · rename_i v hv
      obtain ⟨v', e1, e2⟩ := good_part (P := P) (w := w) rc hv
      simp only [e1, Result.andThen_ok, IH _ _ _ e2 h1, Sem.run_pure]
      exact this
    · simp at h1

theorem run_checkKey_E {P : Program} {φ : Phi} (w : World) (em : Bool) (n₀ : Nat) : ∀ (d : Nat) (t : TypeId) (x x' : Value), VRel φ x x' → eKeyOk P d t x = true → (Instr.checkKey em (d + n₀) t x').run P w = .ok () w := by
  intro d
  induction d with
  | zero => intro t x x' _ e; simp [eKeyOk] at e
  | succ d ih =>
    intro t x x' rx e
    rw [show d + 1 + n₀ = (d + n₀) + 1 from by omega]
    simp only [eKeyOk] at e
    split at e
    · rename_i hu; simp only [Instr.checkKey, Sem.run_bind, run_underlying hu, Result.andThen_ok]; cases x' <;> rfl
    · rename_i hu; simp only [Instr.checkKey, Sem.run_bind, run_underlying hu, Result.andThen_ok]; cases x' <;> rfl
    · rename_i hu; simp only [Instr.checkKey, Sem.run_bind, run_underlying hu, Result.andThen_ok]; cases x' <;> rfl
    · rename_i fs cs hu
      obtain ⟨cs', rfl, rc⟩ := rx.agg_inv
      have := run_keyFields (P := P) (w := w) (em := em) (d := d + n₀) (fun t x x' h1 h2 => ih t x x' h1 h2) rc fs.toList e
      simp only [Instr.checkKey, Sem.run_bind, run_underlying hu, Result.andThen_ok]
      rw [← Array.forIn_toList]
      simp only [this, Result.andThen_ok, Sem.run_pure]
    · rename_i n el cs hu
      obtain ⟨cs', rfl, rc⟩ := rx.agg_inv
      split at e
      · rename_i c hs
        have := run_keyItems (P := P) (w := w) (em := em) (d := d + n₀) (fun t x x' h1 h2 => ih t x x' h1 h2) hs rc (List.range n) e
        simp only [Instr.checkKey, Sem.run_bind, run_underlying hu, Result.andThen_ok]
        simp only [Std.Legacy.Range.forIn_eq_forIn_range', Std.Legacy.Range.size, Nat.sub_zero, Nat.add_one_sub_one, Nat.div_one]
        rw [← List.range_eq_range']
        simp only [this, Result.andThen_ok, Sem.run_pure]
      · simp at e
    · simp at e

theorem sameNow_run {P : Program} (w : World) {kt : TypeId} {d : TypeDesc} (hu : P.underlying kt = some d) {a b : Value} {r : Bool} (h : Instr.sameNow d a b = some r) : (Op.equalIn 10000 kt a b).run P w = .ok r w := by
  unfold Instr.sameNow at h
  split at h
  · rename_i q k a k2 b
    simp only [Option.ite_none_right_eq_some, Option.some.injEq] at h
    obtain ⟨rfl, rfl⟩ := h
    exact run_equalIn_int w 9999 kt k q a b hu
  · rename_i a b
    simp only [Option.some.injEq] at h
    subst h
    rw [beq_toListBytes]
    exact run_equalIn_string w 9999 kt a b hu
  · simp only [Option.some.injEq] at h
    subst h
    exact run_equalIn_bool w 9999 kt _ _ hu
  · simp at h

def eFind (P : Program) (kt : TypeId) (k : Value) : List MapEntry → Nat → Option (Option (Nat × MapEntry))
  | [], _ => some none
  | e :: es, i =>
    match eEqIn P 50 kt k e.key with
    | some true => some (some (i, e))
    | some false => eFind P kt k es (i + 1)
    | none => none

theorem run_find {P : Program} {φ : Phi} (w : World) {kt : TypeId} {k k' : Value} (rk : VRel φ k k') {d : TypeDesc} (hu : P.underlying kt = some d) :
    ∀ (es es' : List MapEntry) (i : Nat) (r : Option (Nat × MapEntry)), es.length = es'.length → (∀ (j : Nat) (e e' : MapEntry), es[j]? = some e → es'[j]? = some e' → ERel φ e e') → eFind P kt k es i = some r →
      (match Instr.findNow d k' es' i with | some r => pure r | none => Instr.findAsking kt k' es' i : Sem (Option (Nat × Value))).run P w =
        .ok (match r with | none => none | some (j, e) => (es'[j - i]?).map fun e' => (j, e'.val)) w ∧
      (∀ j e, r = some (j, e) → i ≤ j ∧ es[j - i]? = some e) := by
  have ask : ∀ (es es' : List MapEntry) (i : Nat) (r : Option (Nat × MapEntry)), es.length = es'.length → (∀ (j : Nat) (e e' : MapEntry), es[j]? = some e → es'[j]? = some e' → ERel φ e e') → eFind P kt k es i = some r →
      (Instr.findAsking kt k' es' i).run P w = .ok (match r with | none => none | some (j, e) => (es'[j - i]?).map fun e' => (j, e'.val)) w ∧ (∀ j e, r = some (j, e) → i ≤ j ∧ es[j - i]? = some e) := by
    intro es
    induction es with
    | nil =>
      intro es' i r hl _ e
      cases es' with
      | nil => simp only [eFind, Option.some.injEq] at e; subst e; exact ⟨rfl, fun j e h => by cases h⟩
      | cons a l => simp at hl
    | cons x es ih =>
      intro es' i r hl hr e
      cases es' with
      | nil => simp at hl
      | cons x' es' =>
        have rx := hr 0 x x' rfl rfl
        simp only [eFind] at e
        split at e
        · rename_i hq
          simp only [Option.some.injEq] at e; subst e
          have := run_equalIn_E w 10000 kt k x.key k' x'.key true rk rx.1 (eEqIn_le (by omega) hq)
          refine ⟨?_, fun j e h => by cases h; simp⟩
          simp only [Instr.findAsking, Sem.run_bind, Op.equal, Op.maxDepth, this, Result.andThen_ok]
          simp
        · rename_i hq
          have := run_equalIn_E w 10000 kt k x.key k' x'.key false rk rx.1 (eEqIn_le (by omega) hq)
          obtain ⟨h1, h2⟩ := ih es' (i + 1) r (by simpa using hl) (fun j e e' a b => hr (j + 1) e e' (by simpa using a) (by simpa using b)) e
          refine ⟨?_, ?_⟩
          · simp only [Instr.findAsking, Sem.run_bind, Op.equal, Op.maxDepth, this, Result.andThen_ok, Bool.false_eq_true, if_false, h1]
            cases r with
            | none => rfl
            | some p =>
              obtain ⟨j, ee⟩ := p
              have := (h2 j ee rfl).1
              simp only
              rw [show j - i = (j - (i + 1)) + 1 from by omega]
              simp
          · intro j ee hj
            obtain ⟨a, b⟩ := h2 j ee hj
            refine ⟨by omega, ?_⟩
            rw [show j - i = (j - (i + 1)) + 1 from by omega]
            simpa using b
        · simp at e
  have agree : ∀ (es es' : List MapEntry) (i : Nat) (r : Option (Nat × MapEntry)) (q : Option (Nat × Value)), es.length = es'.length → (∀ (j : Nat) (e e' : MapEntry), es[j]? = some e → es'[j]? = some e' → ERel φ e e') → eFind P kt k es i = some r →
      Instr.findNow d k' es' i = some q → (Instr.findAsking kt k' es' i).run P w = .ok q w := by
    intro es
    induction es with
    | nil =>
      intro es' i r q hl _ e hq
      cases es' with
      | nil => simp only [Instr.findNow, Option.some.injEq] at hq; subst hq; rfl
      | cons a l => simp at hl
    | cons x es ih =>
      intro es' i r q hl hr e hq
      cases es' with
      | nil => simp at hl
      | cons x' es' =>
        have rx := hr 0 x x' rfl rfl
        have same : ∀ b, Instr.sameNow d k' x'.key = some b → (Op.equal kt k' x'.key).run P w = .ok b w := fun b hb => sameNow_run w hu hb
        simp only [Instr.findNow] at hq
        split at hq
        · rename_i hs
          simp only [Option.some.injEq] at hq; subst hq
          simp only [Instr.findAsking, Sem.run_bind, same _ hs, Result.andThen_ok, if_true, Sem.run_pure]
        · rename_i hs
          simp only [Instr.findAsking, Sem.run_bind, same _ hs, Result.andThen_ok, Bool.false_eq_true, if_false]
          simp only [eFind] at e
          split at e
          · rename_i hq2
            have h1 := run_equalIn_E w 10000 kt k x.key k' x'.key true rk rx.1 (eEqIn_le (by omega) hq2)
            have h2 := sameNow_run (P := P) w hu hs
            rw [h1] at h2
            cases h2
          · exact ih es' (i + 1) r q (by simpa using hl) (fun j e e' a b => hr (j + 1) e e' (by simpa using a) (by simpa using b)) e hq
          · simp at e
        · simp at hq
  intro es es' i r hl hr e
  obtain ⟨a1, a2⟩ := ask es es' i r hl hr e
  refine ⟨?_, a2⟩
  split
  · rename_i q hq
    have := agree es es' i r q hl hr e hq
    rw [a1] at this
    simp only [Sem.run_pure]
    rw [this]
  · exact a1
end Go.E
namespace Go.E
open Go

def flatCell : Value → Bool
  | .bool _ | .int _ _ | .string _ => true
  | _ => false

def flatKey : Value → Bool
  | .agg cs => cs.all flatCell
  | v => flatCell v

theorem VRel.flatCell {φ : Phi} {v v' : Value} (r : VRel φ v v') (h : flatCell v = true) : v' = v := by
  cases r <;> first | rfl | (simp [E.flatCell] at h)

theorem VRel.flat {φ : Phi} {v v' : Value} (r : VRel φ v v') (h : flatKey v = true) : v' = v := by
  cases r with
  | agg hs hr =>
    rename_i a a'
    simp only [flatKey, Array.all_eq_true] at h
    have : a' = a := by
      refine Array.ext hs.symm fun i h1 h2 => ?_
      exact (hr i h2 h1).flatCell (h i h2)
    rw [this]
  | _ => first | rfl | (simp [flatKey, E.flatCell] at h)

def cellEq : Value → Value → Bool
  | .bool a, .bool b => a == b
  | .int j a, .int k b => j == k && a == b
  | .string a, .string b => a.toList == b.toList
  | _, _ => false

def keyEq : Value → Value → Bool
  | .agg a, .agg b => a.size == b.size && (a.toList.zip b.toList).all fun x => cellEq x.1 x.2
  | a, b => cellEq a b

theorem toList_inj {a b : ByteArray} (h : a.toList = b.toList) : a = b := by
  rw [ByteArray.toList_eq, ByteArray.toList_eq] at h
  exact ByteArray.ext (Array.toList_inj.1 h)

theorem cellEq_spec {a b : Value} (h : cellEq a b = true) : a = b ∧ flatCell a = true := by
  unfold cellEq at h
  split at h
  · simp at h; exact ⟨by rw [h], rfl⟩
  · simp at h; exact ⟨by rw [h.1, h.2], rfl⟩
  · simp at h; exact ⟨by rw [toList_inj h], rfl⟩
  · simp at h

theorem zip_all : ∀ {l m : List Value}, l.length = m.length → (l.zip m).all (fun x => cellEq x.1 x.2) = true → l = m ∧ l.all flatCell = true := by
  intro l
  induction l with
  | nil => intro m h _; cases m <;> simp at h; exact ⟨rfl, rfl⟩
  | cons x l ih =>
    intro m h e
    cases m with
    | nil => simp at h
    | cons y m =>
      simp only [List.zip_cons_cons, List.all_cons, Bool.and_eq_true] at e
      obtain ⟨rfl, h2⟩ := cellEq_spec e.1
      obtain ⟨rfl, h4⟩ := ih (by simpa using h) e.2
      exact ⟨rfl, by simp [h2]; simpa using h4⟩

theorem keyEq_spec {a b : Value} (h : keyEq a b = true) : a = b ∧ flatKey a = true := by
  unfold keyEq at h
  split at h
  · rename_i x y
    simp only [Bool.and_eq_true, beq_iff_eq] at h
    obtain ⟨h1, h2⟩ := zip_all (by simpa using h.1) h.2
    have : x = y := by rw [← Array.toArray_toList (xs := x), h1, Array.toArray_toList]
    exact ⟨by rw [this], by simpa [flatKey] using h2⟩
  · obtain ⟨rfl, h2⟩ := cellEq_spec h
    refine ⟨rfl, ?_⟩
    cases a <;> first | exact h2 | (simp [E.flatCell] at h2)

theorem sameBits_flat {v : Value} (h : flatKey v = true) : Instr.sameBits 10000 v v = true := by
  have cell : ∀ (n : Nat) (u : Value), flatCell u = true → Instr.sameBits n u u = true := by
    intro n u hu
    cases u <;> first | (simp [E.flatCell] at hu; done) | (cases n <;> simp [Instr.sameBits]; done) | (cases n <;> (simp only [Instr.sameBits]; rw [beq_toListBytes]; simp))
  cases v with
  | agg cs =>
    simp only [flatKey, Array.all_eq_true_iff_forall_mem] at h
    show (cs.size == cs.size && (cs.toList.zip cs.toList).all fun x => Instr.sameBits 9999 x.1 x.2) = true
    simp only [beq_self_eq_true, Bool.true_and, List.all_eq_true]
    intro x hx
    have hz : ∀ (l : List Value) (x : Value × Value), x ∈ l.zip l → x.1 = x.2 ∧ x.1 ∈ l := by
      intro l
      induction l with
      | nil => intro x hx; simp at hx
      | cons a l ih =>
        intro x hx
        simp only [List.zip_cons_cons, List.mem_cons] at hx
        rcases hx with rfl | hx
        · exact ⟨rfl, List.mem_cons_self ..⟩
        · obtain ⟨a1, a2⟩ := ih x hx; exact ⟨a1, List.mem_cons_of_mem _ a2⟩
    obtain ⟨h1, h2⟩ := hz _ _ hx
    rw [← h1]
    exact cell _ _ (h _ (by simpa using h2))
  | _ => exact cell _ _ h

def eMapOf (h : EH) (m : Value) : Option (List MapEntry) :=
  match m with
  | .map none => some []
  | .map (some b) => match h[b]? with
    | some (.map es _) => some es
    | _ => none
  | _ => none

def eLookup (P : Program) (t : TypeId) (m k : Value) (ok : Bool) (h : EH) : Option Value :=
  match P.underlying t, eMapOf h m with
  | some (.map kt el), some es =>
    if eKeyOk P 50 kt k = true then
      match eFind P kt k es 0, zeroOf P el with
      | some r, some (z, _) =>
        let v := match r with | some (_, e) => e.val | none => z
        some (if ok then .tuple #[v, .bool r.isSome] else v)
      | _, _ => none
    else none
  | _, _ => none

theorem underlying_of_keyOk {P : Program} {t : TypeId} {v : Value} {d : Nat} (h : eKeyOk P (d + 1) t v = true) : ∃ k, P.underlying t = some k := by
  simp only [eKeyOk] at h
  cases hu : P.underlying t with
  | none => rw [hu] at h; simp at h
  | some k => exact ⟨k, rfl⟩

theorem run_findKey {P : Program} {φ : Phi} (w : World) {kt : TypeId} {k k' : Value} (rk : VRel φ k k') {d : TypeDesc} (hu : P.underlying kt = some d) {es : List MapEntry} {es' : Array MapEntry} {r : Option (Nat × MapEntry)}
    (hl : es.length = es'.size) (hr : ∀ (j : Nat) (e e' : MapEntry), es[j]? = some e → es'[j]? = some e' → ERel φ e e') (e : eFind P kt k es 0 = some r) :
    (Instr.findKey kt k' es'.toList).run P w = .ok (match r with | none => none | some (j, _) => (es'[j]?).map fun e' => (j, e'.val)) w ∧ (∀ j e, r = some (j, e) → es[j]? = some e) := by
  obtain ⟨a, b⟩ := run_find (P := P) w rk hu es es'.toList 0 r (by simpa using hl) (fun j e e' h1 h2 => hr j e e' h1 (by simpa using h2)) e
  refine ⟨?_, fun j e h => by have := (b j e h).2; simpa using this⟩
  simp only [Instr.findKey, Sem.run_bind, run_underlying hu, Result.andThen_ok]
  have key : ∀ q : Sem (Option (Nat × Value)), (match Instr.findNow d k' es'.toList 0 with | some r => pure r | none => q : Sem (Option (Nat × Value))) = (match Instr.findNow d k' es'.toList 0 with | some r => pure r | none => q) := fun _ => rfl
  cases hf : Instr.findNow d k' es'.toList 0 with
  | none =>
    rw [hf] at a
    simp only at a ⊢
    rw [a]
    cases r with
    | none => rfl
    | some p => simp
  | some q =>
    rw [hf] at a
    simp only at a ⊢
    rw [a]
    cases r with
    | none => rfl
    | some p => simp

theorem RelH.mapOf {φ : Phi} {h : EH} {w : World} (r : RelH φ h w) {m m' : Value} {es : List MapEntry} (rm : VRel φ m m') (hes : eMapOf h m = some es) :
    ∃ es' : Array MapEntry, ((m' = .map none ∧ es' = #[]) ∨ (∃ b' clk, m' = .map (some b') ∧ w.heap[b']? = some (.map es' clk))) ∧ es.length = es'.size ∧
      ∀ (j : Nat) (e e' : MapEntry), es[j]? = some e → es'[j]? = some e' → ERel φ e e' := by
  unfold eMapOf at hes
  split at hes
  · cases rm.nilMap_inv
    cases hes
    exact ⟨#[], .inl ⟨rfl, rfl⟩, rfl, fun j e e' h => by simp at h⟩
  · rename_i b
    obtain ⟨loc, hb, rfl⟩ := rm.map_inv
    obtain ⟨o, ho, _, hob⟩ := r.obj b loc hb
    rw [ho] at hes
    cases o with
    | map es2 clock =>
      cases hes
      obtain ⟨_, es', hw, hsz, hr⟩ := hob
      exact ⟨es', .inr ⟨_, _, rfl, hw⟩, hsz, hr⟩
    | _ => simp at hes
  · simp at hes

theorem good_lookup {P : Program} {φ : Phi} {h : EH} {w : World} {t : TypeId} {m m' k k' v : Value} {ok : Bool} (r : RelH φ h w) (rm : VRel φ m m') (rk : VRel φ k k') (e : eLookup P t m k ok h = some v) :
    Good P φ h w (Instr.lookup t m' k' ok) v h := by
  unfold eLookup at e
  split at e
  · rename_i kt el es hu hes
    simp only [Option.ite_none_right_eq_some] at e
    obtain ⟨hk, e⟩ := e
    obtain ⟨kd, hkd⟩ := underlying_of_keyOk hk
    split at e
    · rename_i res z n hf hz
      simp only [Option.some.injEq] at e
      have hck : ∀ em, (Instr.checkKey em 10000 kt k').run P w = .ok () w := fun em => run_checkKey_E w em 9950 50 kt k k' rk hk
      obtain ⟨es', h1, h2, h3⟩ := r.mapOf rm hes
      obtain ⟨f1, f2⟩ := run_findKey (P := P) w rk hkd h2 h3 hf
      have fin : ∀ (u u' : Value) (b : Bool), VRel φ u u' → VRel φ (if ok then .tuple #[u, .bool b] else u) (if ok then .tuple #[u', .bool b] else u') := by
        intro u u' b hu
        cases ok
        · exact hu
        · have : VsRel φ #[u, .bool b] #[u', .bool b] := (VsRel.one hu).append (VsRel.one (.base rfl))
          exact .tuple this.1 this.2
      cases res with
      | none =>
        subst e
        refine Good.same r (v' := if ok then .tuple #[z, .bool false] else z) ?_ (fin _ _ _ (VRel.zero hz))
        rcases h1 with ⟨rfl, rfl⟩ | ⟨b', clk, rfl, hw⟩
        · simp only [Instr.lookup, Sem.run_bind, run_underlying hu, Result.andThen_ok, Sem.run_pure, hck, f1, run_zeroOf w hz]
        · have hg : (getObj b').run P w = .ok (.map es' clk) w := by simp [getObj, Sem.run, hw]
          simp only [Instr.lookup, Sem.run_bind, run_underlying hu, Result.andThen_ok, Sem.run_pure, hg, hck, f1, run_zeroOf w hz]
      | some p =>
        obtain ⟨j, e0⟩ := p
        subst e
        have hj := f2 j e0 rfl
        have hlt : j < es.length := (List.getElem?_eq_some_iff.1 hj).1
        have hj' : es'[j]? = some es'[j] := Array.getElem?_eq_getElem (by omega)
        refine Good.same r (v' := if ok then .tuple #[es'[j].val, .bool true] else es'[j].val) ?_ (fin _ _ _ (h3 j _ _ hj hj').2.1)
        rcases h1 with ⟨rfl, rfl⟩ | ⟨b', clk, rfl, hw⟩
        · simp at hj'
        · have hg : (getObj b').run P w = .ok (.map es' clk) w := by simp [getObj, Sem.run, hw]
          simp only [Instr.lookup, Sem.run_bind, run_underlying hu, Result.andThen_ok, Sem.run_pure, hg, hck, f1, hj', Option.map_some]
    · simp at e
  · simp at e
def eMapUpdate (P : Program) (t : TypeId) (m k x : Value) (h : EH) : Option EH :=
  match P.underlying t, m with
  | some (.map kt _), .map (some b) =>
    match h[b]? with
    | some (.map es clock) =>
      if eKeyOk P 50 kt k = true ∧ flatKey k = true then
        match eFind P kt k es 0 with
        | some (some (i, e)) => if keyEq e.key k = true then some (h.set b (.map (es.set i { e with val := x }) clock)) else none
        | some none => some (h.set b (.map (es ++ [{ key := k, val := x, born := clock }]) (clock + 1)))
        | none => none
      else none
    | _ => none
  | _, _ => none

theorem good_mapUpdate {P : Program} {φ : Phi} {h h' : EH} {w : World} {t : TypeId} {m m' k k' x x' : Value} (r : RelH φ h w) (rm : VRel φ m m') (rk : VRel φ k k') (rx : VRel φ x x') (e : eMapUpdate P t m k x h = some h') :
    ∃ w', (Instr.mapUpdate t m' k' x').run P w = .ok () w' ∧ RelH φ h' w' ∧ Tr φ h w φ h' w' := by
  unfold eMapUpdate at e
  split at e
  · rename_i kt el b hu
    obtain ⟨loc, hb, rfl⟩ := rm.map_inv
    obtain ⟨o, ho, hlt, hob⟩ := r.obj b loc hb
    rw [ho] at e
    cases o with
    | map es clock =>
      obtain ⟨hδ, es', hw, hsz, hr⟩ := hob
      simp only [Option.ite_none_right_eq_some] at e
      obtain ⟨⟨hk, hfl⟩, e⟩ := e
      cases rk.flat hfl
      obtain ⟨kd, hkd⟩ := underlying_of_keyOk hk
      have hck : (Instr.checkKey false 10000 kt k).run P w = .ok () w := run_checkKey_E w false 9950 50 kt k k rk hk
      have hg : (getObj loc.blk).run P w = .ok (.map es' clock) w := by simp [getObj, Sem.run, hw]
      have hset : ∀ o2 : Obj, (setObj loc.blk o2).run P w = .ok () { w with heap := w.heap.setIfInBounds loc.blk o2 } := fun o2 => by simp [setObj, Sem.run, hw]
      have turn : ∀ (es2 : List MapEntry) (es2' : Array MapEntry) (c2 : Nat), es2.length = es2'.size → (∀ (j : Nat) (e e' : MapEntry), es2[j]? = some e → es2'[j]? = some e' → ERel φ e e') →
          RelH φ (h.set b (.map es2 c2)) { w with heap := w.heap.setIfInBounds loc.blk (.map es2' c2) } ∧ Tr φ h w φ (h.set b (.map es2 c2)) { w with heap := w.heap.setIfInBounds loc.blk (.map es2' c2) } :=
        fun es2 es2' c2 h1 h2 => r.turn hb ho rfl rfl rfl rfl (by simp) (fun q hq => by simp [Array.getElem?_setIfInBounds_ne (Ne.symm hq)]) ⟨hδ, es2', by simp [hlt], h1, h2⟩
      split at e
      · rename_i i en hf
        simp only [Option.ite_none_right_eq_some, Option.some.injEq] at e
        obtain ⟨hq, rfl⟩ := e
        obtain ⟨hke, hfe⟩ := keyEq_spec hq
        obtain ⟨f1, f2⟩ := run_findKey (P := P) w rk hkd hsz hr hf
        have hj := f2 i en rfl
        have hilt : i < es.length := (List.getElem?_eq_some_iff.1 hj).1
        have hj' : es'[i]? = some es'[i] := Array.getElem?_eq_getElem (by omega)
        have hre := hr i _ _ hj hj'
        have hk1 : es'[i].key = k := by rw [hre.1.flat hfe, hke]
        obtain ⟨a1, a2⟩ := turn (es.set i { en with val := x }) (es'.modify i fun e => { e with key := k, val := x' }) clock (by simp [hsz]) (by
          intro j e0 e0' h1 h2
          rw [Array.getElem?_modify] at h2
          by_cases hji : i = j
          · subst hji
            rw [List.getElem?_set_self hilt] at h1
            cases h1
            rw [if_pos rfl, hj'] at h2
            cases h2
            exact ⟨by show VRel φ en.key k; rw [hke]; exact VRel.mono (.refl φ) rk, rx, hre.2.2⟩
          · rw [List.getElem?_set_ne hji] at h1
            rw [if_neg hji] at h2
            exact hr j _ _ h1 h2)
        refine ⟨_, ?_, a1, a2⟩
        have hkts : (Instr.keyThatStays k k).run P w = .ok k w := by simp [Instr.keyThatStays, sameBits_flat hfl]
        simp only [Instr.mapUpdate, Sem.run_bind, run_underlying hu, Result.andThen_ok, hg, hck, f1, hj', Option.map_some, Option.getD_some, hk1, hkts, hset]
      · rename_i hf
        simp only [Option.some.injEq] at e
        subst e
        obtain ⟨f1, f2⟩ := run_findKey (P := P) w rk hkd hsz hr hf
        obtain ⟨a1, a2⟩ := turn (es ++ [{ key := k, val := x, born := clock }]) (es'.push { key := k, val := x', born := clock }) (clock + 1) (by simp [hsz]) (by
          intro j e0 e0' h1 h2
          by_cases hj : j < es.length
          · rw [List.getElem?_append_left hj] at h1
            rw [Array.getElem?_push, if_neg (by omega)] at h2
            exact hr j _ _ h1 h2
          · rw [List.getElem?_append_right (by omega)] at h1
            have hj0 : j - es.length = 0 := by
              have := (List.getElem?_eq_some_iff.1 h1).1
              simp at this; omega
            rw [hj0] at h1
            cases h1
            rw [Array.getElem?_push, if_pos (by omega)] at h2
            cases h2
            exact ⟨rk, rx, rfl⟩)
        refine ⟨_, ?_, a1, a2⟩
        simp only [Instr.mapUpdate, Sem.run_bind, run_underlying hu, Result.andThen_ok, hg, hck, f1, hset]
      · simp at e
    | _ => simp at e
  · simp at e

def eMapEntry (P : Program) (t : TypeId) (m k : Value) (h : EH) : Option (Value × EH) :=
  match P.underlying t, m with
  | some (.map kt el), .map (some b) =>
    match h[b]? with
    | some (.map es clock) =>
      if eKeyOk P 50 kt k = true ∧ flatKey k = true then
        match eFind P kt k es 0 with
        | some (some (i, e)) => if keyEq e.key k = true then some (.tuple #[e.val, .int .i64 e.born], h.set b (.map (es.set i e) clock)) else none
        | some none => (zeroOf P el).map fun z => (.tuple #[z.1, .int .i64 clock], h.set b (.map (es ++ [{ key := k, val := z.1, born := clock }]) (clock + 1)))
        | none => none
      else none
    | _ => none
  | _, _ => none

theorem good_mapEntry {P : Program} {φ : Phi} {h h' : EH} {w : World} {t : TypeId} {m m' k k' v : Value} (r : RelH φ h w) (rm : VRel φ m m') (rk : VRel φ k k') (e : eMapEntry P t m k h = some (v, h')) :
    Good P φ h w (Instr.mapEntry t m' k') v h' := by
  unfold eMapEntry at e
  split at e
  · rename_i kt el b hu
    obtain ⟨loc, hb, rfl⟩ := rm.map_inv
    obtain ⟨o, ho, hlt, hob⟩ := r.obj b loc hb
    rw [ho] at e
    cases o with
    | map es clock =>
      obtain ⟨hδ, es', hw, hsz, hr⟩ := hob
      simp only [Option.ite_none_right_eq_some] at e
      obtain ⟨⟨hk, hfl⟩, e⟩ := e
      cases rk.flat hfl
      obtain ⟨kd, hkd⟩ := underlying_of_keyOk hk
      have hck : (Instr.checkKey false 10000 kt k).run P w = .ok () w := run_checkKey_E w false 9950 50 kt k k rk hk
      have hg : (getObj loc.blk).run P w = .ok (.map es' clock) w := by simp [getObj, Sem.run, hw]
      have hset : ∀ o2 : Obj, (setObj loc.blk o2).run P w = .ok () { w with heap := w.heap.setIfInBounds loc.blk o2 } := fun o2 => by simp [setObj, Sem.run, hw]
      have turn : ∀ (es2 : List MapEntry) (es2' : Array MapEntry) (c2 : Nat), es2.length = es2'.size → (∀ (j : Nat) (e e' : MapEntry), es2[j]? = some e → es2'[j]? = some e' → ERel φ e e') →
          RelH φ (h.set b (.map es2 c2)) { w with heap := w.heap.setIfInBounds loc.blk (.map es2' c2) } ∧ Tr φ h w φ (h.set b (.map es2 c2)) { w with heap := w.heap.setIfInBounds loc.blk (.map es2' c2) } :=
        fun es2 es2' c2 h1 h2 => r.turn hb ho rfl rfl rfl rfl (by simp) (fun q hq => by simp [Array.getElem?_setIfInBounds_ne (Ne.symm hq)]) ⟨hδ, es2', by simp [hlt], h1, h2⟩
      have pair : ∀ {a a' b : Value}, VRel φ a a' → isBase b = true → VRel φ (.tuple #[a, b]) (.tuple #[a', b]) := fun ha hb => by
        have := (VsRel.one ha).append (VsRel.one (.base hb))
        exact .tuple this.1 this.2
      split at e
      · rename_i i en hf
        simp only [Option.ite_none_right_eq_some, Option.some.injEq, Prod.mk.injEq] at e
        obtain ⟨hq, rfl, rfl⟩ := e
        obtain ⟨hke, hfe⟩ := keyEq_spec hq
        obtain ⟨f1, f2⟩ := run_findKey (P := P) w rk hkd hsz hr hf
        have hj := f2 i en rfl
        have hilt : i < es.length := (List.getElem?_eq_some_iff.1 hj).1
        have hj' : es'[i]? = some es'[i] := Array.getElem?_eq_getElem (by omega)
        have hre := hr i _ _ hj hj'
        have hk1 : es'[i].key = k := by rw [hre.1.flat hfe, hke]
        obtain ⟨a1, a2⟩ := turn (es.set i en) (es'.modify i fun e => { e with key := k }) clock (by simp [hsz]) (by
          intro j e0 e0' h1 h2
          rw [Array.getElem?_modify] at h2
          by_cases hji : i = j
          · subst hji
            rw [List.getElem?_set_self hilt] at h1
            cases h1
            rw [if_pos rfl, hj'] at h2
            cases h2
            exact ⟨by show VRel φ en.key k; rw [hke]; exact VRel.mono (.refl φ) rk, hre.2.1, hre.2.2⟩
          · rw [List.getElem?_set_ne hji] at h1
            rw [if_neg hji] at h2
            exact hr j _ _ h1 h2)
        refine ⟨φ, .tuple #[es'[i].val, .int .i64 es'[i].born], _, ?_, ?_, a1, a2⟩
        · have hkts : (Instr.keyThatStays k k).run P w = .ok k w := by simp [Instr.keyThatStays, sameBits_flat hfl]
          simp only [Instr.mapEntry, Sem.run_bind, run_underlying hu, Result.andThen_ok, hg, hck, f1, hj', Option.map_some, Option.getD_some, hk1, hkts, hset, Sem.run_pure, goInt]
        · rw [hre.2.2]; exact pair hre.2.1 rfl
      · rename_i hf
        simp only [Option.map_eq_some_iff, Prod.mk.injEq, Prod.exists] at e
        obtain ⟨z, n, hz, rfl, rfl⟩ := e
        obtain ⟨f1, f2⟩ := run_findKey (P := P) w rk hkd hsz hr hf
        obtain ⟨a1, a2⟩ := turn (es ++ [{ key := k, val := z, born := clock }]) (es'.push { key := k, val := z, born := clock }) (clock + 1) (by simp [hsz]) (by
          intro j e0 e0' h1 h2
          by_cases hj : j < es.length
          · rw [List.getElem?_append_left hj] at h1
            rw [Array.getElem?_push, if_neg (by omega)] at h2
            exact hr j _ _ h1 h2
          · rw [List.getElem?_append_right (by omega)] at h1
            have hj0 : j - es.length = 0 := by
              have := (List.getElem?_eq_some_iff.1 h1).1
              simp at this; omega
            rw [hj0] at h1
            cases h1
            rw [Array.getElem?_push, if_pos (by omega)] at h2
            cases h2
            exact ⟨rk, VRel.zero hz, rfl⟩)
        refine ⟨φ, .tuple #[z, .int .i64 clock], _, ?_, pair (VRel.zero hz) rfl, a1, a2⟩
        simp only [Instr.mapEntry, Sem.run_bind, run_underlying hu, Result.andThen_ok, hg, hck, f1, run_zeroOf w hz, hset, Sem.run_pure, goInt]
      · simp at e
    | _ => simp at e
  · simp at e

def eEntryStore (m s x : Value) (h : EH) : Option EH :=
  match m, s with
  | .map (some b), .int _ n =>
    match h[b]? with
    | some (.map es clock) =>
      match es.findIdx? (fun e => (e.born : Int) == n) with
      | some i => some (h.set b (.map (es.modify i fun e => { e with val := x }) clock))
      | none => none
    | _ => none
  | _, _ => none

theorem good_entryStore {P : Program} {φ : Phi} {h h' : EH} {w : World} {t : TypeId} {m m' s s' x x' : Value} (r : RelH φ h w) (rm : VRel φ m m') (rs : VRel φ s s') (rx : VRel φ x x') (e : eEntryStore m s x h = some h') :
    ∃ w', (Instr.entryStore t m' s' x').run P w = .ok () w' ∧ RelH φ h' w' ∧ Tr φ h w φ h' w' := by
  unfold eEntryStore at e
  split at e
  · rename_i b k n
    cases rs.int_inv
    obtain ⟨loc, hb, rfl⟩ := rm.map_inv
    obtain ⟨o, ho, hlt, hob⟩ := r.obj b loc hb
    rw [ho] at e
    cases o with
    | map es clock =>
      obtain ⟨hδ, es', hw, hsz, hr⟩ := hob
      simp only at e
      split at e
      · rename_i i hi
        simp only [Option.some.injEq] at e
        subst e
        have hg : (getObj loc.blk).run P w = .ok (.map es' clock) w := by simp [getObj, Sem.run, hw]
        have hi' : es'.findIdx? (fun e => (e.born : Int) == n) = some i := by
          rw [List.findIdx?_eq_some_iff_getElem] at hi
          obtain ⟨h1, h2, h3⟩ := hi
          rw [Array.findIdx?_eq_some_iff_getElem]
          have born : ∀ j (hj : j < es.length) (hj' : j < es'.size), es[j].born = es'[j].born := fun j hj hj' => (hr j _ _ (List.getElem?_eq_getElem hj) (Array.getElem?_eq_getElem hj')).2.2
          refine ⟨by omega, by rw [← born i h1 (by omega)]; exact h2, fun j hj => ?_⟩
          rw [← born j (by omega) (by omega)]
          exact h3 j hj
        obtain ⟨a1, a2⟩ := r.turn (o' := .map (es.modify i fun e => { e with val := x }) clock) (w' := { w with heap := w.heap.setIfInBounds loc.blk (.map (es'.modify i fun e => { e with val := x' }) clock) }) hb ho rfl rfl rfl rfl (by simp)
          (fun q hq => by simp [Array.getElem?_setIfInBounds_ne (Ne.symm hq)]) ⟨hδ, es'.modify i fun e => { e with val := x' }, by simp [hlt], by simp [hsz], by
            intro j e0 e0' h1 h2
            rw [List.getElem?_modify] at h1
            rw [Array.getElem?_modify] at h2
            by_cases hji : i = j
            · subst hji
              rw [if_pos rfl] at h2
              simp only [Option.map_eq_some_iff] at h2
              cases hh : es[i]? with
              | none => rw [hh] at h1; simp at h1
              | some e1 =>
                rw [hh] at h1
                simp at h1
                obtain ⟨e1', g1, rfl⟩ := h2
                have := hr i _ _ hh g1
                subst h1
                exact ⟨this.1, rx, this.2.2⟩
            · rw [if_neg hji] at h2
              simp [hji] at h1
              exact hr j _ _ h1 h2⟩
        exact ⟨_, by simp [Instr.entryStore, hg, asInt, asIntOf, hi', setObj, Sem.run, hw], a1, a2⟩
      · simp at e
    | _ => simp at e
  · simp at e

def eMakeMap (r : Option Value) (h : EH) : Option (Value × EH) :=
  match r with
  | none => some (.map (some h.length), h ++ [.map [] 0])
  | some _ => none

theorem good_makeMap {P : Program} {φ : Phi} {h h' : EH} {w : World} {t : TypeId} {x x' : Option Value} {v : Value} (r : RelH φ h w) (rx : OptRel φ x x') (e : eMakeMap x h = some (v, h')) : Good P φ h w (Instr.makeMap t x') v h' := by
  unfold eMakeMap at e
  split at e
  · cases x' with
    | some _ => simp [OptRel] at rx
    | none =>
      simp only [Option.some.injEq, Prod.mk.injEq] at e
      obtain ⟨rfl, rfl⟩ := e
      let loc : Loc := ⟨w.heap.size, 0, 0, 1, 0, false⟩
      obtain ⟨a, b⟩ := r.new (.map [] 0) (.map #[] 0) loc rfl ⟨rfl, #[], by simp [loc], rfl, fun j e e' h => by simp at h⟩
      refine ⟨_, .map (some w.heap.size), _, by simp [Instr.makeMap], ?_, a, b⟩
      exact VRel.map (φ := φ.put h.length loc) (loc := loc) (Phi.put_self _ _ _)
  · simp at e

def eDelete (P : Program) (t : TypeId) (m k : Value) (h : EH) : Option (Value × EH) :=
  match P.underlying t, m with
  | some (.map kt _), .map (some b) =>
    match h[b]? with
    | some (.map es clock) =>
      if eKeyOk P 50 kt k = true then
        match eFind P kt k es 0 with
        | some (some (i, _)) => some (.tuple #[], h.set b (.map (es.eraseIdx i) clock))
        | some none => some (.tuple #[], h.set b (.map es clock))
        | none => none
      else none
    | _ => none
  | _, _ => none

theorem good_delete {P : Program} {φ : Phi} {h h' : EH} {w : World} {t kt ty : TypeId} {m m' k k' v : Value} (r : RelH φ h w) (rm : VRel φ m m') (rk : VRel φ k k') (e : eDelete P t m k h = some (v, h')) :
    Good P φ h w (Builtin.delete_ #[t, kt] ty #[m', k']) v h' := by
  unfold eDelete at e
  split at e
  · rename_i kt el b hu
    obtain ⟨loc, hb, rfl⟩ := rm.map_inv
    obtain ⟨o, ho, hlt, hob⟩ := r.obj b loc hb
    rw [ho] at e
    cases o with
    | map es clock =>
      obtain ⟨hδ, es', hw, hsz, hr⟩ := hob
      simp only [Option.ite_none_right_eq_some] at e
      obtain ⟨hk, e⟩ := e
      obtain ⟨kd, hkd⟩ := underlying_of_keyOk hk
      have hck : ∀ em, (Instr.checkKey em 10000 kt k').run P w = .ok () w := fun em => run_checkKey_E w em 9950 50 kt k k' rk hk
      have hg : (getObj loc.blk).run P w = .ok (.map es' clock) w := by simp [getObj, Sem.run, hw]
      have hset : ∀ o2 : Obj, (setObj loc.blk o2).run P w = .ok () { w with heap := w.heap.setIfInBounds loc.blk o2 } := fun o2 => by simp [setObj, Sem.run, hw]
      have turn : ∀ (es2 : List MapEntry) (es2' : Array MapEntry) (c2 : Nat), es2.length = es2'.size → (∀ (j : Nat) (e e' : MapEntry), es2[j]? = some e → es2'[j]? = some e' → ERel φ e e') →
          RelH φ (h.set b (.map es2 c2)) { w with heap := w.heap.setIfInBounds loc.blk (.map es2' c2) } ∧ Tr φ h w φ (h.set b (.map es2 c2)) { w with heap := w.heap.setIfInBounds loc.blk (.map es2' c2) } :=
        fun es2 es2' c2 h1 h2 => r.turn hb ho rfl rfl rfl rfl (by simp) (fun q hq => by simp [Array.getElem?_setIfInBounds_ne (Ne.symm hq)]) ⟨hδ, es2', by simp [hlt], h1, h2⟩
      have nilt : VRel φ (.tuple #[]) (.tuple #[]) := .tuple (VsRel.nil (φ := φ)).1 (VsRel.nil (φ := φ)).2
      split at e
      · rename_i i en hf
        simp only [Option.some.injEq, Prod.mk.injEq] at e
        obtain ⟨rfl, rfl⟩ := e
        obtain ⟨f1, f2⟩ := run_findKey (P := P) w rk hkd hsz hr hf
        have hj := f2 i en rfl
        have hilt : i < es.length := (List.getElem?_eq_some_iff.1 hj).1
        have hj' : es'[i]? = some es'[i] := Array.getElem?_eq_getElem (by omega)
        have hlist : (es'.eraseIdxIfInBounds i).toList = es'.toList.eraseIdx i := by
          rw [Array.eraseIdxIfInBounds, dif_pos (by omega), Array.toList_eraseIdx]
        obtain ⟨a1, a2⟩ := turn (es.eraseIdx i) (es'.eraseIdxIfInBounds i) clock (by rw [← Array.length_toList, hlist, List.length_eraseIdx, List.length_eraseIdx]; simp [hsz]) (by
          intro j e0 e0' h1 h2
          rw [← Array.getElem?_toList, hlist, List.getElem?_eraseIdx] at h2
          rw [List.getElem?_eraseIdx] at h1
          split at h1
          · rename_i hji; rw [if_pos hji] at h2; exact hr _ _ _ h1 (by simpa using h2)
          · rename_i hji; rw [if_neg hji] at h2; exact hr _ _ _ h1 (by simpa using h2))
        refine ⟨φ, .tuple #[], _, ?_, nilt, a1, a2⟩
        simp [Builtin.delete_, run_underlying hu, hg, hck, f1, hj', hset]
      · rename_i hf
        simp only [Option.some.injEq, Prod.mk.injEq] at e
        obtain ⟨rfl, rfl⟩ := e
        obtain ⟨f1, f2⟩ := run_findKey (P := P) w rk hkd hsz hr hf
        obtain ⟨a1, a2⟩ := turn es es' clock hsz hr
        refine ⟨φ, .tuple #[], _, ?_, nilt, a1, a2⟩
        simp [Builtin.delete_, run_underlying hu, hg, hck, f1, hset]
      · simp at e
    | _ => simp at e
  · simp at e

def eRange (P : Program) (t : TypeId) (x : Value) (h : EH) : Option (Value × EH) :=
  match P.underlying t, x with
  | some .string, .string s => some (.pointer (some ⟨h.length, 0, none⟩), h ++ [.str s 0])
  | _, _ => none

theorem good_range {P : Program} {φ : Phi} {h h' : EH} {w : World} {t : TypeId} {x x' v : Value} (r : RelH φ h w) (rx : VRel φ x x') (e : eRange P t x h = some (v, h')) : Good P φ h w (Instr.range t x') v h' := by
  unfold eRange at e
  split at e
  · rename_i s hu
    cases rx.string_inv
    simp only [Option.some.injEq, Prod.mk.injEq] at e
    obtain ⟨rfl, rfl⟩ := e
    let loc : Loc := ⟨w.heap.size, 0, 0, 1, 0, false⟩
    obtain ⟨a, b⟩ := r.new (.str s 0) (.stringIter s 0) loc rfl ⟨rfl, by simp [loc]⟩
    refine ⟨_, .pointer (some ⟨w.heap.size, 0, none⟩), _, by simp [Instr.range, run_underlying hu], ?_, a, b⟩
    have := VRel.ptr (φ := φ.put h.length loc) (off := 0) (loc := loc) (Phi.put_self _ _ _)
    simpa [loc] using this
  · simp at e

def eNext (x : Value) (isStr : Bool) (h : EH) : Option (Value × EH) :=
  match x, isStr with
  | .pointer (some ⟨b, 0, none⟩), true =>
    match h[b]? with
    | some (.str s pos) =>
      if pos < s.size then some (.tuple #[.bool true, .int .i64 pos, .int .i32 (Utf8.decode s pos).1], h.set b (.str s (pos + (Utf8.decode s pos).2)))
      else some (.tuple #[.bool false], h)
    | _ => none
  | _, _ => none

theorem good_next {P : Program} {φ : Phi} {h h' : EH} {w : World} {x x' v : Value} {isStr : Bool} {ty : TypeId} (r : RelH φ h w) (rx : VRel φ x x') (e : eNext x isStr h = some (v, h')) : Good P φ h w (Instr.next x' isStr ty) v h' := by
  unfold eNext at e
  split at e
  · rename_i b
    obtain ⟨loc, hb, rfl⟩ := rx.ptr_inv
    obtain ⟨o, ho, hlt, hob⟩ := r.obj b loc hb
    rw [ho] at e
    cases o with
    | str s pos =>
      obtain ⟨hδ, hw⟩ := hob
      have hg : (getObj loc.blk).run P w = .ok (.stringIter s pos) w := by simp [getObj, Sem.run, hw]
      have hset : ∀ o2 : Obj, (setObj loc.blk o2).run P w = .ok () { w with heap := w.heap.setIfInBounds loc.blk o2 } := fun o2 => by simp [setObj, Sem.run, hw]
      have ctup : ∀ l : Array Value, l.all isBase = true → VRel φ (.tuple l) (.tuple l) := fun l hl => .tuple rfl fun i h1 _ => .base (by rw [Array.all_eq_true] at hl; exact hl i h1)
      simp only at e
      split at e
      · rename_i hp
        simp only [Option.some.injEq, Prod.mk.injEq] at e
        obtain ⟨rfl, rfl⟩ := e
        obtain ⟨a1, a2⟩ := r.turn (o' := .str s (pos + (Utf8.decode s pos).2)) (w' := { w with heap := w.heap.setIfInBounds loc.blk (.stringIter s (pos + (Utf8.decode s pos).2)) }) hb ho rfl rfl rfl rfl (by simp)
          (fun q hq => by simp [Array.getElem?_setIfInBounds_ne (Ne.symm hq)]) ⟨hδ, by simp [hlt]⟩
        refine ⟨φ, _, _, ?_, ctup _ (by simp [isBase]), a1, a2⟩
        simp only [hδ, Nat.zero_add, Instr.next, Sem.run_bind, hg, Result.andThen_ok, if_pos hp, hset, Sem.run_pure, goInt]
      · rename_i hp
        simp only [Option.some.injEq, Prod.mk.injEq] at e
        obtain ⟨rfl, rfl⟩ := e
        refine Good.same r ?_ (ctup _ (by simp [isBase]))
        simp only [hδ, Nat.zero_add, Instr.next, Sem.run_bind, hg, Result.andThen_ok, if_neg hp, Sem.run_pure]
    | _ => simp at e
  · simp at e
end Go.E
namespace Go.E
open Go

def eClear (P : Program) (t : TypeId) (x : Value) (h : EH) : Option (Value × EH) :=
  match P.underlying t, x with
  | some (.slice el), .slice base n _ =>
    if n = 0 then some (.tuple #[], h) else
    match base with
    | some ⟨b, off, none⟩ => match zeroOf P el with
      | some (z, s) => (storeRow h b off (zerosOf z (n * s)).toList).map fun h' => (.tuple #[], h')
      | none => none
    | _ => none
  | _, _ => none

theorem good_clear {P : Program} {φ : Phi} {h h' : EH} {w : World} {t ty : TypeId} {x x' v : Value} (r : RelH φ h w) (rx : VRel φ x x') (e : eClear P t x h = some (v, h')) :
    Good P φ h w (Builtin.clear_ #[t] ty #[x']) v h' := by
  have g0 : #[t][0]? = some t := rfl
  have g2 : (#[x'] : Array Value)[0]? = some x' := rfl
  have ht : VRel φ (.tuple #[]) (.tuple #[]) := .tuple rfl (fun i h => absurd h (by simp))
  unfold eClear at e
  split at e
  · rename_i el base n c hu
    split at e
    · rename_i hn
      subst hn
      obtain ⟨base', c', rfl⟩ := rx.slice_len
      cases e
      refine Good.same r (v' := .tuple #[]) ?_ ht
      simp only [Builtin.clear_, g0, g2, Sem.run_bind, run_underlying hu, Result.andThen_ok]
      cases base' <;> rfl
    · rename_i hn
      split at e
      · rename_i b off
        split at e
        · rename_i z s hz
          obtain ⟨i, hi, _, _, hzs, hcon, _, hp, _, hs⟩ := zeroOf_spec hz
          simp only [Option.map_eq_some_iff, Prod.mk.injEq] at e
          obtain ⟨h1, hst, rfl, rfl⟩ := e
          obtain ⟨loc, off', c', hb, rfl, _, hor⟩ := rx.slice_inv
          rcases hor with ⟨rfl, _⟩ | ⟨h0, _⟩
          · obtain ⟨w', f1, f2, f3⟩ := r.store (P := P) hb (l := (zerosOf z (n * s)).toList) (l' := zerosOf z (n * s)) (by
              rw [Array.toArray_toList]
              exact VsRel.const (zeros_const hcon (by omega) (n * s))) hst
            refine ⟨φ, .tuple #[], w', ?_, ht, f2, f3⟩
            have hze : Builtin.zeroCells z.cells n = zerosOf z (n * s) := by
              unfold Builtin.zeroCells zerosOf
              rw [hzs]
            obtain ⟨k, rfl⟩ : ∃ k, n = k + 1 := ⟨n - 1, by omega⟩
            simp only [Builtin.clear_, g0, g2, Sem.run_bind, run_underlying hu, Result.andThen_ok, run_zeroOf w hz, hze, f1, Sem.run_pure]
          · exact absurd h0 hn
        · simp at e
      · simp at e
  · simp at e

def eBuiltin (P : Program) (b : Builtin) (ts : List TypeId) (args : List Value) (h : EH) : Option (Value × EH) :=
  match b, ts, args with
  | .len, [t], [x] => (eLen P t x h).map (·, h)
  | .append, [st, xt], [s, x] => eAppend P st xt s x h
  | .copy, [t, _], [d, s] => eCopy P t d s h
  | .delete, [t, _], [m, k] => eDelete P t m k h
  | .clear, [t], [x] => eClear P t x h
  | .max, _, args => (eMaxAll (fun y x => decide (y > x)) args).map (·, h)
  | .min, _, args => (eMaxAll (fun y x => decide (y < x)) args).map (·, h)
  | _, _, _ => none

def estep (P : Program) (o : Op) (ρ : Operand → Value) (h : EH) : Option (Value × EH) :=
  match o with
  | .move x | .assign x => some (ρ x, h)
  | .pick c a b => (ePick (ρ c) (ρ a) (ρ b)).map (·, h)
  | .alloc t => eAlloc P t h
  | .box _ x => eBox (ρ x) h
  | .build t ps => (eBuild P t (ps.map fun x => (x.1, ρ x.2))).map (·, h)
  | .buildSlice t n ps => eBuildSlice P t n (ps.map fun x => (x.1, ρ x.2)) h
  | .load t a => (eLoad P t (ρ a) h).map (·, h)
  | .store t a x => (eStore P t (ρ a) (ρ x) h).map (undef, ·)
  | .nilCheck x => (eNilCheck (ρ x)).map (·, h)
  | .binOp op t x y _ => (eBin P op t x y (ρ x) (ρ y)).map (·, h)
  | .unOp op _ x => (eUn op (ρ x)).map (·, h)
  | .convert s d x => (eConv P s d (ρ x)).map (·, h)
  | .makeInterface t x => (eMkIface P t (ρ x)).map (·, h)
  | .makeFunc fn fs cs => (eMkFunc fn (fs.map ρ) (cs.map ρ)).map (·, h)
  | .makeMap _ r => eMakeMap (r.map ρ) h
  | .makeSlice t l c => eMakeSlice P t (ρ l) (ρ c) h
  | .slice t x lo hi mx => (eSlice P t (ρ x) (lo.map ρ) (hi.map ρ) (mx.map ρ) h).map (·, h)
  | .fieldAddr t x f => (eFieldAddr P t (ρ x) f).map (·, h)
  | .field t x f => (eField P t (ρ x) f).map (·, h)
  | .indexAddr t x i => (eIndexAddr P t (ρ x) (ρ i)).map (·, h)
  | .index t x i => (eIndex P t (ρ x) (ρ i)).map (·, h)
  | .lookup t x i ok => (eLookup P t (ρ x) (ρ i) ok h).map (·, h)
  | .mapUpdate t m k x => (eMapUpdate P t (ρ m) (ρ k) (ρ x) h).map (undef, ·)
  | .mapEntry t m k => eMapEntry P t (ρ m) (ρ k) h
  | .entryStore _ m s x => (eEntryStore (ρ m) (ρ s) (ρ x) h).map (undef, ·)
  | .range t x => eRange P t (ρ x) h
  | .next it isStr => eNext (ρ it) isStr h
  | .typeAssert x _ t ok => (eAssert P (ρ x) t ok).map (·, h)
  | .extract x i => (eExtract (ρ x) i).map (·, h)
  | .call c => match c.callee with
    | .builtin b => eBuiltin P b c.argTypes.toList (c.args.toList.map ρ) h
    | _ => none
  | _ => none

def StepOk (P : Program) (φ : Phi) (h : EH) (w : World) (s' : Sem Next) (v : Value) (h' : EH) : Prop :=
  ∃ φ' v' w' n, s'.run P w = .ok n w' ∧ (n = .value v' ∨ (n = .skip ∧ v' = undef)) ∧ VRel φ' v v' ∧ RelH φ' h' w' ∧ Tr φ h w φ' h' w'

theorem Good.step {P : Program} {φ : Phi} {h h' : EH} {w : World} {s' : Sem Value} {v : Value} (g : Good P φ h w s' v h') : StepOk P φ h w (do pure (.value (← s'))) v h' := by
  obtain ⟨φ', v', w', e1, e2, e3, e4⟩ := g
  exact ⟨φ', v', w', .value v', by simp only [Sem.run_bind, e1, Result.andThen_ok, Sem.run_pure], .inl rfl, e2, e3, e4⟩

theorem VRel.undef {φ : Phi} : VRel φ undef undef := .tuple (VsRel.nil (φ := φ)).1 (VsRel.nil (φ := φ)).2

theorem stepU {P : Program} {φ : Phi} {h h' : EH} {w : World} {s' : Sem Unit} (g : ∃ w', s'.run P w = .ok () w' ∧ RelH φ h' w' ∧ Tr φ h w φ h' w') : StepOk P φ h w (do s'; pure .skip) undef h' := by
  obtain ⟨w', e1, e2, e3⟩ := g
  exact ⟨φ, undef, w', .skip, by simp only [Sem.run_bind, e1, Result.andThen_ok, Sem.run_pure], .inr ⟨rfl, rfl⟩, .undef, e2, e3⟩

theorem VsRel.map {φ : Phi} {ρ ρ' : Operand → Value} (xs : Array Operand) (h : ∀ x ∈ xs, VRel φ (ρ x) (ρ' x)) : VsRel φ (xs.map ρ) (xs.map ρ') :=
  ⟨by simp, fun i h1 _ => by simp only [Array.getElem_map]; exact h _ (Array.getElem_mem _)⟩

theorem PsRel.map {φ : Phi} {ρ ρ' : Operand → Value} (ps : Array (Nat × Operand)) (h : ∀ x ∈ ps, VRel φ (ρ x.2) (ρ' x.2)) :
    PsRel φ (ps.map fun x => (x.1, ρ x.2)).toList (ps.map fun x => (x.1, ρ' x.2)).toList := by
  refine ⟨by simp, fun i x x' h1 h2 => ?_⟩
  simp only [Array.toList_map, List.getElem?_map, Option.map_eq_some_iff] at h1 h2
  obtain ⟨y, e1, rfl⟩ := h1
  obtain ⟨y', e2, rfl⟩ := h2
  rw [e1] at e2; cases e2
  exact h y (by simpa using List.mem_of_getElem? e1)

theorem OptRel.map {φ : Phi} {ρ ρ' : Operand → Value} (x : Option Operand) (h : ∀ y, x = some y → VRel φ (ρ y) (ρ' y)) : OptRel φ (x.map ρ) (x.map ρ') := by
  cases x with
  | none => trivial
  | some y => exact h y rfl

theorem builtin_ok {P : Program} {φ : Phi} {h h' : EH} {w : World} {b : Builtin} {ts : Array TypeId} {ty : TypeId} {cs : Array Bool} {args args' : Array Value} {v : Value} (r : RelH φ h w) (ra : VsRel φ args args')
    (e : eBuiltin P b ts.toList args.toList h = some (v, h')) : StepOk P φ h w (builtin b ts ty cs args') v h' := by
  have one : ∀ {x}, args.toList = [x] → ∃ x', args' = #[x'] ∧ VRel φ x x' := by
    intro x hx
    have hs : args = #[x] := by rw [← Array.toArray_toList (xs := args), hx]
    subst hs
    obtain ⟨x', e1, e2⟩ := ra.get (i := 0) (v := x) rfl
    refine ⟨x', ?_, e2⟩
    have hsz : args'.size = 1 := ra.1.symm
    apply Array.ext
    · simp [hsz]
    · intro i h1 h2
      have : i = 0 := by omega
      subst this
      rw [Array.getElem?_eq_getElem h1] at e1
      simpa using e1
  have two : ∀ {x y}, args.toList = [x, y] → ∃ x' y', args' = #[x', y'] ∧ VRel φ x x' ∧ VRel φ y y' := by
    intro x y hx
    have hs : args = #[x, y] := by rw [← Array.toArray_toList (xs := args), hx]
    subst hs
    obtain ⟨x', e1, e2⟩ := ra.get (i := 0) (v := x) rfl
    obtain ⟨y', e3, e4⟩ := ra.get (i := 1) (v := y) rfl
    refine ⟨x', y', ?_, e2, e4⟩
    have hsz : args'.size = 2 := ra.1.symm
    apply Array.ext
    · simp [hsz]
    · intro i h1 h2
      rw [Array.getElem?_eq_getElem (by omega)] at e1 e3
      match i, h1, h2 with
      | 0, _, _ => simpa using e1
      | 1, _, _ => simpa using e3
      | i + 2, h1, _ => omega
  unfold eBuiltin at e
  split at e
  · rename_i t x h1 h2
    obtain ⟨x', rfl, rx⟩ := one h2
    have ht : ts = #[t] := by rw [← Array.toArray_toList (xs := ts), h1]
    subst ht
    simp only [Option.map_eq_some_iff, Prod.mk.injEq] at e
    obtain ⟨u, hu, rfl, rfl⟩ := e
    exact (good_len r rx hu).step
  · rename_i st xt s x h1 h2
    obtain ⟨s', x', rfl, rs, rx⟩ := two h2
    have ht : ts = #[st, xt] := by rw [← Array.toArray_toList (xs := ts), h1]
    subst ht
    exact (good_append r rs rx e).step
  · rename_i t t2 d s h1 h2
    obtain ⟨d', s', rfl, rd, rs⟩ := two h2
    have ht : ts = #[t, t2] := by rw [← Array.toArray_toList (xs := ts), h1]
    subst ht
    exact (good_copy r rd rs e).step
  · rename_i t t2 d s h1 h2
    obtain ⟨d', s', rfl, rd, rs⟩ := two h2
    have ht : ts = #[t, t2] := by rw [← Array.toArray_toList (xs := ts), h1]
    subst ht
    exact (good_delete r rd rs e).step
  · rename_i t x h1 h2
    obtain ⟨x', rfl, rx⟩ := one h2
    have ht : ts = #[t] := by rw [← Array.toArray_toList (xs := ts), h1]
    subst ht
    exact (good_clear r rx e).step
  · simp only [Option.map_eq_some_iff, Prod.mk.injEq] at e
    obtain ⟨u, hu, rfl, rfl⟩ := e
    exact (good_max r (by rw [Array.toArray_toList]; exact ra) hu).step
  · simp only [Option.map_eq_some_iff, Prod.mk.injEq] at e
    obtain ⟨u, hu, rfl, rfl⟩ := e
    exact (good_min r (by rw [Array.toArray_toList]; exact ra) hu).step
  · simp at e

set_option maxHeartbeats 2000000 in
theorem estep_ok {P : Program} {φ : Phi} {h h' : EH} {w : World} {o : Oper} {ρ ρ' : Operand → Value} {v : Value} (r : RelH φ h w) (hρ : ∀ x ∈ o.op.operands, VRel φ (ρ x) (ρ' x)) (e : estep P o.op ρ h = some (v, h')) :
    StepOk P φ h w (execOp ρ' o) v h' := by
  obtain ⟨dst, op, type, pos, after, guard⟩ := o
  simp only at e hρ
  cases op <;> simp only [estep, Option.map_eq_some_iff, Prod.mk.injEq, Option.some.injEq] at e <;> simp only [Op.operands] at hρ <;> unfold execOp <;> simp only
  case move x => obtain ⟨rfl, rfl⟩ := e; exact ⟨φ, ρ' x, w, _, rfl, .inl rfl, hρ x (by simp), r, r.tr⟩
  case assign x => obtain ⟨rfl, rfl⟩ := e; exact ⟨φ, ρ' x, w, _, rfl, .inl rfl, hρ x (by simp), r, r.tr⟩
  case pick c a b =>
    obtain ⟨u, hu, rfl, rfl⟩ := e
    have := (good_pick (P := P) (w := w) r (hρ c (by simp)) (hρ a (by simp)) (hρ b (by simp)) hu).step
    simpa using this
  case alloc t => exact (good_alloc r e).step
  case box t x => exact (good_box r (hρ x (by simp)) e).step
  case build t ps =>
    obtain ⟨u, hu, rfl, rfl⟩ := e
    exact (good_build (ps' := ps.map fun x => (x.1, ρ' x.2)) r (PsRel.map ps fun x hx => hρ x.2 (by simp; exact ⟨x.1, by simpa using hx⟩)) hu).step
  case buildSlice t n ps => exact (good_buildSlice (ps' := ps.map fun x => (x.1, ρ' x.2)) r (PsRel.map ps fun x hx => hρ x.2 (by simp; exact ⟨x.1, by simpa using hx⟩)) e).step
  case load t a => obtain ⟨u, hu, rfl, rfl⟩ := e; exact (good_load r (hρ a (by simp)) hu).step
  case store t a x => obtain ⟨u, hu, rfl, rfl⟩ := e; exact stepU (good_store r (hρ a (by simp)) (hρ x (by simp)) hu)
  case nilCheck x =>
    obtain ⟨u, hu, rfl, rfl⟩ := e
    have rx := hρ x (by simp)
    unfold eNilCheck at hu
    split at hu
    · rename_i a ha
      simp only [Option.some.injEq] at hu
      subst hu
      rw [ha] at rx
      obtain ⟨a', hx', hn⟩ := rx.ptr_isNone
      cases a' with
      | none => simp at hn
      | some a' =>
        rw [hx'] at rx
        exact ⟨φ, _, w, _, by rw [hx']; rfl, .inl rfl, rx, r, r.tr⟩
    · rename_i f fs cs ha
      simp only [Option.some.injEq] at hu
      subst hu
      rw [ha] at rx
      obtain ⟨fn', fs', cs', hx', hf, _, _⟩ := rx.func_inv
      have : fn' = .func f := by cases fn' <;> simp_all [FnRel]
      subst this
      rw [hx'] at rx
      exact ⟨φ, _, w, _, by rw [hx']; rfl, .inl rfl, rx, r, r.tr⟩
    · simp at hu
  case binOp op t x y u => obtain ⟨u, hu, rfl, rfl⟩ := e; exact (good_bin r (hρ x (by simp)) (hρ y (by simp)) hu).step
  case unOp op t x => obtain ⟨u, hu, rfl, rfl⟩ := e; exact (good_un r (hρ x (by simp)) hu).step
  case convert s d x => obtain ⟨u, hu, rfl, rfl⟩ := e; exact (good_conv r (hρ x (by simp)) hu).step
  case makeInterface t x => obtain ⟨u, hu, rfl, rfl⟩ := e; exact (good_mkIface r (hρ x (by simp)) hu).step
  case makeFunc fn fs cs => obtain ⟨u, hu, rfl, rfl⟩ := e; exact (good_mkFunc r (VsRel.map fs fun x hx => hρ x (by simp [hx])) (VsRel.map cs fun x hx => hρ x (by simp [hx])) hu).step
  case makeMap t m => exact (good_makeMap r (OptRel.map m fun y hy => hρ y (by simp [hy])) e).step
  case makeSlice t l c => exact (good_makeSlice r (hρ l (by simp)) (hρ c (by simp)) e).step
  case slice t x lo hi mx =>
    obtain ⟨u, hu, rfl, rfl⟩ := e
    exact (good_slice r (hρ x (by simp)) (OptRel.map lo fun y hy => hρ y (by simp [hy])) (OptRel.map hi fun y hy => hρ y (by simp [hy])) (OptRel.map mx fun y hy => hρ y (by simp [hy])) hu).step
  case fieldAddr t x f => obtain ⟨u, hu, rfl, rfl⟩ := e; exact (good_fieldAddr r (hρ x (by simp)) hu).step
  case field t x f => obtain ⟨u, hu, rfl, rfl⟩ := e; exact (good_field r (hρ x (by simp)) hu).step
  case indexAddr t x i => obtain ⟨u, hu, rfl, rfl⟩ := e; exact (good_indexAddr r (hρ x (by simp)) (hρ i (by simp)) hu).step
  case index t x i => obtain ⟨u, hu, rfl, rfl⟩ := e; exact (good_index r (hρ x (by simp)) (hρ i (by simp)) hu).step
  case lookup t x i ok => obtain ⟨u, hu, rfl, rfl⟩ := e; exact (good_lookup r (hρ x (by simp)) (hρ i (by simp)) hu).step
  case mapUpdate t m k x => obtain ⟨u, hu, rfl, rfl⟩ := e; exact stepU (good_mapUpdate r (hρ m (by simp)) (hρ k (by simp)) (hρ x (by simp)) hu)
  case mapEntry t m k => exact (good_mapEntry r (hρ m (by simp)) (hρ k (by simp)) e).step
  case entryStore t m s x => obtain ⟨u, hu, rfl, rfl⟩ := e; exact stepU (good_entryStore r (hρ m (by simp)) (hρ s (by simp)) (hρ x (by simp)) hu)
  case range t x => exact (good_range r (hρ x (by simp)) e).step
  case next it b => exact (good_next r (hρ it (by simp)) e).step
  case typeAssert x t u ok => obtain ⟨u, hu, rfl, rfl⟩ := e; exact (good_assert r (hρ x (by simp)) hu).step
  case extract x i => obtain ⟨u, hu, rfl, rfl⟩ := e; exact (good_extract r (hρ x (by simp)) hu).step
  case call c =>
    cases hc : c.callee with
    | builtin b =>
      rw [hc] at e
      simp only at e
      have ra : VsRel φ (c.args.map ρ) (c.args.map ρ') := VsRel.map c.args fun x hx => hρ x (by simp [Call.operands, hc, hx])
      simp only [resolve, hc, pure_bind, invoke]
      exact builtin_ok r ra (by simpa using e)
    | _ => rw [hc] at e; simp at e
  all_goals simp at e
end Go.E
namespace Go.E
open Go

structure St where
  f : Nat → Value
  ds : List Deferred
  h : EH
  rc : Option (Value × Bool)

inductive Ex where
  | normal
  | exit (id : Nat)
  | ret
  | panic (v : Value)

def DRel (φ : Phi) (d d' : Deferred) : Prop :=
  match d.target, d'.target with
  | .fn fn cs, .fn fn' cs' => FnRel φ fn fn' ∧ VsRel φ cs cs' ∧ VsRel φ d.args d'.args
  | .collected r, .collected r' => (∃ loc, φ r = some loc ∧ r' = loc.blk) ∧ d'.args = #[]
  | _, _ => False

def DsRel (φ : Phi) : List Deferred → List Deferred → Prop
  | [], [] => True
  | d :: ds, d' :: ds' => DRel φ d d' ∧ DsRel φ ds ds'
  | _, _ => False

theorem DRel.mono {φ φ' : Phi} (h : Le φ φ') {d d' : Deferred} (r : DRel φ d d') : DRel φ' d d' := by
  obtain ⟨t, as⟩ := d
  obtain ⟨t', as'⟩ := d'
  cases t <;> cases t' <;> simp only [DRel] at r ⊢
  · exact ⟨r.1.mono h, r.2.1.mono h, r.2.2.mono h⟩
  · obtain ⟨⟨loc, a, b⟩, c⟩ := r
    exact ⟨⟨loc, h _ _ a, b⟩, c⟩

theorem DsRel.mono {φ φ' : Phi} (h : Le φ φ') : ∀ {ds ds' : List Deferred}, DsRel φ ds ds' → DsRel φ' ds ds'
  | [], [], _ => trivial
  | _ :: _, _ :: _, r => ⟨r.1.mono h, r.2.mono h⟩
  | [], _ :: _, r => r.elim
  | _ :: _, [], r => r.elim

def RcRel (φ : Phi) : Option (Value × Bool) → Option (Value × Bool) → Prop
  | none, none => True
  | some (v, r), some (v', r') => VRel φ v v' ∧ r = r'
  | _, _ => False

theorem RcRel.mono {φ φ' : Phi} (h : Le φ φ') {a b : Option (Value × Bool)} (r : RcRel φ a b) : RcRel φ' a b := by
  cases a <;> cases b <;> simp_all only [RcRel]
  exact ⟨r.1.mono h, trivial⟩

def RoRel (φ : Phi) : Option Nat → Option Nat → Prop
  | none, none => True
  | some l, some l' => ∃ loc, φ l = some loc ∧ l' = loc.blk
  | _, _ => False

theorem RoRel.mono {φ φ' : Phi} (h : Le φ φ') {a b : Option Nat} (r : RoRel φ a b) : RoRel φ' a b := by
  cases a <;> cases b <;> simp_all only [RoRel]
  obtain ⟨loc, e, x⟩ := r
  exact ⟨loc, h _ _ e, x⟩

def ExRel (φ : Phi) : Ex → Ex → Prop
  | .normal, .normal => True
  | .exit i, .exit j => i = j
  | .ret, .ret => True
  | .panic v, .panic v' => VRel φ v v'
  | _, _ => False

structure ActRel (φ : Phi) (N : Nat) (st : St) (a : Act) : Prop where
  size : a.tmps.size = N
  tmps : ∀ t, t < N → VRel φ (st.f t) (a.tmps.getD t undef)
  ds : DsRel φ st.ds a.defers

theorem ActRel.mono {φ φ' : Phi} (h : Le φ φ') {N : Nat} {st : St} {a : Act} (r : ActRel φ N st a) : ActRel φ' N st a :=
  ⟨r.size, fun t ht => (r.tmps t ht).mono h, r.ds.mono h⟩

def mkCs (base : List Frame) (rc : Option (Value × Bool)) : List Frame :=
  match rc, base with
  | some (v, r), c :: rest => { c with mode := .panicking [{ v, recovered := r }] } :: rest
  | _, base => base

structure Env (φ : Phi) (ro : Option Nat) (b : Frame) (base : List Frame) (rc : Option (Value × Bool)) : Prop where
  early : b.kind ≠ .early
  ro : RoRel φ ro b.roundOf
  norec : rc = none → ∀ a todo, tryRecover (b.atR a todo) base = none
  reco : ∀ x, rc = some x → b.kind = .deferred ∧ base ≠ []
  round : b.roundOf.isSome = true → b.kind = .normal ∧ rc = none

theorem Env.mono {φ φ' : Phi} (h : Le φ φ') {ro : Option Nat} {b : Frame} {base : List Frame} {rc rc' : Option (Value × Bool)} (e : Env φ ro b base rc) (hs : rc'.isSome = rc.isSome) : Env φ' ro b base rc' :=
  ⟨e.early, e.ro.mono h, fun h1 => e.norec (by subst h1; cases rc <;> simp_all),
    fun x hx => by
      subst hx
      cases rc with
      | none => simp at hs
      | some y => exact e.reco y rfl,
    fun h1 => ⟨(e.round h1).1, by have := (e.round h1).2; subst this; cases rc' <;> simp_all⟩⟩

def noCall : List Item → Bool
  | .call .. :: _ => false
  | _ => true

def ArrC (P : Program) (m : Machine) (b : Frame) (k : List Item) (cs : List Frame) (a : Act) (w : World) : Ex → Prop
  | .normal => Steps P m (lone (b.atR a k) cs w)
  | .exit id => ∃ k1, exitTo id k1 = exitTo id k ∧ Steps P m (lone (b.atR a (.code (.exit id) :: k1)) cs w)
  | .ret => ∃ k1, Steps P m (lone (b.atR a (.code .ret :: k1)) cs w)
  | .panic v => ∃ todo, noCall todo = true ∧ Steps P m (lone { b.atR a todo with mode := .panicking [{ v, recovered := false }] } cs w)

theorem ArrC.of_steps {P : Program} {m m' : Machine} {b : Frame} {k : List Item} {cs : List Frame} {a : Act} {w : World} {ex : Ex} (h : Steps P m m') (r : ArrC P m' b k cs a w ex) : ArrC P m b k cs a w ex := by
  cases ex with
  | normal => exact h.trans r
  | exit id => obtain ⟨k1, e, s⟩ := r; exact ⟨k1, e, h.trans s⟩
  | ret => obtain ⟨k1, s⟩ := r; exact ⟨k1, h.trans s⟩
  | panic v => obtain ⟨t, n, s⟩ := r; exact ⟨t, n, h.trans s⟩

def SndCode (P : Program) (N : Nat) (ro : Option Nat) (c : Code) (st : St) (ex : Ex) (st' : St) : Prop :=
  ∀ (φ : Phi) (b : Frame) (k : List Item) (base : List Frame) (a : Act) (w : World) (rc : Option (Value × Bool)),
    RelH φ st.h w → ActRel φ N st a → RcRel φ st.rc rc → Env φ ro b base rc →
    ∃ φ' ex' a' w' rc', ExRel φ' ex ex' ∧ RelH φ' st'.h w' ∧ Tr φ st.h w φ' st'.h w' ∧ ActRel φ' N st' a' ∧ RcRel φ' st'.rc rc' ∧ rc'.isSome = rc.isSome ∧
      ArrC P (lone (b.atR a (.code c :: k)) (mkCs base rc) w) b k (mkCs base rc') a' w' ex'

theorem snd_skip {P : Program} {N : Nat} {ro : Option Nat} {st : St} : SndCode P N ro .skip st .normal st :=
  fun φ b k base a w rc hr ha hc _ => ⟨φ, .normal, a, w, rc, trivial, hr, hr.tr, ha, hc, rfl, .one stepR_skip⟩

theorem snd_label {P : Program} {N l : Nat} {ro : Option Nat} {st : St} : SndCode P N ro (.label l) st .normal st :=
  fun φ b k base a w rc hr ha hc _ => ⟨φ, .normal, a, w, rc, trivial, hr, hr.tr, ha, hc, rfl, .one stepR_label⟩

theorem snd_exit {P : Program} {N id : Nat} {ro : Option Nat} {st : St} : SndCode P N ro (.exit id) st (.exit id) st :=
  fun φ b k base a w rc hr ha hc _ => ⟨φ, .exit id, a, w, rc, rfl, hr, hr.tr, ha, hc, rfl, k, rfl, .refl _ _⟩

theorem snd_ret {P : Program} {N : Nat} {ro : Option Nat} {st : St} : SndCode P N ro .ret st .ret st :=
  fun φ b k base a w rc hr ha hc _ => ⟨φ, .ret, a, w, rc, trivial, hr, hr.tr, ha, hc, rfl, k, .refl _ _⟩

theorem ArrC.plain {P : Program} {m : Machine} {b : Frame} {x : Item} {k : List Item} {cs : List Frame} {a : Act} {w : World} {ex : Ex} (hx : ∀ id, exitTo id (x :: k) = exitTo id k) (hn : ex ≠ .normal)
    (r : ArrC P m b (x :: k) cs a w ex) : ArrC P m b k cs a w ex := by
  cases ex with
  | normal => exact absurd rfl hn
  | exit id => obtain ⟨k1, e, s⟩ := r; exact ⟨k1, e.trans (hx id), s⟩
  | ret => exact r
  | panic v => exact r

theorem ExRel.normal_inv {φ : Phi} {ex' : Ex} (h : ExRel φ .normal ex') : ex' = .normal := by cases ex' <;> simp_all [ExRel]

theorem ExRel.ne_normal {φ : Phi} {ex ex' : Ex} (h : ExRel φ ex ex') (hn : ex ≠ .normal) : ex' ≠ .normal := by
  intro e; subst e
  cases ex <;> simp_all [ExRel]

theorem snd_seq {P : Program} {N : Nat} {ro : Option Nat} {c d : Code} {st st₁ st' : St} {ex : Ex} (h1 : SndCode P N ro c st .normal st₁) (h2 : SndCode P N ro d st₁ ex st') : SndCode P N ro (.seq c d) st ex st' := by
  intro φ b k base a w rc hr ha hc he
  obtain ⟨φ₁, ex₁, a₁, w₁, rc₁, x1, r1, t1, a1, c1, s1, arr⟩ := h1 φ b (.code d :: k) base a w rc hr ha hc he
  cases x1.normal_inv
  obtain ⟨φ₂, ex₂, a₂, w₂, rc₂, x2, r2, t2, a2, c2, s2, arr2⟩ := h2 φ₁ b k base a₁ w₁ rc₁ r1 a1 c1 (he.mono t1.le s1)
  exact ⟨φ₂, ex₂, a₂, w₂, rc₂, x2, r2, t1.trans t2, a2, c2, s2.trans s1, .of_steps (.head stepR_seq arr) arr2⟩

theorem snd_seq_out {P : Program} {N : Nat} {ro : Option Nat} {c d : Code} {st st' : St} {ex : Ex} (hn : ex ≠ .normal) (h1 : SndCode P N ro c st ex st') : SndCode P N ro (.seq c d) st ex st' := by
  intro φ b k base a w rc hr ha hc he
  obtain ⟨φ₁, ex₁, a₁, w₁, rc₁, x1, r1, t1, a1, c1, s1, arr⟩ := h1 φ b (.code d :: k) base a w rc hr ha hc he
  exact ⟨φ₁, ex₁, a₁, w₁, rc₁, x1, r1, t1, a1, c1, s1, .of_steps (.one stepR_seq) (arr.plain (fun _ => rfl) (x1.ne_normal hn))⟩

def constV (v : Value) : Bool :=
  constOk v || (match v with | .agg cs => cs.all constOk | _ => false)

theorem VRel.constV {φ : Phi} {v : Value} (h : constV v = true) : VRel φ v v := by
  unfold E.constV at h
  simp only [Bool.or_eq_true] at h
  rcases h with h | h
  · exact .const h
  · cases v with
    | agg cs => have := VsRel.const (φ := φ) (a := cs) h; exact .agg this.1 this.2
    | _ => simp at h

def opdOk (N : Nat) : Operand → Bool
  | .tmp t => decide (t < N)
  | .const v => constV v
  | .func _ => true
  | .global _ => false

def ev (f : Nat → Value) : Operand → Value
  | .tmp t => f t
  | .const v => v
  | .func g => .func (.func g) #[] #[]
  | .global _ => unk

theorem ActRel.ev {φ : Phi} {N : Nat} {st : St} {a : Act} (r : ActRel φ N st a) {x : Operand} (h : opdOk N x = true) : VRel φ (ev st.f x) (a.eval x) := by
  cases x with
  | tmp t => exact r.tmps t (by simpa [opdOk] using h)
  | const v => exact .constV h
  | func g => exact .func (fn := .func g) (fn' := .func g) rfl rfl (fun i h => by simp at h) rfl (fun i h => by simp at h)
  | global g => simp [opdOk] at h

theorem snd_cond {P : Program} {N : Nat} {ro : Option Nat} {x : Operand} {c d : Code} {st st' : St} {ex : Ex} {t : Bool} (ho : opdOk N x = true) (hx : ev st.f x = .bool t) (h : SndCode P N ro (if t then c else d) st ex st') :
    SndCode P N ro (.cond x c d) st ex st' := by
  intro φ b k base a w rc hr ha hc he
  obtain ⟨φ₁, ex₁, a₁, w₁, rc₁, x1, r1, t1, a1, c1, s1, arr⟩ := h φ b k base a w rc hr ha hc he
  have hv := ha.ev ho
  rw [hx] at hv
  exact ⟨φ₁, ex₁, a₁, w₁, rc₁, x1, r1, t1, a1, c1, s1, .of_steps (.one (stepR_cond hv.bool_inv)) arr⟩

def Ex.outOf (id : Nat) : Ex → Ex
  | .exit i => if i = id then .normal else .exit i
  | e => e

theorem snd_block {P : Program} {N id : Nat} {ro : Option Nat} {c : Code} {st st' : St} {ex : Ex} (h : SndCode P N ro c st ex st') : SndCode P N ro (.block id c) st (ex.outOf id) st' := by
  intro φ b k base a w rc hr ha hc he
  obtain ⟨φ₁, ex₁, a₁, w₁, rc₁, x1, r1, t1, a1, c1, s1, arr⟩ := h φ b (.inBlock id :: k) base a w rc hr ha hc he
  cases ex with
  | normal =>
    cases x1.normal_inv
    exact ⟨φ₁, .normal, a₁, w₁, rc₁, trivial, r1, t1, a1, c1, s1, .head stepR_block (Steps.trans arr (.one stepR_inBlock))⟩
  | ret =>
    cases ex₁ <;> simp only [ExRel] at x1
    obtain ⟨k1, s⟩ := arr
    exact ⟨φ₁, .ret, a₁, w₁, rc₁, trivial, r1, t1, a1, c1, s1, k1, .head stepR_block s⟩
  | panic v =>
    cases ex₁ <;> simp only [ExRel] at x1
    obtain ⟨k1, n, s⟩ := arr
    exact ⟨φ₁, .panic _, a₁, w₁, rc₁, x1, r1, t1, a1, c1, s1, k1, n, .head stepR_block s⟩
  | exit i =>
    cases ex₁ <;> simp only [ExRel] at x1
    subst x1
    obtain ⟨k1, e, s⟩ := arr
    by_cases hid : i = id
    · rw [show Ex.outOf id (.exit i) = .normal from if_pos hid]
      refine ⟨φ₁, .normal, a₁, w₁, rc₁, trivial, r1, t1, a1, c1, s1, .head stepR_block (Steps.trans s (.one (stepR_exit ?_)))⟩
      rw [e]; simp [exitTo, hid]
    · rw [show Ex.outOf id (.exit i) = .exit i from if_neg hid]
      refine ⟨φ₁, .exit i, a₁, w₁, rc₁, rfl, r1, t1, a1, c1, s1, k1, ?_, .head stepR_block s⟩
      have : (id == i) = false := by simp; exact fun h => hid h.symm
      rw [e]; simp [exitTo, this]

def SndHead (P : Program) (N : Nat) (ro : Option Nat) (c : Code) (st : St) (ex : Ex) (st' : St) : Prop :=
  ∀ (φ : Phi) (b : Frame) (k : List Item) (base : List Frame) (a : Act) (w : World) (rc : Option (Value × Bool)),
    RelH φ st.h w → ActRel φ N st a → RcRel φ st.rc rc → Env φ ro b base rc →
    ∃ φ' ex' a' w' rc', ExRel φ' ex ex' ∧ RelH φ' st'.h w' ∧ Tr φ st.h w φ' st'.h w' ∧ ActRel φ' N st' a' ∧ RcRel φ' st'.rc rc' ∧ rc'.isSome = rc.isSome ∧
      ArrC P (lone (b.atR a (.code c :: .inLoop c :: k)) (mkCs base rc) w) b k (mkCs base rc') a' w' ex'

theorem head_out {P : Program} {N : Nat} {ro : Option Nat} {c : Code} {st st' : St} {ex : Ex} (hn : ex ≠ .normal) (h : SndCode P N ro c st ex st') : SndHead P N ro c st ex st' := by
  intro φ b k base a w rc hr ha hc he
  obtain ⟨φ₁, ex₁, a₁, w₁, rc₁, x1, r1, t1, a1, c1, s1, arr⟩ := h φ b (.inLoop c :: k) base a w rc hr ha hc he
  exact ⟨φ₁, ex₁, a₁, w₁, rc₁, x1, r1, t1, a1, c1, s1, arr.plain (fun _ => rfl) (x1.ne_normal hn)⟩

theorem head_next {P : Program} {N : Nat} {ro : Option Nat} {c : Code} {st st₁ st' : St} {ex : Ex} (h : SndCode P N ro c st .normal st₁) (h2 : SndHead P N ro c st₁ ex st') : SndHead P N ro c st ex st' := by
  intro φ b k base a w rc hr ha hc he
  obtain ⟨φ₁, ex₁, a₁, w₁, rc₁, x1, r1, t1, a1, c1, s1, arr⟩ := h φ b (.inLoop c :: k) base a w rc hr ha hc he
  cases x1.normal_inv
  obtain ⟨φ₂, ex₂, a₂, w₂, rc₂, x2, r2, t2, a2, c2, s2, arr2⟩ := h2 φ₁ b k base a₁ w₁ rc₁ r1 a1 c1 (he.mono t1.le s1)
  exact ⟨φ₂, ex₂, a₂, w₂, rc₂, x2, r2, t1.trans t2, a2, c2, s2.trans s1, .of_steps (Steps.trans arr (.one stepR_inLoop)) arr2⟩

theorem snd_loop {P : Program} {N : Nat} {ro : Option Nat} {c : Code} {st st' : St} {ex : Ex} (h : SndHead P N ro c st ex st') : SndCode P N ro (.loop c) st ex st' := by
  intro φ b k base a w rc hr ha hc he
  obtain ⟨φ₁, ex₁, a₁, w₁, rc₁, x1, r1, t1, a1, c1, s1, arr⟩ := h φ b k base a w rc hr ha hc he
  exact ⟨φ₁, ex₁, a₁, w₁, rc₁, x1, r1, t1, a1, c1, s1, .of_steps (.one stepR_loop) arr⟩
end Go.E
namespace Go.E
open Go

def setT (f : Nat → Value) (dst : Option Nat) (v : Value) : Nat → Value :=
  match dst with
  | none => f
  | some d => fun t => if t = d then v else f t

def St.put (st : St) (dst : Option Nat) (v : Value) (h : EH) : St := { st with f := setT st.f dst v, h := h }

theorem Act.put_size {a : Act} {dst : Option Nat} {v : Value} : (a.put dst v).tmps.size = a.tmps.size := by
  cases dst <;> simp [Act.put]

theorem Act.put_defers {a : Act} {dst : Option Nat} {v : Value} : (a.put dst v).defers = a.defers := by
  cases dst <;> simp [Act.put]

theorem setT_rel {φ : Phi} {N : Nat} {f : Nat → Value} {a : Act} {dst : Option Nat} {v v' : Value} (hs : a.tmps.size = N) (h : ∀ t, t < N → VRel φ (f t) (a.tmps.getD t undef)) (r : VRel φ v v') :
    ∀ t, t < N → VRel φ (setT f dst v t) ((a.put dst v').tmps.getD t undef) := by
  intro t ht
  cases dst with
  | none => exact h t ht
  | some d =>
    simp only [setT, Act.put]
    by_cases hd : t = d
    · subst hd
      rw [if_pos rfl]
      simp only [Array.getD, Array.size_setIfInBounds, hs, ht, dif_pos]
      simpa using r
    · rw [if_neg hd]
      have := h t ht
      simp only [Array.getD, Array.size_setIfInBounds, hs, ht, dif_pos] at this ⊢
      have e : (a.tmps.setIfInBounds d v')[t]'(by simp; omega) = a.tmps[t]'(by omega) := by
        rw [Array.getElem_setIfInBounds]
        rw [if_neg (fun h => hd h.symm)]
      simp only [Array.getInternal_eq_getElem] at this ⊢
      rw [e]; exact this

theorem ActRel.put {φ : Phi} {N : Nat} {st : St} {a : Act} {dst : Option Nat} {v v' : Value} {h : EH} (r : ActRel φ N st a) (hv : VRel φ v v') : ActRel φ N (st.put dst v h) (a.put dst v') :=
  ⟨by rw [Act.put_size]; exact r.size, setT_rel r.size r.tmps hv, by rw [Act.put_defers]; exact r.ds⟩

def wantE (N : Nat) (ops : Array Oper) (f : Nat → Value) (o : Oper) : Option Bool :=
  match o.guard with
  | none => some true
  | some (j, w) =>
    match (ops[j]?).bind (·.dst) with
    | none => some false
    | some d =>
      if d < N then
        match f d with
        | .bool b => some (b == w)
        | .tuple _ => some false
        | _ => none
      else some false

theorem wantE_ok {φ : Phi} {N : Nat} {ops : Array Oper} {st : St} {a : Act} {o : Oper} {t : Bool} (r : ActRel φ N st a) (h : wantE N ops st.f o = some t) : Region.wanted o (yielded ops a.tmps) = t := by
  unfold wantE at h
  unfold Region.wanted
  cases hg : o.guard with
  | none => simp only [hg, Option.some.injEq] at h ⊢; exact h
  | some jw =>
    obtain ⟨j, w⟩ := jw
    simp only [hg] at h ⊢
    unfold yielded
    cases hd : (ops[j]?).bind (·.dst) with
    | none => simp only [hd, Option.some.injEq] at h; subst h; simp
    | some d =>
      simp only [hd] at h
      simp only [Option.bind_some]
      by_cases hN : d < N
      · rw [if_pos hN] at h
        have hr := r.tmps d hN
        have hget : a.tmps[d]? = some (a.tmps.getD d undef) := by
          have : d < a.tmps.size := by rw [r.size]; exact hN
          simp [Array.getD, this]
        rw [hget]
        cases hf : st.f d <;> rw [hf] at h hr <;> simp only [Option.some.injEq, reduceCtorEq] at h
        · rw [hr.bool_inv]; subst h
          rename_i b; cases b <;> cases w <;> rfl
        · obtain ⟨a', e, _⟩ := hr.tuple_inv
          rw [e]; subst h; rfl
      · rw [if_neg hN] at h
        have hd' : a.tmps[d]? = none := Array.getElem?_eq_none (by rw [r.size]; exact Nat.le_of_not_lt hN)
        rw [hd']; cases h; rfl

def SndOp (P : Program) (N : Nat) (ro : Option Nat) (o : Oper) (st : St) (ex : Ex) (st' : St) : Prop :=
  ∀ (φ : Phi) (b : Frame) (ops : Array Oper) (i : Nat) (rest : List Nat) (k : List Item) (base : List Frame) (a : Act) (w : World) (rc : Option (Value × Bool)),
    ops[i]? = some o → Region.wanted o (yielded ops a.tmps) = true → RelH φ st.h w → ActRel φ N st a → RcRel φ st.rc rc → Env φ ro b base rc →
    ∃ φ' ex' a' w' rc', ExRel φ' ex ex' ∧ RelH φ' st'.h w' ∧ Tr φ st.h w φ' st'.h w' ∧ ActRel φ' N st' a' ∧ RcRel φ' st'.rc rc' ∧ rc'.isSome = rc.isSome ∧
      ArrC P (lone (b.atR a (.inRegion ops (i :: rest) :: k)) (mkCs base rc) w) b (.inRegion ops rest :: k) (mkCs base rc') a' w' ex'

def opOk (N : Nat) (o : Oper) : Bool := o.op.operands.all (opdOk N)

theorem opOk_ev {φ : Phi} {N : Nat} {o : Oper} {st : St} {a : Act} (h : opOk N o = true) (r : ActRel φ N st a) : ∀ x ∈ o.op.operands, VRel φ (ev st.f x) (a.eval x) := by
  intro x hx
  have := Array.all_eq_true'.1 h x hx
  exact r.ev this

theorem estep_not_defer {P : Program} {o : Oper} {ρ : Operand → Value} {h : EH} {x : Value × EH} (e : estep P o.op ρ h = some x) : ∀ c, o.op ≠ .defer c := by
  intro c hc
  rw [hc] at e
  simp [estep] at e

theorem snd_simple {P : Program} {N : Nat} {ro : Option Nat} {o : Oper} {st : St} {v : Value} {h' : EH} (ho : opOk N o = true) (e : estep P o.op (ev st.f) st.h = some (v, h')) :
    SndOp P N ro o st .normal (st.put o.dst v h') := by
  intro φ b ops i rest k base a w rc hi hw hr ha hc he
  obtain ⟨φ', v', w', n, hrun, hn, hv, hr', ht⟩ := estep_ok hr (opOk_ev ho ha) e
  refine ⟨φ', .normal, a.put o.dst v', w', rc, trivial, hr', ht, (ha.mono ht.le).put hv, hc.mono ht.le, rfl, ?_⟩
  refine .one (step_lone_go ?_)
  have hg := stepGR_op (P := P) (b := b) (k := k) (cs := mkCs base rc) (w := w) (rest := rest) hi hw
  have hfin : ∀ v, (b.atR a (.inRegion ops (i :: rest) :: k)).finish v = b.atR (a.put o.dst v) (.inRegion ops rest :: k) := by
    intro v; rw [Frame.finish_atR, hi]; rfl
  rw [hg, Oper.semAt_eq _ _ _ (estep_not_defer e), ← hfin]
  rcases hn with rfl | ⟨rfl, rfl⟩
  · simp [stepG.apply, hrun]
  · simp [stepG.apply, hrun]

inductive Out where
  | ret (v : Value)
  | pan (v : Value)

def Out.left (P : Program) (φ : Phi) (fr : Frame) (w : World) : Out → Prop
  | .ret v => ∃ v', VRel φ v v' ∧ fr.leaving P w (.returned v')
  | .pan v => ∃ v', VRel φ v v' ∧ fr.leaving P w (.panicked [{ v := v', recovered := false }])

def SndFn (P : Program) (g : FuncId) (args : Array Value) (h : EH) (out : Out) (h' : EH) : Prop :=
  ∀ (φ : Phi) (args' : Array Value) (w : World) (cs : List Frame), RelH φ h w → VsRel φ args args' →
    ∃ φ' w' fr, RelH φ' h' w' ∧ Tr φ h w φ' h' w' ∧ Steps P (lone (Frame.enter P g args' .normal) cs w) (lone fr cs w') ∧ fr.fn = g ∧ out.left P φ' fr w'

def fnOk (P : Program) (g : FuncId) : Bool :=
  match P.funcs[g]? with
  | some fn => fn.name != "runtime.NumGoroutine" && fn.body.isSome
  | none => false

theorem callFunc_run {P : Program} {g : FuncId} {args : Array Value} {w : World} (h : fnOk P g = true) : (callFunc g args).run P w = .ok (.enter g args) w := by
  unfold fnOk at h
  unfold callFunc
  split at h
  · rename_i fn hf
    simp only [Bool.and_eq_true, bne_iff_ne, ne_eq] at h
    have h2 : fn.body.isNone = false := by cases hb : fn.body <;> simp_all
    have hp : (program : Sem Program).run P w = .ok P w := rfl
    have hn : (fn.name == "runtime.NumGoroutine") = false := by simpa using h.1
    simp only [Sem.run_bind, hp, Result.andThen_ok, hf, h2, hn, Bool.false_eq_true, if_false]
    rfl
  · simp at h

def callee (f : Nat → Value) (op : Op) : Option (FuncId × Array Value) :=
  match op with
  | .call c =>
    match c.callee with
    | .value x =>
      match ev f x with
      | .func (.func g) fs cs => some (g, fs ++ c.args.map (ev f) ++ cs)
      | _ => none
    | _ => none
  | _ => none

theorem callee_run {P : Program} {φ : Phi} {N : Nat} {o : Oper} {st : St} {a : Act} {g : FuncId} {args : Array Value} {w : World} (hk : opOk N o = true) (ha : ActRel φ N st a) (e : callee st.f o.op = some (g, args)) (hf : fnOk P g = true) :
    (∀ c, o.op ≠ .defer c) ∧ ∃ args', VsRel φ args args' ∧ (execOp a.eval o).run P w = .ok (.enter g args') w := by
  have hρ := opOk_ev hk ha
  obtain ⟨dst, op, type, pos, after, guard⟩ := o
  simp only at e hρ ⊢
  unfold callee at e
  split at e
  · rename_i c
    refine ⟨by simp, ?_⟩
    split at e
    · rename_i x hx
      have rx : VRel φ (ev st.f x) (a.eval x) := hρ x (by simp [Op.operands, Call.operands, hx])
      split at e
      · rename_i g' fs cs hv
        simp only [Option.some.injEq, Prod.mk.injEq] at e
        obtain ⟨rfl, rfl⟩ := e
        rw [hv] at rx
        obtain ⟨fn', fs', cs', he, hfn, h1, h2⟩ := rx.func_inv
        have : fn' = .func g' := by cases fn' <;> simp_all [FnRel]
        subst this
        have ra : VsRel φ (c.args.map (ev st.f)) (c.args.map a.eval) := VsRel.map c.args fun y hy => hρ y (by simp [Op.operands, Call.operands, hx, hy])
        refine ⟨_, (h1.append ra).append h2, ?_⟩
        simp only [execOp, resolve, hx, he, Deferred.ofValue, invoke, pure_bind]
        exact callFunc_run hf
      · simp at e
    · simp at e
  · simp at e

theorem snd_call {P : Program} {N : Nat} {ro : Option Nat} {o : Oper} {st : St} {g : FuncId} {args : Array Value} {v : Value} {h' : EH} (hk : opOk N o = true) (e : callee st.f o.op = some (g, args)) (hf : fnOk P g = true)
    (hs : SndFn P g args st.h (.ret v) h') : SndOp P N ro o st .normal (st.put o.dst v h') := by
  intro φ b ops i rest k base a w rc hi hw hr ha hc he
  obtain ⟨hnd, args', hargs, hrun⟩ := callee_run (w := w) hk ha e hf
  obtain ⟨φ', w', fr, hr', ht, hst, hfn, v', hv, hl⟩ := hs φ args' w (b.atR a (.inRegion ops (i :: rest) :: k) :: mkCs base rc) hr hargs
  refine ⟨φ', .normal, a.put o.dst v', w', rc, trivial, hr', ht, (ha.mono ht.le).put hv, hc.mono ht.le, rfl, ?_⟩
  have hg := stepGR_op (P := P) (b := b) (k := k) (cs := mkCs base rc) (w := w) (rest := rest) hi hw
  rw [Oper.semAt_eq _ _ _ hnd] at hg
  have hfin : ∀ v, (b.atR a (.inRegion ops (i :: rest) :: k)).finish v = b.atR (a.put o.dst v) (.inRegion ops rest :: k) := by
    intro v; rw [Frame.finish_atR, hi]; rfl
  have henter : step P (lone (b.atR a (.inRegion ops (i :: rest) :: k)) (mkCs base rc) w) =
      .next (lone (Frame.enter P g args' .normal) (b.atR a (.inRegion ops (i :: rest) :: k) :: mkCs base rc) w) :=
    step_lone_go (by rw [hg]; simp [stepG.apply, hrun, Frame.atR])
  refine .head henter (hst.trans (.one ?_))
  rw [← hfin]; exact step_leave_returned hl

theorem snd_call_panic {P : Program} {N : Nat} {ro : Option Nat} {o : Oper} {st : St} {g : FuncId} {args : Array Value} {v : Value} {h' : EH} (hk : opOk N o = true) (e : callee st.f o.op = some (g, args)) (hf : fnOk P g = true)
    (hs : SndFn P g args st.h (.pan v) h') : SndOp P N ro o st (.panic v) { st with h := h' } := by
  intro φ b ops i rest k base a w rc hi hw hr ha hc he
  obtain ⟨hnd, args', hargs, hrun⟩ := callee_run (w := w) hk ha e hf
  obtain ⟨φ', w', fr, hr', ht, hst, hfn, v', hv, hl⟩ := hs φ args' w (b.atR a (.inRegion ops (i :: rest) :: k) :: mkCs base rc) hr hargs
  have ham := ha.mono ht.le
  refine ⟨φ', .panic v', a, w', rc, hv, hr', ht, ⟨ham.size, ham.tmps, ham.ds⟩, hc.mono ht.le, rfl, ?_⟩
  have hg := stepGR_op (P := P) (b := b) (k := k) (cs := mkCs base rc) (w := w) (rest := rest) hi hw
  rw [Oper.semAt_eq _ _ _ hnd] at hg
  have henter : step P (lone (b.atR a (.inRegion ops (i :: rest) :: k)) (mkCs base rc) w) =
      .next (lone (Frame.enter P g args' .normal) (b.atR a (.inRegion ops (i :: rest) :: k) :: mkCs base rc) w) :=
    step_lone_go (by rw [hg]; simp [stepG.apply, hrun, Frame.atR])
  refine ⟨.inRegion ops (i :: rest) :: k, rfl, .head henter (hst.trans (.one ?_))⟩
  rw [← Frame.raise_atR]; exact step_leave_panicked hl

theorem snd_panic {P : Program} {N : Nat} {ro : Option Nat} {o : Oper} {st : St} {x : Operand} {t : TypeId} {u : Value} (hk : opOk N o = true) (ho : o.op = .panic x) (hx : ev st.f x = .iface t u) :
    SndOp P N ro o st (.panic (.iface t u)) st := by
  intro φ b ops i rest k base a w rc hi hw hr ha hc he
  have rx := opOk_ev hk ha x (by simp [ho, Op.operands])
  rw [hx] at rx
  refine ⟨φ, .panic (a.eval x), a, w, rc, rx, hr, hr.tr, ha, hc, rfl, .inRegion ops (i :: rest) :: k, rfl, .one (step_lone_go ?_)⟩
  obtain ⟨u', e, _⟩ := rx.iface_inv
  have hg := stepGR_op (P := P) (b := b) (k := k) (cs := mkCs base rc) (w := w) (rest := rest) hi hw
  have hrun : (execOp a.eval o).run P w = .halt (.panic (a.eval x)) w := by
    obtain ⟨dst, op, type, pos, after, guard⟩ := o
    simp only at ho
    subst ho
    simp only [execOp, e, Instr.panic]
    rfl
  rw [hg, Oper.semAt_eq _ _ _ (by simp [ho]), ← Frame.raise_atR]
  simp [stepG.apply, hrun]

def SndOps (P : Program) (N : Nat) (ro : Option Nat) (ops : Array Oper) (l : List Nat) (st : St) (ex : Ex) (st' : St) : Prop :=
  ∀ (φ : Phi) (b : Frame) (k : List Item) (base : List Frame) (a : Act) (w : World) (rc : Option (Value × Bool)),
    RelH φ st.h w → ActRel φ N st a → RcRel φ st.rc rc → Env φ ro b base rc →
    ∃ φ' ex' a' w' rc', ExRel φ' ex ex' ∧ RelH φ' st'.h w' ∧ Tr φ st.h w φ' st'.h w' ∧ ActRel φ' N st' a' ∧ RcRel φ' st'.rc rc' ∧ rc'.isSome = rc.isSome ∧
      ArrC P (lone (b.atR a (.inRegion ops l :: k)) (mkCs base rc) w) b k (mkCs base rc') a' w' ex'

theorem ops_nil {P : Program} {N : Nat} {ro : Option Nat} {ops : Array Oper} {st : St} : SndOps P N ro ops [] st .normal st :=
  fun φ _ _ _ a w rc hr ha hc _ => ⟨φ, .normal, a, w, rc, trivial, hr, hr.tr, ha, hc, rfl, .one stepR_region_end⟩

theorem ops_skip {P : Program} {N : Nat} {ro : Option Nat} {ops : Array Oper} {i : Nat} {l : List Nat} {o : Oper} {st st' : St} {ex : Ex} (hi : ops[i]? = some o) (hw : wantE N ops st.f o = some false)
    (h : SndOps P N ro ops l (st.put o.dst undef st.h) ex st') : SndOps P N ro ops (i :: l) st ex st' := by
  intro φ b k base a w rc hr ha hc he
  have hw' := wantE_ok ha hw
  obtain ⟨φ', ex', a', w', rc', x1, r1, t1, a1, c1, s1, arr⟩ := h φ b k base (a.put o.dst undef) w rc hr (ha.put .undef) hc he
  refine ⟨φ', ex', a', w', rc', x1, r1, t1, a1, c1, s1, .of_steps (.one ?_) arr⟩
  have hs := stepR_op_skip (P := P) (b := b) (a := a) (k := k) (cs := mkCs base rc) (w := w) (ops := ops) (i := i) (rest := l) (by simp [hi, hw'])
  simpa only [hi, Option.bind_some] using hs

theorem ops_cons {P : Program} {N : Nat} {ro : Option Nat} {ops : Array Oper} {i : Nat} {l : List Nat} {o : Oper} {st st₁ st' : St} {ex : Ex} (hi : ops[i]? = some o) (hw : wantE N ops st.f o = some true)
    (h1 : SndOp P N ro o st .normal st₁) (h : SndOps P N ro ops l st₁ ex st') : SndOps P N ro ops (i :: l) st ex st' := by
  intro φ b k base a w rc hr ha hc he
  obtain ⟨φ₁, ex₁, a₁, w₁, rc₁, x1, r1, t1, a1, c1, s1, arr⟩ := h1 φ b ops i l k base a w rc hi (wantE_ok ha hw) hr ha hc he
  cases x1.normal_inv
  obtain ⟨φ₂, ex₂, a₂, w₂, rc₂, x2, r2, t2, a2, c2, s2, arr2⟩ := h φ₁ b k base a₁ w₁ rc₁ r1 a1 c1 (he.mono t1.le s1)
  exact ⟨φ₂, ex₂, a₂, w₂, rc₂, x2, r2, t1.trans t2, a2, c2, s2.trans s1, .of_steps arr arr2⟩

theorem ops_out {P : Program} {N : Nat} {ro : Option Nat} {ops : Array Oper} {i : Nat} {l : List Nat} {o : Oper} {st st' : St} {ex : Ex} (hi : ops[i]? = some o) (hw : wantE N ops st.f o = some true)
    (h1 : SndOp P N ro o st ex st') (hn : ex ≠ .normal) : SndOps P N ro ops (i :: l) st ex st' := by
  intro φ b k base a w rc hr ha hc he
  obtain ⟨φ₁, ex₁, a₁, w₁, rc₁, x1, r1, t1, a1, c1, s1, arr⟩ := h1 φ b ops i l k base a w rc hi (wantE_ok ha hw) hr ha hc he
  exact ⟨φ₁, ex₁, a₁, w₁, rc₁, x1, r1, t1, a1, c1, s1, arr.plain (fun _ => rfl) (x1.ne_normal hn)⟩

theorem snd_region {P : Program} {N : Nat} {ro : Option Nat} {id : Nat} {ops : Array Oper} {st st' : St} {ex : Ex} (h : SndOps P N ro ops (List.range ops.size) st ex st') : SndCode P N ro (.region id ops false) st ex st' := by
  intro φ b k base a w rc hr ha hc he
  obtain ⟨φ₁, ex₁, a₁, w₁, rc₁, x1, r1, t1, a1, c1, s1, arr⟩ := h φ b k base a w rc hr ha hc he
  exact ⟨φ₁, ex₁, a₁, w₁, rc₁, x1, r1, t1, a1, c1, s1, .of_steps (.one stepR_region) arr⟩
end Go.E
namespace Go.E
open Go

theorem load_pure {P : Program} {φ : Phi} {h : EH} {w : World} {t : TypeId} {a a' v : Value} (r : RelH φ h w) (ra : VRel φ a a') (e : eLoad P t a h = some v) :
    ∃ v', (do loadVar t (← asAddr a') : Sem Value).run P w = .ok v' w ∧ VRel φ v v' := by
  unfold eLoad at e
  split at e
  · rename_i b off
    obtain ⟨loc, hb, rfl⟩ := ra.ptr_inv
    cases hu : P.underlying t with
    | none => simp [hu] at e
    | some d =>
      cases hs : szOf P t with
      | none => simp [hu, hs] at e
      | some n =>
        simp only [hu, hs] at e
        cases hd : aggD d with
        | true =>
          simp only [hd, if_true, Option.map_eq_some_iff] at e
          obtain ⟨l, hl, rfl⟩ := e
          obtain ⟨vs', e1, e2⟩ := r.load (P := P) hb hl
          refine ⟨.agg vs', ?_, .agg e2.1 e2.2⟩
          simp [asAddr, loadVar, run_isAgg w hu, hd, run_szOf w hs, e1]
        | false =>
          simp only [hd, Bool.false_eq_true, if_false] at e
          cases hl : rowOf h b off 1 with
          | none => simp [hl] at e
          | some l =>
            simp only [hl, Option.bind_some] at e
            obtain ⟨c, el, fr, h1, h2, h3, h4⟩ := r.row hb hl
            obtain ⟨u, u', f1, f2, f3⟩ := h4 0 (by omega)
            rw [f1] at e; cases e
            refine ⟨u', ?_, f3⟩
            have hc : w.cell? ⟨loc.blk, loc.δ + off, none⟩ = some u' := by rw [cell_eq h1]; exact f2
            simp [asAddr, loadVar, run_isAgg w hu, hd, hc]
  · simp at e

def eResult (P : Program) (N : Nat) (f : Nat → Value) (h : EH) : ResultVar → Option Value
  | .tmp t => if t < N then some (f t) else none
  | .cell a t => if a < N then eLoad P t (f a) h else none

def eRes (P : Program) (N : Nat) (f : Nat → Value) (h : EH) : List ResultVar → Option (List Value)
  | [] => some []
  | r :: rs => match eResult P N f h r, eRes P N f h rs with
    | some v, some vs => some (v :: vs)
    | _, _ => none

def eResults (P : Program) (N : Nat) (rs : Array ResultVar) (f : Nat → Value) (h : EH) : Option Value :=
  (eRes P N f h rs.toList).map fun vs => match vs with
    | [v] => v
    | vs => .tuple vs.toArray

def getResult (tmps : Array Value) : ResultVar → Sem Value
  | .tmp t => pure (tmps.getD t undef)
  | .cell a t => do loadVar t (← asAddr (tmps.getD a undef))

theorem results_eq (fn : Func) (tmps : Array Value) : results fn tmps = (fn.results.mapM (getResult tmps) >>= fun vs => pure (if h : vs.size = 1 then vs[0] else .tuple vs)) := by
  unfold results
  congr 1

theorem eRes_run {P : Program} {φ : Phi} {N : Nat} {f : Nat → Value} {h : EH} {w : World} {tmps : Array Value} (hr : RelH φ h w) (hf : ∀ t, t < N → VRel φ (f t) (tmps.getD t undef)) :
    ∀ (rs : List ResultVar) (vs : List Value), eRes P N f h rs = some vs → ∃ vs', (rs.mapM (getResult tmps)).run P w = .ok vs' w ∧ VsRel φ vs.toArray vs'.toArray
  | [], vs, e => by
    simp only [eRes, Option.some.injEq] at e
    subst e
    exact ⟨[], rfl, rfl, fun i h _ => by simp at h⟩
  | r :: rs, vs, e => by
    simp only [eRes] at e
    split at e
    · rename_i v vs0 e1 e2
      simp only [Option.some.injEq] at e
      subst e
      obtain ⟨vs', g1, g2⟩ := eRes_run hr hf rs vs0 e2
      have : ∃ v', (getResult tmps r).run P w = .ok v' w ∧ VRel φ v v' := by
        cases r with
        | tmp t =>
          simp only [eResult, Option.ite_none_right_eq_some, Option.some.injEq] at e1
          obtain ⟨ht, rfl⟩ := e1
          exact ⟨_, rfl, hf t ht⟩
        | cell a t =>
          simp only [eResult, Option.ite_none_right_eq_some] at e1
          exact load_pure hr (hf a e1.1) e1.2
      obtain ⟨v', k1, k2⟩ := this
      refine ⟨v' :: vs', ?_, ?_⟩
      · rw [List.mapM_cons]
        simp only [Sem.run_bind, k1, g1, Result.andThen_ok, Sem.run_pure]
      · refine ⟨by simpa using g2.1, fun i x y => ?_⟩
        cases i with
        | zero => simpa using k2
        | succ i =>
          have := g2.2 i (by simpa using x) (by simpa using y)
          simpa using this
    · simp at e

theorem eResults_run {P : Program} {φ : Phi} {N : Nat} {fn : Func} {f : Nat → Value} {h : EH} {w : World} {tmps : Array Value} {v : Value} (hr : RelH φ h w) (hf : ∀ t, t < N → VRel φ (f t) (tmps.getD t undef))
    (e : eResults P N fn.results f h = some v) : ∃ v', (results fn tmps).run P w = .ok v' w ∧ VRel φ v v' := by
  simp only [eResults, Option.map_eq_some_iff] at e
  obtain ⟨vs, e1, e2⟩ := e
  obtain ⟨vs', g1, g2⟩ := eRes_run hr hf _ _ e1
  rw [results_eq]
  have hm : (fn.results.mapM (getResult tmps)).run P w = .ok vs'.toArray w := by
    rw [Array.mapM_eq_mapM_toList]
    simp only [Sem.run_map, g1, Result.andThen_ok]
  simp only [Sem.run_bind, hm, Result.andThen_ok]
  have hsz : vs.length = vs'.length := by simpa using g2.1
  match vs, vs', hsz, e2, g2 with
  | [u], [u'], _, e2, g2 =>
    simp only at e2
    subst e2
    exact ⟨u', rfl, by simpa using g2.2 0 (by simp) (by simp)⟩
  | [], [], _, e2, g2 =>
    subst e2
    exact ⟨_, rfl, .tuple g2.1 g2.2⟩
  | u :: u2 :: us, u' :: u2' :: us', _, e2, g2 =>
    subst e2
    refine ⟨.tuple (u' :: u2' :: us').toArray, ?_, .tuple g2.1 g2.2⟩
    rw [dif_neg (by simp)]
    rfl

def initF (args : Array Value) : Nat → Value := fun t => args.getD t undef

def initSt (args : Array Value) (h : EH) (rc : Option (Value × Bool)) : St := { f := initF args, ds := [], h, rc }

theorem getD_append_replicate {args : Array Value} {N t : Nat} : (args ++ Array.replicate (N - args.size) undef).getD t undef = args.getD t undef := by
  simp only [Array.getD_eq_getD_getElem?]
  by_cases h : t < args.size
  · rw [Array.getElem?_append_left h]
  · rw [Array.getElem?_append_right (by omega), Array.getElem?_eq_none (xs := args) (by omega)]
    by_cases h2 : t - args.size < N - args.size
    · rw [Array.getElem?_eq_getElem (by simpa using h2)]; simp
    · rw [Array.getElem?_eq_none (by simpa using h2)]

theorem ActRel.enter {φ : Phi} {args args' : Array Value} {h : EH} {rc : Option (Value × Bool)} {N : Nat} (ra : VsRel φ args args') (hN : args.size ≤ N) :
    ActRel φ N (initSt args h rc) { tmps := args' ++ Array.replicate (N - args'.size) undef, defers := [] } := by
  have := ra.1
  refine ⟨by simp; omega, fun t _ => ?_, trivial⟩
  rw [getD_append_replicate]
  simp only [initSt, initF, Array.getD_eq_getD_getElem?]
  by_cases h : t < args.size
  · rw [Array.getElem?_eq_getElem h, Array.getElem?_eq_getElem (xs := args') (by omega)]
    exact ra.2 t h (by omega)
  · rw [Array.getElem?_eq_none (xs := args) (by omega), Array.getElem?_eq_none (xs := args') (by omega)]
    exact .undef

def md : Option Value → FrameMode
  | none => .returning
  | some v => .panicking [{ v, recovered := false }]

def SndEnd (P : Program) (fn : Func) (st : St) (pm : Option Value) (out : Out) (h' : EH) : Prop :=
  ∀ (φ : Phi) (b : Frame) (todo : List Item) (cs : List Frame) (a : Act) (w : World) (pm' : Option Value),
    b.kind = .normal → b.roundOf = none → P.funcs[b.fn]? = some fn → RelH φ st.h w → ActRel φ fn.ntmps st a → OptRel φ pm pm' →
    ∃ φ' w' fr, RelH φ' h' w' ∧ Tr φ st.h w φ' h' w' ∧ Steps P (lone { b.atR a todo with mode := md pm' } cs w) (lone fr cs w') ∧ fr.fn = b.fn ∧ out.left P φ' fr w'

theorem DsRel.nil_inv {φ : Phi} {ds : List Deferred} (h : DsRel φ [] ds) : ds = [] := by cases ds <;> simp_all [DsRel]

theorem end_ret {P : Program} {fn : Func} {st : St} {v : Value} (hd : st.ds = []) (e : eResults P fn.ntmps fn.results st.f st.h = some v) : SndEnd P fn st none (.ret v) st.h := by
  intro φ b todo cs a w pm' hk hro hf hr ha hp
  have : pm' = none := by cases pm' <;> simp_all [OptRel]
  subst this
  have hds := ha.ds
  rw [hd] at hds
  obtain ⟨v', e1, e2⟩ := eResults_run hr ha.tmps e
  exact ⟨φ, w, _, hr, hr.tr, .refl _ _, rfl, v', e2, rfl, hds.nil_inv, hk, fn, hf, e1⟩

theorem end_pan {P : Program} {fn : Func} {st : St} {v : Value} (hd : st.ds = []) : SndEnd P fn st (some v) (.pan v) st.h := by
  intro φ b todo cs a w pm' hk hro hf hr ha hp
  cases pm' with
  | none => simp [OptRel] at hp
  | some v' =>
    have hds := ha.ds
    rw [hd] at hds
    exact ⟨φ, w, _, hr, hr.tr, .refl _ _, rfl, v', hp, rfl, hds.nil_inv, fn, hf⟩

def afterDef (c : Frame) : Option (Value × Bool) → Frame
  | none => c
  | some (_, true) => { c with mode := .returning }
  | some (v, false) => { c with mode := .panicking [{ v, recovered := false }] }

def SndDef (P : Program) (g : FuncId) (args : Array Value) (h : EH) (rc : Option (Value × Bool)) (h' : EH) (rc' : Option (Value × Bool)) : Prop :=
  ∀ (φ : Phi) (args' : Array Value) (w : World) (c : Frame) (cs : List Frame) (r0 : Option (Value × Bool)), RelH φ h w → VsRel φ args args' → RcRel φ rc r0 → (r0 = none → c.mode = .returning) →
    ∃ φ' w' r1, RelH φ' h' w' ∧ Tr φ h w φ' h' w' ∧ RcRel φ' rc' r1 ∧ r1.isSome = r0.isSome ∧
      Steps P (lone (Frame.enter P g args' .deferred) (mkCs (c :: cs) r0) w) (lone (afterDef c r1) cs w')

theorem enter_eq {P : Program} {g : FuncId} {fn : Func} {c : Code} {args : Array Value} {kind : CallKind} (hf : P.funcs[g]? = some fn) (hb : fn.body = some c) :
    Frame.enter P g args kind = ({ (default : Frame) with fn := g, kind := kind } : Frame).atR { tmps := args ++ Array.replicate (fn.ntmps - args.size) undef, defers := [] } [.code c] := by
  simp [Frame.enter, Frame.atR, hf, hb]; rfl

def Ex.ends : Ex → Option (Option Value)
  | .normal => some none
  | .ret => some none
  | .panic v => some (some v)
  | .exit _ => none

theorem fn_of_code {P : Program} {g : FuncId} {fn : Func} {c : Code} {args : Array Value} {h h' : EH} {ex : Ex} {st' : St} {pm : Option Value} {out : Out} (hf : P.funcs[g]? = some fn) (hb : fn.body = some c) (hn : args.size ≤ fn.ntmps)
    (hc : SndCode P fn.ntmps none c (initSt args h none) ex st') (hx : ex.ends = some pm) (he : SndEnd P fn st' pm out h') : SndFn P g args h out h' := by
  intro φ args' w cs hr ha
  rw [enter_eq hf hb]
  let b : Frame := { (default : Frame) with fn := g, kind := .normal }
  have henv : Env φ none b cs none := ⟨by simp [b], trivial, fun _ a todo => by simp [tryRecover, Frame.atR, b], fun x hx => by simp at hx, fun h => by simp [b, default, instInhabitedFrame.default] at h⟩
  obtain ⟨φ₁, ex₁, a₁, w₁, rc₁, x1, r1, t1, a1, c1, s1, arr⟩ := hc φ b [] cs _ w none hr (.enter ha hn) trivial henv
  have hrc : rc₁ = none := by cases rc₁ <;> simp_all
  subst hrc
  cases ex with
  | exit id => simp [Ex.ends] at hx
  | normal =>
    cases x1.normal_inv
    cases hx
    obtain ⟨φ₂, w₂, fr, r2, t2, s2, f2, l2⟩ := he φ₁ b [] cs a₁ w₁ none rfl rfl hf r1 a1 trivial
    exact ⟨φ₂, w₂, fr, r2, t1.trans t2, Steps.trans arr (.head (stepR_end rfl) s2), f2, l2⟩
  | ret =>
    cases ex₁ <;> simp only [ExRel] at x1
    cases hx
    obtain ⟨k1, s⟩ := arr
    obtain ⟨φ₂, w₂, fr, r2, t2, s2, f2, l2⟩ := he φ₁ b (.code .ret :: k1) cs a₁ w₁ none rfl rfl hf r1 a1 trivial
    exact ⟨φ₂, w₂, fr, r2, t1.trans t2, Steps.trans s (.head (stepR_ret rfl) s2), f2, l2⟩
  | panic v =>
    cases ex₁ <;> simp only [ExRel] at x1
    cases hx
    obtain ⟨k1, _, s⟩ := arr
    obtain ⟨φ₂, w₂, fr, r2, t2, s2, f2, l2⟩ := he φ₁ b k1 cs a₁ w₁ (some _) rfl rfl hf r1 a1 x1
    exact ⟨φ₂, w₂, fr, r2, t1.trans t2, Steps.trans s s2, f2, l2⟩

theorem step_def_return {P : Program} {fr c : Frame} {cs : List Frame} {w : World} {fn : Func} {v : Value} {r1 : Option (Value × Bool)} (hm : fr.mode = .returning) (hd : fr.defers = []) (hk : fr.kind = .deferred) (hf : P.funcs[fr.fn]? = some fn)
    (hr : (results fn fr.tmps).run P w = .ok v w) (h0 : r1 = none → c.mode = .returning) : step P (lone fr (mkCs (c :: cs) r1) w) = .next (lone (afterDef c r1) cs w) := by
  refine step_lone_go ?_
  match r1, h0 with
  | none, h0 =>
    have := h0 rfl
    simp [stepG, unwind, doReturn, hm, hd, hk, hf, hr, mkCs, this, afterDef]
  | some (u, true), _ => simp [stepG, unwind, doReturn, hm, hd, hk, hf, hr, mkCs, afterDef]
  | some (u, false), _ => simp [stepG, unwind, doReturn, hm, hd, hk, hf, hr, mkCs, afterDef]

theorem def_of_code {P : Program} {g : FuncId} {fn : Func} {c : Code} {args : Array Value} {h : EH} {rc : Option (Value × Bool)} {ex : Ex} {st' : St} {v : Value} (hf : P.funcs[g]? = some fn) (hb : fn.body = some c) (hn : args.size ≤ fn.ntmps)
    (hc : SndCode P fn.ntmps none c (initSt args h rc) ex st') (hx : ex.ends = some none) (hd : st'.ds = []) (e : eResults P fn.ntmps fn.results st'.f st'.h = some v) : SndDef P g args h rc st'.h st'.rc := by
  intro φ args' w c cs r0 hr ha hrc h0
  rw [enter_eq hf hb]
  let b : Frame := { (default : Frame) with fn := g, kind := .deferred }
  have henv : Env φ none b (c :: cs) r0 := ⟨by simp [b], trivial, fun hn a todo => by simp [tryRecover, Frame.atR, b, h0 hn], fun x hx => ⟨rfl, by simp⟩, fun h => by simp [b, default, instInhabitedFrame.default] at h⟩
  obtain ⟨φ₁, ex₁, a₁, w₁, r1, x1, g1, t1, a1, c1, s1, arr⟩ := hc φ b [] (c :: cs) _ w r0 hr (.enter ha hn) hrc henv
  have hds := a1.ds
  rw [hd] at hds
  obtain ⟨v', e1, e2⟩ := eResults_run g1 a1.tmps e
  have h1 : r1 = none → c.mode = .returning := fun h => h0 (by subst h; cases r0 <;> simp_all)
  refine ⟨φ₁, w₁, r1, g1, t1, c1, s1, ?_⟩
  cases ex with
  | exit id => simp [Ex.ends] at hx
  | panic v => simp [Ex.ends] at hx
  | normal =>
    cases x1.normal_inv
    exact Steps.trans arr (.head (stepR_end rfl) (.one (step_def_return (fr := { b.atR a₁ [] with mode := .returning }) rfl hds.nil_inv rfl hf e1 h1)))
  | ret =>
    cases ex₁ <;> simp only [ExRel] at x1
    obtain ⟨k1, s⟩ := arr
    exact Steps.trans s (.head (stepR_ret rfl) (.one (step_def_return (fr := { b.atR a₁ (.code .ret :: k1) with mode := .returning }) rfl hds.nil_inv rfl hf e1 h1)))

def pmOf : Option (Value × Bool) → Option Value
  | some (v, false) => some v
  | _ => none

theorem end_defer {P : Program} {fn : Func} {st : St} {pm : Option Value} {out : Out} {h₁ h' : EH} {d : Deferred} {ds : List Deferred} {g : FuncId} {cs : Array Value} {rc' : Option (Value × Bool)} (hd : st.ds = d :: ds) (ht : d.target = .fn (.func g) cs) (hf : fnOk P g = true)
    (h1 : SndDef P g (d.args ++ cs) st.h (pm.map (·, false)) h₁ rc') (h2 : SndEnd P fn { st with ds := ds, h := h₁ } (pmOf rc') out h') : SndEnd P fn st pm out h' := by
  intro φ b todo cs0 a w pm' hk hro hfn hr ha hp
  have hds := ha.ds
  rw [hd] at hds
  obtain ⟨atmps, adefers⟩ := a
  simp only at hds
  cases adefers with
  | nil => simp [DsRel] at hds
  | cons d' ds' =>
    obtain ⟨hd1, hd2⟩ := hds
    obtain ⟨dt, dargs⟩ := d
    obtain ⟨dt', dargs'⟩ := d'
    simp only at ht
    subst ht
    cases dt' <;> simp only [DRel] at hd1
    rename_i fn' cs'
    obtain ⟨e1, e2, e3⟩ := hd1
    have : fn' = .func g := by cases fn' <;> simp_all [FnRel]
    subst this
    let c : Frame := { b.atR { tmps := atmps, defers := ds' } todo with mode := md pm' }
    have hcall : step P (lone { b.atR { tmps := atmps, defers := ⟨.fn (.func g) cs', dargs'⟩ :: ds' } todo with mode := md pm' } cs0 w) =
        .next (lone (Frame.enter P g (dargs' ++ cs') .deferred) (c :: cs0) w) := by
      refine step_lone_go ?_
      have hinv : (invoke (.fn (.func g) cs') dargs').run P w = .ok (.enter g (dargs' ++ cs')) w := callFunc_run hf
      cases pm' <;> simp [stepG, unwind, callDeferred, Frame.atR, md, c, hinv]
    have hcs : c :: cs0 = mkCs (c :: cs0) (pm'.map (·, false)) := by
      cases pm' with
      | none => rfl
      | some v => simp [mkCs, c, md]
    have hrc : RcRel φ (pm.map (·, false)) (pm'.map (·, false)) := by
      cases pm <;> cases pm' <;> simp only [OptRel] at hp
      · trivial
      · exact ⟨hp, rfl⟩
    have h0 : (pm'.map (·, false) : Option (Value × Bool)) = none → c.mode = .returning := by
      cases pm' with
      | none => intro _; rfl
      | some v => intro h; simp at h
    obtain ⟨φ₁, w₁, r1, g1, t1, c1, s1, st1⟩ := h1 φ (dargs' ++ cs') w c cs0 _ hr (e3.append e2) hrc h0
    have hafter : afterDef c r1 = { b.atR { tmps := atmps, defers := ds' } todo with mode := md (pmOf r1) } := by
      match r1, s1 with
      | none, s1 =>
        cases pm' with
        | none => rfl
        | some v => simp at s1
      | some (v, true), _ => rfl
      | some (v, false), _ => rfl
    have hpm : OptRel φ₁ (pmOf rc') (pmOf r1) := by
      match rc', r1, c1 with
      | none, none, _ => trivial
      | some (v, r), some (v', r'), c1 =>
        obtain ⟨q1, rfl⟩ := c1
        cases r with
        | true => trivial
        | false => exact q1
    obtain ⟨φ₂, w₂, fr, r2, t2, s2, f2, l2⟩ := h2 φ₁ b todo cs0 { tmps := atmps, defers := ds' } w₁ (pmOf r1) hk hro hfn g1 ⟨ha.size, fun t ht => (ha.tmps t ht).mono t1.le, hd2.mono t1.le⟩ hpm
    refine ⟨φ₂, w₂, fr, r2, t1.trans t2, .head hcall ?_, f2, l2⟩
    rw [hcs]
    exact st1.trans (hafter ▸ s2)

theorem end_collected {P : Program} {fn : Func} {st : St} {pm : Option Value} {out : Out} {h' : EH} {d : Deferred} {ds : List Deferred} {r : Nat} (hd : st.ds = d :: ds) (ht : d.target = .collected r) (ho : st.h[r]? = some .defers)
    (h2 : SndEnd P fn { st with ds := ds, h := st.h.set r .dead } pm out h') : SndEnd P fn st pm out h' := by
  intro φ b todo cs0 a w pm' hk hro hfn hr ha hp
  have hds := ha.ds
  rw [hd] at hds
  obtain ⟨atmps, adefers⟩ := a
  simp only at hds
  cases adefers with
  | nil => simp [DsRel] at hds
  | cons d' ds' =>
    obtain ⟨hd1, hd2⟩ := hds
    obtain ⟨dt, dargs⟩ := d
    obtain ⟨dt', dargs'⟩ := d'
    simp only at ht
    subst ht
    cases dt' <;> simp only [DRel] at hd1
    obtain ⟨⟨loc, hl, rfl⟩, _⟩ := hd1
    obtain ⟨o, ho', hlt, hor⟩ := hr.obj _ _ hl
    rw [ho] at ho'; cases ho'
    obtain ⟨hδ, hobj⟩ := hor
    let w₁ : World := { w with heap := w.heap.setIfInBounds loc.blk (.deferred none) }
    obtain ⟨g1, t1⟩ := hr.turn (w' := w₁) (o' := .dead) hl ho rfl rfl rfl rfl (by simp [w₁]) (fun k hk => by simp [w₁, Array.getElem?_setIfInBounds]; intro h; exact absurd h.symm hk) trivial (by rw [hobj]; simp [w₁, hlt, frzOf])
    have hrun : (Instr.takeDeferred loc.blk).run P w = .ok [] w₁ := by
      have hg : (getObj loc.blk).run P w = .ok (.deferred (some [])) w := by simp [getObj, Sem.run, hobj]
      have hset : ∀ o2 : Obj, (setObj loc.blk o2).run P w = .ok () { w with heap := w.heap.setIfInBounds loc.blk o2 } := fun o2 => by simp [setObj, Sem.run, hobj]
      simp [Instr.takeDeferred, hg, hset, w₁]
    have hstep : step P (lone { b.atR { tmps := atmps, defers := ⟨.collected loc.blk, dargs'⟩ :: ds' } todo with mode := md pm' } cs0 w) =
        .next (lone { b.atR { tmps := atmps, defers := ds' } todo with mode := md pm' } cs0 w₁) := by
      refine step_lone_go ?_
      cases pm' <;> simp [stepG, unwind, Frame.atR, md, hrun]
    obtain ⟨φ₂, w₂, fr, r2, t2, s2, f2, l2⟩ := h2 φ b todo cs0 { tmps := atmps, defers := ds' } w₁ pm' hk hro hfn g1 ⟨ha.size, ha.tmps, hd2⟩ hp
    exact ⟨φ₂, w₂, fr, r2, t1.trans t2, .head hstep s2, f2, l2⟩

theorem snd_defer {P : Program} {N : Nat} {o : Oper} {st : St} {c : Call} {x : Operand} {fn : Fn} {fs cs : Array Value} (hk : opOk N o = true) (ho : o.op = .defer c) (hc : c.callee = .value x) (hx : ev st.f x = .func fn fs cs) :
    SndOp P N none o st .normal { st with f := setT st.f o.dst undef, ds := { target := .fn fn cs, args := fs ++ c.args.map (ev st.f) } :: st.ds } := by
  intro φ b ops i rest k base a w rc hi hw hr ha hrc he
  have hρ := opOk_ev hk ha
  have rx : VRel φ (ev st.f x) (a.eval x) := hρ x (by simp [ho, Op.operands, Call.operands, hc])
  rw [hx] at rx
  obtain ⟨fn', fs', cs', hv, hfn, h1, h2⟩ := rx.func_inv
  have ra : VsRel φ (c.args.map (ev st.f)) (c.args.map a.eval) := VsRel.map c.args fun y hy => hρ y (by simp [ho, Op.operands, Call.operands, hc, hy])
  have hrun : (execOp a.eval o).run P w = .ok (.defer { target := .fn fn' cs', args := fs' ++ c.args.map a.eval }) w := by
    obtain ⟨dst, op, type, pos, after, guard⟩ := o
    simp only at ho
    subst ho
    simp [execOp, resolve, hc, hv, Deferred.ofValue]
  have hro : b.roundOf = none := by
    have := he.ro
    cases hb : b.roundOf <;> simp_all [RoRel]
  let a1 : Act := { tmps := (a.put o.dst undef).tmps, defers := { target := .fn fn' cs', args := fs' ++ c.args.map a.eval } :: a.defers }
  refine ⟨φ, .normal, a1, w, rc, trivial, hr, hr.tr, ⟨?_, ?_, ?_⟩, hrc, rfl, .one (step_lone_go ?_)⟩
  · simp only [a1, Act.put_size]; exact ha.size
  · exact setT_rel ha.size ha.tmps .undef
  · exact ⟨⟨hfn, h2, h1.append ra⟩, ha.ds⟩
  · have hg := stepGR_op (P := P) (b := b) (k := k) (cs := mkCs base rc) (w := w) (rest := rest) hi hw
    rw [hro, Oper.semAt_none] at hg
    rw [hg]
    have := Frame.finish_atR b { a with defers := { target := .fn fn' cs', args := fs' ++ c.args.map a.eval } :: a.defers } ops i rest k undef
    rw [hi] at this
    simp only [stepG.apply, Sem.runT_eq, hrun, GStep.bare_after]
    have h2 : ({ b.atR a (.inRegion ops (i :: rest) :: k) with defers := { target := .fn fn' cs', args := fs' ++ c.args.map a.eval } :: a.defers } : Frame).finish undef = b.atR a1 (.inRegion ops rest :: k) := by
      refine Eq.trans this ?_
      have : ({ a with defers := { target := .fn fn' cs', args := fs' ++ c.args.map a.eval } :: a.defers } : Act).put o.dst undef = a1 := by
        simp only [a1]
        cases o.dst <;> simp [Act.put]
      simp only [Option.bind_some, this]
    exact congrArg (fun fr => GStep.go { frame := fr, callers := mkCs base rc, status := .running, dying := none } w) h2

def recVal : Option (Value × Bool) → Value
  | some (v, false) => v
  | _ => .nilIface

def recRc : Option (Value × Bool) → Option (Value × Bool)
  | some (v, false) => some (v, true)
  | r => r

theorem snd_recover {P : Program} {N : Nat} {o : Oper} {st : St} {c : Call} (ho : o.op = .call c) (hc : c.callee = .builtin .recover) :
    SndOp P N none o st .normal { st with f := setT st.f o.dst (recVal st.rc), rc := recRc st.rc } := by
  intro φ b ops i rest k base a w rc hi hw hr ha hrc he
  have hro : b.roundOf = none := by
    have := he.ro
    cases hb : b.roundOf <;> simp_all [RoRel]
  have hrun : (execOp a.eval o).run P w = .ok .recover w := by
    obtain ⟨dst, op, type, pos, after, guard⟩ := o
    simp only at ho
    subst ho
    simp [execOp, resolve, hc, invoke, builtin]
  have hfin : ∀ v, (b.atR a (.inRegion ops (i :: rest) :: k)).finish v = b.atR (a.put o.dst v) (.inRegion ops rest :: k) := by
    intro v; rw [Frame.finish_atR, hi]; rfl
  have hg := stepGR_op (P := P) (b := b) (k := k) (cs := mkCs base rc) (w := w) (rest := rest) hi hw
  rw [hro, Oper.semAt_none] at hg
  have put : ∀ {v v'}, VRel φ v v' → ∀ {rc1}, ActRel φ N { st with f := setT st.f o.dst v, rc := rc1 } (a.put o.dst v') := fun hv _ =>
    ⟨by rw [Act.put_size]; exact ha.size, setT_rel ha.size ha.tmps hv, by rw [Act.put_defers]; exact ha.ds⟩
  cases hs : st.rc with
  | none =>
    have : rc = none := by rw [hs] at hrc; cases rc <;> simp_all [RcRel]
    subst this
    refine ⟨φ, .normal, a.put o.dst .nilIface, w, none, trivial, hr, hr.tr, put (.base rfl), trivial, rfl, .one (step_lone_go ?_)⟩
    have ht := he.norec rfl a (.inRegion ops (i :: rest) :: k)
    rw [hg, ← hfin]
    have hro' : (b.atR a (.inRegion ops (i :: rest) :: k)).roundOf = none := hro
    simp [stepG.apply, hrun, hro', mkCs, ht]
  | some x =>
    obtain ⟨v, r⟩ := x
    rw [hs] at hrc
    cases rc with
    | none => simp [RcRel] at hrc
    | some y =>
      obtain ⟨v', r'⟩ := y
      obtain ⟨hv, rfl⟩ := hrc
      obtain ⟨hk, hne⟩ := he.reco _ rfl
      cases base with
      | nil => exact absurd rfl hne
      | cons c0 cs0 =>
        have hro' : (b.atR a (.inRegion ops (i :: rest) :: k)).roundOf = none := hro
        have hk' : (b.atR a (.inRegion ops (i :: rest) :: k)).kind = .deferred := hk
        cases r with
        | false =>
          refine ⟨φ, .normal, a.put o.dst v', w, some (v', true), trivial, hr, hr.tr, put hv, ⟨hv, rfl⟩, rfl, .one (step_lone_go ?_)⟩
          rw [hg, ← hfin]
          simp [stepG.apply, hrun, hro', mkCs, tryRecover, hk']
        | true =>
          refine ⟨φ, .normal, a.put o.dst .nilIface, w, some (v', true), trivial, hr, hr.tr, put (.base rfl), ⟨hv, rfl⟩, rfl, .one (step_lone_go ?_)⟩
          rw [hg, ← hfin]
          simp [stepG.apply, hrun, hro', mkCs, tryRecover, hk']
end Go.E
