/-
  R1: A HEAP AND A FRAME FOR THE KERNEL'S RUN: binary tries; what they stand for.
-/
import Derived.Test.YtenkebdjlajanaaEC
set_option linter.all false
set_option linter.constructorNameAsVariable false
set_option linter.unusedSimpArgs false
set_option linter.unusedVariables false
set_option linter.unusedSectionVars false
set_option linter.unnecessarySimpa false
namespace Go.E
open Go

noncomputable section

def forceN {β : Type} (k : Nat) (g : Nat → β) : β := Nat.rec (motive := fun _ => β) (g 0) (fun m _ => g (Nat.succ m)) k
theorem forceN_eq {β : Type} (k : Nat) (g : Nat → β) : forceN k g = g k := by cases k <;> rfl

structure HT where
  len : Nat
  g : Nat → EObj

def HT.get (h : HT) (b : Nat) : Option EObj := Bool.rec (motive := fun _ => Option EObj) none (some (h.g b)) (Nat.blt b h.len)
def HT.push (h : HT) (o : EObj) : HT := forceN h.len fun n => ⟨Nat.succ n, fun b => Bool.rec (motive := fun _ => EObj) (h.g b) o (Nat.beq b n)⟩
def HT.set (h : HT) (b : Nat) (o : EObj) : HT := HT.rec (motive := fun _ => HT) (fun len g => Bool.rec (motive := fun _ => HT) ⟨len, g⟩ (forceN b fun b => ⟨len, fun c => Bool.rec (motive := fun _ => EObj) (g c) o (Nat.beq c b)⟩) (Nat.blt b len)) h
def HT.abs (h : HT) : EH := (List.range h.len).map h.g
def HT.nil : HT := ⟨0, fun _ => .dead⟩
def HT.ofL (l : EH) : HT := l.foldl HT.push HT.nil

theorem blt_eq (a b : Nat) : Nat.blt a b = decide (a < b) := by
  rw [Bool.eq_iff_iff]
  simp [Nat.blt, Nat.ble_eq, Nat.succ_le_iff]
theorem bool_rec {α : Type} (x y : α) (b : Bool) : Bool.rec (motive := fun _ => α) x y b = if b = true then y else x := by cases b <;> rfl

theorem HT.get_eq (h : HT) (b : Nat) : h.get b = if b < h.len then some (h.g b) else none := by
  simp only [HT.get, blt_eq, bool_rec, decide_eq_true_eq]
theorem HT.push_eq (h : HT) (o : EObj) : h.push o = ⟨h.len + 1, fun b => if b = h.len then o else h.g b⟩ := by
  simp only [HT.push, forceN_eq, bool_rec, Nat.beq_eq]
theorem HT.set_eq (h : HT) (b : Nat) (o : EObj) : h.set b o = if b < h.len then ⟨h.len, fun c => if c = b then o else h.g c⟩ else h := by
  obtain ⟨len, g⟩ := h
  simp only [HT.set, forceN_eq, bool_rec, blt_eq, decide_eq_true_eq, Nat.beq_eq]

theorem HT.abs_len (h : HT) : h.abs.length = h.len := by simp only [HT.abs, List.length_map, List.length_range]
theorem HT.abs_get (h : HT) (b : Nat) : h.abs[b]? = h.get b := by
  rw [HT.get_eq]
  simp only [HT.abs]
  by_cases hb : b < h.len
  · rw [List.getElem?_map, List.getElem?_range hb, if_pos hb]; rfl
  · rw [List.getElem?_eq_none (by simp; omega), if_neg hb]
theorem HT.abs_push (h : HT) (o : EObj) : (h.push o).abs = h.abs ++ [o] := by
  rw [HT.push_eq]
  simp only [HT.abs, List.range_succ, List.map_append, List.map_cons, List.map_nil, if_true]
  congr 1
  apply List.map_congr_left
  intro b hb
  rw [if_neg]
  have := List.mem_range.1 hb
  omega
theorem HT.abs_set (h : HT) (b : Nat) (o : EObj) : (h.set b o).abs = h.abs.set b o := by
  rw [HT.set_eq]
  apply List.ext_getElem?
  intro j
  by_cases hb : b < h.len
  · rw [if_pos hb]
    simp only [HT.abs]
    by_cases e : j = b
    · subst e
      rw [List.getElem?_set_self (by simpa using hb), List.getElem?_map, List.getElem?_range hb]
      simp
    · rw [List.getElem?_set_ne (Ne.symm e), List.getElem?_map, List.getElem?_map]
      by_cases hj : j < h.len
      · rw [List.getElem?_range hj]; simp [e]
      · rw [List.getElem?_eq_none (by simp; omega)]; rfl
  · rw [if_neg hb, List.set_eq_of_length_le (by rw [HT.abs_len]; omega)]
theorem HT.abs_nil : HT.nil.abs = [] := rfl
theorem HT.abs_ofL (l : EH) : (HT.ofL l).abs = l := by
  have key : ∀ (l : EH) (h : HT), (l.foldl HT.push h).abs = h.abs ++ l := by
    intro l
    induction l with
    | nil => intro h; simp
    | cons o l ih => intro h; rw [List.foldl_cons, ih, HT.abs_push]; simp
  have := key l HT.nil
  rw [HT.abs_nil, List.nil_append] at this
  exact this

abbrev FT := Nat → Value
def setK (f : FT) (d : Nat) (v : Value) : FT := fun t => Bool.rec (motive := fun _ => Value) (f t) v (Nat.beq t d)
def putF (f : FT) (dst : Option Nat) (v : Value) : FT := Option.rec (motive := fun _ => FT) f (fun d => setK f d v) dst
theorem putF_eq (f : FT) (dst : Option Nat) (v : Value) : putF f dst v = setT f dst v := by
  cases dst with
  | none => rfl
  | some d =>
    funext t
    simp only [putF, setK, setT, bool_rec, Nat.beq_eq]
def fillF : List Value → Nat → FT
  | [], _ => fun _ => undef
  | v :: vs, k => setK (fillF vs (Nat.succ k)) k v
theorem fillF_eq : ∀ (vs : List Value) (k t : Nat), fillF vs k t = if k ≤ t then vs.getD (t - k) undef else undef := by
  intro vs
  induction vs with
  | nil => intro k t; simp [fillF]
  | cons v vs ih =>
    intro k t
    simp only [fillF, setK, bool_rec, Nat.beq_eq, ih]
    by_cases h1 : t = k
    · subst h1; simp
    · rw [if_neg h1]
      by_cases h2 : k ≤ t
      · rw [if_pos h2, if_pos (by omega : k + 1 ≤ t), show t - k = (t - (k + 1)) + 1 by omega]; rfl
      · rw [if_neg h2, if_neg (by omega)]
def initK (args : Array Value) : FT := fillF args.toList 0
theorem initK_eq (args : Array Value) : initK args = initF args := by
  funext t
  simp only [initK, fillF_eq, Nat.zero_le, if_true, Nat.sub_zero, initF]
  simp [Array.getD_eq_getD_getElem?, List.getD_eq_getElem?_getD]
end
end Go.E
namespace Go.E
open Go

noncomputable section

def tRow (o : Option EObj) (off n : Nat) : Option (List Value) :=
  match o with
  | some (.cells vs _ _) => if off + n ≤ vs.length then some ((vs.drop off).take n) else none
  | _ => none

theorem tRow_eq (h : EH) (b off n : Nat) : rowOf h b off n = tRow h[b]? off n := rfl

def tCell (o : Option EObj) (off : Nat) : Option Value :=
  match o with
  | some (.cells vs _ _) => vs[off]?
  | _ => none

theorem tCell_eq (h : EH) (b off : Nat) : (rowOf h b off 1).bind (·[0]?) = tCell h[b]? off := by
  simp only [rowOf, tCell]
  cases h[b]? with
  | none => rfl
  | some o =>
    cases o with
    | cells vs opn wr =>
      simp only
      by_cases hc : off + 1 ≤ vs.length
      · rw [if_pos hc]
        simp only [Option.bind_some]
        rw [List.getElem?_take, if_pos (by omega), List.getElem?_drop, Nat.add_zero]
      · rw [if_neg hc, List.getElem?_eq_none (by omega)]; rfl
    | _ => rfl

def tLoadD (d : Option TypeDesc) (n : Option Nat) (o : Option EObj) (off : Nat) : Option Value :=
  match d, n with
  | some d, some n => bif aggD d then (tRow o off n).map (fun l => .agg l.toArray) else tCell o off
  | _, _ => none

def tLoad (P : Program) (t : TypeId) (a : Value) (h : HT) : Option Value :=
  match a with
  | .pointer (some ⟨b, off, none⟩) => tLoadD (P.underlying t) (szOf P t) (h.get b) off
  | _ => none

theorem tLoad_eq (P : Program) (t : TypeId) (a : Value) (h : HT) : tLoad P t a h = eLoad P t a h.abs := by
  unfold tLoad eLoad
  split
  · rename_i b off
    simp only
    unfold tLoadD
    rw [← HT.abs_get]
    cases P.underlying t with
    | none => rfl
    | some d =>
      cases szOf P t with
      | none => rfl
      | some n =>
        simp only
        rw [tCell_eq, tRow_eq]
        cases aggD d <;> rfl
  · split <;> simp_all

def tStoreO (h : HT) (b off : Nat) (l : List Value) (o : Option EObj) : Option HT :=
  match o with
  | some (.cells vs opn true) => if off + l.length ≤ vs.length ∧ l.all (fun v => oneCell v && !isUnk v) = true then some (h.set b (.cells (splice vs off l) opn true)) else none
  | _ => none
def tStoreRow (h : HT) (b off : Nat) (l : List Value) : Option HT := tStoreO h b off l (h.get b)

theorem tStoreRow_eq (h : HT) (b off : Nat) (l : List Value) : (tStoreRow h b off l).map HT.abs = storeRow h.abs b off l := by
  unfold tStoreRow tStoreO storeRow
  rw [HT.abs_get]
  cases h.get b with
  | none => rfl
  | some o =>
    cases o with
    | cells vs opn wr =>
      cases wr with
      | false => rfl
      | true =>
        simp only
        split
        · simp only [Option.map_some, HT.abs_set]
        · rfl
    | _ => rfl

def tStore (P : Program) (t : TypeId) (a x : Value) (h : HT) : Option HT :=
  match a with
  | .pointer (some ⟨b, off, none⟩) => if szOf P t = some x.cells.size ∧ isUnk x = false then tStoreRow h b off x.cells.toList else none
  | _ => none

theorem tStore_eq (P : Program) (t : TypeId) (a x : Value) (h : HT) : (tStore P t a x h).map HT.abs = eStore P t a x h.abs := by
  unfold tStore eStore
  split
  · simp only
    split
    · exact tStoreRow_eq _ _ _ _
    · rfl
  · split <;> simp_all

def absV (x : Value × HT) : Value × EH := (x.1, x.2.abs)

def tBox (x : Value) (h : HT) : Option (Value × HT) := bif isUnk x then none else forceN h.len fun n => some (.pointer (some ⟨n, 0, none⟩), h.push (mkRow x.cells))
theorem tBox_eq (x : Value) (h : HT) : (tBox x h).map absV = eBox x h.abs := by
  unfold tBox eBox
  cases isUnk x
  · simp only [cond_false, Bool.false_eq_true, if_false, forceN_eq, Option.map_some, absV, HT.abs_push, HT.abs_len]
  · rfl

def tAllocZ (h : HT) : Option (Value × Nat) → Option (Value × HT)
  | some z => forceN h.len fun n => some (.pointer (some ⟨n, 0, none⟩), h.push (mkRow z.1.cells))
  | none => none
theorem tAlloc_eq (P : Program) (t : TypeId) (h : HT) : (tAllocZ h (zeroOf P t)).map absV = eAlloc P t h.abs := by
  unfold eAlloc
  cases zeroOf P t with
  | none => rfl
  | some z => simp only [tAllocZ, forceN_eq, Option.map_some, absV, HT.abs_push, HT.abs_len]

def tBuildZ (h : HT) (len : Nat) (parts : Array (Nat × Value)) : Option (Value × Nat) → Option (Value × HT)
  | some (z, s) =>
    if len * s ≤ 16777216 ∧ parts.all (fun x => !isUnk x.2) = true then
      (Instr.fill (fun i => some (i * s, s)) (zerosOf z (len * s)) parts.toList).bind fun c => forceN h.len fun n => some (.slice (some ⟨n, 0, none⟩) len len, h.push (mkRow c))
    else none
  | none => none
def tBuildSlice (P : Program) (t : TypeId) (len : Nat) (parts : Array (Nat × Value)) (h : HT) : Option (Value × HT) :=
  match P.underlying t with
  | some (.slice el) => tBuildZ h len parts (zeroOf P el)
  | _ => none
theorem tBuildSlice_eq (P : Program) (t : TypeId) (len : Nat) (parts : Array (Nat × Value)) (h : HT) : (tBuildSlice P t len parts h).map absV = eBuildSlice P t len parts h.abs := by
  unfold tBuildSlice eBuildSlice
  split
  · rename_i el hu
    simp only [hu]
    cases hz : zeroOf P el with
    | none => rfl
    | some x =>
      obtain ⟨z, s⟩ := x
      simp only [tBuildZ]
      split
      · cases Instr.fill (fun i => some (i * s, s)) (zerosOf z (len * s)) parts.toList with
        | none => rfl
        | some c => simp only [Option.bind_some, Option.map_some, forceN_eq, absV, HT.abs_push, HT.abs_len]
      · rfl
  · split <;> simp_all

def tMakeZ (h : HT) (l c : Int) : Option (Value × Nat) → Option (Value × HT)
  | some (z, s) => if 0 ≤ l ∧ l ≤ c ∧ c ≤ 1073741824 then forceN h.len fun n => some (.slice (some ⟨n, 0, none⟩) l.toNat c.toNat, h.push (mkRow (zerosOf z (c.toNat * s)))) else none
  | none => none
def tMakeSlice (P : Program) (t : TypeId) (l c : Value) (h : HT) : Option (Value × HT) :=
  match P.underlying t, l, c with
  | some (.slice el), .int _ l, .int _ c => tMakeZ h l c (zeroOf P el)
  | _, _, _ => none
theorem tMakeSlice_eq (P : Program) (t : TypeId) (l c : Value) (h : HT) : (tMakeSlice P t l c h).map absV = eMakeSlice P t l c h.abs := by
  cases hu : P.underlying t with
  | none => simp only [tMakeSlice, eMakeSlice, hu]; rfl
  | some d =>
    cases d <;> try (simp only [tMakeSlice, eMakeSlice, hu]; rfl)
    rename_i el
    cases l <;> try (simp only [tMakeSlice, eMakeSlice, hu]; rfl)
    cases c <;> try (simp only [tMakeSlice, eMakeSlice, hu]; rfl)
    simp only [tMakeSlice, eMakeSlice, hu]
    cases zeroOf P el with
    | none => rfl
    | some x =>
      obtain ⟨z, s⟩ := x
      simp only [tMakeZ]
      split
      · simp only [forceN_eq, Option.map_some, absV, HT.abs_push, HT.abs_len]
      · rfl

def tSrc (h : HT) (s : Nat) (x : Value) : Option (List Value) :=
  match x with
  | .slice (some ⟨b, off, none⟩) n _ => if n = 0 then some [] else tRow (h.get b) off (n * s)
  | .slice none 0 _ => some []
  | .slice (some ⟨0, 0, some 0⟩) 0 0 => some []
  | .string t => if s = 1 then some (bytesOf t).toList else none
  | _ => none
theorem tSrc_eq (h : HT) (s : Nat) (x : Value) : tSrc h s x = eSrc h.abs s x := by
  unfold tSrc eSrc
  simp only [tRow_eq, HT.abs_get]
  rfl

def tGrow (h : HT) (n sz : Nat) (b off cap : Nat) (new : List Value) : Option (List Value) → Option EObj → Option (Value × HT)
  | some old, some (.cells _ none _) => forceN h.len fun q => some (.slice (some ⟨q, 0, none⟩) n n, h.push (opRow (old ++ new) sz))
  | some old, some (.cells vs (some es) wr) =>
    if off + cap * es = vs.length then
      (if es = sz ∧ wr = true ∧ new.all (fun v => oneCell v && !isUnk v) = true then forceN h.len fun q => some (.slice (some ⟨q, 0, none⟩) n n, (h.set b .dead).push (opRow (old ++ new) sz)) else none)
    else forceN h.len fun q => some (.slice (some ⟨q, 0, none⟩) n n, h.push (opRow (old ++ new) sz))
  | _, _ => none

def tApp (h : HT) (sz m : Nat) (s : Value) (new : List Value) : Option (Value × HT) :=
  match s with
  | .slice none 0 0 =>
    if m = 0 then some (.slice none 0 0, h)
    else if m ≤ 1073741824 then forceN h.len fun q => some (.slice (some ⟨q, 0, none⟩) m m, h.push (opRow new sz)) else none
  | .slice (some ⟨0, 0, some 0⟩) 0 0 =>
    if m = 0 then some (mkS, h)
    else if m ≤ 1073741824 then forceN h.len fun q => some (.slice (some ⟨q, 0, none⟩) m m, h.push (opRow new sz)) else none
  | .slice (some ⟨b, off, none⟩) len cap =>
    if len + m ≤ cap then
      (if m = 0 then some (s, h) else (tStoreRow h b (off + len * sz) new).map fun h' => (.slice (some ⟨b, off, none⟩) (len + m) cap, h'))
    else if len + m ≤ 1073741824 then tGrow h (len + m) sz b off cap new (tSrc h sz s) (h.get b)
    else none
  | _ => none

def tAppend (P : Program) (st xt : TypeId) (s x : Value) (h : HT) : Option (Value × HT) :=
  match P.underlying st, P.underlying xt with
  | some (.slice el), some xd =>
    if isIntD xd = true then none else
    match zeroOf P el with
    | some (_, sz) =>
      match tSrc h sz x with
      | some new => tApp h sz (lenV x) s new
      | none => none
    | none => none
  | _, _ => none

theorem tApp_eq (h : HT) (sz m : Nat) (s : Value) (new : List Value) : (tApp h sz m s new).map absV = (match s with
    | .slice none 0 0 =>
      if m = 0 then some (.slice none 0 0, h.abs)
      else if m ≤ 1073741824 then some (.slice (some ⟨h.abs.length, 0, none⟩) m m, h.abs ++ [opRow new sz]) else none
    | .slice (some ⟨0, 0, some 0⟩) 0 0 =>
      if m = 0 then some (mkS, h.abs)
      else if m ≤ 1073741824 then some (.slice (some ⟨h.abs.length, 0, none⟩) m m, h.abs ++ [opRow new sz]) else none
    | .slice (some ⟨b, off, none⟩) len cap =>
      if len + m ≤ cap then
        (if m = 0 then some (s, h.abs) else (storeRow h.abs b (off + len * sz) new).map fun h' => (.slice (some ⟨b, off, none⟩) (len + m) cap, h'))
      else if len + m ≤ 1073741824 then
        match eSrc h.abs sz s, h.abs[b]? with
        | some old, some (.cells _ none _) => some (.slice (some ⟨h.abs.length, 0, none⟩) (len + m) (len + m), h.abs ++ [opRow (old ++ new) sz])
        | some old, some (.cells vs (some es) wr) =>
          if off + cap * es = vs.length then
            (if es = sz ∧ wr = true ∧ new.all (fun v => oneCell v && !isUnk v) = true then some (.slice (some ⟨h.abs.length, 0, none⟩) (len + m) (len + m), h.abs.set b .dead ++ [opRow (old ++ new) sz]) else none)
          else some (.slice (some ⟨h.abs.length, 0, none⟩) (len + m) (len + m), h.abs ++ [opRow (old ++ new) sz])
        | _, _ => none
      else none
    | _ => none) := by
  cases s <;> try rfl
  rename_i a len cap
  cases a with
  | none =>
    cases len with
    | succ len => rfl
    | zero =>
      cases cap with
      | succ cap => rfl
      | zero =>
        simp only [tApp]
        split
        · rfl
        · split
          · simp only [forceN_eq, Option.map_some, absV, HT.abs_push, HT.abs_len]
          · rfl
  | some ad =>
    obtain ⟨b, off, sp⟩ := ad
    cases sp with
    | some sp =>
      by_cases hm : (⟨b, off, some sp⟩ : Addr) = ⟨0, 0, some 0⟩ ∧ len = 0 ∧ cap = 0
      · obtain ⟨h1, rfl, rfl⟩ := hm
        rw [h1]
        simp only [tApp]
        split
        · rfl
        · split
          · simp only [forceN_eq, Option.map_some, absV, HT.abs_push, HT.abs_len]
          · rfl
      · unfold tApp
        split
        · rename_i e; cases e
        · rename_i e
          simp only [Value.slice.injEq, Option.some.injEq] at e
          exact absurd e hm
        · rename_i e; cases e
        · rfl
    | none =>
      simp only [tApp]
      split
      · split
        · rfl
        · rw [← tStoreRow_eq]
          cases tStoreRow h b (off + len * sz) new <;> rfl
      · split
        · rw [tSrc_eq]
          rw [HT.abs_get]
          unfold tGrow
          cases eSrc h.abs sz (.slice (some ⟨b, off, none⟩) len cap) with
          | none => rfl
          | some old =>
            cases h.get b with
            | none => rfl
            | some o =>
              cases o with
              | cells vs opn wr =>
                cases opn with
                | none => simp only [forceN_eq, Option.map_some, absV, HT.abs_push, HT.abs_len]
                | some es =>
                  simp only
                  split
                  · split
                    · simp only [forceN_eq, Option.map_some, absV, HT.abs_push, HT.abs_set, HT.abs_len]
                    · rfl
                  · simp only [forceN_eq, Option.map_some, absV, HT.abs_push, HT.abs_len]
              | _ => rfl
        · rfl

theorem tAppend_eq (P : Program) (st xt : TypeId) (s x : Value) (h : HT) : (tAppend P st xt s x h).map absV = eAppend P st xt s x h.abs := by
  unfold tAppend eAppend
  split
  · rename_i el xd h1 h2
    simp only [h1, h2]
    by_cases hi : isIntD xd = true
    · simp only [hi, if_true]; rfl
    · simp only [hi]
      cases zeroOf P el with
      | none => rfl
      | some z =>
        obtain ⟨z, sz⟩ := z
        simp only
        rw [tSrc_eq]
        cases eSrc h.abs sz x with
        | none => rfl
        | some new => exact tApp_eq h sz (lenV x) s new
  · split <;> simp_all

def tEs (s : Nat) : Option EObj → Bool
  | some (.cells _ none _) => true
  | some (.cells _ (some es) _) => es == s
  | _ => false
def tOpn : Option EObj → Bool
  | some (.cells _ (some _) _) => true
  | _ => false

def tSlice (P : Program) (t : TypeId) (x : Value) (lo hi mx : Option Value) (h : HT) : Option Value :=
  match P.underlying t, x with
  | some .string, .string s =>
    match mx, eOptBound hi s.size s.size with
    | none, some h' => (eOptBound lo h' 0).map fun l => .string (s.extract l h')
    | _, _ => none
  | some (.slice el), .slice (some ⟨b, off, none⟩) len cap =>
    match szOf P el, mx with
    | some s, none =>
      if len ≤ cap ∧ tEs s (h.get b) = true then
        match eOptBound hi cap len with
        | some h' => (eOptBound lo h' 0).map fun l => if tOpn (h.get b) = true then .slice (some ⟨b, off + l * s, none⟩) (h' - l) (cap - l) else cutAt b off s l cap (h' - l)
        | none => none
      else none
    | some s, some m =>
      match eBound m cap, hi with
      | some m', some hv =>
        match eBound hv m' with
        | some h' => (eOptBound lo h' 0).map fun l => cutAt b off s l m' (h' - l)
        | none => none
      | _, _ => none
    | none, _ => none
  | some (.slice el), .slice none 0 0 =>
    match szOf P el, mx, eOptBound hi 0 0 with
    | some _, none, some h' => (eOptBound lo h' 0).map fun _ => .slice none 0 0
    | _, _, _ => none
  | some (.slice el), .slice (some ⟨0, 0, some 0⟩) 0 0 =>
    match szOf P el, mx with
    | some _, none =>
      match eOptBound hi 0 0 with
      | some h' => (eOptBound lo h' 0).map fun _ => mkS
      | none => none
    | some _, some m =>
      match eBound m 0, hi with
      | some m', some hv =>
        match eBound hv m' with
        | some h' => (eOptBound lo h' 0).map fun _ => mkS
        | none => none
      | _, _ => none
    | none, _ => none
  | some (.array n el), .pointer (some ⟨b, off, none⟩) =>
    match szOf P el, mx with
    | some s, none =>
      match eOptBound hi n n with
      | some h' => (eOptBound lo h' 0).map fun l => cutAt b off s l n (h' - l)
      | none => none
    | _, _ => none
  | _, _ => none

theorem tSlice_eq (P : Program) (t : TypeId) (x : Value) (lo hi mx : Option Value) (h : HT) : tSlice P t x lo hi mx h = eSlice P t x lo hi mx h.abs := by
  have e1 : ∀ b s, esOk h.abs b s = tEs s (h.get b) := fun b s => by
    simp only [esOk, tEs, HT.abs_get]; rfl
  have e2 : ∀ b, isOpn h.abs b = tOpn (h.get b) := fun b => by
    simp only [isOpn, tOpn, HT.abs_get]; rfl
  unfold tSlice eSlice
  simp only [e1, e2]
  rfl

def tLenM : Option EObj → Option Value
  | some (.map es _) => some (.int .i64 es.length)
  | _ => none
def tLen (P : Program) (t : TypeId) (x : Value) (h : HT) : Option Value :=
  match P.underlying t, x with
  | some .string, .string s => some (.int .i64 s.size)
  | some (.array n _), _ => some (.int .i64 n)
  | some (.slice _), .slice _ n _ => some (.int .i64 n)
  | some (.map _ _), .map none => some (.int .i64 0)
  | some (.map _ _), .map (some b) => tLenM (h.get b)
  | _, _ => none
theorem tLen_eq (P : Program) (t : TypeId) (x : Value) (h : HT) : tLen P t x h = eLen P t x h.abs := by
  unfold tLen eLen
  simp only [HT.abs_get, tLenM]
  rfl

def tNextO (h : HT) (b : Nat) : Option EObj → Option (Value × HT)
  | some (.str s pos) => forceN pos fun pos => if pos < s.size then some (.tuple #[.bool true, .int .i64 pos, .int .i32 (Utf8.decode s pos).1], h.set b (.str s (pos + (Utf8.decode s pos).2))) else some (.tuple #[.bool false], h)
  | _ => none
def tNext (x : Value) (isStr : Bool) (h : HT) : Option (Value × HT) :=
  match x, isStr with
  | .pointer (some ⟨b, 0, none⟩), true => tNextO h b (h.get b)
  | _, _ => none
theorem tNext_eq (x : Value) (isStr : Bool) (h : HT) : (tNext x isStr h).map absV = eNext x isStr h.abs := by
  unfold tNext eNext
  split
  · rename_i b
    simp only
    rw [HT.abs_get]
    cases h.get b with
    | none => rfl
    | some o =>
      cases o with
      | str s pos =>
        simp only [tNextO, forceN_eq]
        split
        · simp only [Option.map_some, absV, HT.abs_set]
        · rfl
      | _ => rfl
  · split <;> simp_all

def lmap {α β : Type} (g : α → β) (l : List α) : List β := List.rec (motive := fun _ => List β) [] (fun x _ ih => g x :: ih) l
theorem lmap_eq {α β : Type} (g : α → β) (l : List α) : lmap g l = l.map g := by
  induction l with
  | nil => rfl
  | cons x l ih => show g x :: lmap g l = _; rw [ih]; rfl
def amap {α β : Type} (g : α → β) (a : Array α) : Array β := ⟨lmap g a.toList⟩
theorem amap_eq {α β : Type} (g : α → β) (a : Array α) : amap g a = a.map g := by
  apply Array.toList_inj.1
  simp [amap, lmap_eq]

def tSlow (P : Program) (o : Op) (ρ : Operand → Value) (h : HT) : Option (Value × HT) := (estep P o ρ h.abs).map fun x => (x.1, .ofL x.2)
theorem tSlow_eq (P : Program) (o : Op) (ρ : Operand → Value) (h : HT) : (tSlow P o ρ h).map absV = estep P o ρ h.abs := by
  unfold tSlow
  cases estep P o ρ h.abs with
  | none => rfl
  | some x => simp only [Option.map_some, absV, HT.abs_ofL]

def wv (h : HT) : Option Value → Option (Value × HT)
  | some v => some (v, h)
  | none => none
def wu : Option HT → Option (Value × HT)
  | some h => some (undef, h)
  | none => none
theorem wv_eq (h : HT) (o : Option Value) : (wv h o).map absV = o.map (·, h.abs) := by cases o <;> rfl
theorem wu_eq (o : Option HT) : (wu o).map absV = (o.map HT.abs).map (undef, ·) := by cases o <;> rfl

def tBuiltin (P : Program) (b : Builtin) (ts : List TypeId) (args : List Value) (h : HT) : Option (Value × HT) :=
  match b, ts, args with
  | .len, [t], [x] => wv h (tLen P t x h)
  | .append, [st, xt], [s, x] => tAppend P st xt s x h
  | b, ts, args => (eBuiltin P b ts args h.abs).map fun x => (x.1, .ofL x.2)
theorem tBuiltin_eq (P : Program) (b : Builtin) (ts : List TypeId) (args : List Value) (h : HT) : (tBuiltin P b ts args h).map absV = eBuiltin P b ts args h.abs := by
  unfold tBuiltin
  split
  · rw [wv_eq, tLen_eq]; rfl
  · rw [tAppend_eq]; rfl
  · cases eBuiltin P _ _ _ h.abs with
    | none => rfl
    | some x => simp only [Option.map_some, absV, HT.abs_ofL]

def tCallee (P : Program) (ρ : Operand → Value) (h : HT) (ts : Array TypeId) (args : Array Operand) : Callee → Option (Value × HT)
  | .builtin .max => wv h (eMaxAll (fun y x => decide (y > x)) (lmap ρ args.toList))
  | .builtin .min => wv h (eMaxAll (fun y x => decide (y < x)) (lmap ρ args.toList))
  | .builtin b => tBuiltin P b ts.toList (lmap ρ args.toList) h
  | _ => none

def estepT (P : Program) (o : Op) (ρ : Operand → Value) (h : HT) : Option (Value × HT) :=
  match o with
  | .move x => some (ρ x, h)
  | .assign x => some (ρ x, h)
  | .pick c a b => wv h (ePick (ρ c) (ρ a) (ρ b))
  | .alloc t => tAllocZ h (zeroOf P t)
  | .box _ x => tBox (ρ x) h
  | .build t ps => wv h (eBuild P t (amap (fun x => (x.1, ρ x.2)) ps))
  | .buildSlice t n ps => tBuildSlice P t n (amap (fun x => (x.1, ρ x.2)) ps) h
  | .load t a => wv h (tLoad P t (ρ a) h)
  | .store t a x => wu (tStore P t (ρ a) (ρ x) h)
  | .nilCheck x => wv h (eNilCheck (ρ x))
  | .binOp op t x y _ => wv h (eBin P op t x y (ρ x) (ρ y))
  | .unOp op _ x => wv h (eUn op (ρ x))
  | .convert s d x => wv h (eConv P s d (ρ x))
  | .makeInterface t x => wv h (eMkIface P t (ρ x))
  | .makeFunc fn fs cs => wv h (eMkFunc fn (amap ρ fs) (amap ρ cs))
  | .makeSlice t l c => tMakeSlice P t (ρ l) (ρ c) h
  | .slice t x lo hi mx => wv h (tSlice P t (ρ x) (lo.map ρ) (hi.map ρ) (mx.map ρ) h)
  | .fieldAddr t x f => wv h (eFieldAddr P t (ρ x) f)
  | .field t x f => wv h (eField P t (ρ x) f)
  | .indexAddr t x i => wv h (eIndexAddr P t (ρ x) (ρ i))
  | .index t x i => wv h (eIndex P t (ρ x) (ρ i))
  | .next it isStr => tNext (ρ it) isStr h
  | .typeAssert x _ t ok => wv h (eAssert P (ρ x) t ok)
  | .extract x i => wv h (eExtract (ρ x) i)
  | .call c => tCallee P ρ h c.argTypes c.args c.callee
  | o => tSlow P o ρ h

theorem estepT_eq (P : Program) (o : Op) (ρ : Operand → Value) (h : HT) : (estepT P o ρ h).map absV = estep P o ρ h.abs := by
  cases o <;> simp only [estepT, wv_eq, wu_eq, amap_eq] <;> first
    | rfl
    | (rw [tAlloc_eq]; rfl)
    | (rw [tBox_eq]; rfl)
    | (rw [tBuildSlice_eq]; rfl)
    | (rw [tLoad_eq]; rfl)
    | (rw [tStore_eq]; rfl)
    | (rw [tMakeSlice_eq]; rfl)
    | (rw [tSlice_eq]; rfl)
    | (rw [tNext_eq]; rfl)
    | (rw [tSlow_eq])
    | skip
  case call c =>
    obtain ⟨cal, args, ts⟩ := c
    cases cal with
    | builtin b =>
      cases b <;> simp only [tCallee, tBuiltin_eq, wv_eq, lmap_eq] <;> first
        | rfl
        | skip
      all_goals (simp only [estep]; unfold eBuiltin; rfl)
    | _ => rfl

theorem estepT_some {P : Program} {o : Op} {ρ : Operand → Value} {h h' : HT} {v : Value} (e : estepT P o ρ h = some (v, h')) : estep P o ρ h.abs = some (v, h'.abs) := by
  rw [← estepT_eq, e]; rfl
end
end Go.E
namespace Go.E
open Go

noncomputable section

structure RS where
  fs : FT
  ds : List Deferred
  h : HT
  rc : Option (Value × Bool)

def RS.st (s : RS) : St := ⟨s.fs, s.ds, s.h.abs, s.rc⟩

def absS (s : FT × HT) : (Nat → Value) × EH := (s.1, s.2.abs)

inductive Task where
  | head (N : Nat) (ro : Option Nat) (c : Code) (s : RS)
  | fn (g : FuncId) (args : Array Value) (h : HT)
  | dfn (g : FuncId) (args : Array Value) (h : HT) (rc : Option (Value × Bool))
  | fin (fn : Func) (s : RS) (pm : Option Value)
  | round (l : Nat) (args : Array Value) (h : HT)

inductive Res where
  | ex (ex : Ex) (s : RS)
  | out (o : Out) (h : HT)
  | dres (h : HT) (rc : Option (Value × Bool))

inductive DRes where
  | tr (fs : FT) (h : HT) (tr : List (FT × HT))
  | trp (tr : List (FT × HT)) (j : Nat) (v : Value) (h' : HT)

def stT (s : FT × HT) (tr : List (FT × HT)) (k : Nat) : FT × HT := (s :: tr).getD k (tr.getLastD s)

theorem stT_abs (s : FT × HT) (tr : List (FT × HT)) (k : Nat) : absS (stT s tr k) = stAt (absS s) (tr.map absS) k := by
  unfold stT stAt
  rw [← List.map_cons, List.getD_eq_getElem?_getD, List.getD_eq_getElem?_getD, List.getElem?_map]
  have hl : (tr.map absS).getLastD (absS s) = absS (tr.getLastD s) := by
    cases tr with
    | nil => rfl
    | cons x tr =>
      rw [List.map_cons, List.getLastD_cons, List.getLastD_cons]
      induction tr generalizing x with
      | nil => rfl
      | cons y tr ih => rw [List.map_cons, List.getLastD_cons, List.getLastD_cons]; exact ih y
  rw [hl]
  cases (s :: tr)[k]? <;> rfl

def sideB (ops : Array Oper) (s : FT × HT) (tr : List (FT × HT)) (p : Nat × Nat) : Bool :=
  match ops[p.1]?, ops[p.2]? with
  | some oi, some oj =>
    (!isQuiet oi.op ||
      ((match reads oi.op (ev ((stT s tr p.1).1)) with
        | some b => !decide (b < (stT s tr p.1).2.len) || oobjEq ((stT s tr (p.2 + 1)).2.get b) ((stT s tr p.2).2.get b)
        | none => true) &&
       (List.range ((stT s tr (p.1 + 1)).2.len - (stT s tr p.1).2.len)).all fun d =>
         oobjEq ((stT s tr (p.2 + 1)).2.get ((stT s tr p.1).2.len + d)) ((stT s tr p.2).2.get ((stT s tr p.1).2.len + d)))) &&
    (!isQuiet oj.op ||
      match reads oj.op (ev ((stT s tr p.2).1)) with
      | some b => !decide (b < (stT s tr p.1).2.len) || oobjEq ((stT s tr (p.1 + 1)).2.get b) ((stT s tr p.1).2.get b)
      | none => true)
  | _, _ => true

theorem sideB_ok {ops : Array Oper} {s : FT × HT} {tr : List (FT × HT)} {p : Nat × Nat} (h : sideB ops s tr p = true) : SideOk ops (absS s) (tr.map absS) p := by
  intro oi oj hi hj
  simp only [sideB, hi, hj, Bool.and_eq_true, Bool.or_eq_true, Bool.not_eq_true'] at h
  simp only [← stT_abs]
  simp only [absS, HT.abs_len, HT.abs_get]
  obtain ⟨h1, h2⟩ := h
  constructor
  · intro hq
    rcases h1 with h1 | ⟨h1, h3⟩
    · rw [hq] at h1; cases h1
    · constructor
      · intro b hb hlt
        simp only [hb, Bool.or_eq_true, Bool.not_eq_true', decide_eq_false_iff_not] at h1
        rcases h1 with h1 | h1
        · exact absurd hlt h1
        · exact oobjEq_sound h1
      · intro b hb hlt
        rw [List.all_eq_true] at h3
        have := oobjEq_sound (h3 (b - (stT s tr p.1).2.len) (List.mem_range.2 (by omega)))
        rwa [show (stT s tr p.1).2.len + (b - (stT s tr p.1).2.len) = b by omega] at this
  · intro hq b hb hlt
    rcases h2 with h2 | h2
    · rw [hq] at h2; cases h2
    · simp only [hb, Bool.or_eq_true, Bool.not_eq_true', decide_eq_false_iff_not] at h2
      rcases h2 with h2 | h2
      · exact absurd hlt h2
      · exact oobjEq_sound h2

def inL (L : Nat × Nat) (g : Nat) : Bool := Nat.ble L.1 g && Nat.blt g L.2

def bodyOf (P : Program) (L : Nat × Nat) (g : FuncId) : Option (Func × Code) :=
  if inL L g then
    match P.funcs[g]? with
    | some fn => fn.body.map fun c => (fn, c)
    | none => none
  else none

def okFns (P : Program) (L : Nat × Nat) : Bool := (List.range L.2).all fun g => Nat.blt g L.1 || fnOk P g && match P.funcs[g]? with
  | some fn => (match fn.body with | some c => codeOk fn.ntmps c | none => false)
  | none => false

inductive Spec where
  | pan (x : Operand)
  | dfr (c : Call) (x : Operand)
  | rcv
  | no

def spec : Op → Spec
  | .panic x => .pan x
  | .defer c => match c.callee with
    | .value x => .dfr c x
    | _ => .no
  | .call c => match c.callee with
    | .builtin .recover => .rcv
    | _ => .no
  | _ => .no



abbrev Self := Task → Option Res
abbrev Rx := Option (Ex × RS)

def wantK {α : Type} (N : Nat) (ops : Array Oper) (f : FT) (gd : Option (Nat × Bool)) (kt kf kn : α) : α :=
  Option.rec (motive := fun _ => α) kt (fun jw => match (match (ops[jw.1]?).bind (·.dst) with
    | none => some false
    | some d => if d < N then (match f d with | .bool b => some (b == jw.2) | .tuple _ => some false | _ => none) else some false) with
      | some true => kt
      | some false => kf
      | none => kn) gd

theorem wantK_eq {α : Type} (N : Nat) (ops : Array Oper) (f : FT) (o : Oper) (kt kf kn : α) : wantK N ops f o.guard kt kf kn = match wantE N ops f o with | some true => kt | some false => kf | none => kn := by
  unfold wantK wantE
  cases o.guard with
  | none => rfl
  | some jw => obtain ⟨j, w⟩ := jw; rfl

def fastOp (op : Op) : Bool :=
  match op with
  | .call c => (match c.callee with | .builtin .recover => false | .builtin _ => true | _ => false)
  | .panic _ => false
  | .defer _ => false
  | _ => true

def withF {α : Type} (f : FT) (d : Option Nat) (v : Value) (k : FT → α) : α := Option.rec (motive := fun _ => α) (k f) (fun d => k fun t => Bool.rec (motive := fun _ => Value) (f t) v (Nat.beq t d)) d
theorem withF_eq {α : Type} (f : FT) (d : Option Nat) (v : Value) (k : FT → α) : withF f d v k = k (putF f d v) := by cases d <;> rfl

def sBack (s : RS) (d : Option Nat) (r : Option Res) : Rx :=
  match r with
  | some (.out (.ret v) h) => withF s.fs d v fun f' => some (.normal, { s with fs := f', h := h })
  | some (.out (.pan v) h) => some (.panic v, { s with h := h })
  | _ => none

def sSpec (P : Program) (ro : Option Nat) (o : Oper) (s : RS) (sp : Spec) : Rx :=
  match sp with
  | .pan x => match ev s.fs x with
    | .iface t u => some (.panic (.iface t u), s)
    | _ => none
  | .dfr c x => if ro.isNone then
      match ev s.fs x with
      | .func fn as cs => some (.normal, { s with fs := putF s.fs o.dst undef, ds := { target := .fn fn cs, args := as ++ c.args.map (ev s.fs) } :: s.ds })
      | _ => none
    else none
  | .rcv => if ro.isNone then some (.normal, { s with fs := putF s.fs o.dst (recVal s.rc), rc := recRc s.rc }) else none
  | .no => none

def sOpY (P : Program) (self : Self) (ro : Option Nat) (o : Oper) (s : RS) (y : Option (Nat × Array Value)) : Rx :=
  match y with
  | some (l, args) => sBack s o.dst (self (.round l args s.h))
  | none => sSpec P ro o s (spec o.op)

def sOp (P : Program) (L : Nat × Nat) (self : Self) (ro : Option Nat) (o : Oper) (s : RS) (y : Option (FuncId × Array Value)) : Rx :=
  match y with
  | some (g, args) => if inL L g then sBack s o.dst (self (.fn g args s.h)) else none
  | none => sOpY P self ro o s (yieldee s.fs o.op)

def rSeq (k : RS → Rx) (r : Rx) : Rx :=
  Option.rec (motive := fun _ => Rx) none (fun x => Prod.rec (motive := fun _ => Rx) (fun ex s => Ex.rec (motive := fun _ => Rx) (k s) (fun id => some (.exit id, s)) (some (.ret, s)) (fun v => some (.panic v, s)) ex) x) r
theorem rSeq_eq (k : RS → Rx) (r : Rx) : rSeq k r = match r with | some (.normal, s) => k s | r => r := by
  cases r with
  | none => rfl
  | some x => obtain ⟨ex, s⟩ := x; cases ex <;> rfl

def calleeT (f : FT) (op : Op) : Option (FuncId × Array Value) :=
  match op with
  | .call c =>
    match c.callee with
    | .value x =>
      match ev f x with
      | .func (.func g) fs cs => some (g, ⟨fs.toList ++ (lmap (ev f) c.args.toList ++ cs.toList)⟩)
      | _ => none
    | _ => none
  | _ => none
theorem calleeT_eq (f : FT) (op : Op) : calleeT f op = callee f op := by
  unfold calleeT callee
  cases op <;> try rfl
  rename_i c
  simp only
  cases c.callee <;> try rfl
  rename_i x
  simp only
  cases ev f x <;> try rfl
  rename_i fn fs cs
  cases fn <;> try rfl
  simp only [lmap_eq]
  congr 2
  apply Array.toList_inj.1
  simp

def rDone (f : FT) (ds : List Deferred) (rc : Option (Value × Bool)) (d : Option Nat) (k : RS → Rx) (r : Option (Value × HT)) : Rx :=
  Option.rec (motive := fun _ => Rx) none (fun x => Prod.rec (motive := fun _ => Rx) (fun v h => withF f d v fun f' => k ⟨f', ds, h, rc⟩) x) r

def rOp (P : Program) (L : Nat × Nat) (self : Self) (N : Nat) (ro : Option Nat) (ops : Array Oper) (o : Oper) (k : RS → Rx) (s : RS) : Rx :=
  RS.rec (motive := fun _ => Rx) (fun f ds h rc =>
    wantK N ops f o.guard
      (Bool.rec (motive := fun _ => Rx) (rSeq k (sOp P L self ro o ⟨f, ds, h, rc⟩ (calleeT f o.op))) (rDone f ds rc o.dst k (estepT P o.op (ev f) h)) (fastOp o.op))
      (withF f o.dst undef fun f' => k ⟨f', ds, h, rc⟩) none) s

def rOps (P : Program) (L : Nat × Nat) (self : Self) (N : Nat) (ro : Option Nat) (ops : Array Oper) (os : List Oper) : RS → Rx :=
  List.rec (motive := fun _ => RS → Rx) (fun s => some (.normal, s)) (fun o _ ih => rOp P L self N ro ops o ih) os

def sTr (x : FT × HT) (r : Option DRes) : Option DRes :=
  match r with
  | some (.tr fs2 h2 tr) => some (.tr fs2 h2 (x :: tr))
  | some (.trp tr j v h') => some (.trp (x :: tr) j v h')
  | none => none

def sDrawP (P : Program) (N : Nat) (ops : Array Oper) (j : Nat) : List Oper → FT → HT → Option (List (FT × HT))
  | [], _, _ => some []
  | o :: os, fs, h =>
    if ordB (befores ops) j (ops.size - (os.length + 1)) then (sDrawP P N ops j os (putF fs o.dst (.chan none)) h).map ((putF fs o.dst (.chan none), h) :: ·)
    else
      match wantE N ops fs o with
      | some false => (sDrawP P N ops j os (putF fs o.dst undef) h).map ((putF fs o.dst undef, h) :: ·)
      | some true =>
        if isQuiet o.op then
          match estepT P o.op (ev fs) h with
          | some (v, h1) => (sDrawP P N ops j os (putF fs o.dst v) h1).map ((putF fs o.dst v, h1) :: ·)
          | none => none
        else none
      | none => none

def sDrawR (P : Program) (N : Nat) (ops : Array Oper) (o : Oper) (os : List Oper) (k : FT → HT → Option DRes) (fs : FT) (h : HT) (r : Option Res) : Option DRes :=
  match r with
  | some (.out (.ret v) h1) => if h.len ≤ h1.len then sTr (putF fs o.dst v, h1) (k (putF fs o.dst v) h1) else none
  | some (.out (.pan v) h') => match sDrawP P N ops (ops.size - (os.length + 1)) os (putF fs o.dst (.chan none)) h with
    | some tr => some (.trp ((putF fs o.dst (.chan none), h) :: tr) (ops.size - (os.length + 1)) v h')
    | _ => none
  | _ => none

def sDrawC (P : Program) (L : Nat × Nat) (self : Self) (N : Nat) (ops : Array Oper) (o : Oper) (os : List Oper) (k : FT → HT → Option DRes) (fs : FT) (h : HT) (c : Option (FuncId × Array Value)) : Option DRes :=
  match c with
  | some (g, args) => if inL L g && !isQuiet o.op then sDrawR P N ops o os k fs h (self (.fn g args h)) else none
  | none => none

def rDoneD (f : FT) (h : HT) (d : Option Nat) (k : FT → HT → Option DRes) (r : Option (Value × HT)) : Option DRes :=
  Option.rec (motive := fun _ => Option DRes) none (fun x => Prod.rec (motive := fun _ => Option DRes) (fun v h1 => Bool.rec (motive := fun _ => Option DRes) none (withF f d v fun f' => sTr (f', h1) (k f' h1)) (Nat.ble h.len h1.len)) x) r

def rDraw1 (P : Program) (L : Nat × Nat) (self : Self) (N : Nat) (ops : Array Oper) (o : Oper) (os : List Oper) (k : FT → HT → Option DRes) (f : FT) (h : HT) : Option DRes :=
  wantK N ops f o.guard
    (Bool.rec (motive := fun _ => Option DRes) (sDrawC P L self N ops o os k f h (calleeT f o.op)) (rDoneD f h o.dst k (estepT P o.op (ev f) h)) (fastOp o.op))
    (withF f o.dst undef fun f' => sTr (f', h) (k f' h)) none

def rDraw (P : Program) (L : Nat × Nat) (self : Self) (N : Nat) (ops : Array Oper) (os : List Oper) : FT → HT → Option DRes :=
  List.rec (motive := fun _ => FT → HT → Option DRes) (fun f h => some (.tr f h [])) (fun o os ih => rDraw1 P L self N ops o os ih) os

def sDrawn (ops : Array Oper) (s : RS) (r : Option DRes) : Rx :=
  match r with
  | some (.tr fs h tr) => if (badPairs ops).all (sideB ops (s.fs, s.h) tr) then some (.normal, { s with fs := fs, h := h }) else none
  | some (.trp tr _ v h') => if (badPairs ops).all (sideB ops (s.fs, s.h) tr) then some (.panic v, { s with fs := panicF ops s.fs, h := h' }) else none
  | none => none

def sRange2 (s : RS) (l : Nat) (mark : List Deferred) (r : Option Res) : Rx :=
  match r with
  | some (.out (.ret _) h2) =>
    match h2.get l with
    | some (.loop L2) =>
      match L2.state, jumpEx L2.pending with
      | .busy, _ => none
      | _, some ex => some (ex, { s with ds := mark ++ s.ds, h := h2.set l (.loop { L2 with state := .exhausted, pending := L2.pending }) })
      | _, none => none
    | _ => none
  | some (.out (.pan v) h2) => some (.panic v, { s with ds := mark ++ s.ds, h := h2 })
  | _ => none

def sRange (L : Nat × Nat) (self : Self) (s : RS) (x : Operand) (r : Option (EH × Nat × List Deferred)) : Rx :=
  match r with
  | some (h1, l, mark) =>
    match iterOf s.fs x l with
    | some (g, args) => if inL L g then sRange2 s l mark (self (.fn g args (.ofL h1))) else none
    | none => none
  | none => none

def rCond (ka kb : Rx) (v : Value) : Rx :=
  match v with
  | .bool t => Bool.rec (motive := fun _ => Rx) kb ka t
  | _ => none

def rBlock (id : Nat) (r : Rx) : Rx := Option.rec (motive := fun _ => Rx) none (fun x => Prod.rec (motive := fun _ => Rx) (fun ex s => some (ex.outOf id, s)) x) r

def exOf (r : Option Res) : Rx :=
  match r with
  | some (.ex e s) => some (e, s)
  | _ => none

def rCode (P : Program) (L : Nat × Nat) (self : Self) (N : Nat) (ro : Option Nat) (c : Code) : RS → Rx :=
  Code.rec (motive := fun _ => RS → Rx)
    (fun s => some (.normal, s))
    (fun _ ops draw s => Bool.rec (motive := fun _ => Rx) (rOps P L self N ro ops ops.toList s) (sDrawn ops s (rDraw P L self N ops ops.toList s.fs s.h)) draw)
    (fun _ _ iha ihb s => rSeq ihb (iha s))
    (fun x _ _ iha ihb s => rCond (iha s) (ihb s) (ev s.fs x))
    (fun id _ ih s => rBlock id (ih s))
    (fun a _ s => exOf (self (.head N ro a s)))
    (fun x ps assign body _ _ s => sRange L self s x (enterE N s.st ps assign body ro))
    (fun id s => some (.exit id, s))
    (fun _ ih s => ih s)
    (fun _ s => some (.normal, s))
    (fun _ _ => none)
    (fun s => some (.ret, s))
    (fun _ _ => none) c

def sHead (self : Self) (N : Nat) (ro : Option Nat) (a : Code) (r : Rx) : Option Res :=
  match r with
  | some (.normal, s1) => self (.head N ro a s1)
  | some (ex, s1) => some (.ex ex s1)
  | none => none

def sFn2 (self : Self) (fn : Func) (r : Rx) : Option Res :=
  match r with
  | some (ex, s) =>
    match ex.ends with
    | some pm => self (.fin fn s pm)
    | none => none
  | none => none

def sFn (P : Program) (L : Nat × Nat) (self : Self) (args : Array Value) (h : HT) (b : Option (Func × Code)) : Option Res :=
  match b with
  | some (fn, c) => if args.size ≤ fn.ntmps then sFn2 self fn (rCode P L self fn.ntmps none c { fs := initK args, ds := [], h, rc := none }) else none
  | none => none

def sDfn (P : Program) (L : Nat × Nat) (self : Self) (g : FuncId) (args : Array Value) (h : HT) (rc : Option (Value × Bool)) : Option Res :=
  match bodyOf P L g with
  | some (fn, c) =>
    if args.size ≤ fn.ntmps then
      match rCode P L self fn.ntmps none c { fs := initK args, ds := [], h, rc } with
      | some (ex, s) =>
        match ex.ends, s.ds, eResults P fn.ntmps fn.results s.fs s.h.abs with
        | some none, [], some _ => some (.dres s.h s.rc)
        | _, _, _ => none
      | none => none
    else none
  | none => none

def tResult (P : Program) (N : Nat) (f : Nat → Value) (h : HT) : ResultVar → Option Value
  | .tmp t => if t < N then some (f t) else none
  | .cell a t => if a < N then tLoad P t (f a) h else none
def tRes (P : Program) (N : Nat) (f : Nat → Value) (h : HT) : List ResultVar → Option (List Value)
  | [] => some []
  | r :: rs => match tResult P N f h r, tRes P N f h rs with
    | some v, some vs => some (v :: vs)
    | _, _ => none
def tResults (P : Program) (N : Nat) (rs : Array ResultVar) (f : Nat → Value) (h : HT) : Option Value :=
  (tRes P N f h rs.toList).map fun vs => match vs with
    | [v] => v
    | vs => .tuple vs.toArray
theorem tResults_eq (P : Program) (N : Nat) (rs : Array ResultVar) (f : Nat → Value) (h : HT) : tResults P N rs f h = eResults P N rs f h.abs := by
  have h1 : ∀ r, tResult P N f h r = eResult P N f h.abs r := fun r => by cases r <;> simp only [tResult, eResult, tLoad_eq]
  have h2 : ∀ rs, tRes P N f h rs = eRes P N f h.abs rs := fun rs => by
    induction rs with
    | nil => rfl
    | cons r rs ih => simp only [tRes, eRes, h1, ih]; rfl
  simp only [tResults, eResults, h2]; rfl

def sFin (P : Program) (L : Nat × Nat) (self : Self) (fn : Func) (s : RS) (pm : Option Value) : Option Res :=
  match s.ds with
  | [] => match pm with
    | none => (tResults P fn.ntmps fn.results s.fs s.h).map fun v => .out (.ret v) s.h
    | some v => some (.out (.pan v) s.h)
  | d :: ds => match d.target with
    | .fn (.func g) cs =>
      if inL L g then
        match self (.dfn g (d.args ++ cs) s.h (pm.map (·, false))) with
        | some (.dres h1 rc1) => self (.fin fn { s with ds := ds, h := h1 } (pmOf rc1))
        | _ => none
      else none
    | .collected r => match s.h.get r with
      | some .defers => self (.fin fn { s with ds := ds, h := s.h.set r .dead } pm)
      | _ => none
    | _ => none

def sRound (P : Program) (L : Nat × Nat) (self : Self) (l : Nat) (args : Array Value) (h : HT) : Option Res :=
  match h.get l with
  | some (.loop L0) =>
    if args.size = L0.params.size ∧ forceN L0.tmps.size (fun n => codeOk n L0.assign && codeOk n L0.body) = true then
      match rCode P L self L0.tmps.size (some l) L0.assign { fs := fillF (bindParams L0.params args L0.tmps).toList 0, ds := [], h, rc := none } with
      | some (.normal, s1) =>
        match s1.h.get l with
        | some (.loop L1) =>
          match L1.state with
          | .ready =>
            match rCode P L self L0.tmps.size (some l) L0.body { s1 with h := s1.h.set l (.loop { L1 with state := .busy, pending := L1.pending }) } with
            | some (ex, s2) =>
              match s2.h.get l, s2.ds with
              | some (.loop L2), [] => (roundEnd l L2 s2.h.abs ex).map fun x => .out x.1 (.ofL x.2)
              | _, _ => none
            | none => none
          | _ => none
        | _ => none
      | _ => none
    else none
  | _ => none

def step (P : Program) (L : Nat × Nat) (self : Self) (t : Task) : Option Res :=
  match t with
  | .head N ro a s => sHead self N ro a (rCode P L self N ro a s)
  | .fn g args h => sFn P L self args h (bodyOf P L g)
  | .dfn g args h rc => sDfn P L self g args h rc
  | .fin fn s pm => sFin P L self fn s pm
  | .round l args h => sRound P L self l args h

def run (P : Program) (L : Nat × Nat) (n : Nat) : Task → Option Res := Nat.rec (motive := fun _ => Task → Option Res) (fun _ => none) (fun _ self t => step P L self t) n

theorem run_succ (P : Program) (L : Nat × Nat) (n : Nat) (t : Task) : run P L (n + 1) t = step P L (run P L n) t := rfl

def Sound (P : Program) : Task → Res → Prop
  | .head N ro c s, .ex ex s' => codeOk N c = true → SndHead P N ro c s.st ex s'.st
  | .fn g args h, .out o h' => SndFn P g args h.abs o h'.abs
  | .dfn g args h rc, .dres h' rc' => SndDef P g args h.abs rc h'.abs rc'
  | .fin fn s pm, .out o h' => SndEnd P fn s.st pm o h'.abs
  | .round l args h, .out o h' => SndRound P l args h.abs o h'.abs
  | .head .., _ => True
  | .fn .., _ => True
  | .dfn .., _ => True
  | .fin .., _ => True
  | .round .., _ => True

theorem okFns_at {P : Program} {L : Nat × Nat} (hL : okFns P L = true) {g : FuncId} (hg : inL L g = true) : (fnOk P g && match P.funcs[g]? with
  | some fn => (match fn.body with | some c => codeOk fn.ntmps c | none => false)
  | none => false) = true := by
  simp only [inL, Bool.and_eq_true, blt_eq, decide_eq_true_eq, Nat.ble_eq] at hg
  have := List.all_eq_true.1 hL g (List.mem_range.2 hg.2)
  rw [blt_eq, show decide (g < L.1) = false by simpa using hg.1, Bool.false_or] at this
  exact this

theorem bodyOf_ok {P : Program} {L : Nat × Nat} (hL : okFns P L = true) {g : FuncId} {fn : Func} {c : Code} (e : bodyOf P L g = some (fn, c)) : P.funcs[g]? = some fn ∧ fn.body = some c ∧ codeOk fn.ntmps c = true := by
  unfold bodyOf at e
  split at e
  · rename_i hg
    have := okFns_at hL hg
    split at e
    · rename_i fn' hf
      simp only [Option.map_eq_some_iff, Prod.mk.injEq] at e
      obtain ⟨c', hc, rfl, rfl⟩ := e
      rw [hf] at this
      simp only [hc, Bool.and_eq_true] at this
      exact ⟨hf, hc, this.2⟩
    · cases e
  · cases e

theorem fnOk_of {P : Program} {L : Nat × Nat} (hL : okFns P L = true) {g : FuncId} (hg : inL L g = true) : fnOk P g = true := by
  have := okFns_at hL hg
  simp only [Bool.and_eq_true] at this
  exact this.1
end
end Go.E
namespace Go.E
open Go

section
variable {P : Program} {L : Nat × Nat} {self : Self}

theorem st_put {f : FT} {ds : List Deferred} {h h' : HT} {rc : Option (Value × Bool)} {d : Option Nat} {v : Value} : RS.st ⟨putF f d v, ds, h', rc⟩ = (RS.st ⟨f, ds, h, rc⟩).put d v h'.abs := by
  simp only [RS.st, St.put, putF_eq]

theorem sBack_sound {s s' : RS} {d : Option Nat} {r : Option Res} {ex : Ex} (e : sBack s d r = some (ex, s')) : (∃ v h, r = some (.out (.ret v) h) ∧ ex = .normal ∧ s' = ⟨putF s.fs d v, s.ds, h, s.rc⟩) ∨ (∃ v h, r = some (.out (.pan v) h) ∧ ex = .panic v ∧ s' = ⟨s.fs, s.ds, h, s.rc⟩) := by
  unfold sBack at e
  split at e
  · rename_i v h
    rw [withF_eq] at e
    simp only [Option.some.injEq, Prod.mk.injEq] at e
    exact .inl ⟨v, h, rfl, e.1.symm, e.2.symm⟩
  · rename_i v h
    simp only [Option.some.injEq, Prod.mk.injEq] at e
    exact .inr ⟨v, h, rfl, e.1.symm, e.2.symm⟩
  · cases e

theorem sOp_sound {N : Nat} {ro : Option Nat} {o : Oper} {s s' : RS} {ex : Ex} (hL : okFns P L = true) (ih : ∀ t r, self t = some r → Sound P t r) (e : sOp P L self ro o s (calleeT s.fs o.op) = some (ex, s')) (hk : opOk N o = true) : SndOp P N ro o s.st ex s'.st := by
  rw [calleeT_eq] at e
  unfold sOp at e
  split at e
  · rename_i g args hcal
    split at e
    · rename_i hg
      rcases sBack_sound e with ⟨v, h, hr, rfl, rfl⟩ | ⟨v, h, hr, rfl, rfl⟩
      · rw [st_put (h := s.h)]
        exact snd_call hk hcal (fnOk_of hL hg) (ih _ _ hr)
      · exact snd_call_panic hk hcal (fnOk_of hL hg) (ih _ _ hr)
    · cases e
  · unfold sOpY at e
    split at e
    · rename_i l args hy
      rcases sBack_sound e with ⟨v, h, hr, rfl, rfl⟩ | ⟨v, h, hr, rfl, rfl⟩
      · rw [st_put (h := s.h)]
        exact snd_yield hk hy (ih _ _ hr)
      · exact snd_yield_panic hk hy (ih _ _ hr)
    · unfold sSpec at e
      split at e
      · rename_i x hs
        have ho : o.op = .panic x := by
          cases hop : o.op <;> rw [hop] at hs <;> simp only [spec, Spec.pan.injEq, reduceCtorEq] at hs
          · split at hs <;> cases hs
          · split at hs <;> cases hs
          · rw [hs]
        split at e
        · rename_i t u hx
          cases e
          exact snd_panic hk ho hx
        · cases e
      · rename_i c x hs
        have ho : o.op = .defer c ∧ c.callee = .value x := by
          cases hop : o.op <;> rw [hop] at hs <;> simp only [spec, reduceCtorEq] at hs
          · split at hs <;> cases hs
          · split at hs
            · rename_i hc; cases hs; exact ⟨rfl, hc⟩
            · cases hs
        split at e
        · rename_i hro
          have hro' : ro = none := by cases ro <;> simp_all
          subst hro'
          split at e
          · rename_i fn as cs hx
            simp only [Option.some.injEq, Prod.mk.injEq] at e
            obtain ⟨rfl, rfl⟩ := e
            have := snd_defer (P := P) (st := s.st) hk ho.1 ho.2 hx
            simp only [RS.st, putF_eq] at this ⊢
            exact this
          · cases e
        · cases e
      · rename_i hs
        have ho : ∃ c, o.op = .call c ∧ c.callee = .builtin .recover := by
          cases hop : o.op <;> rw [hop] at hs <;> simp only [spec, reduceCtorEq] at hs
          · rename_i c
            split at hs
            · rename_i hc; exact ⟨c, rfl, hc⟩
            · cases hs
          · split at hs <;> cases hs
        obtain ⟨c, ho1, ho2⟩ := ho
        split at e
        · rename_i hro
          have hro' : ro = none := by cases ro <;> simp_all
          subst hro'
          simp only [Option.some.injEq, Prod.mk.injEq] at e
          obtain ⟨rfl, rfl⟩ := e
          have := snd_recover (P := P) (N := N) (st := s.st) ho1 ho2
          simp only [RS.st, putF_eq] at this ⊢
          exact this
        · cases e
      · cases e

theorem rOps_sound {N : Nat} {ro : Option Nat} {ops : Array Oper} (hL : okFns P L = true) (ih : ∀ t r, self t = some r → Sound P t r) (hr : regOk N ops = true) : ∀ (os : List Oper) (s s' : RS) (ex : Ex), rOps P L self N ro ops os s = some (ex, s') → ∀ i, ops.toList.drop i = os → i ≤ ops.size →
    SndOps P N ro ops ((List.range (ops.size - i)).map (· + i)) s.st ex s'.st := by
  intro os
  induction os with
  | nil =>
    intro s s' ex e i hd hi
    have e' : some (Ex.normal, s) = some (ex, s') := e
    cases e'
    have : ops.size ≤ i := by
      have := List.drop_eq_nil_iff.1 hd
      simpa using this
    have h0 : ops.size - i = 0 := by omega
    rw [h0]
    exact ops_nil
  | cons o os iho =>
    intro s s' ex e i hd hi
    obtain ⟨h1, h2, h3⟩ := drop_cons hd
    rw [range_from (Array.getElem?_eq_some_iff.1 h1).1]
    have e' : rOp P L self N ro ops o (rOps P L self N ro ops os) s = some (ex, s') := e
    obtain ⟨f, ds, h, rc⟩ := s
    simp only [rOp] at e'
    rw [wantK_eq] at e'
    split at e'
    · rename_i hw
      cases hf : fastOp o.op with
      | true =>
        rw [hf] at e'
        simp only [rDone] at e'
        cases hs : estepT P o.op (ev f) h with
        | none => rw [hs] at e'; cases e'
        | some x =>
          obtain ⟨v, h'⟩ := x
          rw [hs] at e'
          simp only [withF_eq] at e'
          have k := iho _ _ _ e' _ h2 h3
          rw [st_put (h := h)] at k
          exact ops_cons h1 hw (snd_simple (st := RS.st ⟨f, ds, h, rc⟩) (regOk_op hr h1) (estepT_some hs)) k
      | false =>
        rw [hf] at e'
        simp only [rSeq_eq] at e'
        split at e'
        · rename_i s1 hs
          exact ops_cons h1 hw (sOp_sound hL ih hs (regOk_op hr h1)) (iho _ _ _ e' _ h2 h3)
        · rename_i hne
          have k := sOp_sound hL ih e' (regOk_op hr h1)
          refine ops_out h1 hw k ?_
          intro hx; subst hx; exact hne _ e'
    · rename_i hw
      rw [withF_eq] at e'
      have k := iho _ _ _ e' _ h2 h3
      rw [st_put (h := h)] at k
      exact ops_skip h1 hw k
    · cases e'

theorem drop_len {ops : Array Oper} {o : Oper} {os : List Oper} {i : Nat} (hd : ops.toList.drop i = o :: os) (hi : i ≤ ops.size) : ops.size - (os.length + 1) = i := by
  have := congrArg List.length hd
  simp only [List.length_drop, Array.length_toList, List.length_cons] at this
  omega

theorem stAt_cons {s s' : (Nat → Value) × EH} {tr : List ((Nat → Value) × EH)} {k : Nat} (h0 : 0 < k) (hk : k ≤ tr.length + 1) : stAt s (s' :: tr) k = stAt s' tr (k - 1) := by
  have := stAt_succ (s := s) (s' := s') (tr := tr) (k := k - 1) (by omega)
  rwa [show k - 1 + 1 = k by omega] at this

def SoundD (P : Program) (N : Nat) (ops : Array Oper) (i : Nat) (f : FT) (h : HT) : DRes → Prop
  | .tr f' h' tr => DSeq P N ops i f h.abs (tr.map absS) ∧ (tr.map absS).getLastD (f, h.abs) = (f', h'.abs)
  | .trp tr j v hp => DSeqP P N ops j i f h.abs (tr.map absS) ∧ i ≤ j ∧ ∃ o g args, ops[j]? = some o ∧ isQuiet o.op = false ∧ wantE N ops (stAt (f, h.abs) (tr.map absS) (j - i)).1 o = some true ∧
      callee (stAt (f, h.abs) (tr.map absS) (j - i)).1 o.op = some (g, args) ∧ fnOk P g = true ∧ SndFn P g args (stAt (f, h.abs) (tr.map absS) (j - i)).2 (.pan v) hp.abs

theorem sTr_sound {N : Nat} {ops : Array Oper} {i : Nat} {f f1 : FT} {h h1 : HT} {r : Option DRes} {d : DRes} (e : sTr (f1, h1) r = some d) (hr : ∀ d', r = some d' → SoundD P N ops (i + 1) f1 h1 d')
    (c1 : ∀ {tr : List ((Nat → Value) × EH)}, DSeq P N ops (i + 1) f1 h1.abs tr → DSeq P N ops i f h.abs ((f1, h1.abs) :: tr)) (c2 : ∀ {j : Nat} {tr : List ((Nat → Value) × EH)}, DSeqP P N ops j (i + 1) f1 h1.abs tr → DSeqP P N ops j i f h.abs ((f1, h1.abs) :: tr)) : SoundD P N ops i f h d := by
  unfold sTr at e
  split at e
  · rename_i fs2 h2 tr
    cases e
    obtain ⟨k1, k2⟩ := hr _ rfl
    exact ⟨c1 k1, by rw [List.map_cons, List.getLastD_cons]; exact k2⟩
  · rename_i tr j v h'
    cases e
    obtain ⟨k1, k2, o, g, args, q1, q2, q3, q4, q5, q6⟩ := hr _ rfl
    have hlen := k1.len
    have hjl := (Array.getElem?_eq_some_iff.1 q1).1
    have he := stAt_cons (s := (f, h.abs)) (s' := (f1, h1.abs)) (tr := tr.map absS) (k := j - i) (by omega) (by omega)
    rw [show j - i - 1 = j - (i + 1) by omega] at he
    refine ⟨c2 k1, by omega, o, g, args, q1, q2, ?_⟩
    have he' : stAt (f, h.abs) (List.map absS ((f1, h1) :: tr)) (j - i) = stAt (f1, h1.abs) (tr.map absS) (j - (i + 1)) := he
    rw [he']
    exact ⟨q3, q4, q5, q6⟩
  · cases e

theorem sDrawP_sound {N : Nat} {ops : Array Oper} {j : Nat} (hr : regOk N ops = true) : ∀ (os : List Oper) (f : FT) (h : HT) (tr : List (FT × HT)), sDrawP P N ops j os f h = some tr → ∀ i, ops.toList.drop i = os → i ≤ ops.size → j < i → DSeqP P N ops j i f h.abs (tr.map absS) := by
  intro os
  induction os with
  | nil =>
    intro f h tr e i hd hi hji
    simp only [sDrawP, Option.some.injEq] at e
    subst e
    have : ops.size ≤ i := by
      have := List.drop_eq_nil_iff.1 hd
      simpa using this
    exact .done (by omega)
  | cons o os iho =>
    intro f h tr e i hd hi hji
    have hl := drop_len hd hi
    obtain ⟨h1, h2, h3⟩ := drop_cons hd
    simp only [sDrawP] at e
    rw [hl] at e
    split at e
    · rename_i hb
      simp only [Option.map_eq_some_iff] at e
      obtain ⟨tr', e, rfl⟩ := e
      have k := iho _ _ _ e _ h2 h3 (by omega)
      rw [putF_eq] at k
      simp only [List.map_cons, absS, putF_eq]
      exact .behind h1 (regOk_op hr h1) hji hb k
    · split at e
      · rename_i hw
        simp only [Option.map_eq_some_iff] at e
        obtain ⟨tr', e, rfl⟩ := e
        have k := iho _ _ _ e _ h2 h3 (by omega)
        rw [putF_eq] at k
        simp only [List.map_cons, absS, putF_eq]
        exact .skip h1 (regOk_op hr h1) hw k
      · rename_i hw
        split at e
        · rename_i hq
          split at e
          · rename_i v h1' he
            simp only [Option.map_eq_some_iff] at e
            obtain ⟨tr', e, rfl⟩ := e
            have k := iho _ _ _ e _ h2 h3 (by omega)
            rw [putF_eq] at k
            simp only [List.map_cons, absS, putF_eq]
            exact .op h1 (regOk_op hr h1) hw (estep_len hq (estepT_some he)) (.inl ⟨hq, estepT_some he⟩) k
          · cases e
        · cases e
      · cases e

theorem rDraw_sound {N : Nat} {ops : Array Oper} (hL : okFns P L = true) (ih : ∀ t r, self t = some r → Sound P t r) (hr : regOk N ops = true) : ∀ (os : List Oper) (f : FT) (h : HT) (d : DRes), rDraw P L self N ops os f h = some d → ∀ i, ops.toList.drop i = os → i ≤ ops.size → SoundD P N ops i f h d := by
  intro os
  induction os with
  | nil =>
    intro f h d e i hd hi
    have e' : some (DRes.tr f h []) = some d := e
    cases e'
    have : ops.size ≤ i := by
      have := List.drop_eq_nil_iff.1 hd
      simpa using this
    exact ⟨.done (by omega), rfl⟩
  | cons o os iho =>
    intro f h d e i hd hi
    have hl := drop_len hd hi
    obtain ⟨h1, h2, h3⟩ := drop_cons hd
    have e' : rDraw1 P L self N ops o os (rDraw P L self N ops os) f h = some d := e
    simp only [rDraw1] at e'
    rw [wantK_eq] at e'
    split at e'
    · rename_i hw
      cases hf : fastOp o.op with
      | true =>
        rw [hf] at e'
        simp only [rDoneD] at e'
        cases hs : estepT P o.op (ev f) h with
        | none => rw [hs] at e'; cases e'
        | some x =>
          obtain ⟨v, h'⟩ := x
          rw [hs] at e'
          simp only [withF_eq, bool_rec, Option.ite_none_right_eq_some] at e'
          obtain ⟨hlen, e'⟩ := e'
          have hlen' : h.abs.length ≤ h'.abs.length := by rw [HT.abs_len, HT.abs_len]; exact Nat.le_of_ble_eq_true hlen
          have st : (isQuiet o.op = true ∧ estep P o.op (ev f) h.abs = some (v, h'.abs)) ∨ (isQuiet o.op = false ∧ XStep P f h.abs o.op v h'.abs) := by
            cases hq : isQuiet o.op with
            | true => exact .inl ⟨rfl, estepT_some hs⟩
            | false => exact .inr ⟨rfl, .simple (estepT_some hs)⟩
          refine sTr_sound e' (fun d' hd' => iho _ _ _ hd' _ h2 h3) (fun k => ?_) (fun k => ?_)
          · rw [putF_eq] at k ⊢
            exact .op h1 (regOk_op hr h1) hw hlen' st k
          · rw [putF_eq] at k ⊢
            exact .op h1 (regOk_op hr h1) hw hlen' st k
      | false =>
        rw [hf] at e'
        simp only [calleeT_eq, sDrawC] at e'
        split at e'
        · rename_i g args hcal
          split at e'
          · rename_i hg
            simp only [Bool.and_eq_true, Bool.not_eq_true'] at hg
            simp only [sDrawR] at e'
            split at e'
            · rename_i v h1' hrun
              simp only [Option.ite_none_right_eq_some] at e'
              obtain ⟨hlen, e'⟩ := e'
              have hlen' : h.abs.length ≤ h1'.abs.length := by rw [HT.abs_len, HT.abs_len]; exact hlen
              refine sTr_sound e' (fun d' hd' => iho _ _ _ hd' _ h2 h3) (fun k => ?_) (fun k => ?_)
              · rw [putF_eq] at k ⊢
                exact .op h1 (regOk_op hr h1) hw hlen' (.inr ⟨hg.2, .call hcal (fnOk_of hL hg.1) (ih _ _ hrun)⟩) k
              · rw [putF_eq] at k ⊢
                exact .op h1 (regOk_op hr h1) hw hlen' (.inr ⟨hg.2, .call hcal (fnOk_of hL hg.1) (ih _ _ hrun)⟩) k
            · rename_i v hp' hrun
              rw [hl] at e'
              split at e'
              · rename_i tr hp
                cases e'
                have k := sDrawP_sound hr _ _ _ _ hp _ h2 h3 (by omega)
                rw [putF_eq] at k
                refine ⟨?_, Nat.le_refl _, o, g, args, h1, hg.2, ?_⟩
                · simp only [List.map_cons, absS, putF_eq]
                  exact .pan h1 (regOk_op hr h1) hw hg.2 k
                · simp only [Nat.sub_self, stAt_zero]
                  exact ⟨hw, hcal, fnOk_of hL hg.1, ih _ _ hrun⟩
              · cases e'
            · cases e'
          · cases e'
        · cases e'
    · rename_i hw
      rw [withF_eq] at e'
      refine sTr_sound e' (fun d' hd' => iho _ _ _ hd' _ h2 h3) (fun k => ?_) (fun k => ?_)
      · rw [putF_eq] at k ⊢
        exact .skip h1 (regOk_op hr h1) hw k
      · rw [putF_eq] at k ⊢
        exact .skip h1 (regOk_op hr h1) hw k
    · cases e'

theorem rCode_sound {N : Nat} {ro : Option Nat} (hL : okFns P L = true) (hm : P.follows .mixedOrders = true) (ih : ∀ t r, self t = some r → Sound P t r) : ∀ (c : Code) (s s' : RS) (ex : Ex), rCode P L self N ro c s = some (ex, s') → codeOk N c = true → SndCode P N ro c s.st ex s'.st := by
  intro c
  induction c with
  | skip => intro s s' ex e _; cases e; exact snd_skip
  | label l => intro s s' ex e _; cases e; exact snd_label
  | exit id => intro s s' ex e _; cases e; exact snd_exit
  | ret => intro s s' ex e _; cases e; exact snd_ret
  | seq a b iha ihb =>
    intro s s' ex e hk
    simp only [codeOk, Bool.and_eq_true] at hk
    have e' : rSeq (rCode P L self N ro b) (rCode P L self N ro a s) = some (ex, s') := e
    rw [rSeq_eq] at e'
    split at e'
    · rename_i s1 h1
      exact snd_seq (iha _ _ _ h1 hk.1) (ihb _ _ _ e' hk.2)
    · rename_i hne
      refine snd_seq_out ?_ (iha _ _ _ e' hk.1)
      intro hx; subst hx; exact hne _ e'
  | cond x a b iha ihb =>
    intro s s' ex e hk
    simp only [codeOk, Bool.and_eq_true] at hk
    have e' : rCond (rCode P L self N ro a s) (rCode P L self N ro b s) (ev s.fs x) = some (ex, s') := e
    unfold rCond at e'
    split at e'
    · rename_i t ht
      refine snd_cond hk.1.1 ht ?_
      cases t with
      | true => exact iha _ _ _ e' hk.1.2
      | false => exact ihb _ _ _ e' hk.2
    · cases e'
  | block id a iha =>
    intro s s' ex e hk
    simp only [codeOk] at hk
    have e' : rBlock id (rCode P L self N ro a s) = some (ex, s') := e
    cases hx : rCode P L self N ro a s with
    | none => rw [hx] at e'; cases e'
    | some y =>
      obtain ⟨ex1, s1⟩ := y
      rw [hx] at e'
      cases e'
      exact snd_block (iha _ _ _ hx hk)
  | loop a _ =>
    intro s s' ex e hk
    have e' : exOf (self (.head N ro a s)) = some (ex, s') := e
    unfold exOf at e'
    split at e'
    · rename_i ex1 s1 h1
      cases e'
      have := ih _ _ h1
      exact snd_loop (this (by simpa only [codeOk] using hk))
    · cases e'
  | region id ops draw =>
    intro s s' ex e hk
    simp only [codeOk, Bool.and_eq_true] at hk
    cases draw with
    | false =>
      have e' : rOps P L self N ro ops ops.toList s = some (ex, s') := e
      have k := rOps_sound hL ih hk.1 _ _ _ _ e' 0 rfl (Nat.zero_le _)
      exact snd_region (by simpa using k)
    | true =>
      have e' : sDrawn ops s (rDraw P L self N ops ops.toList s.fs s.h) = some (ex, s') := e
      have hdr : drawOk ops = true := by simpa using hk.2
      unfold sDrawn at e'
      split at e'
      · rename_i fs h tr h1
        simp only [Option.ite_none_right_eq_some, Option.some.injEq, Prod.mk.injEq] at e'
        obtain ⟨hs, rfl, rfl⟩ := e'
        obtain ⟨k1, k3⟩ := rDraw_sound hL ih hk.1 _ _ _ _ h1 0 rfl (Nat.zero_le _)
        have w : W P N ro (.region id ops true) s.st (fun ex' st' => ex' = .normal ∧ st' = RS.st { s with fs := fs, h := h }) :=
          W.draw hm hdr ⟨tr.map absS, k1, fun p hp => sideB_ok (List.all_eq_true.1 hs p hp), rfl, by
            simp only [RS.st]
            rw [k3]⟩
        obtain ⟨ex', st', w1, rfl, rfl⟩ := w
        exact w1
      · rename_i tr j v h' h1
        simp only [Option.ite_none_right_eq_some, Option.some.injEq, Prod.mk.injEq] at e'
        obtain ⟨hs, rfl, rfl⟩ := e'
        obtain ⟨k1, _, o, g, args, k2, k3, k4, k5, k6, k7⟩ := rDraw_sound hL ih hk.1 _ _ _ _ h1 0 rfl (Nat.zero_le _)
        have w : W P N ro (.region id ops true) s.st (fun ex' st' => ex' = .panic v ∧ st' = { f := panicF ops s.st.f, ds := s.st.ds, h := h'.abs, rc := s.st.rc }) :=
          W.draw_panic (st := s.st) hm hdr k1 (fun p hp => sideB_ok (List.all_eq_true.1 hs p hp)) k2 (regOk_op hk.1 k2) k4 k3 k5 k6 k7 ⟨rfl, rfl⟩
        obtain ⟨ex', st', w1, rfl, rfl⟩ := w
        exact w1
      · cases e'
  | rangeFunc f ps a b _ _ =>
    intro s s' ex e hk
    simp only [codeOk, Bool.and_eq_true] at hk
    have e' : sRange L self s f (enterE N s.st ps a b ro) = some (ex, s') := e
    unfold sRange at e'
    split at e'
    · rename_i h1 l mark he
      split at e'
      · rename_i g args hi
        split at e'
        · rename_i hg
          unfold sRange2 at e'
          split at e'
          · rename_i v h2 hrun
            have hs := ih _ _ hrun
            simp only [Sound, HT.abs_ofL] at hs
            split at e'
            · rename_i L2 hl2
              rw [← HT.abs_get] at hl2
              split at e'
              · cases e'
              · rename_i ex' hj hnb
                simp only [Option.some.injEq, Prod.mk.injEq] at e'
                obtain ⟨rfl, rfl⟩ := e'
                have := snd_rangeFunc hk.1.1 he hi (fnOk_of hL hg) hs hl2 (fun hb => hnb hb) rfl hj
                simp only [RS.st, HT.abs_set]
                exact this
              · cases e'
            · cases e'
          · rename_i v h2 hrun
            cases e'
            have hs := ih _ _ hrun
            simp only [Sound, HT.abs_ofL] at hs
            exact snd_rangeFunc_panic hk.1.1 he hi (fnOk_of hL hg) hs
          · cases e'
        · cases e'
      · cases e'
    · cases e'
  | scope a ih =>
    intro s s' ex e hk
    exact snd_scope (ih _ _ _ e hk)
  | goto l => intro s s' ex e _; cases e
  | refuse w => intro s s' ex e _; cases e

theorem initK_st {args : Array Value} {h : HT} {rc : Option (Value × Bool)} : RS.st { fs := initK args, ds := [], h := h, rc := rc } = initSt args h.abs rc := by
  simp only [RS.st, initSt, initK_eq]

theorem run_sound (hL : okFns P L = true) (hm : P.follows .mixedOrders = true) : ∀ (n : Nat) (t : Task) (r : Res), run P L n t = some r → Sound P t r := by
  intro n
  induction n with
  | zero => intro t r e; cases e
  | succ n ih =>
    intro t r e
    rw [run_succ] at e
    have hcode := fun {N ro} => rCode_sound (N := N) (ro := ro) hL hm ih
    cases t with
    | head N ro c s =>
      have e' : sHead (run P L n) N ro c (rCode P L (run P L n) N ro c s) = some r := e
      unfold sHead at e'
      split at e'
      · rename_i s1 h1
        have k := ih _ _ e'
        cases r with
        | ex ex s' => exact fun hk => head_next (hcode _ _ _ _ h1 hk) (k hk)
        | _ => trivial
      · rename_i ex s1 h1 hne
        cases e'
        intro hk
        refine head_out ?_ (hcode _ _ _ _ hne hk)
        intro hx; subst hx; exact h1 rfl
      · cases e'
    | fn g args h =>
      have e' : sFn P L (run P L n) args h (bodyOf P L g) = some r := e
      unfold sFn at e'
      split at e'
      · rename_i fn c hb
        obtain ⟨b1, b2, b3⟩ := bodyOf_ok hL hb
        split at e'
        · rename_i hsz
          unfold sFn2 at e'
          split at e'
          · rename_i ex s hrun
            split at e'
            · rename_i pm hx
              have k1 := hcode _ _ _ _ hrun b3
              rw [initK_st] at k1
              have k2 := ih _ _ e'
              cases r with
              | out o h' => exact fn_of_code b1 b2 hsz k1 hx k2
              | _ => trivial
            · cases e'
          · cases e'
        · cases e'
      · cases e'
    | dfn g args h rc =>
      have e' : sDfn P L (run P L n) g args h rc = some r := e
      unfold sDfn at e'
      split at e'
      · rename_i fn c hb
        obtain ⟨b1, b2, b3⟩ := bodyOf_ok hL hb
        split at e'
        · rename_i hsz
          split at e'
          · rename_i ex s hrun
            split at e'
            · rename_i v hx hd hv
              cases e'
              have k1 := hcode _ _ _ _ hrun b3
              rw [initK_st] at k1
              exact def_of_code (st' := s.st) b1 b2 hsz k1 hx hd hv
            · cases e'
          · cases e'
        · cases e'
      · cases e'
    | fin fn s pm =>
      have e' : sFin P L (run P L n) fn s pm = some r := e
      unfold sFin at e'
      split at e'
      · rename_i hd
        split at e'
        · simp only [Option.map_eq_some_iff] at e'
          obtain ⟨v, hv, rfl⟩ := e'
          rw [tResults_eq] at hv
          exact end_ret (st := s.st) hd hv
        · cases e'
          exact end_pan (st := s.st) hd
      · rename_i d ds hd
        split at e'
        · rename_i g cs ht
          split at e'
          · rename_i hg
            split at e'
            · rename_i h1 rc1 hrun
              have k1 := ih _ _ hrun
              have k2 := ih _ _ e'
              cases r with
              | out o h' => exact end_defer (st := s.st) hd ht (fnOk_of hL hg) k1 k2
              | _ => trivial
            · cases e'
          · cases e'
        · rename_i q ht
          split at e'
          · rename_i ho
            rw [← HT.abs_get] at ho
            have k2 := ih _ _ e'
            cases r with
            | out o h' =>
              simp only [Sound, RS.st, HT.abs_set] at k2
              exact end_collected (st := s.st) hd ht ho k2
            | _ => trivial
          · cases e'
        · cases e'
    | round l args h =>
      have e' : sRound P L (run P L n) l args h = some r := e
      unfold sRound at e'
      split at e'
      · rename_i L0 ho
        rw [← HT.abs_get] at ho
        split at e'
        · rename_i hc
          rw [forceN_eq] at hc
          simp only [Bool.and_eq_true] at hc
          obtain ⟨c1, c2, c3⟩ := hc
          split at e'
          · rename_i s1 hrun
            split at e'
            · rename_i L1 ho1
              rw [← HT.abs_get] at ho1
              split at e'
              · rename_i hs1
                split at e'
                · rename_i ex s2 hrun2
                  split at e'
                  · rename_i L2 ho2 hd
                    rw [← HT.abs_get] at ho2
                    simp only [Option.map_eq_some_iff] at e'
                    obtain ⟨x, hx, rfl⟩ := e'
                    have k1 := hcode _ _ _ _ hrun c2
                    have k3 := hcode _ _ _ _ hrun2 c3
                    simp only [RS.st, HT.abs_set] at k3
                    show SndRound P l args h.abs x.1 (HT.ofL x.2).abs
                    rw [HT.abs_ofL]
                    exact round_of_code (f0 := fillF (bindParams L0.params args L0.tmps).toList 0) (st₁ := s1.st) (st₂ := s2.st) ho c1 (fun t _ => by simp [fillF_eq, List.getD_eq_getElem?_getD, Array.getD_eq_getD_getElem?]) k1 ho1 hs1 k3 ho2 hd hx
                  · cases e'
                · cases e'
              · cases e'
            · cases e'
          · cases e'
        · cases e'
      · cases e'

theorem SndFn.of_run (hL : okFns P L = true) (hm : P.follows .mixedOrders = true) {n : Nat} {g : FuncId} {args : Array Value} {h h' : HT} {o : Out} (e : run P L n (.fn g args h) = some (.out o h')) : SndFn P g args h.abs o h'.abs :=
  run_sound hL hm n _ _ e
end
end Go.E
