/- B12: contracts: the books' small methods. -/
import Derived.Test.YtkpbpfnmgnpfaaaGreatBB
import Derived.Test.YtkpbpfnmgnpfaaaGreatGB
set_option linter.all false
set_option linter.constructorNameAsVariable false
set_option linter.unusedSimpArgs false
set_option linter.unusedVariables false
set_option linter.unusedSectionVars false
set_option linter.unnecessarySimpa false
namespace Go.Proofs.YtkpbpfnmgnpfaaaGreat
open Go Go.E
set_option maxRecDepth 100000

/-- A school's numbers. -/
structure Sch where
  (la ca ta : Option Addr) (ln lc cn cc tn tc : Nat) (x1 x2 x3 x4 : Int)
/-- The books' cells. -/
abbrev bkC (s : Sch) (lv kv sv av pv : Value) (mb : Nat) (tm ev : Int) : List Value :=
  [.slice s.la s.ln s.lc, .slice s.ca s.cn s.cc, .int .i64 s.x1, .int .i64 s.x2, .int .i64 s.x3, .int .i64 s.x4, .slice s.ta s.tn s.tc, lv, kv, sv, av, .map (some mb), pv, .int .i64 tm, .int .i64 ev]

/-- must: it panics where its first argument is false. -/
theorem ct85 {h : EH} {t : Bool} {e : Int} : Cp Tryz.prog 85 ⟨[.bool t, .int .i64 e]⟩ h [] (fun _ : Unit => .tuple #[]) (fun _ => t = true) (fun _ => []) (fun e : Int => .iface 38 (.int .i64 e)) (fun _ => t = false) (fun _ => []) := by
  refine Cp.go Tryz.func85 rfl rfl co85 (Hp.start (hr := fun _ => none) (by simp)) ?_
  refine GW.toSeq rfl ?_
  refine GW.toReg rfl ?_
  refine GL.one rfl .no (S1.mv (v := (.bool _)) rfl) ?_
  refine GL.one rfl .no (S1.not rfl) ?_
  refine GL.done rfl ?_
  refine GQ.on ?_
  refine GW.toC rfl rfl (fun w1 => ?_) (fun w1 => ?_)
  refine GW.toReg rfl ?_
  refine GL.one rfl .no (S1.mv (v := (.int _ _)) rfl) ?_
  refine GL.one rfl .no (S1.mi ni38 (v := (.int _ _)) rfl) ?_
  refine GL.panic rfl .no rfl ?_
  refine GQ.pan _ rfl ?_ .nil
  rotate_left
  refine GW.toSkip rfl ?_
  refine GQ.retN () .nil .z ?_ ?_ .nil
  rfl
  rotate_left
  all_goals (cases t <;> simp_all)

section
variable {h : EH} {b mb : Nat} {s : Sch} {lv kv sv av pv : Value} {tm ev : Int}
theorem ct114 (hb : h[b]? = some (.cells (bkC s lv kv sv av pv mb tm ev) none true)) : Ct Tryz.prog 114 ⟨[.pointer (some ⟨b, 0, none⟩)]⟩ h [] (fun _ : Unit => .int .i64 (s.ln : Int)) (fun _ => True) (fun _ => []) := by
  refine Ct.go Tryz.func114 rfl rfl co114 (Hp.start (hr := fun _ => none) (by simp)) ?_
  refine GW.toSeq rfl ?_
  refine GW.toReg rfl ?_
  refine GL.one rfl .no (S1.as (v := (.int _ _)) rfl) ?_
  refine GL.done rfl ?_
  refine GQ.on ?_
  refine GW.toSeq rfl ?_
  refine GW.toReg rfl ?_
  refine GL.one rfl .no (S1.mv (v := (.pointer _)) rfl) ?_
  refine GL.one rfl .no (S1.nc rfl) ?_
  refine GL.one rfl .no (S1.fa fa85_0 rfl) ?_
  refine GL.one rfl .no (S1.fa fa28_0 rfl) ?_
  refine GL.one rfl .no (S1.ld sc22 rfl (.old0 hb) rfl) ?_
  refine GL.one rfl .no (S1.len el22 rfl) ?_
  refine GL.one rfl .no (S1.as (v := (.int _ _)) rfl) ?_
  refine GL.done rfl ?_
  refine GQ.on ?_
  refine GW.toRet rfl ?_
  refine GQ.ret () (.tmp (v := (.int _ _)) rfl rfl .nil) .one ?_ ?_ .nil
  rfl
  exact trivial
theorem ct117 (hl : s.ln ≤ 1073741824) (hb : h[b]? = some (.cells (bkC s lv kv sv av pv mb tm ev) none true)) : Ct Tryz.prog 117 ⟨[.pointer (some ⟨b, 0, none⟩)]⟩ h [] (fun _ : Unit => .int .i64 ((s.ln + 1 : Nat) : Int)) (fun _ => True) (fun _ => []) := by
  refine Ct.go Tryz.func117 rfl rfl co117 (Hp.start (hr := fun _ => none) (by simp)) ?_
  refine GW.toSeq rfl ?_
  refine GW.toReg rfl ?_
  refine GL.one rfl .no (S1.as (v := (.int _ _)) rfl) ?_
  refine GL.done rfl ?_
  refine GQ.on ?_
  refine GW.toSeq rfl ?_
  refine GW.toReg rfl ?_
  refine GL.one rfl .no (S1.mv (v := (.pointer _)) rfl) ?_
  refine GL.one rfl .no (S1.nc rfl) ?_
  refine GL.one rfl .no (S1.fa fa85_0 rfl) ?_
  refine GL.one rfl .no (S1.fa fa28_0 rfl) ?_
  refine GL.one rfl .no (S1.ld sc22 rfl (.old0 hb) rfl) ?_
  refine GL.one rfl .no (S1.len el22 rfl) ?_
  refine GL.one rfl .no (S1.inc rfl rfl (by omega)) ?_
  refine GL.one rfl .no (S1.as (v := (.int _ _)) rfl) ?_
  refine GL.done rfl ?_
  refine GQ.on ?_
  refine GW.toRet rfl ?_
  refine GQ.ret () (.tmp (v := (.int _ _)) rfl rfl .nil) .one ?_ ?_ .nil
  rfl
  exact trivial
theorem ct118 (hl : s.ln ≤ 1073741824) (hb : h[b]? = some (.cells (bkC s lv kv sv av pv mb tm ev) none true)) : Ct Tryz.prog 118 ⟨[.pointer (some ⟨b, 0, none⟩)]⟩ h [] (fun _ : Unit => .int .i64 ((s.ln + 2 : Nat) : Int)) (fun _ => True) (fun _ => []) := by
  refine Ct.go Tryz.func118 rfl rfl co118 (Hp.start (hr := fun _ => none) (by simp)) ?_
  refine GW.toSeq rfl ?_
  refine GW.toReg rfl ?_
  refine GL.one rfl .no (S1.as (v := (.int _ _)) rfl) ?_
  refine GL.done rfl ?_
  refine GQ.on ?_
  refine GW.toSeq rfl ?_
  refine GW.toReg rfl ?_
  refine GL.one rfl .no (S1.mv (v := (.pointer _)) rfl) ?_
  refine GL.one rfl .no (S1.nc rfl) ?_
  refine GL.one rfl .no (S1.fa fa85_0 rfl) ?_
  refine GL.one rfl .no (S1.fa fa28_0 rfl) ?_
  refine GL.one rfl .no (S1.ld sc22 rfl (.old0 hb) rfl) ?_
  refine GL.one rfl .no (S1.len el22 rfl) ?_
  refine GL.one rfl .no (S1.addI rfl rfl (by omega) (by omega)) ?_
  refine GL.one rfl .no (S1.as (v := (.int _ _)) rfl) ?_
  refine GL.done rfl ?_
  refine GQ.on ?_
  refine GW.toRet rfl ?_
  refine GQ.ret () (.tmp (v := (.int _ _)) rfl rfl .nil) .one ?_ ?_ .nil
  rfl
  exact trivial
theorem ct119 (hl : s.ln ≤ 1073741824) (hb : h[b]? = some (.cells (bkC s lv kv sv av pv mb tm ev) none true)) : Ct Tryz.prog 119 ⟨[.pointer (some ⟨b, 0, none⟩)]⟩ h [] (fun _ : Unit => .int .i64 ((s.ln + 3 : Nat) : Int)) (fun _ => True) (fun _ => []) := by
  refine Ct.go Tryz.func119 rfl rfl co119 (Hp.start (hr := fun _ => none) (by simp)) ?_
  refine GW.toSeq rfl ?_
  refine GW.toReg rfl ?_
  refine GL.one rfl .no (S1.as (v := (.int _ _)) rfl) ?_
  refine GL.done rfl ?_
  refine GQ.on ?_
  refine GW.toSeq rfl ?_
  refine GW.toReg rfl ?_
  refine GL.one rfl .no (S1.mv (v := (.pointer _)) rfl) ?_
  refine GL.one rfl .no (S1.nc rfl) ?_
  refine GL.one rfl .no (S1.fa fa85_0 rfl) ?_
  refine GL.one rfl .no (S1.fa fa28_0 rfl) ?_
  refine GL.one rfl .no (S1.ld sc22 rfl (.old0 hb) rfl) ?_
  refine GL.one rfl .no (S1.len el22 rfl) ?_
  refine GL.one rfl .no (S1.addI rfl rfl (by omega) (by omega)) ?_
  refine GL.one rfl .no (S1.as (v := (.int _ _)) rfl) ?_
  refine GL.done rfl ?_
  refine GQ.on ?_
  refine GW.toRet rfl ?_
  refine GQ.ret () (.tmp (v := (.int _ _)) rfl rfl .nil) .one ?_ ?_ .nil
  rfl
  exact trivial

theorem ct86 {hr : RO} {k : Nat} {tt : Int} {es : List MapEntry} {cl : Nat} (hR : ∀ b o, hr b = some o → h[b]? = some o) (hc : Cell hr (.sl ly74) (.slice s.ca s.cn s.cc)) (hk : k < s.cn) (him : IM es) (hb : h[b]? = some (.cells (bkC s lv kv sv av pv mb tm ev) none true)) (hm : h[mb]? = some (.map es cl)) :
    Ct Tryz.prog 86 ⟨[.pointer (some ⟨b, 0, none⟩), .int .i64 (k : Int), .int .i64 tt]⟩ h [] (fun r : Bool => .bool r) (fun _ => True) (fun _ => []) := by
  refine Ct.go Tryz.func86 rfl rfl co86 (Hp.start hR) ?_
  refine GW.toSeq rfl ?_
  refine GW.toReg rfl ?_
  refine GL.one rfl .no (S1.as (v := (.bool _)) rfl) ?_
  refine GL.done rfl ?_
  refine GQ.on ?_
  refine GW.toSeq rfl ?_
  refine GW.toDrw mx rfl ?_
  refine GD.one rfl .no (S1.mv (v := (.pointer _)) rfl) rfl ?_
  refine GD.one rfl .no (S1.nc rfl) rfl ?_
  refine GD.one rfl .no (S1.fa fa85_0 rfl) rfl ?_
  refine GD.one rfl .no (S1.fa fa28_1 rfl) rfl ?_
  refine GD.one rfl .no (S1.ld sc23 rfl (.old0 hb) rfl) rfl ?_
  refine GD.one rfl .no (S1.mv (v := (.int _ _)) rfl) rfl ?_
  refine GD.one rfl .no (S1.ixR el23 hc rfl rfl (by omega)) rfl ?_
  refine GD.one rfl .no (S1.fa fa74_3 rfl) rfl ?_
  refine GD.one rfl .no (S1.ldCI sc3 (z := 4) hc rfl (m := k) (by omega) rfl (d := 3) rfl rfl) rfl ?_
  refine GD.one rfl .no (S1.mv (v := (.pointer _)) rfl) rfl ?_
  refine GD.one rfl .no (S1.nc rfl) rfl ?_
  refine GD.one rfl .no (S1.fa fa85_2 rfl) rfl ?_
  refine GD.one rfl .no (S1.ld sc83 rfl (.old0 hb) rfl) rfl ?_
  refine GD.one rfl .no (S1.mv (v := (.int _ _)) rfl) rfl ?_
  refine GD.one rfl .no (S1.quo rfl rfl (by omega)) rfl ?_
  refine GD.opX rfl .no (SX.lk mp83 rfl rfl (.old0 hm) (by assumption)) rfl (fun v1 _ => ?_)
  refine GD.one rfl .no (S1.bits rfl rfl rfl) rfl ?_
  refine GD.one rfl .no (S1.eql rfl rfl) rfl ?_
  refine GD.one rfl .no (S1.as (v := (.bool _)) rfl) rfl ?_
  refine GD.done rfl ?_
  refine GQ.on ?_
  refine GW.toRet rfl ?_
  refine GQ.ret _ (.tmp (v := (.bool _)) rfl rfl .nil) .one rfl ?_ .nil
  exact trivial

theorem ct116 {x : Int} : Cp Tryz.prog 116 ⟨[.int .i64 x]⟩ h [] (fun _ : Unit => .tuple #[]) (fun _ => True) (fun _ => []) (fun e : Int => .iface 38 (.int .i64 e)) (fun _ => True) (fun _ => []) := by
  refine Cp.go Tryz.func116 rfl rfl co116 (Hp.start (hr := fun _ => none) (by simp)) ?_
  refine GW.toReg rfl ?_
  refine GL.one rfl .no (S1.mv (v := (.int _ _)) rfl) ?_
  refine GL.opN rfl .no (SN.bs el32 ez32 (.c (v := (.int _ _)) rfl rfl .n) rfl rfl) (fun a1 => ?_)
  refine GL.call rfl .no fo31 .nil (fun h H => ct31_1 (H.get (by repeat first | exact .z | apply At.s | apply At.sA))) (.d (.c (v := (.int _ _)) rfl (.c (v := (.int _ _)) rfl (.c (v := (.slice _ _ _)) rfl .n)))) (fun r3 _ => ?_)
  refine GL.one rfl .no (S1.not rfl) ?_
  refine GL.callP rfl .no fo85 .nil (fun h H => ct85) (.d (.c (v := (.bool _)) rfl (.c (v := (.int _ _)) rfl .n))) (fun _ q4 => ?_) (fun e4 q4 => ?_)
  refine GL.done rfl ?_
  refine GQ.retN () .nil .z ?_ ?_ .nil
  rfl
  exact trivial
  refine GQ.pan _ rfl ?_ .nil
  exact trivial
end
end Go.Proofs.YtkpbpfnmgnpfaaaGreat
namespace Go.Proofs.YtkpbpfnmgnpfaaaGreat
open Go Go.E
set_option maxRecDepth 100000


theorem ct112 {h : EH} {b mb lr m : Nat} {s : Sch} {kv sv av pv : Value} {tm ev i st : Int} {ls : List Int} (hm : m ≤ 1073741824) (hl : ls.length = m * 5) (hb : h[b]? = some (.cells (bkC s (rowS lr m) kv sv av pv mb tm ev) none true)) (hr : h[lr]? = some (opRow (ints ls) 5)) :
    Cp Tryz.prog 112 ⟨[.pointer (some ⟨b, 0, none⟩), .int .i64 i, .int .i64 st]⟩ h [] (fun k : Nat => .pointer (some ⟨lr, 0 + k * 5, none⟩)) (fun k => k < m ∧ ls.getD (k * 5 + 4) 0 = st) (fun _ => []) (fun e : Int => .iface 38 (.int .i64 e)) (fun _ => True) (fun _ => []) := by
  refine Cp.go Tryz.func112 rfl rfl co112 (Hp.start (hr := fun _ => none) (by simp)) ?_
  refine GW.toSeq rfl ?_
  refine GW.toReg rfl ?_
  refine GL.one rfl .no (S1.as (v := (.pointer _)) rfl) ?_
  refine GL.done rfl ?_
  refine GQ.on ?_
  refine GW.toSeq rfl ?_
  refine GW.toReg rfl ?_
  refine GL.one rfl .no (S1.mv (v := (.pointer _)) rfl) ?_
  refine GL.one rfl .no (S1.nc rfl) ?_
  refine GL.one rfl .no (S1.fa fa85_1 rfl) ?_
  refine GL.one rfl .no (S1.fa fa49_0 rfl) ?_
  refine GL.one rfl .no (S1.ld sc47 rfl (.old0 hb) rfl) ?_
  refine GL.one rfl .no (S1.len el47 rfl) ?_
  refine GL.one rfl .no (S1.subI rfl rfl (by omega) (by omega)) ?_
  refine GL.one rfl .no (S1.mv (v := (.int _ _)) rfl) ?_
  refine GL.opN rfl .no (SN.bs el32 ez32 (.c (v := (.int _ _)) rfl rfl .n) rfl rfl) (fun a1 => ?_)
  refine GL.call rfl .no fo31 .nil (fun h H => ct31_1 (H.get (by repeat first | exact .z | apply At.s | apply At.sA))) (.d (.c (v := (.int _ _)) rfl (.c (v := (.int _ _)) rfl (.c (v := (.slice _ _ _)) rfl .n)))) (fun _ _ => ?_)
  refine GL.one rfl .no (S1.not rfl) ?_
  refine GL.one rfl .no (S1.mv (v := (.bool _)) rfl) ?_
  refine GL.split 18 rfl (fun w4 => ?_) (fun w4 => ?_)
  refine GL.one rfl (.yes rfl rfl rfl) (S1.mv (v := (.pointer _)) rfl) ?_
  refine GL.one rfl (.yes rfl rfl rfl) (S1.nc rfl) ?_
  refine GL.one rfl (.yes rfl rfl rfl) (S1.fa fa85_1 rfl) ?_
  refine GL.one rfl (.yes rfl rfl rfl) (S1.fa fa49_0 rfl) ?_
  refine GL.one rfl (.yes rfl rfl rfl) (S1.ld sc47 rfl (.old0 hb) rfl) ?_
  refine GL.one rfl (.yes rfl rfl rfl) (S1.mv (v := (.int _ _)) rfl) ?_
  rotate_left
  refine GL.skip rfl (.not rfl rfl rfl) ?_
  refine GL.skip rfl (.not rfl rfl rfl) ?_
  refine GL.skip rfl (.not rfl rfl rfl) ?_
  refine GL.skip rfl (.not rfl rfl rfl) ?_
  refine GL.skip rfl (.not rfl rfl rfl) ?_
  refine GL.skip rfl (.not rfl rfl rfl) ?_
  refine GL.skip rfl (.not rfl rfl rfl) ?_
  refine GL.skip rfl (.not rfl rfl rfl) ?_
  refine GL.skip rfl (.not rfl rfl rfl) ?_
  refine GL.skip rfl (.not rfl rfl rfl) ?_
  refine GL.skip rfl (.not rfl rfl rfl) ?_
  refine GL.one rfl .no (S1.pickF (v := (.bool _)) rfl rfl) ?_
  refine GL.callP rfl .no fo85 .nil (fun h H => ct85) (.d (.c (v := (.bool _)) rfl (.c (v := (.int _ _)) rfl .n))) (fun _ q5 => ?_) (fun e5 q5 => ?_)
  refine GL.done rfl ?_
  refine GQ.on ?_
  refine GW.toSeq rfl ?_
  refine GW.toReg rfl ?_
  refine GL.one rfl .no (S1.mv (v := (.pointer _)) rfl) ?_
  refine GL.one rfl .no (S1.nc rfl) ?_
  refine GL.one rfl .no (S1.fa fa85_1 rfl) ?_
  refine GL.one rfl .no (S1.fa fa49_0 rfl) ?_
  refine GL.one rfl .no (S1.ld sc47 rfl (.old0 hb) rfl) ?_
  refine GL.one rfl .no (S1.mv (v := (.int _ _)) rfl) ?_
  rotate_left
  refine GQ.onP ?_
  refine GQ.pan _ rfl ?_ .nil
  exact trivial
  · have h1 := outB_f (show outB 0 (m - 1) i = false by simpa using w4)
    obtain ⟨k, rfl⟩ : ∃ k : Nat, i = k := ⟨i.toNat, by omega⟩
    have hk : k < m := by omega
    refine GL.one rfl (.yes rfl rfl rfl) (S1.ixN el47 rfl rfl (by omega)) ?_
    refine GL.one rfl (.yes rfl rfl rfl) (S1.fa fa102_4 rfl) ?_
    refine GL.one rfl (.yes rfl rfl rfl) (S1.ldI sc3 rfl (.old0 hr) (by omega)) ?_
    refine GL.one rfl (.yes rfl rfl rfl) (S1.mv (v := (.int _ _)) rfl) ?_
    refine GL.one rfl (.yes rfl rfl rfl) (S1.eql rfl rfl) ?_
    refine GL.one rfl .no (S1.pickT (v := (.bool _)) rfl rfl) ?_
    refine GL.callP rfl .no fo85 .nil (fun h H => ct85) (.d (.c (v := (.bool _)) rfl (.c (v := (.int _ _)) rfl .n))) (fun _ q6 => ?_) (fun e6 q6 => ?_)
    refine GL.done rfl ?_
    refine GQ.on ?_
    refine GW.toSeq rfl ?_
    refine GW.toReg rfl ?_
    refine GL.one rfl .no (S1.mv (v := (.pointer _)) rfl) ?_
    refine GL.one rfl .no (S1.nc rfl) ?_
    refine GL.one rfl .no (S1.fa fa85_1 rfl) ?_
    refine GL.one rfl .no (S1.fa fa49_0 rfl) ?_
    refine GL.one rfl .no (S1.ld sc47 rfl (.old0 hb) rfl) ?_
    refine GL.one rfl .no (S1.mv (v := (.int _ _)) rfl) ?_
    refine GL.one rfl .no (S1.ixN el47 rfl rfl (by omega)) ?_
    refine GL.one rfl .no (S1.as (v := (.pointer _)) rfl) ?_
    refine GL.done rfl ?_
    refine GQ.on ?_
    refine GW.toRet rfl ?_
    refine GQ.ret k (.tmp (v := (.pointer _)) rfl rfl .nil) .one ?_ ?_ (by repeat first | exact .nil | exact Take.tz | apply Take.cons (by repeat first | exact .z | apply Rem.s | apply Rem.sA) | apply Take.app (by repeat first | exact Take.tzA | exact Take.tz | apply Take.ts | apply Take.skA))
    rfl
    rotate_left
    refine GQ.onP ?_
    refine GQ.pan _ rfl ?_ .nil
    exact trivial
    all_goals exact ⟨hk, by simpa using q6⟩
  · exact absurd q5 (by decide)

theorem ct113 {h : EH} {hr : RO} {b mb ar A i j m : Nat} {s : Sch} {lv kv sv pv : Value} {pE : Ents} {tm ev x : Int} {acc l : List Int} (n : NR 4 pv pE m l) (hm : m < 1073741824) (hA : acc.length = A) (hi : i < A) (hj : j < A)
    (H : Hp hr h (b :: ar :: pE.map (·.1)) ((b, .cells (bkC s lv kv sv (.slice (some ⟨ar, 0, none⟩) A A) pv mb tm ev) none true) :: (ar, .cells (ints acc) none true) :: pE) h) :
    Ct Tryz.prog 113 ⟨[.pointer (some ⟨b, 0, none⟩), .int .i64 (i : Int), .int .i64 (j : Int), .int .i64 x]⟩ h (b :: ar :: pE.map (·.1)) (fun _ : Value × Ents × Nat × List Int × List Int => .tuple #[])
      (fun y => NR 4 y.1 y.2.1 y.2.2.1 y.2.2.2.1 ∧ y.2.2.2.2.length = A ∧ y.2.2.1 ≤ m + 1)
      (fun y => (b, .cells (bkC s lv kv sv (.slice (some ⟨ar, 0, none⟩) A A) y.1 mb tm ev) none true) :: (ar, .cells (ints y.2.2.2.2) none true) :: y.2.1) := by
  refine Ct.go Tryz.func113 rfl rfl co113 H ?_
  cases n with
  | nil =>
    refine GW.toSeq rfl ?_
    refine GW.toSeq rfl ?_
    refine GW.toReg rfl ?_
    refine GL.one rfl .no (S1.mv (v := (.int _ _)) rfl) ?_
    refine GL.one rfl .no (S1.eql rfl rfl) ?_
    refine GL.done rfl ?_
    refine GQ.on ?_
    refine GW.toD rfl rfl (fun w1 => ?_) (fun w1 => ?_)
    refine GW.toRet rfl ?_
    refine GQ.onR ?_
    refine GQ.ret (nilS, [], 0, [], acc) .nil .z rfl ⟨.nil, hA, Nat.zero_le _⟩ (by repeat first | exact .nil | exact Take.tz | apply Take.cons (by repeat first | exact .z | apply Rem.s | apply Rem.sA) | apply Take.app (by repeat first | exact Take.tzA | exact Take.tz | apply Take.ts | apply Take.skA))
    refine GW.toSkip rfl ?_
    refine GQ.on ?_
    refine GW.toSeq rfl ?_
    refine GW.toDrw mx rfl ?_
    refine GD.one rfl .no (S1.mv (v := (.pointer _)) rfl) rfl ?_
    refine GD.one rfl .no (S1.mv (v := (.pointer _)) rfl) rfl ?_
    refine GD.one rfl .no (S1.nc rfl) rfl ?_
    refine GD.one rfl .no (S1.fa fa85_3 rfl) rfl ?_
    refine GD.one rfl .no (S1.ld sc58 rfl (.at .z) rfl) rfl ?_
    refine GD.one rfl .no (S1.mv (v := (.pointer _)) rfl) rfl ?_
    refine GD.one rfl .no (S1.nc rfl) rfl ?_
    refine GD.one rfl .no (S1.fa fa85_5 rfl) rfl ?_
    refine GD.one rfl .no (S1.ld sc3 rfl (.at .z) rfl) rfl ?_
    refine GD.one rfl .no (S1.mv (v := (.int _ _)) rfl) rfl ?_
    refine GD.one rfl .no (S1.mv (v := (.int _ _)) rfl) rfl ?_
    refine GD.one rfl .no (S1.mv (v := (.int _ _)) rfl) rfl ?_
    refine GD.one rfl .no (S1.bu zc97 bo97 (.c (v := (.int _ _)) rfl (.one rfl) fz97_0 rfl (by repeat constructor) (.c (v := (.int _ _)) rfl (.one rfl) fz97_1 rfl (by repeat constructor) (.c (v := (.int _ _)) rfl (.one rfl) fz97_2 rfl (by repeat constructor) (.c (v := (.int _ _)) rfl (.one rfl) fz97_3 rfl (by repeat constructor) .n))))) rfl ?_
    refine GD.opN rfl .no (SN.bs1 el58 ez58 rfl rfl rfl) rfl (fun a3 => ?_)
    refine GD.loudN rfl .no (SN.ap0 ap58_58 rfl (.row rfl (.at .z) rfl) (by omega) (by omega)) rfl rfl (by kernel_rfl) (fun a4 => ?_)
    refine GD.one rfl .no (S1.nc rfl) rfl ?_
    refine GD.one rfl .no (S1.fa fa85_3 rfl) rfl ?_
    refine GD.loud rfl .no (S1.st (u := (.slice _ _ _)) sc58 rfl rfl rfl (by repeat constructor) (.s (.s .z))) rfl rfl (by kernel_rfl) ?_
    refine GD.done rfl ?_
    refine GQ.on ?_
    refine GW.toSeq rfl ?_
    refine GW.toReg rfl ?_
    refine GL.one rfl .no (S1.mv (v := (.pointer _)) rfl) ?_
    refine GL.one rfl .no (S1.nc rfl) ?_
    refine GL.one rfl .no (S1.fa fa85_1 rfl) ?_
    refine GL.one rfl .no (S1.fa fa49_3 rfl) ?_
    refine GL.one rfl .no (S1.ld sc32 rfl (.at (.s (.s .z))) rfl) ?_
    refine GL.one rfl .no (S1.mv (v := (.int _ _)) rfl) ?_
    refine GL.one rfl .no (S1.ixN el32 rfl rfl (by omega)) ?_
    refine GL.one rfl .no (S1.ldI sc3 rfl (.at (.s (.s (.s .z)))) (by omega)) ?_
    refine GL.one rfl .no (S1.mv (v := (.int _ _)) rfl) ?_
    refine GL.one rfl .no (S1.sub rfl rfl) ?_
    refine GL.one rfl .no (S1.ixN el32 rfl rfl (by omega)) ?_
    refine GL.one rfl .no (S1.stI sc3 rfl rfl (by omega) (.s (.s (.s .z)))) ?_
    refine GL.done rfl ?_
    refine GQ.on ?_
    refine GW.toReg rfl ?_
    refine GL.one rfl .no (S1.mv (v := (.pointer _)) rfl) ?_
    refine GL.one rfl .no (S1.nc rfl) ?_
    refine GL.one rfl .no (S1.fa fa85_1 rfl) ?_
    refine GL.one rfl .no (S1.fa fa49_3 rfl) ?_
    refine GL.one rfl .no (S1.ld sc32 rfl (.at (.s (.s .z))) rfl) ?_
    refine GL.one rfl .no (S1.mv (v := (.int _ _)) rfl) ?_
    refine GL.one rfl .no (S1.ixN el32 rfl rfl (by omega)) ?_
    refine GL.one rfl .no (S1.ldI sc3 rfl (.at (.s (.s (.s .z)))) (by simp only [List.length_set]; omega)) ?_
    refine GL.one rfl .no (S1.mv (v := (.int _ _)) rfl) ?_
    refine GL.one rfl .no (S1.add rfl rfl) ?_
    refine GL.one rfl .no (S1.ixN el32 rfl rfl (by omega)) ?_
    refine GL.one rfl .no (S1.stI sc3 rfl rfl (by simp only [List.length_set]; omega) (.s (.s (.s .z)))) ?_
    refine GL.done rfl ?_
    refine GQ.retN (rowS a4 1, [(a4, opRow (ints [ev, (i : Int), (j : Int), x]) 4)], 1, [ev, (i : Int), (j : Int), x], _) .nil .z rfl ⟨.row (by omega) rfl, ?_, Nat.le_refl _⟩ (by repeat first | exact .nil | exact Take.tz | apply Take.cons (by repeat first | exact .z | apply Rem.s | apply Rem.sA) | apply Take.app (by repeat first | exact Take.tzA | exact Take.tz | apply Take.ts | apply Take.skA))
    simp only [List.length_set]; omega
  | @row r m l hm hl =>
    refine GW.toSeq rfl ?_
    refine GW.toSeq rfl ?_
    refine GW.toReg rfl ?_
    refine GL.one rfl .no (S1.mv (v := (.int _ _)) rfl) ?_
    refine GL.one rfl .no (S1.eql rfl rfl) ?_
    refine GL.done rfl ?_
    refine GQ.on ?_
    refine GW.toD rfl rfl (fun w5 => ?_) (fun w5 => ?_)
    refine GW.toRet rfl ?_
    refine GQ.onR ?_
    refine GQ.ret (rowS r m, [(r, opRow (ints l) 4)], m, l, acc) .nil .z rfl ⟨.row hm hl, hA, Nat.le_succ _⟩ (by repeat first | exact .nil | exact Take.tz | apply Take.cons (by repeat first | exact .z | apply Rem.s | apply Rem.sA) | apply Take.app (by repeat first | exact Take.tzA | exact Take.tz | apply Take.ts | apply Take.skA))
    refine GW.toSkip rfl ?_
    refine GQ.on ?_
    refine GW.toSeq rfl ?_
    refine GW.toDrw mx rfl ?_
    refine GD.one rfl .no (S1.mv (v := (.pointer _)) rfl) rfl ?_
    refine GD.one rfl .no (S1.mv (v := (.pointer _)) rfl) rfl ?_
    refine GD.one rfl .no (S1.nc rfl) rfl ?_
    refine GD.one rfl .no (S1.fa fa85_3 rfl) rfl ?_
    refine GD.one rfl .no (S1.ld sc58 rfl (.at .z) rfl) rfl ?_
    refine GD.one rfl .no (S1.mv (v := (.pointer _)) rfl) rfl ?_
    refine GD.one rfl .no (S1.nc rfl) rfl ?_
    refine GD.one rfl .no (S1.fa fa85_5 rfl) rfl ?_
    refine GD.one rfl .no (S1.ld sc3 rfl (.at .z) rfl) rfl ?_
    refine GD.one rfl .no (S1.mv (v := (.int _ _)) rfl) rfl ?_
    refine GD.one rfl .no (S1.mv (v := (.int _ _)) rfl) rfl ?_
    refine GD.one rfl .no (S1.mv (v := (.int _ _)) rfl) rfl ?_
    refine GD.one rfl .no (S1.bu zc97 bo97 (.c (v := (.int _ _)) rfl (.one rfl) fz97_0 rfl (by repeat constructor) (.c (v := (.int _ _)) rfl (.one rfl) fz97_1 rfl (by repeat constructor) (.c (v := (.int _ _)) rfl (.one rfl) fz97_2 rfl (by repeat constructor) (.c (v := (.int _ _)) rfl (.one rfl) fz97_3 rfl (by repeat constructor) .n))))) rfl ?_
    refine GD.opN rfl .no (SN.bs1 el58 ez58 rfl rfl rfl) rfl (fun a7 => ?_)
    refine GD.loudN rfl .no (SN.apO ap58_58 rfl (.row rfl (.at .z) rfl) (by omega) (by omega) rfl (.s (.s (.s .z))) (by first | rfl | omega | (rw [ints_len]; omega) | (rw [strs_len]; omega))) rfl rfl (by kernel_rfl) (fun a8 => ?_)
    refine GD.one rfl .no (S1.nc rfl) rfl ?_
    refine GD.one rfl .no (S1.fa fa85_3 rfl) rfl ?_
    refine GD.loud rfl .no (S1.st (u := (.slice _ _ _)) sc58 rfl rfl rfl (by repeat constructor) (.s (.s .z))) rfl rfl (by kernel_rfl) ?_
    refine GD.done rfl ?_
    refine GQ.on ?_
    refine GW.toSeq rfl ?_
    refine GW.toReg rfl ?_
    refine GL.one rfl .no (S1.mv (v := (.pointer _)) rfl) ?_
    refine GL.one rfl .no (S1.nc rfl) ?_
    refine GL.one rfl .no (S1.fa fa85_1 rfl) ?_
    refine GL.one rfl .no (S1.fa fa49_3 rfl) ?_
    refine GL.one rfl .no (S1.ld sc32 rfl (.at (.s (.s .z))) rfl) ?_
    refine GL.one rfl .no (S1.mv (v := (.int _ _)) rfl) ?_
    refine GL.one rfl .no (S1.ixN el32 rfl rfl (by omega)) ?_
    refine GL.one rfl .no (S1.ldI sc3 rfl (.at (.s (.s (.s .z)))) (by omega)) ?_
    refine GL.one rfl .no (S1.mv (v := (.int _ _)) rfl) ?_
    refine GL.one rfl .no (S1.sub rfl rfl) ?_
    refine GL.one rfl .no (S1.ixN el32 rfl rfl (by omega)) ?_
    refine GL.one rfl .no (S1.stI sc3 rfl rfl (by omega) (.s (.s (.s .z)))) ?_
    refine GL.done rfl ?_
    refine GQ.on ?_
    refine GW.toReg rfl ?_
    refine GL.one rfl .no (S1.mv (v := (.pointer _)) rfl) ?_
    refine GL.one rfl .no (S1.nc rfl) ?_
    refine GL.one rfl .no (S1.fa fa85_1 rfl) ?_
    refine GL.one rfl .no (S1.fa fa49_3 rfl) ?_
    refine GL.one rfl .no (S1.ld sc32 rfl (.at (.s (.s .z))) rfl) ?_
    refine GL.one rfl .no (S1.mv (v := (.int _ _)) rfl) ?_
    refine GL.one rfl .no (S1.ixN el32 rfl rfl (by omega)) ?_
    refine GL.one rfl .no (S1.ldI sc3 rfl (.at (.s (.s (.s .z)))) (by simp only [List.length_set]; omega)) ?_
    refine GL.one rfl .no (S1.mv (v := (.int _ _)) rfl) ?_
    refine GL.one rfl .no (S1.add rfl rfl) ?_
    refine GL.one rfl .no (S1.ixN el32 rfl rfl (by omega)) ?_
    refine GL.one rfl .no (S1.stI sc3 rfl rfl (by simp only [List.length_set]; omega) (.s (.s (.s .z)))) ?_
    refine GL.done rfl ?_
    refine GQ.retN (rowS a8 (m + 1), [(a8, opRow (ints l ++ [.int .i64 ev, .int .i64 (i : Int), .int .i64 (j : Int), .int .i64 x]) 4)], m + 1, l ++ [ev, (i : Int), (j : Int), x], _) .nil .z rfl ⟨.rowA rfl (by omega) (by rw [hl]; simp only [List.length_cons, List.length_nil]; omega), ?_, Nat.le_refl _⟩ (by repeat first | exact .nil | exact Take.tz | apply Take.cons (by repeat first | exact .z | apply Rem.s | apply Rem.sA) | apply Take.app (by repeat first | exact Take.tzA | exact Take.tz | apply Take.ts | apply Take.skA))
    simp only [List.length_set]; omega
end Go.Proofs.YtkpbpfnmgnpfaaaGreat
namespace Go.Proofs.YtkpbpfnmgnpfaaaGreat
open Go Go.E
set_option maxRecDepth 100000

abbrev L5 (x0 x1 x2 x3 x4 : Int) : List Value := [.int .i64 x0, .int .i64 x1, .int .i64 x2, .int .i64 x3, .int .i64 x4]

theorem ct101 {h : EH} {q : Nat} {x0 x1 x2 x3 x4 y0 y1 y2 y3 y4 : Int} (hq : h[q]? = some (.cells (L5 y0 y1 y2 y3 y4) none true)) :
    Ct Tryz.prog 101 ⟨[.agg ⟨L5 x0 x1 x2 x3 x4⟩, .pointer (some ⟨q, 0, none⟩)]⟩ h [] (fun r : Bool => .bool r) (fun _ => True) (fun _ => []) := by
  refine Ct.go Tryz.func101 rfl rfl co101 (Hp.start (hr := fun _ => none) (by simp)) ?_
  refine GW.toSeq rfl ?_
  refine GW.toReg rfl ?_
  refine GL.opN rfl .no (SN.bx (u := .agg ⟨_⟩) rfl .agg) (fun a1 => ?_)
  refine GL.one rfl .no (S1.as (v := (.bool _)) rfl) ?_
  refine GL.done rfl ?_
  refine GQ.on ?_
  refine GW.toSeq rfl ?_
  refine GW.toReg rfl ?_
  refine GL.one rfl .no (S1.fa fa102_0 rfl) ?_
  refine GL.one rfl .no (S1.ld sc3 rfl (.at .z) rfl) ?_
  refine GL.one rfl .no (S1.fa fa102_0 rfl) ?_
  refine GL.one rfl .no (S1.ld sc3 rfl (.old0 hq) rfl) ?_
  refine GL.one rfl .no (S1.eql rfl rfl) ?_
  refine GL.one rfl .no (S1.mv (v := (.bool _)) rfl) ?_
  refine GL.splitD 9 rfl (fun w2 => ?_) (fun w2 => ?_)
  refine GL.skip rfl (.not rfl rfl rfl) ?_
  refine GL.skip rfl (.not rfl rfl rfl) ?_
  refine GL.skip rfl (.not rfl rfl rfl) ?_
  refine GL.skip rfl (.not rfl rfl rfl) ?_
  refine GL.skip rfl (.not rfl rfl rfl) ?_
  refine GL.one rfl .no (S1.pickT (v := (.bool _)) rfl rfl) ?_
  refine GL.one rfl .no (S1.mv (v := (.bool _)) rfl) ?_
  refine GL.one rfl (.yes rfl rfl rfl) (S1.fa fa102_2 rfl) ?_
  refine GL.one rfl (.yes rfl rfl rfl) (S1.ld sc3 rfl (.at .z) rfl) ?_
  refine GL.one rfl (.yes rfl rfl rfl) (S1.fa fa102_2 rfl) ?_
  refine GL.one rfl (.yes rfl rfl rfl) (S1.ld sc3 rfl (.old0 hq) rfl) ?_
  refine GL.one rfl (.yes rfl rfl rfl) (S1.fa fa102_3 rfl) ?_
  refine GL.one rfl (.yes rfl rfl rfl) (S1.ld sc3 rfl (.old0 hq) rfl) ?_
  refine GL.one rfl (.yes rfl rfl rfl) (S1.add rfl rfl) ?_
  refine GL.one rfl (.yes rfl rfl rfl) (S1.lss rfl rfl) ?_
  refine GL.one rfl .no (S1.pickT (v := (.bool _)) rfl rfl) ?_
  refine GL.one rfl .no (S1.mv (v := (.bool _)) rfl) ?_
  refine GL.splitD 26 rfl (fun w3 => ?_) (fun w3 => ?_)
  refine GL.one rfl (.yes rfl rfl rfl) (S1.fa fa102_2 rfl) ?_
  refine GL.one rfl (.yes rfl rfl rfl) (S1.ld sc3 rfl (.old0 hq) rfl) ?_
  refine GL.one rfl (.yes rfl rfl rfl) (S1.fa fa102_2 rfl) ?_
  refine GL.one rfl (.yes rfl rfl rfl) (S1.ld sc3 rfl (.at .z) rfl) ?_
  refine GL.one rfl (.yes rfl rfl rfl) (S1.fa fa102_3 rfl) ?_
  refine GL.one rfl (.yes rfl rfl rfl) (S1.ld sc3 rfl (.at .z) rfl) ?_
  refine GL.one rfl (.yes rfl rfl rfl) (S1.add rfl rfl) ?_
  refine GL.one rfl (.yes rfl rfl rfl) (S1.lss rfl rfl) ?_
  refine GL.one rfl .no (S1.pickT (v := (.bool _)) rfl rfl) ?_
  refine GL.one rfl .no (S1.as (v := (.bool _)) rfl) ?_
  refine GL.done rfl ?_
  refine GQ.on ?_
  refine GW.toRet rfl ?_
  refine GQ.ret _ (.tmp (v := (.bool _)) rfl rfl .nil) .one rfl ?_ .nil
  exact trivial
  refine GL.skip rfl (.not rfl rfl rfl) ?_
  refine GL.skip rfl (.not rfl rfl rfl) ?_
  refine GL.skip rfl (.not rfl rfl rfl) ?_
  refine GL.skip rfl (.not rfl rfl rfl) ?_
  refine GL.skip rfl (.not rfl rfl rfl) ?_
  refine GL.skip rfl (.not rfl rfl rfl) ?_
  refine GL.skip rfl (.not rfl rfl rfl) ?_
  refine GL.skip rfl (.not rfl rfl rfl) ?_
  refine GL.one rfl .no (S1.pickF (v := (.bool _)) rfl rfl) ?_
  refine GL.one rfl .no (S1.as (v := (.bool _)) rfl) ?_
  refine GL.done rfl ?_
  refine GQ.on ?_
  refine GW.toRet rfl ?_
  refine GQ.ret _ (.tmp (v := (.bool _)) rfl rfl .nil) .one rfl ?_ .nil
  exact trivial
  refine GL.one rfl (.yes rfl rfl rfl) (S1.fa fa102_1 rfl) ?_
  refine GL.one rfl (.yes rfl rfl rfl) (S1.ld sc3 rfl (.at .z) rfl) ?_
  refine GL.one rfl (.yes rfl rfl rfl) (S1.fa fa102_1 rfl) ?_
  refine GL.one rfl (.yes rfl rfl rfl) (S1.ld sc3 rfl (.old0 hq) rfl) ?_
  refine GL.one rfl (.yes rfl rfl rfl) (S1.eql rfl rfl) ?_
  refine GL.one rfl .no (S1.pickF (v := (.bool _)) rfl rfl) ?_
  refine GL.one rfl .no (S1.mv (v := (.bool _)) rfl) ?_
  refine GL.splitD 16 rfl (fun w4 => ?_) (fun w4 => ?_)
  refine GL.one rfl (.yes rfl rfl rfl) (S1.fa fa102_2 rfl) ?_
  refine GL.one rfl (.yes rfl rfl rfl) (S1.ld sc3 rfl (.at .z) rfl) ?_
  refine GL.one rfl (.yes rfl rfl rfl) (S1.fa fa102_2 rfl) ?_
  refine GL.one rfl (.yes rfl rfl rfl) (S1.ld sc3 rfl (.old0 hq) rfl) ?_
  refine GL.one rfl (.yes rfl rfl rfl) (S1.fa fa102_3 rfl) ?_
  refine GL.one rfl (.yes rfl rfl rfl) (S1.ld sc3 rfl (.old0 hq) rfl) ?_
  refine GL.one rfl (.yes rfl rfl rfl) (S1.add rfl rfl) ?_
  refine GL.one rfl (.yes rfl rfl rfl) (S1.lss rfl rfl) ?_
  refine GL.one rfl .no (S1.pickT (v := (.bool _)) rfl rfl) ?_
  refine GL.one rfl .no (S1.mv (v := (.bool _)) rfl) ?_
  refine GL.splitD 26 rfl (fun w5 => ?_) (fun w5 => ?_)
  refine GL.one rfl (.yes rfl rfl rfl) (S1.fa fa102_2 rfl) ?_
  refine GL.one rfl (.yes rfl rfl rfl) (S1.ld sc3 rfl (.old0 hq) rfl) ?_
  refine GL.one rfl (.yes rfl rfl rfl) (S1.fa fa102_2 rfl) ?_
  refine GL.one rfl (.yes rfl rfl rfl) (S1.ld sc3 rfl (.at .z) rfl) ?_
  refine GL.one rfl (.yes rfl rfl rfl) (S1.fa fa102_3 rfl) ?_
  refine GL.one rfl (.yes rfl rfl rfl) (S1.ld sc3 rfl (.at .z) rfl) ?_
  refine GL.one rfl (.yes rfl rfl rfl) (S1.add rfl rfl) ?_
  refine GL.one rfl (.yes rfl rfl rfl) (S1.lss rfl rfl) ?_
  refine GL.one rfl .no (S1.pickT (v := (.bool _)) rfl rfl) ?_
  refine GL.one rfl .no (S1.as (v := (.bool _)) rfl) ?_
  refine GL.done rfl ?_
  refine GQ.on ?_
  refine GW.toRet rfl ?_
  refine GQ.ret _ (.tmp (v := (.bool _)) rfl rfl .nil) .one rfl ?_ .nil
  exact trivial
  refine GL.skip rfl (.not rfl rfl rfl) ?_
  refine GL.skip rfl (.not rfl rfl rfl) ?_
  refine GL.skip rfl (.not rfl rfl rfl) ?_
  refine GL.skip rfl (.not rfl rfl rfl) ?_
  refine GL.skip rfl (.not rfl rfl rfl) ?_
  refine GL.skip rfl (.not rfl rfl rfl) ?_
  refine GL.skip rfl (.not rfl rfl rfl) ?_
  refine GL.skip rfl (.not rfl rfl rfl) ?_
  refine GL.one rfl .no (S1.pickF (v := (.bool _)) rfl rfl) ?_
  refine GL.one rfl .no (S1.as (v := (.bool _)) rfl) ?_
  refine GL.done rfl ?_
  refine GQ.on ?_
  refine GW.toRet rfl ?_
  refine GQ.ret _ (.tmp (v := (.bool _)) rfl rfl .nil) .one rfl ?_ .nil
  exact trivial
  refine GL.skip rfl (.not rfl rfl rfl) ?_
  refine GL.skip rfl (.not rfl rfl rfl) ?_
  refine GL.skip rfl (.not rfl rfl rfl) ?_
  refine GL.skip rfl (.not rfl rfl rfl) ?_
  refine GL.skip rfl (.not rfl rfl rfl) ?_
  refine GL.skip rfl (.not rfl rfl rfl) ?_
  refine GL.skip rfl (.not rfl rfl rfl) ?_
  refine GL.skip rfl (.not rfl rfl rfl) ?_
  refine GL.one rfl .no (S1.pickF (v := (.bool _)) rfl rfl) ?_
  refine GL.one rfl .no (S1.mv (v := (.bool _)) rfl) ?_
  refine GL.skip rfl (.not rfl rfl rfl) ?_
  refine GL.skip rfl (.not rfl rfl rfl) ?_
  refine GL.skip rfl (.not rfl rfl rfl) ?_
  refine GL.skip rfl (.not rfl rfl rfl) ?_
  refine GL.skip rfl (.not rfl rfl rfl) ?_
  refine GL.skip rfl (.not rfl rfl rfl) ?_
  refine GL.skip rfl (.not rfl rfl rfl) ?_
  refine GL.skip rfl (.not rfl rfl rfl) ?_
  refine GL.one rfl .no (S1.pickF (v := (.bool _)) rfl rfl) ?_
  refine GL.one rfl .no (S1.as (v := (.bool _)) rfl) ?_
  refine GL.done rfl ?_
  refine GQ.on ?_
  refine GW.toRet rfl ?_
  refine GQ.ret _ (.tmp (v := (.bool _)) rfl rfl .nil) .one rfl ?_ .nil
  exact trivial

theorem ct102 {h : EH} {b : Nat} : Ct Tryz.prog 102 ⟨[.pointer (some ⟨b, 0, none⟩)]⟩ h [] (fun x : Nat => .func (.func 111) ⟨[]⟩ ⟨[.pointer (some ⟨x, 0, none⟩)]⟩) (fun _ => True) (fun x => [(x, .cells [.pointer (some ⟨b, 0, none⟩)] none true)]) := by
  refine Ct.go Tryz.func102 rfl rfl co102 (Hp.start (hr := fun _ => none) (by simp)) ?_
  refine GW.toSeq rfl ?_
  refine GW.toReg rfl ?_
  refine GL.opN rfl .no (SN.bx (u := (.pointer _)) rfl (.one rfl)) (fun a1 => ?_)
  refine GL.one rfl .no (S1.as (v := .nilFunc) rfl) ?_
  refine GL.done rfl ?_
  refine GQ.on ?_
  refine GW.toSeq rfl ?_
  refine GW.toReg rfl ?_
  refine GL.one rfl .no (S1.mf .n (.c (v := (.pointer _)) rfl .n)) ?_
  refine GL.one rfl .no (S1.as (v := (.func _ _ _)) rfl) ?_
  refine GL.done rfl ?_
  refine GQ.on ?_
  refine GW.toRet rfl ?_
  refine GQ.ret _ (.tmp (v := (.func _ _ _)) rfl rfl .nil) .one rfl ?_ (by repeat first | exact .nil | exact Take.tz | apply Take.cons (by repeat first | exact .z | apply Rem.s | apply Rem.sA) | apply Take.app (by repeat first | exact Take.tzA | exact Take.tz | apply Take.ts | apply Take.skA) | exact Take.tzA | apply Take.ts | apply Take.skA)
  exact trivial

section
variable {h : EH} {hr : RO} {bx b lr m l mb : Nat} {s : Sch} {kv sv av pv : Value} {tm ev : Int}

abbrev M111 (bx b lr m mb : Nat) (s : Sch) (kv sv av pv : Value) (tm ev : Int) (ls : List Int) (Z : Ents) : Ents :=
  (bx, .cells [.pointer (some ⟨b, 0, none⟩)] none true) :: (b, .cells (bkC s (rowS lr m) kv sv av pv mb tm ev) none true) :: (lr, opRow (ints ls) 5) :: Z

theorem ct111 {Y : Type} (ls : Y → List Int) (Z : Y → Ents) (ZN : List Nat) (RI RD : Y → Prop) (hm : m ≤ 1073741824) (hls : ∀ y, RI y → (ls y).length = m * 5) (hZ : ∀ y, (Z y).map (·.1) = ZN)
    (round : ∀ (i : Nat) (y : Y) (h : EH), i < m → RI y → (ls y).getD (i * 5 + 4) 0 = 0 → Hp hr h (bx :: b :: lr :: ZN) (M111 bx b lr m mb s kv sv av pv tm ev (ls y) (Z y)) h →
      Rt Tryz.prog l ⟨[.int .i64 (i : Int)]⟩ h (bx :: b :: lr :: ZN) (fun z : Bool × Y => .bool z.1) (fun z => if z.1 = true then RI z.2 else RD z.2) (fun z => M111 bx b lr m mb s kv sv av pv tm ev (ls z.2) (Z z.2)))
    (y0 : Y) (hy : RI y0) (H : Hp hr h (bx :: b :: lr :: ZN) (M111 bx b lr m mb s kv sv av pv tm ev (ls y0) (Z y0)) h) :
    Ct Tryz.prog 111 ⟨[.func (.yield l) #[] #[], .pointer (some ⟨bx, 0, none⟩)]⟩ h (bx :: b :: lr :: ZN) (fun _ : Y => .tuple #[]) (fun y => RI y ∨ RD y) (fun y => M111 bx b lr m mb s kv sv av pv tm ev (ls y) (Z y)) := by
  refine Ct.go Tryz.func111 rfl rfl co111 H ?_
  refine GW.toSeq rfl ?_
  refine GW.toReg rfl ?_
  refine GL.one rfl .no (S1.ld sc80 rfl (.at .z) rfl) ?_
  refine GL.one rfl .no (S1.nc rfl) ?_
  refine GL.one rfl .no (S1.fa fa85_1 rfl) ?_
  refine GL.one rfl .no (S1.fa fa49_0 rfl) ?_
  refine GL.one rfl .no (S1.ld sc47 rfl (.at (.s .z)) rfl) ?_
  refine GL.one rfl .no (S1.len el47 rfl) ?_
  refine GL.one rfl .no (S1.mv (v := (.int _ _)) rfl) ?_
  refine GL.done rfl ?_
  refine GQ.on ?_
  refine GW.toBlock rfl ?_
  refine GW.toLoop (fun x : Nat × Y => [(0, .func (.yield l) #[] #[]), (9, rowS lr m), (10, .int .i64 m), (11, .int .i64 x.1)]) (fun x => M111 bx b lr m mb s kv sv av pv tm ev (ls x.2) (Z x.2)) (fun x => x.1 ≤ m ∧ RI x.2) (fun x => m - x.1) rfl (0, y0) ⟨Nat.zero_le _, hy⟩ (.c rfl (.c rfl (.c rfl (.c rfl .n)))) (by repeat first | exact .nil | exact Take.tz | apply Take.cons (by repeat first | exact .z | apply Rem.s | apply Rem.sA) | apply Take.app (by repeat first | exact Take.tzA | exact Take.tz | apply Take.ts | apply Take.skA) | exact Take.tzA | apply Take.ts | apply Take.skA) ?_
  rintro ⟨i, y⟩ f ⟨hi0, hy⟩
  have hl := hls y hy
  simp only at hi0
  refine GW.toSeq rfl ?_
  refine GW.toReg rfl ?_
  refine GL.one rfl .no (S1.lss rfl rfl) ?_
  refine GL.done rfl ?_
  refine GQ.on ?_
  refine GW.toSeq rfl ?_
  refine GW.toD rfl rfl (fun w1 => ?_) (fun w1 => ?_)
  refine GW.toSkip rfl ?_
  refine GQ.on ?_
  refine GW.toSeq rfl ?_
  refine GW.toBlock rfl ?_
  refine GW.toSeq rfl ?_
  refine GW.toReg rfl ?_
  refine GL.one rfl .no (S1.mv (v := (.int _ _)) rfl) ?_
  refine GL.one rfl .no (S1.ixN el47 rfl rfl (by omega)) ?_
  refine GL.one rfl .no (S1.ldP5 ag102 rfl (.at (.s (.s .z))) (by simp only [put5_len, List.length_set]; omega)) ?_
  refine GL.opN rfl .no (SN.al zc102) (fun a2 => ?_)
  refine GL.one rfl .no (S1.as (v := (.int _ _)) rfl) ?_
  refine GL.one rfl .no (S1.stA ag102 rfl rfl rfl rfl (by repeat constructor) .z) ?_
  refine GL.done rfl ?_
  refine GQ.on ?_
  refine GW.toSeq rfl ?_
  refine GW.toReg rfl ?_
  refine GL.one rfl .no (S1.fa fa102_4 rfl) ?_
  refine GL.one rfl .no (S1.ld sc3 rfl (.at .z) rfl) ?_
  refine GL.one rfl .no (S1.eql rfl rfl) ?_
  refine GL.one rfl .no (S1.mv (v := (.bool _)) rfl) ?_
  refine GL.splitD 19 rfl (fun w3 => ?_) (fun w3 => ?_)
  refine GL.one rfl (.yes rfl rfl rfl) (S1.mv (v := (.func _ _ _)) rfl) ?_
  refine GL.one rfl (.yes rfl rfl rfl) (S1.mv (v := (.int _ _)) rfl) ?_
  rotate_left
  refine GL.skip rfl (.not rfl rfl rfl) ?_
  refine GL.skip rfl (.not rfl rfl rfl) ?_
  refine GL.skip rfl (.not rfl rfl rfl) ?_
  refine GL.skip rfl (.not rfl rfl rfl) ?_
  refine GL.one rfl .no (S1.pickF (v := (.bool _)) rfl rfl) ?_
  refine GL.done rfl ?_
  refine GQ.on ?_
  refine GW.toF rfl rfl ?_
  refine GW.toSkip rfl ?_
  refine GQ.outN ?_
  refine GQ.on ?_
  refine GW.toReg rfl ?_
  refine GL.one rfl .no (S1.inc rfl rfl (by omega)) ?_
  refine GL.one rfl .no (S1.mv (v := (.int _ _)) rfl) ?_
  refine GL.done rfl ?_
  refine GQ.next (i + 1, y) ⟨by simp only; omega, hy⟩ (by simp only; omega) (.c rfl (.c rfl (.c rfl (.c rfl .n)))) (by repeat first | exact .nil | exact Take.tz | apply Take.cons (by repeat first | exact .z | apply Rem.s | apply Rem.sA) | apply Take.app (by repeat first | exact Take.tzA | exact Take.tz | apply Take.ts | apply Take.skA) | exact Take.tzA | apply Take.ts | apply Take.skA)
  refine GW.toExit rfl ?_
  refine GQ.onE ?_
  refine GQ.onE ?_
  refine GQ.outH ?_
  refine GQ.retN _ .nil .z rfl ?_ (by repeat first | exact .nil | exact Take.tz | apply Take.cons (by repeat first | exact .z | apply Rem.s | apply Rem.sA) | apply Take.app (by repeat first | exact Take.tzA | exact Take.tz | apply Take.ts | apply Take.skA) | exact Take.tzA | apply Take.ts | apply Take.skA)
  exact .inl hy
  have hn : (M111 bx b lr m mb s kv sv av pv tm ev (ls y) (Z y)).map (·.1) = bx :: b :: lr :: ZN := by simp [M111, hZ]
  refine GL.yield (X := Bool × Y) (V := fun z => .bool z.1) (R := fun z => if z.1 = true then RI z.2 else RD z.2) (M := fun z => M111 bx b lr m mb s kv sv av pv tm ev (ls z.2) (Z z.2)) (ps := M111 bx b lr m mb s kv sv av pv tm ev (ls y) (Z y)) rfl (.yes rfl rfl rfl) (yieldee_of (fs := []) (vs := [.int .i64 (i : Int)]) (cs := #[]) rfl (.c rfl .n)) (by repeat first | exact .nil | exact Take.tz | apply Take.cons (by repeat first | exact .z | apply Rem.s | apply Rem.sA) | apply Take.app (by repeat first | exact Take.tzA | exact Take.tz | apply Take.ts | apply Take.skA) | exact Take.tzA | apply Take.ts | apply Take.skA) (fun h H => ?_) (fun z q => ?_)
  · rw [hn]
    exact round i y h (by omega) hy (by simpa using w3) (by rw [← hn]; exact H.give (L1 := [(a2, _)]) (by repeat first | exact .nil | exact Take.tz | apply Take.cons (by repeat first | exact .z | apply Rem.s | apply Rem.sA) | apply Take.app (by repeat first | exact Take.tzA | exact Take.tz | apply Take.ts | apply Take.skA) | exact Take.tzA | apply Take.ts | apply Take.skA))
  obtain ⟨c, y'⟩ := z
  cases c with
  | true =>
    have q : RI y' := by simpa using q
    refine GL.one rfl (.yes rfl rfl rfl) (S1.notT rfl) ?_
    refine GL.one rfl .no (S1.pickT (v := (.bool _)) rfl rfl) ?_
    refine GL.done rfl ?_
    refine GQ.on ?_
    refine GW.toF rfl rfl ?_
    refine GW.toSkip rfl ?_
    refine GQ.outN ?_
    refine GQ.on ?_
    refine GW.toReg rfl ?_
    refine GL.one rfl .no (S1.inc rfl rfl (by omega)) ?_
    refine GL.one rfl .no (S1.mv (v := (.int _ _)) rfl) ?_
    refine GL.done rfl ?_
    refine GQ.next (i + 1, y') ⟨by simp only; omega, q⟩ (by simp only; omega) (.c rfl (.c rfl (.c rfl (.c rfl .n)))) (by repeat first | exact .nil | exact Take.tz | apply Take.cons (by repeat first | exact .z | apply Rem.s | apply Rem.sA) | apply Take.app (by repeat first | exact Take.tzA | exact Take.tz | apply Take.ts | apply Take.skA) | exact Take.tzA | apply Take.ts | apply Take.skA)
  | false =>
    have q : RD y' := by simpa using q
    refine GL.one rfl (.yes rfl rfl rfl) (S1.notF rfl) ?_
    refine GL.one rfl .no (S1.pickT (v := (.bool _)) rfl rfl) ?_
    refine GL.done rfl ?_
    refine GQ.on ?_
    refine GW.toT rfl rfl ?_
    refine GW.toRet rfl ?_
    refine GQ.outR ?_
    refine GQ.onR ?_
    refine GQ.onR ?_
    refine GQ.outR ?_
    refine GQ.ret y' .nil .z ?_ ?_ (by repeat first | exact .nil | exact Take.tz | apply Take.cons (by repeat first | exact .z | apply Rem.s | apply Rem.sA) | apply Take.app (by repeat first | exact Take.tzA | exact Take.tz | apply Take.ts | apply Take.skA) | exact Take.tzA | apply Take.ts | apply Take.skA)
    rfl
    exact .inr q
end
end Go.Proofs.YtkpbpfnmgnpfaaaGreat
namespace Go.Proofs.YtkpbpfnmgnpfaaaGreat
open Go Go.E
set_option maxRecDepth 100000


section
variable {h : EH} {hr : RO} {b lr m mb : Nat} {s : Sch} {kv sv av pv : Value} {tm ev i x0 x1 x2 x3 x4 : Int} {ls : List Int}

abbrev R87 (a1 a2 a3 a4 a5 b : Nat) (i x0 x1 x2 x3 x4 : Int) : Ents :=
  [(a5, .cells [.func (.func 101) ⟨[]⟩ ⟨[.pointer (some ⟨a2, 0, none⟩)]⟩] none true), (a4, .cells [.bool false] none true), (a3, .cells [.int .i64 i] none true), (a2, .cells (L5 x0 x1 x2 x3 x4) none true), (a1, .cells [.pointer (some ⟨b, 0, none⟩)] none true)]

theorem ct87 (hm : m ≤ 1073741824) (hl : ls.length = m * 5) (H : Hp hr h [b, lr] [(b, .cells (bkC s (rowS lr m) kv sv av pv mb tm ev) none true), (lr, opRow (ints ls) 5)] h) :
    Ct Tryz.prog 87 ⟨[.pointer (some ⟨b, 0, none⟩), .agg ⟨L5 x0 x1 x2 x3 x4⟩, .int .i64 i]⟩ h [b, lr] (fun r : Bool => .bool r) (fun _ => True) (fun _ => [(b, .cells (bkC s (rowS lr m) kv sv av pv mb tm ev) none true), (lr, opRow (ints ls) 5)]) := by
  refine Ct.goC Tryz.func87 rfl rfl co87 H ?_
  refine GW.toSeq rfl ?_
  refine GW.toReg rfl ?_
  refine GL.opN rfl .no (SN.bx (u := (.pointer _)) rfl (.one rfl)) (fun a1 => ?_)
  refine GL.opN rfl .no (SN.bx (u := .agg ⟨_⟩) rfl .agg) (fun a2 => ?_)
  refine GL.opN rfl .no (SN.bx (u := (.int _ _)) rfl (.one rfl)) (fun a3 => ?_)
  refine GL.opN rfl .no (SN.al zc4) (fun a4 => ?_)
  refine GL.done rfl ?_
  refine GQ.on ?_
  refine GW.toSeq rfl ?_
  refine GW.toReg rfl ?_
  refine GL.one rfl .no (S1.mf .n (.c (v := (.pointer _)) rfl .n)) ?_
  refine GL.opN rfl .no (SN.al zc157) (fun a5 => ?_)
  refine GL.one rfl .no (S1.st (u := (.func _ _ _)) sc157 rfl rfl rfl (by repeat constructor) .z) ?_
  refine GL.done rfl ?_
  refine GQ.on ?_
  refine GW.toSeq rfl ?_
  refine GW.toSeq rfl ?_
  refine GW.toReg rfl ?_
  refine GL.one rfl .no (S1.ld sc80 rfl (.at (.s (.s (.s (.s .z))))) rfl) ?_
  refine GL.call rfl .no fo102 .nil (fun h H => ct102) (.d (.c (v := (.pointer _)) rfl .n)) (fun x6 _ => ?_)
  refine GL.done rfl ?_
  refine GQ.on ?_
  refine GW.toBlock rfl ?_
  refine GW.toRange (Y := Unit) (M := fun _ => M111 x6 b lr m mb s kv sv av pv tm ev ls (R87 a1 a2 a3 a4 a5 b i x0 x1 x2 x3 x4)) (R := fun _ ex => ex = .normal ∨ ex = .ret) rfl rfl fo111 (fun k2 k3 d l h1 H1 => ?_) (fun d y ex hR => ?_)
  · generalize hlp : newLoop _ _ _ _ _ _ = lp0 at H1
    have H1' := H1.give (ps := M111 x6 b lr m mb s kv sv av pv tm ev ls ((l, .loop lp0) :: R87 a1 a2 a3 a4 a5 b i x0 x1 x2 x3 x4)) (by repeat first | exact .nil | exact Take.tz | apply Take.cons (by repeat first | exact .z | apply Rem.s | apply Rem.sA) | apply Take.app (by repeat first | exact Take.tzA | exact Take.tz | apply Take.ts | apply Take.skA) | exact Take.tzA | apply Take.ts | apply Take.skA)
    refine WF.mono (ct111 (bx := x6) (l := l) (Y := Loop) (fun _ => ls) (fun y => (l, .loop y) :: R87 a1 a2 a3 a4 a5 b i x0 x1 x2 x3 x4) [l, a5, a4, a3, a2, a1] (fun y => y = lp0) (fun y => y = { lp0 with state := .done, pending := some .ret }) hm (fun _ _ => hl) (fun _ => rfl) (fun i' y h hi hy hst H => ?_) lp0 rfl H1') fun o h2 q => ?_
    · subst hy
      subst hlp
      refine Rt.go H (r := (.s (.s (.s .z)))) (by simp only [newLoop, Array.size_ofFn]) rfl (newLoop_f rfl) k2 ?_
      clear H1 H1'
      refine GW.toReg rfl ?_
      refine GL.one rfl .no (S1.as (v := (.int _ _)) rfl) ?_
      refine GL.done rfl ?_
      refine GQ.body (.s (.s (.s .z))) rfl k3 ?_
      refine GW.toBlock rfl ?_
      refine GW.toSeq rfl ?_
      refine GW.toDrw mx rfl ?_
      refine GD.one rfl .no (S1.mv (v := (.int _ _)) rfl) rfl ?_
      refine GD.one rfl .no (S1.ld sc3 rfl (.at (.s (.s (.s (.s (.s (.s .z))))))) rfl) rfl ?_
      refine GD.one rfl .no (S1.neq rfl rfl) rfl ?_
      refine GD.one rfl .no (S1.mv (v := (.bool _)) rfl) rfl ?_
      refine GD.splitD 16 rfl (fun w7 => ?_) (fun w7 => ?_)
      refine GD.one rfl (.yes rfl rfl rfl) (S1.ld sc157 rfl (.at (.s (.s (.s (.s .z))))) rfl) rfl ?_
      refine GD.one rfl (.yes rfl rfl rfl) (S1.ld sc80 rfl (.at (.s (.s (.s (.s (.s (.s (.s (.s .z))))))))) rfl) rfl ?_
      refine GD.one rfl (.yes rfl rfl rfl) (S1.nc rfl) rfl ?_
      refine GD.one rfl (.yes rfl rfl rfl) (S1.fa fa85_1 rfl) rfl ?_
      refine GD.one rfl (.yes rfl rfl rfl) (S1.fa fa49_0 rfl) rfl ?_
      refine GD.one rfl (.yes rfl rfl rfl) (S1.ld sc47 rfl (.at (.s (.s .z))) rfl) rfl ?_
      refine GD.one rfl (.yes rfl rfl rfl) (S1.mv (v := (.int _ _)) rfl) rfl ?_
      refine GD.one rfl (.yes rfl rfl rfl) (S1.ixN el47 rfl rfl (by omega)) rfl ?_
      refine GD.one rfl (.yes rfl rfl rfl) (S1.ldP5 ag102 rfl (.at (.s (.s (.s .z)))) (by omega)) rfl ?_
      refine GD.call rfl (.yes rfl rfl rfl) fo101 .nil (fun h H => ct101 (H.get (by repeat first | exact .z | apply At.s | apply At.sA))) (.v (fs := []) (cs := [(.pointer _)]) rfl (.c (v := (.agg _)) rfl .n)) (fun r8 _ => ?_)
      refine GD.one rfl .no (S1.pickT (v := (.bool _)) rfl rfl) rfl ?_
      refine GD.done rfl ?_
      refine GQ.on ?_
      refine GW.toC rfl rfl (fun w9 => ?_) (fun w9 => ?_)
      refine GW.toSeq rfl ?_
      refine GW.toReg rfl ?_
      refine GL.one rfl .no (S1.st (u := (.bool _)) sc4 rfl rfl rfl (by repeat constructor) (.s (.s (.s (.s (.s .z)))))) ?_
      refine GL.done rfl ?_
      refine GQ.on ?_
      refine GW.toRet rfl ?_
      refine GQ.outR ?_
      refine GQ.rR (false, _) (by repeat first | exact .z | apply Rem.s | apply Rem.sA) rfl rfl (by repeat first | exact .nil | exact Take.tz | apply Take.cons (by repeat first | exact .z | apply Rem.s | apply Rem.sA) | apply Take.app (by repeat first | exact Take.tzA | exact Take.tz | apply Take.ts | apply Take.skA) | exact Take.tzA | apply Take.ts | apply Take.skA)
      refine GW.toSkip rfl ?_
      refine GQ.outN ?_
      refine GQ.rN (true, _) (by repeat first | exact .z | apply Rem.s | apply Rem.sA) rfl rfl (by repeat first | exact .nil | exact Take.tz | apply Take.cons (by repeat first | exact .z | apply Rem.s | apply Rem.sA) | apply Take.app (by repeat first | exact Take.tzA | exact Take.tz | apply Take.ts | apply Take.skA) | exact Take.tzA | apply Take.ts | apply Take.skA)
      refine GD.skip rfl (.not rfl rfl rfl) ?_
      refine GD.skip rfl (.not rfl rfl rfl) ?_
      refine GD.skip rfl (.not rfl rfl rfl) ?_
      refine GD.skip rfl (.not rfl rfl rfl) ?_
      refine GD.skip rfl (.not rfl rfl rfl) ?_
      refine GD.skip rfl (.not rfl rfl rfl) ?_
      refine GD.skip rfl (.not rfl rfl rfl) ?_
      refine GD.skip rfl (.not rfl rfl rfl) ?_
      refine GD.skip rfl (.not rfl rfl rfl) ?_
      refine GD.skip rfl (.not rfl rfl rfl) ?_
      refine GD.one rfl .no (S1.pickF (v := (.bool _)) rfl rfl) rfl ?_
      refine GD.done rfl ?_
      refine GQ.on ?_
      refine GW.toF rfl rfl ?_
      refine GW.toSkip rfl ?_
      refine GQ.outN ?_
      refine GQ.rN (true, _) (by repeat first | exact .z | apply Rem.s | apply Rem.sA) rfl rfl (by repeat first | exact .nil | exact Take.tz | apply Take.cons (by repeat first | exact .z | apply Rem.s | apply Rem.sA) | apply Take.app (by repeat first | exact Take.tzA | exact Take.tz | apply Take.ts | apply Take.skA) | exact Take.tzA | apply Take.ts | apply Take.skA)
    · cases o with
      | pan v => exact q.elim
      | ret v =>
        obtain ⟨y, rfl, hR, hP⟩ := q
        have H2 := H1.callT (ps := M111 x6 b lr m mb s kv sv av pv tm ev ls ((l, .loop lp0) :: R87 a1 a2 a3 a4 a5 b i x0 x1 x2 x3 x4)) (by repeat first | exact .nil | exact Take.tz | apply Take.cons (by repeat first | exact .z | apply Rem.s | apply Rem.sA) | apply Take.app (by repeat first | exact Take.tzA | exact Take.tz | apply Take.ts | apply Take.skA) | exact Take.tzA | apply Take.ts | apply Take.skA) hP
        rcases hR with rfl | rfl
        · exact ⟨(), y, .normal, by subst hlp; rfl, by subst hlp; simp [newLoop], .inl rfl, H2.sub (by repeat first | exact .nil | exact Take.tz | apply Take.cons (by repeat first | exact .z | apply Rem.s | apply Rem.sA) | apply Take.app (by repeat first | exact Take.tzA | exact Take.tz | apply Take.ts | apply Take.skA) | exact Take.tzA | apply Take.ts | apply Take.skA)⟩
        · exact ⟨(), { lp0 with state := .done, pending := some .ret }, .ret, rfl, by simp, .inr rfl, H2.sub (by repeat first | exact .nil | exact Take.tz | apply Take.cons (by repeat first | exact .z | apply Rem.s | apply Rem.sA) | apply Take.app (by repeat first | exact Take.tzA | exact Take.tz | apply Take.ts | apply Take.skA) | exact Take.tzA | apply Take.ts | apply Take.skA)⟩
  · rcases hR with rfl | rfl
    · refine GQ.outN ?_
      refine GQ.on ?_
      refine GW.toSeq rfl ?_
      refine GW.toReg rfl ?_
      refine GL.one rfl .no (S1.st (u := (.bool _)) sc4 rfl rfl rfl (by repeat constructor) (.s (.s (.s (.s (.s .z)))))) ?_
      refine GL.done rfl ?_
      refine GQ.on ?_
      refine GW.toRet rfl ?_
      refine GQ.toC (by repeat first | exact .z | apply Rem.s | apply Rem.sA) ?_
      refine GQ.ret _ (.cell rfl rfl (.s (.s (.s (.s .z)))) (loadV_sc sc4 rfl) .nil) .one rfl ?_ (by repeat first | exact .nil | exact Take.tz | apply Take.cons (by repeat first | exact .z | apply Rem.s | apply Rem.sA) | apply Take.app (by repeat first | exact Take.tzA | exact Take.tz | apply Take.ts | apply Take.skA) | exact Take.tzA | apply Take.ts | apply Take.skA)
      exact trivial
    · refine GQ.outR ?_
      refine GQ.onR ?_
      refine GQ.toC (by repeat first | exact .z | apply Rem.s | apply Rem.sA) ?_
      refine GQ.ret _ (.cell rfl rfl (.s (.s (.s (.s .z)))) (loadV_sc sc4 rfl) .nil) .one rfl ?_ (by repeat first | exact .nil | exact Take.tz | apply Take.cons (by repeat first | exact .z | apply Rem.s | apply Rem.sA) | apply Take.app (by repeat first | exact Take.tzA | exact Take.tz | apply Take.ts | apply Take.skA) | exact Take.tzA | apply Take.ts | apply Take.skA)
      exact trivial
end
end Go.Proofs.YtkpbpfnmgnpfaaaGreat
namespace Go.Proofs.YtkpbpfnmgnpfaaaGreat
open Go Go.E
set_option maxRecDepth 100000


section
variable {h : EH} {hr : RO} {b lr m mb cl bx l : Nat} {s : Sch} {lv kv sv av pv : Value} {tm ev i x0 x1 x2 x3 x4 : Int} {ls : List Int} {lE : Ents} {es : List MapEntry}

theorem ct111n (hb : h[b]? = some (.cells (bkC s nilS kv sv av pv mb tm ev) none true)) (hx : h[bx]? = some (.cells [.pointer (some ⟨b, 0, none⟩)] none true)) :
    Ct Tryz.prog 111 ⟨[.func (.yield l) #[] #[], .pointer (some ⟨bx, 0, none⟩)]⟩ h [] (fun _ : Unit => .tuple #[]) (fun _ => True) (fun _ => []) := by
  refine Ct.go Tryz.func111 rfl rfl co111 (Hp.start (hr := fun _ => none) (by simp)) ?_
  refine GW.toSeq rfl ?_
  refine GW.toReg rfl ?_
  refine GL.one rfl .no (S1.ld sc80 rfl (.old0 hx) rfl) ?_
  refine GL.one rfl .no (S1.nc rfl) ?_
  refine GL.one rfl .no (S1.fa fa85_1 rfl) ?_
  refine GL.one rfl .no (S1.fa fa49_0 rfl) ?_
  refine GL.one rfl .no (S1.ld sc47 rfl (.old0 hb) rfl) ?_
  refine GL.one rfl .no (S1.len el47 rfl) ?_
  refine GL.one rfl .no (S1.mv (v := (.int _ _)) rfl) ?_
  refine GL.done rfl ?_
  refine GQ.on ?_
  refine GW.toBlock rfl ?_
  refine GW.toLoop (fun _ : Unit => [(9, nilS), (10, .int .i64 0), (11, .int .i64 0)]) (fun _ => []) (fun _ => True) (fun _ => 0) rfl () trivial (.c rfl (.c rfl (.c rfl .n))) (by repeat first | exact .nil | exact Take.tz | apply Take.cons (by repeat first | exact .z | apply Rem.s | apply Rem.sA) | apply Take.app (by repeat first | exact Take.tzA | exact Take.tz | apply Take.ts | apply Take.skA) | exact Take.tzA | apply Take.ts | apply Take.skA) ?_
  rintro - f -
  refine GW.toSeq rfl ?_
  refine GW.toReg rfl ?_
  refine GL.one rfl .no (S1.lss rfl rfl) ?_
  refine GL.done rfl ?_
  refine GQ.on ?_
  refine GW.toSeq rfl ?_
  refine GW.toF rfl rfl ?_
  refine GW.toExit rfl ?_
  refine GQ.onE ?_
  refine GQ.onE ?_
  refine GQ.outH ?_
  refine GQ.retN () .nil .z ?_ ?_ .nil
  rfl
  exact trivial

theorem ct87n (H : Hp hr h [b] [(b, .cells (bkC s nilS kv sv av pv mb tm ev) none true)] h) :
    Ct Tryz.prog 87 ⟨[.pointer (some ⟨b, 0, none⟩), .agg ⟨L5 x0 x1 x2 x3 x4⟩, .int .i64 i]⟩ h [b] (fun r : Bool => .bool r) (fun _ => True) (fun _ => [(b, .cells (bkC s nilS kv sv av pv mb tm ev) none true)]) := by
  refine Ct.goC Tryz.func87 rfl rfl co87 H ?_
  refine GW.toSeq rfl ?_
  refine GW.toReg rfl ?_
  refine GL.opN rfl .no (SN.bx (u := (.pointer _)) rfl (.one rfl)) (fun a1 => ?_)
  refine GL.opN rfl .no (SN.bx (u := .agg ⟨_⟩) rfl .agg) (fun a2 => ?_)
  refine GL.opN rfl .no (SN.bx (u := (.int _ _)) rfl (.one rfl)) (fun a3 => ?_)
  refine GL.opN rfl .no (SN.al zc4) (fun a4 => ?_)
  refine GL.done rfl ?_
  refine GQ.on ?_
  refine GW.toSeq rfl ?_
  refine GW.toReg rfl ?_
  refine GL.one rfl .no (S1.mf .n (.c (v := (.pointer _)) rfl .n)) ?_
  refine GL.opN rfl .no (SN.al zc157) (fun a5 => ?_)
  refine GL.one rfl .no (S1.st (u := (.func _ _ _)) sc157 rfl rfl rfl (by repeat constructor) .z) ?_
  refine GL.done rfl ?_
  refine GQ.on ?_
  refine GW.toSeq rfl ?_
  refine GW.toSeq rfl ?_
  refine GW.toReg rfl ?_
  refine GL.one rfl .no (S1.ld sc80 rfl (.at (.s (.s (.s (.s .z))))) rfl) ?_
  refine GL.call rfl .no fo102 .nil (fun h H => ct102) (.d (.c (v := (.pointer _)) rfl .n)) (fun x6 _ => ?_)
  refine GL.done rfl ?_
  refine GQ.on ?_
  refine GW.toBlock rfl ?_
  refine GW.toRange (Y := Unit) (M := fun _ => (b, .cells (bkC s nilS kv sv av pv mb tm ev) none true) :: R87 a1 a2 a3 a4 a5 b i x0 x1 x2 x3 x4) (R := fun _ ex => ex = .normal) rfl rfl fo111 (fun k2 k3 d l h1 H1 => ?_) (fun d y ex hR => ?_)
  · generalize hlp : newLoop _ _ _ _ _ _ = lp0 at H1
    refine WF.mono (ct111n (l := l) (bx := x6) (H1.get (by repeat first | exact .z | apply At.s | apply At.sA)) (H1.get (by repeat first | exact .z | apply At.s | apply At.sA))) fun o h2 q => ?_
    cases o with
    | pan v => exact q.elim
    | ret v =>
      obtain ⟨y, rfl, hR, hP⟩ := q
      have H2 := H1.callT (ps := []) .nil hP
      exact ⟨(), lp0, .normal, by subst hlp; rfl, by subst hlp; simp [newLoop], rfl, H2.sub (by repeat first | exact .nil | exact Take.tz | apply Take.cons (by repeat first | exact .z | apply Rem.s | apply Rem.sA) | apply Take.app (by repeat first | exact Take.tzA | exact Take.tz | apply Take.ts | apply Take.skA) | exact Take.tzA | apply Take.ts | apply Take.skA)⟩
  · subst hR
    refine GQ.outN ?_
    refine GQ.on ?_
    refine GW.toSeq rfl ?_
    refine GW.toReg rfl ?_
    refine GL.one rfl .no (S1.st (u := (.bool _)) sc4 rfl rfl rfl (by repeat constructor) (.s (.s (.s .z)))) ?_
    refine GL.done rfl ?_
    refine GQ.on ?_
    refine GW.toRet rfl ?_
    refine GQ.toC (by repeat first | exact .z | apply Rem.s | apply Rem.sA) ?_
    refine GQ.ret _ (.cell rfl rfl (.s (.s .z)) (loadV_sc sc4 rfl) .nil) .one rfl ?_ (by repeat first | exact .nil | exact Take.tz | apply Take.cons (by repeat first | exact .z | apply Rem.s | apply Rem.sA) | apply Take.app (by repeat first | exact Take.tzA | exact Take.tz | apply Take.ts | apply Take.skA) | exact Take.tzA | apply Take.ts | apply Take.skA)
    exact trivial

theorem ct87' (hm : m ≤ 1073741824) (n : NR 5 lv lE m ls) (H : Hp hr h (b :: lE.map (·.1)) ((b, .cells (bkC s lv kv sv av pv mb tm ev) none true) :: lE) h) :
    Ct Tryz.prog 87 ⟨[.pointer (some ⟨b, 0, none⟩), .agg ⟨L5 x0 x1 x2 x3 x4⟩, .int .i64 i]⟩ h (b :: lE.map (·.1)) (fun r : Bool => .bool r) (fun _ => True) (fun _ => (b, .cells (bkC s lv kv sv av pv mb tm ev) none true) :: lE) := by
  cases n with
  | nil => exact ct87n H
  | row h1 h2 => exact ct87 hm h2 H

theorem ct86i (hR : ∀ b o, hr b = some o → h[b]? = some o) (hc : Cell hr (.sl ly74) (.slice s.ca s.cn s.cc)) (hk : 0 ≤ x1 ∧ x1 < s.cn) (him : IM es) (hb : h[b]? = some (.cells (bkC s lv kv sv av pv mb tm ev) none true)) (hm : h[mb]? = some (.map es cl)) :
    Ct Tryz.prog 86 ⟨[.pointer (some ⟨b, 0, none⟩), .int .i64 x1, .int .i64 x2]⟩ h [] (fun r : Bool => .bool r) (fun _ => True) (fun _ => []) := by
  obtain ⟨k, rfl⟩ : ∃ k : Nat, x1 = k := ⟨x1.toNat, by omega⟩
  exact ct86 hR hc (by omega) him hb hm

theorem ct51 (hc : Cell hr (.sl ly74) (.slice s.ca s.cn s.cc)) (hln : s.ln ≤ 1073741824) (hm : m ≤ 1073741824) (him : IM es) (n : NR 5 lv lE m ls) (H : Hp hr h (b :: mb :: lE.map (·.1)) ((b, .cells (bkC s lv kv sv av pv mb tm ev) none true) :: (mb, .map es cl) :: lE) h) :
    Cp Tryz.prog 51 ⟨[.pointer (some ⟨b, 0, none⟩), .agg ⟨L5 x0 x1 x2 x3 x4⟩, .int .i64 i]⟩ h (b :: mb :: lE.map (·.1)) (fun _ : Unit => .tuple #[]) (fun _ => (0 ≤ x0 ∧ x0 < s.ln) ∧ (0 ≤ x1 ∧ x1 < s.cn) ∧ (0 ≤ x2 ∧ x2 ≤ 4800) ∧ (1 ≤ x3 ∧ x3 ≤ 4)) (fun _ => (b, .cells (bkC s lv kv sv av pv mb tm ev) none true) :: (mb, .map es cl) :: lE)
      (fun e : Int => .iface 38 (.int .i64 e)) (fun _ => True) (fun _ => (b, .cells (bkC s lv kv sv av pv mb tm ev) none true) :: (mb, .map es cl) :: lE) := by
  have hcl := hc.le
  refine Cp.go Tryz.func51 rfl rfl co51 H ?_
  refine GW.toSeq rfl ?_
  refine GW.toReg rfl ?_
  refine GL.opN rfl .no (SN.bx (u := .agg ⟨_⟩) rfl .agg) (fun a1 => ?_)
  refine GL.done rfl ?_
  refine GQ.on ?_
  refine GW.toSeq rfl ?_
  refine GW.toDrw mx rfl ?_
  refine GD.one rfl .no (S1.mv (v := (.pointer _)) rfl) rfl ?_
  refine GD.one rfl .no (S1.nc rfl) rfl ?_
  refine GD.one rfl .no (S1.fa fa85_0 rfl) rfl ?_
  refine GD.one rfl .no (S1.fa fa28_0 rfl) rfl ?_
  refine GD.one rfl .no (S1.ld sc22 rfl (.at (.s .z)) rfl) rfl ?_
  refine GD.one rfl .no (S1.len el22 rfl) rfl ?_
  refine GD.one rfl .no (S1.subI rfl rfl (by omega) (by omega)) rfl ?_
  refine GD.one rfl .no (S1.fa fa102_0 rfl) rfl ?_
  refine GD.one rfl .no (S1.ld sc3 rfl (.at .z) rfl) rfl ?_
  refine GD.opN rfl .no (SN.bs el32 ez32 (.c (v := (.int _ _)) rfl rfl .n) rfl rfl) rfl (fun a2 => ?_)
  refine GD.call rfl .no fo31 .nil (fun h H => ct31_1 (H.get (by repeat first | exact .z | apply At.s | apply At.sA))) (.d (.c (v := (.int _ _)) rfl (.c (v := (.int _ _)) rfl (.c (v := (.slice _ _ _)) rfl .n)))) (fun r4 _ => ?_)
  refine GD.one rfl .no (S1.not rfl) rfl ?_
  refine GD.one rfl .no (S1.mv (v := (.bool _)) rfl) rfl ?_
  refine GD.split 18 rfl (fun w5 => ?_) (fun w5 => ?_)
  refine GD.one rfl (.yes rfl rfl rfl) (S1.mv (v := (.pointer _)) rfl) rfl ?_
  refine GD.one rfl (.yes rfl rfl rfl) (S1.nc rfl) rfl ?_
  refine GD.one rfl (.yes rfl rfl rfl) (S1.fa fa85_0 rfl) rfl ?_
  refine GD.one rfl (.yes rfl rfl rfl) (S1.fa fa28_1 rfl) rfl ?_
  refine GD.one rfl (.yes rfl rfl rfl) (S1.ld sc23 rfl (.at (.s (.s .z))) rfl) rfl ?_
  refine GD.one rfl (.yes rfl rfl rfl) (S1.len el23 rfl) rfl ?_
  refine GD.one rfl (.yes rfl rfl rfl) (S1.subI rfl rfl (by omega) (by omega)) rfl ?_
  refine GD.one rfl (.yes rfl rfl rfl) (S1.fa fa102_1 rfl) rfl ?_
  refine GD.one rfl (.yes rfl rfl rfl) (S1.ld sc3 rfl (.at (.s .z)) rfl) rfl ?_
  refine GD.opN rfl (.yes rfl rfl rfl) (SN.bs el32 ez32 (.c (v := (.int _ _)) rfl rfl .n) rfl rfl) rfl (fun a6 => ?_)
  refine GD.call rfl (.yes rfl rfl rfl) fo31 .nil (fun h H => ct31_1 (H.get (by repeat first | exact .z | apply At.s | apply At.sA))) (.d (.c (v := (.int _ _)) rfl (.c (v := (.int _ _)) rfl (.c (v := (.slice _ _ _)) rfl .n)))) (fun r8 _ => ?_)
  refine GD.one rfl (.yes rfl rfl rfl) (S1.not rfl) rfl ?_
  refine GD.one rfl .no (S1.pickT (v := (.bool _)) rfl rfl) rfl ?_
  refine GD.callP rfl rfl .no fo85 .nil (fun h H => ct85) (.d (.c (v := (.bool _)) rfl (.c (v := (.int _ _)) rfl .n))) (fun _ q9 => ?_) (fun e9 q9 => ?_)
  refine GD.done rfl ?_
  refine GQ.on ?_
  refine GW.toSeq rfl ?_
  refine GW.toReg rfl ?_
  refine GL.one rfl .no (S1.fa fa102_3 rfl) ?_
  refine GL.one rfl .no (S1.ld sc3 rfl (.at (.s (.s .z))) rfl) ?_
  refine GL.opN rfl .no (SN.bs el32 ez32 (.c (v := (.int _ _)) rfl rfl .n) rfl rfl) (fun a10 => ?_)
  refine GL.call rfl .no fo31 .nil (fun h H => ct31_1 (H.get (by repeat first | exact .z | apply At.s | apply At.sA))) (.d (.c (v := (.int _ _)) rfl (.c (v := (.int _ _)) rfl (.c (v := (.slice _ _ _)) rfl .n)))) (fun r12 _ => ?_)
  refine GL.one rfl .no (S1.not rfl) ?_
  refine GL.one rfl .no (S1.mv (v := (.bool _)) rfl) ?_
  refine GL.split 38 rfl (fun w13 => ?_) (fun w13 => ?_)
  refine GL.one rfl (.yes rfl rfl rfl) (S1.fa fa102_2 rfl) ?_
  refine GL.one rfl (.yes rfl rfl rfl) (S1.ld sc3 rfl (.at (.s (.s (.s .z)))) rfl) ?_
  refine GL.opN rfl (.yes rfl rfl rfl) (SN.bs el32 ez32 (.c (v := (.int _ _)) rfl rfl .n) rfl rfl) (fun a14 => ?_)
  refine GL.call rfl (.yes rfl rfl rfl) fo31 .nil (fun h H => ct31_1 (H.get (by repeat first | exact .z | apply At.s | apply At.sA))) (.d (.c (v := (.int _ _)) rfl (.c (v := (.int _ _)) rfl (.c (v := (.slice _ _ _)) rfl .n)))) (fun r16 _ => ?_)
  refine GL.one rfl (.yes rfl rfl rfl) (S1.not rfl) ?_
  refine GL.one rfl .no (S1.pickT (v := (.bool _)) rfl rfl) ?_
  refine GL.callP rfl .no fo85 .nil (fun h H => ct85) (.d (.c (v := (.bool _)) rfl (.c (v := (.int _ _)) rfl .n))) (fun _ q17 => ?_) (fun e17 q17 => ?_)
  refine GL.done rfl ?_
  refine GQ.on ?_
  refine GW.toSeq rfl ?_
  refine GW.toDrw mx rfl ?_
  refine GD.one rfl .no (S1.fa fa102_2 rfl) rfl ?_
  refine GD.one rfl .no (S1.ld sc3 rfl (.at (.s (.s (.s (.s .z))))) rfl) rfl ?_
  refine GD.one rfl .no (S1.mv (v := (.int _ _)) rfl) rfl ?_
  refine GD.one rfl .no (S1.gtr rfl rfl) rfl ?_
  refine GD.one rfl .no (S1.mv (v := (.bool _)) rfl) rfl ?_
  refine GD.splitD 50 rfl (fun w18 => ?_) (fun w18 => ?_)
  refine GD.one rfl (.yes rfl rfl rfl) (S1.fa fa102_2 rfl) rfl ?_
  refine GD.one rfl (.yes rfl rfl rfl) (S1.ld sc3 rfl (.at (.s (.s (.s (.s .z))))) rfl) rfl ?_
  refine GD.one rfl (.yes rfl rfl rfl) (S1.rem rfl rfl (by omega)) rfl ?_
  refine GD.one rfl (.yes rfl rfl rfl) (S1.mv (v := (.pointer _)) rfl) rfl ?_
  refine GD.one rfl (.yes rfl rfl rfl) (S1.nc rfl) rfl ?_
  refine GD.one rfl (.yes rfl rfl rfl) (S1.fa fa85_0 rfl) rfl ?_
  refine GD.one rfl (.yes rfl rfl rfl) (S1.fa fa28_4 rfl) rfl ?_
  refine GD.one rfl (.yes rfl rfl rfl) (S1.fa fa25_0 rfl) rfl ?_
  refine GD.one rfl (.yes rfl rfl rfl) (S1.ld sc3 rfl (.at (.s (.s (.s (.s (.s .z)))))) rfl) rfl ?_
  refine GD.one rfl (.yes rfl rfl rfl) (S1.geq rfl rfl) rfl ?_
  refine GD.one rfl .no (S1.pickT (v := (.bool _)) rfl rfl) rfl ?_
  refine GD.one rfl .no (S1.mv (v := (.bool _)) rfl) rfl ?_
  refine GD.splitD 62 rfl (fun w19 => ?_) (fun w19 => ?_)
  refine GD.one rfl (.yes rfl rfl rfl) (S1.fa fa102_2 rfl) rfl ?_
  refine GD.one rfl (.yes rfl rfl rfl) (S1.ld sc3 rfl (.at (.s (.s (.s (.s .z))))) rfl) rfl ?_
  refine GD.one rfl (.yes rfl rfl rfl) (S1.rem rfl rfl (by omega)) rfl ?_
  refine GD.one rfl (.yes rfl rfl rfl) (S1.fa fa102_3 rfl) rfl ?_
  refine GD.one rfl (.yes rfl rfl rfl) (S1.ld sc3 rfl (.at (.s (.s (.s (.s .z))))) rfl) rfl ?_
  refine GD.one rfl (.yes rfl rfl rfl) (S1.add rfl rfl) rfl ?_
  refine GD.one rfl (.yes rfl rfl rfl) (S1.mv (v := (.pointer _)) rfl) rfl ?_
  refine GD.one rfl (.yes rfl rfl rfl) (S1.nc rfl) rfl ?_
  refine GD.one rfl (.yes rfl rfl rfl) (S1.fa fa85_0 rfl) rfl ?_
  refine GD.one rfl (.yes rfl rfl rfl) (S1.fa fa28_4 rfl) rfl ?_
  refine GD.one rfl (.yes rfl rfl rfl) (S1.fa fa25_1 rfl) rfl ?_
  refine GD.one rfl (.yes rfl rfl rfl) (S1.ld sc3 rfl (.at (.s (.s (.s (.s (.s .z)))))) rfl) rfl ?_
  refine GD.one rfl (.yes rfl rfl rfl) (S1.leq rfl rfl) rfl ?_
  refine GD.one rfl .no (S1.pickT (v := (.bool _)) rfl rfl) rfl ?_
  refine GD.callP rfl rfl .no fo85 .nil (fun h H => ct85) (.d (.c (v := (.bool _)) rfl (.c (v := (.int _ _)) rfl .n))) (fun _ q20 => ?_) (fun e20 q20 => ?_)
  refine GD.done rfl ?_
  refine GQ.on ?_
  refine GW.toSeq rfl ?_
  refine GW.toReg rfl ?_
  refine GL.one rfl .no (S1.mv (v := (.pointer _)) rfl) ?_
  refine GL.one rfl .no (S1.fa fa102_1 rfl) ?_
  refine GL.one rfl .no (S1.ld sc3 rfl (.at (.s (.s (.s (.s .z))))) rfl) ?_
  refine GL.one rfl .no (S1.fa fa102_2 rfl) ?_
  refine GL.one rfl .no (S1.ld sc3 rfl (.at (.s (.s (.s (.s .z))))) rfl) ?_
  refine GL.call rfl .no fo86 .nil (fun h H => ct86i H.rom hc (by simp only [outB_ok] at *; omega) him (H.get (by repeat first | exact .z | apply At.s | apply At.sA)) (H.get (by repeat first | exact .z | apply At.s | apply At.sA))) (.d (.c (v := (.pointer _)) rfl (.c (v := (.int _ _)) rfl (.c (v := (.int _ _)) rfl .n)))) (fun r21 _ => ?_)
  refine GL.callP rfl .no fo85 .nil (fun h H => ct85) (.d (.c (v := (.bool _)) rfl (.c (v := (.int _ _)) rfl .n))) (fun _ q22 => ?_) (fun e22 q22 => ?_)
  refine GL.done rfl ?_
  refine GQ.on ?_
  refine GW.toReg rfl ?_
  refine GL.one rfl .no (S1.mv (v := (.pointer _)) rfl) ?_
  refine GL.one rfl .no (S1.ldW ag102 rfl (.at (.s (.s (.s (.s .z))))) rfl) ?_
  refine GL.call rfl .no fo87 (show Take _ ((b, _) :: lE) _ from (by repeat first | exact .nil | exact Take.tz | apply Take.cons (by repeat first | exact .z | apply Rem.s | apply Rem.sA) | apply Take.app (by repeat first | exact Take.tzA | exact Take.tz | apply Take.ts | apply Take.skA) | exact Take.tzA | apply Take.ts | apply Take.skA)) (fun h H => ct87' hm n (H.give (show Take _ ((b, _) :: lE) _ from (by repeat first | exact .nil | exact Take.tz | apply Take.cons (by repeat first | exact .z | apply Rem.s | apply Rem.sA) | apply Take.app (by repeat first | exact Take.tzA | exact Take.tz | apply Take.ts | apply Take.skA) | exact Take.tzA | apply Take.ts | apply Take.skA)))) (.d (.c (v := (.pointer _)) rfl (.c (v := (.agg _)) rfl (.c (v := (.int _ _)) rfl .n)))) (fun r23 _ => ?_)
  refine GL.callP rfl .no fo85 .nil (fun h H => ct85) (.d (.c (v := (.bool _)) rfl (.c (v := (.int _ _)) rfl .n))) (fun _ q24 => ?_) (fun e24 q24 => ?_)
  refine GL.done rfl ?_
  refine GQ.retN () .nil .z ?_ ?_ (by repeat first | exact .nil | exact Take.tz | apply Take.cons (by repeat first | exact .z | apply Rem.s | apply Rem.sA) | apply Take.app (by repeat first | exact Take.tzA | exact Take.tz | apply Take.ts | apply Take.skA) | exact Take.tzA | apply Take.ts | apply Take.skA)
  rfl
  rotate_left
  refine GQ.pan _ rfl ?_ (by repeat first | exact .nil | exact Take.tz | apply Take.cons (by repeat first | exact .z | apply Rem.s | apply Rem.sA) | apply Take.app (by repeat first | exact Take.tzA | exact Take.tz | apply Take.ts | apply Take.skA) | exact Take.tzA | apply Take.ts | apply Take.skA)
  exact trivial
  refine GQ.onP ?_
  refine GQ.pan _ rfl ?_ (by repeat first | exact .nil | exact Take.tz | apply Take.cons (by repeat first | exact .z | apply Rem.s | apply Rem.sA) | apply Take.app (by repeat first | exact Take.tzA | exact Take.tz | apply Take.ts | apply Take.skA) | exact Take.tzA | apply Take.ts | apply Take.skA)
  exact trivial
  refine GQ.onP ?_
  refine GQ.pan _ rfl ?_ (by repeat first | exact .nil | exact Take.tz | apply Take.cons (by repeat first | exact .z | apply Rem.s | apply Rem.sA) | apply Take.app (by repeat first | exact Take.tzA | exact Take.tz | apply Take.ts | apply Take.skA) | exact Take.tzA | apply Take.ts | apply Take.skA)
  exact trivial
  refine GD.skip rfl (.not rfl rfl rfl) ?_
  refine GD.skip rfl (.not rfl rfl rfl) ?_
  refine GD.skip rfl (.not rfl rfl rfl) ?_
  refine GD.skip rfl (.not rfl rfl rfl) ?_
  refine GD.skip rfl (.not rfl rfl rfl) ?_
  refine GD.skip rfl (.not rfl rfl rfl) ?_
  refine GD.skip rfl (.not rfl rfl rfl) ?_
  refine GD.skip rfl (.not rfl rfl rfl) ?_
  refine GD.skip rfl (.not rfl rfl rfl) ?_
  refine GD.skip rfl (.not rfl rfl rfl) ?_
  refine GD.skip rfl (.not rfl rfl rfl) ?_
  refine GD.skip rfl (.not rfl rfl rfl) ?_
  refine GD.skip rfl (.not rfl rfl rfl) ?_
  refine GD.one rfl .no (S1.pickF (v := (.bool _)) rfl rfl) rfl ?_
  refine GD.callP rfl rfl .no fo85 .nil (fun h H => ct85) (.d (.c (v := (.bool _)) rfl (.c (v := (.int _ _)) rfl .n))) (fun _ q25 => ?_) (fun e25 q25 => ?_)
  exact absurd q25 (by decide)
  refine GQ.onP ?_
  refine GQ.pan _ rfl ?_ (by repeat first | exact .nil | exact Take.tz | apply Take.cons (by repeat first | exact .z | apply Rem.s | apply Rem.sA) | apply Take.app (by repeat first | exact Take.tzA | exact Take.tz | apply Take.ts | apply Take.skA) | exact Take.tzA | apply Take.ts | apply Take.skA)
  exact trivial
  refine GD.skip rfl (.not rfl rfl rfl) ?_
  refine GD.skip rfl (.not rfl rfl rfl) ?_
  refine GD.skip rfl (.not rfl rfl rfl) ?_
  refine GD.skip rfl (.not rfl rfl rfl) ?_
  refine GD.skip rfl (.not rfl rfl rfl) ?_
  refine GD.skip rfl (.not rfl rfl rfl) ?_
  refine GD.skip rfl (.not rfl rfl rfl) ?_
  refine GD.skip rfl (.not rfl rfl rfl) ?_
  refine GD.skip rfl (.not rfl rfl rfl) ?_
  refine GD.skip rfl (.not rfl rfl rfl) ?_
  refine GD.one rfl .no (S1.pickF (v := (.bool _)) rfl rfl) rfl ?_
  refine GD.one rfl .no (S1.mv (v := (.bool _)) rfl) rfl ?_
  refine GD.skip rfl (.not rfl rfl rfl) ?_
  refine GD.skip rfl (.not rfl rfl rfl) ?_
  refine GD.skip rfl (.not rfl rfl rfl) ?_
  refine GD.skip rfl (.not rfl rfl rfl) ?_
  refine GD.skip rfl (.not rfl rfl rfl) ?_
  refine GD.skip rfl (.not rfl rfl rfl) ?_
  refine GD.skip rfl (.not rfl rfl rfl) ?_
  refine GD.skip rfl (.not rfl rfl rfl) ?_
  refine GD.skip rfl (.not rfl rfl rfl) ?_
  refine GD.skip rfl (.not rfl rfl rfl) ?_
  refine GD.skip rfl (.not rfl rfl rfl) ?_
  refine GD.skip rfl (.not rfl rfl rfl) ?_
  refine GD.skip rfl (.not rfl rfl rfl) ?_
  refine GD.one rfl .no (S1.pickF (v := (.bool _)) rfl rfl) rfl ?_
  refine GD.callP rfl rfl .no fo85 .nil (fun h H => ct85) (.d (.c (v := (.bool _)) rfl (.c (v := (.int _ _)) rfl .n))) (fun _ q26 => ?_) (fun e26 q26 => ?_)
  exact absurd q26 (by decide)
  refine GQ.onP ?_
  refine GQ.pan _ rfl ?_ (by repeat first | exact .nil | exact Take.tz | apply Take.cons (by repeat first | exact .z | apply Rem.s | apply Rem.sA) | apply Take.app (by repeat first | exact Take.tzA | exact Take.tz | apply Take.ts | apply Take.skA) | exact Take.tzA | apply Take.ts | apply Take.skA)
  exact trivial
  refine GQ.onP ?_
  refine GQ.pan _ rfl ?_ (by repeat first | exact .nil | exact Take.tz | apply Take.cons (by repeat first | exact .z | apply Rem.s | apply Rem.sA) | apply Take.app (by repeat first | exact Take.tzA | exact Take.tz | apply Take.ts | apply Take.skA) | exact Take.tzA | apply Take.ts | apply Take.skA)
  exact trivial
  refine GL.skip rfl (.not rfl rfl rfl) ?_
  refine GL.skip rfl (.not rfl rfl rfl) ?_
  refine GL.skip rfl (.not rfl rfl rfl) ?_
  refine GL.skip rfl (.not rfl rfl rfl) ?_
  refine GL.skip rfl (.not rfl rfl rfl) ?_
  refine GL.one rfl .no (S1.pickF (v := (.bool _)) rfl rfl) ?_
  refine GL.callP rfl .no fo85 .nil (fun h H => ct85) (.d (.c (v := (.bool _)) rfl (.c (v := (.int _ _)) rfl .n))) (fun _ q27 => ?_) (fun e27 q27 => ?_)
  exact absurd q27 (by decide)
  refine GQ.onP ?_
  refine GQ.pan _ rfl ?_ (by repeat first | exact .nil | exact Take.tz | apply Take.cons (by repeat first | exact .z | apply Rem.s | apply Rem.sA) | apply Take.app (by repeat first | exact Take.tzA | exact Take.tz | apply Take.ts | apply Take.skA) | exact Take.tzA | apply Take.ts | apply Take.skA)
  exact trivial
  refine GQ.onP ?_
  refine GQ.pan _ rfl ?_ (by repeat first | exact .nil | exact Take.tz | apply Take.cons (by repeat first | exact .z | apply Rem.s | apply Rem.sA) | apply Take.app (by repeat first | exact Take.tzA | exact Take.tz | apply Take.ts | apply Take.skA) | exact Take.tzA | apply Take.ts | apply Take.skA)
  exact trivial
  refine GD.skip rfl (.not rfl rfl rfl) ?_
  refine GD.skip rfl (.not rfl rfl rfl) ?_
  refine GD.skip rfl (.not rfl rfl rfl) ?_
  refine GD.skip rfl (.not rfl rfl rfl) ?_
  refine GD.skip rfl (.not rfl rfl rfl) ?_
  refine GD.skip rfl (.not rfl rfl rfl) ?_
  refine GD.skip rfl (.not rfl rfl rfl) ?_
  refine GD.skip rfl (.not rfl rfl rfl) ?_
  refine GD.skip rfl (.not rfl rfl rfl) ?_
  refine GD.skip rfl (.not rfl rfl rfl) ?_
  refine GD.skip rfl (.not rfl rfl rfl) ?_
  refine GD.skip rfl (.not rfl rfl rfl) ?_
  refine GD.one rfl .no (S1.pickF (v := (.bool _)) rfl rfl) rfl ?_
  refine GD.callP rfl rfl .no fo85 .nil (fun h H => ct85) (.d (.c (v := (.bool _)) rfl (.c (v := (.int _ _)) rfl .n))) (fun _ q28 => ?_) (fun e28 q28 => ?_)
  exact absurd q28 (by decide)
  refine GQ.onP ?_
  refine GQ.pan _ rfl ?_ (by repeat first | exact .nil | exact Take.tz | apply Take.cons (by repeat first | exact .z | apply Rem.s | apply Rem.sA) | apply Take.app (by repeat first | exact Take.tzA | exact Take.tz | apply Take.ts | apply Take.skA) | exact Take.tzA | apply Take.ts | apply Take.skA)
  exact trivial
  all_goals (simp only [outB_ok] at *; omega)
end
end Go.Proofs.YtkpbpfnmgnpfaaaGreat
namespace Go.Proofs.YtkpbpfnmgnpfaaaGreat
open Go Go.E
set_option maxRecDepth 100000

/-- What is known of a lesson's numbers. -/
def LOk (s : Sch) (x0 x1 x2 x3 : Int) : Prop := (0 ≤ x0 ∧ x0 < s.ln) ∧ (0 ≤ x1 ∧ x1 < s.cn) ∧ (0 ≤ x2 ∧ x2 ≤ 4800) ∧ (1 ≤ x3 ∧ x3 ≤ 4)
def LsOk (s : Sch) (ls : List Int) (m : Nat) : Prop := ls.length = m * 5 ∧ ∀ k, k < m → LOk s (ls.getD (k * 5) 0) (ls.getD (k * 5 + 1) 0) (ls.getD (k * 5 + 2) 0) (ls.getD (k * 5 + 3) 0)

theorem getD_setI {l : List Int} {i j : Nat} {v : Int} : (l.set i v).getD j 0 = if i = j ∧ j < l.length then v else l.getD j 0 := by
  simp only [List.getD_eq_getElem?_getD, List.getElem?_set]
  by_cases h : i = j
  · subst h
    by_cases h2 : i < l.length
    · simp [h2]
    · simp [h2]
  · simp [h]

theorem LsOk.nil {s : Sch} : LsOk s [] 0 := ⟨rfl, fun k h => by omega⟩
theorem LsOk.set4 {s : Sch} {ls : List Int} {m k : Nat} {v : Int} (h : LsOk s ls m) : LsOk s (ls.set (k * 5 + 4) v) m := by
  refine ⟨by rw [List.length_set]; exact h.1, fun j hj => ?_⟩
  have := h.2 j hj
  simp only [getD_setI]
  rw [if_neg (by omega), if_neg (by omega), if_neg (by omega), if_neg (by omega)]
  exact this
theorem LsOk.put5 {s : Sch} {ls : List Int} {m k : Nat} {x0 x1 x2 x3 x4 : Int} (h : LsOk s ls m) (hx : LOk s x0 x1 x2 x3) : LsOk s (Go.E.put5 ls (k * 5) x0 x1 x2 x3 x4) m := by
  refine ⟨by rw [put5_len]; exact h.1, fun j hj => ?_⟩
  have h1 := h.2 j hj
  have h0 := h.1
  simp only [Go.E.put5, getD_setI, List.length_set]
  by_cases e : k = j
  · subst e
    simp only [show ¬ (k * 5 + 4 = k * 5) by omega, show ¬ (k * 5 + 3 = k * 5) by omega, show ¬ (k * 5 + 2 = k * 5) by omega, show ¬ (k * 5 + 1 = k * 5) by omega, show ¬ (k * 5 + 4 = k * 5 + 1) by omega, show ¬ (k * 5 + 3 = k * 5 + 1) by omega, show ¬ (k * 5 + 2 = k * 5 + 1) by omega, show ¬ (k * 5 + 4 = k * 5 + 2) by omega, show ¬ (k * 5 + 3 = k * 5 + 2) by omega, show ¬ (k * 5 + 4 = k * 5 + 3) by omega,
      show k * 5 < ls.length by omega, show k * 5 + 1 < ls.length by omega, show k * 5 + 2 < ls.length by omega, show k * 5 + 3 < ls.length by omega, and_self, and_true, if_true, if_false, false_and]
    exact hx
  · repeat rw [if_neg (by omega)]
    exact h1
theorem LsOk.app {s : Sch} {ls : List Int} {m : Nat} {x0 x1 x2 x3 x4 : Int} (h : LsOk s ls m) (hx : LOk s x0 x1 x2 x3) : LsOk s (ls ++ [x0, x1, x2, x3, x4]) (m + 1) := by
  refine ⟨by rw [List.length_append, h.1]; simp only [List.length_cons, List.length_nil]; omega, fun j hj => ?_⟩
  have h0 := h.1
  by_cases e : j < m
  · have := h.2 j e
    simp only [List.getD_eq_getElem?_getD] at this ⊢
    rw [List.getElem?_append_left (by omega), List.getElem?_append_left (by omega), List.getElem?_append_left (by omega), List.getElem?_append_left (by omega)]
    exact this
  · have : j = m := by omega
    subst this
    simp only [List.getD_eq_getElem?_getD]
    rw [List.getElem?_append_right (by omega), List.getElem?_append_right (by omega), List.getElem?_append_right (by omega), List.getElem?_append_right (by omega), h0]
    rw [show j * 5 - j * 5 = 0 by omega, show j * 5 + 1 - j * 5 = 1 by omega, show j * 5 + 2 - j * 5 = 2 by omega, show j * 5 + 3 - j * 5 = 3 by omega]
    exact hx

section
variable {h : EH} {hr : RO} {b lr m mb cl i : Nat} {s : Sch} {lv kv sv av pv : Value} {tm ev : Int} {ls : List Int} {es : List MapEntry}

theorem ct115 (hc : Cell hr (.sl ly74) (.slice s.ca s.cn s.cc)) (hm : m ≤ 1073741824) (him : IM es) (hls : LsOk s ls m) (hi : i < m) (H : Hp hr h [b, mb, lr] [(b, .cells (bkC s (rowS lr m) kv sv av pv mb tm ev) none true), (mb, .map es cl), (lr, opRow (ints ls) 5)] h) :
    Ct Tryz.prog 115 ⟨[.pointer (some ⟨b, 0, none⟩), .int .i64 (i : Int)]⟩ h [b, mb, lr] (fun _ : List Int => .tuple #[]) (fun ls' => LsOk s ls' m) (fun ls' => [(b, .cells (bkC s (rowS lr m) kv sv av pv mb tm ev) none true), (mb, .map es cl), (lr, opRow (ints ls') 5)]) := by
  have hlen := hls.1
  have ho := hls.2 i hi
  rw [← Nat.zero_add (i * 5)] at ho
  obtain ⟨hx0, hx1, hx2, hx3⟩ := ho
  refine Ct.go Tryz.func115 rfl rfl co115 H ?_
  refine GW.toSeq rfl ?_
  refine GW.toReg rfl ?_
  refine GL.one rfl .no (S1.mv (v := (.pointer _)) rfl) ?_
  refine GL.one rfl .no (S1.nc rfl) ?_
  refine GL.one rfl .no (S1.fa fa85_1 rfl) ?_
  refine GL.one rfl .no (S1.fa fa49_0 rfl) ?_
  refine GL.one rfl .no (S1.ld sc47 rfl (.at .z) rfl) ?_
  refine GL.one rfl .no (S1.mv (v := (.int _ _)) rfl) ?_
  refine GL.one rfl .no (S1.ixN el47 rfl rfl (by omega)) ?_
  refine GL.one rfl .no (S1.ldP5 ag102 rfl (.at (.s (.s .z))) (by omega)) ?_
  refine GL.opN rfl .no (SN.al zc102) (fun a1 => ?_)
  refine GL.one rfl .no (S1.stA ag102 rfl rfl rfl rfl (by repeat constructor) .z) ?_
  refine GL.done rfl ?_
  refine GQ.on ?_
  refine GW.toSeq rfl ?_
  refine GW.toSeq rfl ?_
  refine GW.toReg rfl ?_
  refine GL.one rfl .no (S1.fa fa102_2 rfl) ?_
  refine GL.one rfl .no (S1.ld sc3 rfl (.at .z) rfl) ?_
  refine GL.one rfl .no (S1.addI rfl rfl (by omega) (by omega)) ?_
  refine GL.one rfl .no (S1.fa fa102_2 rfl) ?_
  refine GL.one rfl .no (S1.st (u := (.int _ _)) sc3 rfl rfl rfl (by repeat constructor) .z) ?_
  refine GL.done rfl ?_
  refine GQ.on ?_
  refine GW.toBlock rfl ?_
  refine GW.toLoop (fun st : Int => [(0, .pointer (some ⟨b, 0, none⟩)), (1, .int .i64 i), (4, .pointer (some ⟨a1, 0, none⟩))])
    (fun st => [(a1, .cells (L5 (ls.getD (0 + i * 5) 0) (ls.getD (0 + i * 5 + 1) 0) st (ls.getD (0 + i * 5 + 3) 0) (ls.getD (0 + i * 5 + 4) 0)) none true), (b, .cells (bkC s (rowS lr m) kv sv av pv mb tm ev) none true), (mb, .map es cl), (lr, opRow (ints ls) 5)]) (fun st => 0 ≤ st ∧ st ≤ 4824) (fun st => (4824 - st).toNat) rfl (ls.getD (0 + i * 5 + 2) 0 + 24) ⟨by omega, by omega⟩ (.c rfl (.c rfl (.c rfl .n))) (by repeat first | exact .nil | exact Take.tz | apply Take.cons (by repeat first | exact .z | apply Rem.s | apply Rem.sA) | apply Take.app (by repeat first | exact Take.tzA | exact Take.tz | apply Take.ts | apply Take.skA) | exact Take.tzA | apply Take.ts | apply Take.skA) ?_
  rintro st f ⟨hs1, hs2⟩
  refine GW.toSeq rfl ?_
  refine GW.toSeq rfl ?_
  refine GW.toReg rfl ?_
  refine GL.one rfl .no (S1.fa fa102_2 rfl) ?_
  refine GL.one rfl .no (S1.ld sc3 rfl (.at .z) rfl) ?_
  refine GL.one rfl .no (S1.fa fa102_3 rfl) ?_
  refine GL.one rfl .no (S1.ld sc3 rfl (.at .z) rfl) ?_
  refine GL.one rfl .no (S1.addI rfl rfl (by omega) (by omega)) ?_
  refine GL.one rfl .no (S1.leq rfl rfl) ?_
  refine GL.done rfl ?_
  refine GQ.on ?_
  refine GW.toD rfl rfl (fun w2 => ?_) (fun w2 => ?_)
  refine GW.toSkip rfl ?_
  refine GQ.on ?_
  refine GW.toSeq rfl ?_
  refine GW.toBlock rfl ?_
  refine GW.toSeq rfl ?_
  refine GW.toReg rfl ?_
  refine GL.one rfl .no (S1.mv (v := (.pointer _)) rfl) ?_
  refine GL.one rfl .no (S1.fa fa102_1 rfl) ?_
  refine GL.one rfl .no (S1.ld sc3 rfl (.at .z) rfl) ?_
  refine GL.one rfl .no (S1.fa fa102_2 rfl) ?_
  refine GL.one rfl .no (S1.ld sc3 rfl (.at .z) rfl) ?_
  refine GL.call rfl .no fo86 .nil (fun h H => ct86i H.rom hc hx1 him (H.get (by repeat first | exact .z | apply At.s | apply At.sA)) (H.get (by repeat first | exact .z | apply At.s | apply At.sA))) (.d (.c (v := (.pointer _)) rfl (.c (v := (.int _ _)) rfl (.c (v := (.int _ _)) rfl .n)))) (fun r3 _ => ?_)
  refine GL.one rfl .no (S1.mv (v := (.bool _)) rfl) ?_
  refine GL.split 33 rfl (fun w4 => ?_) (fun w4 => ?_)
  refine GL.one rfl (.yes rfl rfl rfl) (S1.mv (v := (.pointer _)) rfl) ?_
  refine GL.one rfl (.yes rfl rfl rfl) (S1.ldW ag102 rfl (.at .z) rfl) ?_
  refine GL.one rfl (.yes rfl rfl rfl) (S1.mv (v := (.int _ _)) rfl) ?_
  refine GL.call rfl (.yes rfl rfl rfl) fo87 (show Take _ [(b, _), (lr, _)] _ from (by repeat first | exact .nil | exact Take.tz | apply Take.cons (by repeat first | exact .z | apply Rem.s | apply Rem.sA) | apply Take.app (by repeat first | exact Take.tzA | exact Take.tz | apply Take.ts | apply Take.skA) | exact Take.tzA | apply Take.ts | apply Take.skA)) (fun h H => ct87 hm hls.1 (H.give (show Take _ [(b, _), (lr, _)] _ from (by repeat first | exact .nil | exact Take.tz | apply Take.cons (by repeat first | exact .z | apply Rem.s | apply Rem.sA) | apply Take.app (by repeat first | exact Take.tzA | exact Take.tz | apply Take.ts | apply Take.skA) | exact Take.tzA | apply Take.ts | apply Take.skA)))) (.d (.c (v := (.pointer _)) rfl (.c (v := (.agg _)) rfl (.c (v := (.int _ _)) rfl .n)))) (fun r5 _ => ?_)
  refine GL.one rfl .no (S1.pickT (v := (.bool _)) rfl rfl) ?_
  refine GL.done rfl ?_
  refine GQ.on ?_
  refine GW.toC rfl rfl (fun w6 => ?_) (fun w6 => ?_)
  refine GW.toSeq rfl ?_
  refine GW.toDrw mx rfl ?_
  refine GD.one rfl .no (S1.mv (v := (.pointer _)) rfl) rfl ?_
  refine GD.one rfl .no (S1.nc rfl) rfl ?_
  refine GD.one rfl .no (S1.fa fa85_1 rfl) rfl ?_
  refine GD.one rfl .no (S1.fa fa49_0 rfl) rfl ?_
  refine GD.one rfl .no (S1.ld sc47 rfl (.at .z) rfl) rfl ?_
  refine GD.one rfl .no (S1.mv (v := (.int _ _)) rfl) rfl ?_
  refine GD.one rfl .no (S1.ldW ag102 rfl (.at (.s (.s .z))) rfl) rfl ?_
  refine GD.one rfl .no (S1.ixN el47 rfl rfl (by omega)) rfl ?_
  refine GD.loud rfl .no (S1.stP5 ag102 rfl rfl (by omega) (.s .z)) rfl rfl (by kernel_rfl) ?_
  refine GD.done rfl ?_
  refine GQ.on ?_
  refine GW.toRet rfl ?_
  refine GQ.outR ?_
  refine GQ.onR ?_
  refine GQ.onR ?_
  refine GQ.outR ?_
  refine GQ.onR ?_
  refine GQ.ret (_) .nil .z rfl ?_ (by repeat first | exact .nil | exact Take.tz | apply Take.cons (by repeat first | exact .z | apply Rem.s | apply Rem.sA) | apply Take.app (by repeat first | exact Take.tzA | exact Take.tz | apply Take.ts | apply Take.skA) | exact Take.tzA | apply Take.ts | apply Take.skA)
  rotate_left
  refine GW.toSkip rfl ?_
  refine GQ.outN ?_
  refine GQ.on ?_
  refine GW.toReg rfl ?_
  refine GL.one rfl .no (S1.fa fa102_2 rfl) ?_
  refine GL.one rfl .no (S1.ld sc3 rfl (.at (.s (.s .z))) rfl) ?_
  refine GL.one rfl .no (S1.addI rfl rfl (by omega) (by omega)) ?_
  refine GL.one rfl .no (S1.fa fa102_2 rfl) ?_
  refine GL.one rfl .no (S1.st (u := (.int _ _)) sc3 rfl rfl rfl (by repeat constructor) (.s (.s .z))) ?_
  refine GL.done rfl ?_
  refine GQ.next (st + 24) ⟨by omega, by omega⟩ (by omega) (.c rfl (.c rfl (.c rfl .n))) (by repeat first | exact .nil | exact Take.tz | apply Take.cons (by repeat first | exact .z | apply Rem.s | apply Rem.sA) | apply Take.app (by repeat first | exact Take.tzA | exact Take.tz | apply Take.ts | apply Take.skA) | exact Take.tzA | apply Take.ts | apply Take.skA)
  refine GL.skip rfl (.not rfl rfl rfl) ?_
  refine GL.skip rfl (.not rfl rfl rfl) ?_
  refine GL.skip rfl (.not rfl rfl rfl) ?_
  refine GL.skip rfl (.not rfl rfl rfl) ?_
  refine GL.one rfl .no (S1.pickF (v := (.bool _)) rfl rfl) ?_
  refine GL.done rfl ?_
  refine GQ.on ?_
  refine GW.toF rfl rfl ?_
  refine GW.toSkip rfl ?_
  refine GQ.outN ?_
  refine GQ.on ?_
  refine GW.toReg rfl ?_
  refine GL.one rfl .no (S1.fa fa102_2 rfl) ?_
  refine GL.one rfl .no (S1.ld sc3 rfl (.at .z) rfl) ?_
  refine GL.one rfl .no (S1.addI rfl rfl (by omega) (by omega)) ?_
  refine GL.one rfl .no (S1.fa fa102_2 rfl) ?_
  refine GL.one rfl .no (S1.st (u := (.int _ _)) sc3 rfl rfl rfl (by repeat constructor) .z) ?_
  refine GL.done rfl ?_
  refine GQ.next (st + 24) ⟨by omega, by omega⟩ (by omega) (.c rfl (.c rfl (.c rfl .n))) (by repeat first | exact .nil | exact Take.tz | apply Take.cons (by repeat first | exact .z | apply Rem.s | apply Rem.sA) | apply Take.app (by repeat first | exact Take.tzA | exact Take.tz | apply Take.ts | apply Take.skA) | exact Take.tzA | apply Take.ts | apply Take.skA)
  refine GW.toExit rfl ?_
  refine GQ.onE ?_
  refine GQ.onE ?_
  refine GQ.outH ?_
  refine GQ.on ?_
  refine GW.toReg rfl ?_
  refine GL.one rfl .no (S1.mv (v := (.pointer _)) rfl) ?_
  refine GL.one rfl .no (S1.nc rfl) ?_
  refine GL.one rfl .no (S1.fa fa85_1 rfl) ?_
  refine GL.one rfl .no (S1.fa fa49_0 rfl) ?_
  refine GL.one rfl .no (S1.ld sc47 rfl (.at (.s .z)) rfl) ?_
  refine GL.one rfl .no (S1.mv (v := (.int _ _)) rfl) ?_
  refine GL.one rfl .no (S1.ixN el47 rfl rfl (by omega)) ?_
  refine GL.one rfl .no (S1.fa fa102_4 rfl) ?_
  refine GL.one rfl .no (S1.stI sc3 rfl rfl (by omega) (.s (.s (.s .z)))) ?_
  refine GL.done rfl ?_
  refine GQ.retN (_) .nil .z rfl ?_ (by repeat first | exact .nil | exact Take.tz | apply Take.cons (by repeat first | exact .z | apply Rem.s | apply Rem.sA) | apply Take.app (by repeat first | exact Take.tzA | exact Take.tz | apply Take.ts | apply Take.skA) | exact Take.tzA | apply Take.ts | apply Take.skA)
  rotate_left
  all_goals (simp only [Nat.zero_add] at *; first | exact hls.set4 | exact hls.put5 ⟨hx0, hx1, by omega, hx3⟩)
end
end Go.Proofs.YtkpbpfnmgnpfaaaGreat
namespace Go.Proofs.YtkpbpfnmgnpfaaaGreat
open Go Go.E
set_option maxRecDepth 100000

/-- The books' state. -/
structure BkS where
  (mb sr ar cl m p : Nat) (tm ev : Int) (lv kv pv : Value) (lE kE pE : Ents) (ls kl ps si ac : List Int) (es : List MapEntry)
abbrev MB (b : Nat) (s : Sch) (y : BkS) : Ents :=
  (b, .cells (bkC s y.lv y.kv (.slice (some ⟨y.sr, 0, none⟩) s.cn s.cn) (.slice (some ⟨y.ar, 0, none⟩) (s.ln + 4) (s.ln + 4)) y.pv y.mb y.tm y.ev) none true) :: (y.mb, .map y.es y.cl) :: (y.sr, .cells (ints y.si) none true) :: (y.ar, .cells (ints y.ac) none true) :: (y.lE ++ (y.kE ++ y.pE))
structure BkI (s : Sch) (y : BkS) : Prop where
  n1 : NR 5 y.lv y.lE y.m y.ls
  n2 : NR 1 y.kv y.kE s.cn y.kl
  n3 : NR 4 y.pv y.pE y.p y.ps
  lo : LsOk s y.ls y.m
  si : y.si.length = s.cn
  ac : y.ac.length = s.ln + 4
  im : IM y.es

/-- An event's numbers. -/
abbrev EvC (e0 e1 e2 e3 e4 e5 e6 e7 e8 e9 e10 : Int) : List Value := [.int .i64 e0, .int .i64 e1, .int .i64 e2, .int .i64 e3, .int .i64 e4, .int .i64 e5, .int .i64 e6, .int .i64 e7, .int .i64 e8, .int .i64 e9, .int .i64 e10]

/-- A METHOD of the books that takes an event. -/
def BkH (hr : RO) (g : FuncId) (s : Sch) : Prop :=
  ∀ (h : EH) (b : Nat) (y : BkS) (e0 e1 e2 e3 e4 e5 e6 e7 e8 e9 e10 : Int), BkI s y → y.m < 1073741824 → y.p + 2 ≤ 1073741824 → Hp hr h ((MB b s y).map (·.1)) (MB b s y) h →
    Cp Tryz.prog g ⟨[.pointer (some ⟨b, 0, none⟩), .agg ⟨EvC e0 e1 e2 e3 e4 e5 e6 e7 e8 e9 e10⟩]⟩ h ((MB b s y).map (·.1)) (fun _ : BkS => .tuple #[]) (fun z => BkI s z ∧ z.m ≤ y.m + 1 ∧ z.p ≤ y.p + 2) (fun z => MB b s z)
      (fun w : Int × BkS => .iface 38 (.int .i64 w.1)) (fun w => BkI s w.2 ∧ w.2.m ≤ y.m + 1 ∧ w.2.p ≤ y.p + 2) (fun w => MB b s w.2)

section
variable {hr : RO} {s : Sch}
theorem ct104 (hc : Cell hr (.sl ly74) (.slice s.ca s.cn s.cc)) (hln : s.ln ≤ 1073741824) : BkH hr 104 s := by
  intro h b y e0 e1 e2 e3 e4 e5 e6 e7 e8 e9 e10 hI hm hp H
  obtain ⟨mb, sr, ar, cl, m, p, tm, ev, lv, kv, pv, lE, kE, pE, ls, kl, ps, si, ac, es⟩ := y
  obtain ⟨n1, n2, n3, lo, hsi, hac, him⟩ := hI
  simp only at hm hp n1 n2 n3 lo hsi hac him
  refine Cp.go Tryz.func104 rfl rfl co104 H ?_
  refine GW.toSeq rfl ?_
  refine GW.toReg rfl ?_
  refine GL.opN rfl .no (SN.bx (u := .agg ⟨_⟩) rfl .agg) (fun a1 => ?_)
  refine GL.done rfl ?_
  refine GQ.on ?_
  refine GW.toSeq rfl ?_
  refine GW.toReg rfl ?_
  refine GL.one rfl .no (S1.fa fa117_2 rfl) ?_
  refine GL.one rfl .no (S1.ld sc3 rfl (.at .z) rfl) ?_
  refine GL.one rfl .no (S1.fa fa117_3 rfl) ?_
  refine GL.one rfl .no (S1.ld sc3 rfl (.at .z) rfl) ?_
  refine GL.one rfl .no (S1.fa fa117_5 rfl) ?_
  refine GL.one rfl .no (S1.ld sc3 rfl (.at .z) rfl) ?_
  refine GL.one rfl .no (S1.fa fa117_6 rfl) ?_
  refine GL.one rfl .no (S1.ld sc3 rfl (.at .z) rfl) ?_
  refine GL.one rfl .no (S1.bu zc102 bo102 (.c (v := (.int _ _)) rfl (.one rfl) fz102_0 rfl (by repeat constructor) (.c (v := (.int _ _)) rfl (.one rfl) fz102_1 rfl (by repeat constructor) (.c (v := (.int _ _)) rfl (.one rfl) fz102_2 rfl (by repeat constructor) (.c (v := (.int _ _)) rfl (.one rfl) fz102_3 rfl (by repeat constructor) .n))))) ?_
  refine GL.opN rfl .no (SN.al zc102) (fun a2 => ?_)
  refine GL.one rfl .no (S1.stA ag102 rfl rfl rfl rfl (by repeat constructor) .z) ?_
  refine GL.done rfl ?_
  refine GQ.on ?_
  refine GW.toSeq rfl ?_
  refine GW.toReg rfl ?_
  refine GL.one rfl .no (S1.mv (v := (.pointer _)) rfl) ?_
  refine GL.one rfl .no (S1.ldW ag102 rfl (.at .z) rfl) ?_
  refine GL.one rfl .no (S1.fa fa117_1 rfl) ?_
  refine GL.one rfl .no (S1.ld sc3 rfl (.at (.s .z)) rfl) ?_
  refine GL.callP rfl .no fo51 (show Take _ ((b, _) :: (mb, _) :: lE) _ from (by repeat first | exact .nil | exact Take.tz | apply Take.cons (by repeat first | exact .z | apply Rem.s | apply Rem.sA) | apply Take.app (by repeat first | exact .nil | exact Take.tzA | exact Take.tz | apply Take.ts | apply Take.skA) | exact Take.tzA | apply Take.ts | apply Take.skA)) (fun h H => ct51 hc hln (by omega) him n1 (H.give (show Take _ ((b, _) :: (mb, _) :: lE) _ from (by repeat first | exact .nil | exact Take.tz | apply Take.cons (by repeat first | exact .z | apply Rem.s | apply Rem.sA) | apply Take.app (by repeat first | exact .nil | exact Take.tzA | exact Take.tz | apply Take.ts | apply Take.skA) | exact Take.tzA | apply Take.ts | apply Take.skA)))) (.d (.c (v := (.pointer _)) rfl (.c (v := (.agg _)) rfl (.c (v := (.int _ _)) rfl .n)))) (fun _ q3 => ?_) (fun e3 _ => ?_)
  refine GL.done rfl ?_
  refine GQ.on ?_
  refine GW.toDrw mx rfl ?_
  refine GD.one rfl .no (S1.mv (v := (.pointer _)) rfl) rfl ?_
  refine GD.one rfl .no (S1.mv (v := (.pointer _)) rfl) rfl ?_
  refine GD.one rfl .no (S1.nc rfl) rfl ?_
  refine GD.one rfl .no (S1.fa fa85_1 rfl) rfl ?_
  refine GD.one rfl .no (S1.fa fa49_0 rfl) rfl ?_
  refine GD.one rfl .no (S1.ld sc47 rfl (.at .z) rfl) rfl ?_
  refine GD.one rfl .no (S1.ldW ag102 rfl (.at (.s (.s (.sA .z)))) rfl) rfl ?_
  refine GD.opN rfl .no (SN.bs1 el47 ez47 rfl rfl rfl) rfl (fun a5 => ?_)
  rotate_left
  refine GQ.onP ?_
  refine GQ.pan (_, ⟨mb, sr, ar, cl, m, p, tm, ev, lv, kv, pv, lE, kE, pE, ls, kl, ps, si, ac, es⟩) rfl ⟨⟨n1, n2, n3, lo, hsi, hac, him⟩, Nat.le_succ _, Nat.le_add_right _ _⟩ (by repeat first | exact .nil | exact Take.tz | apply Take.cons (by repeat first | exact .z | apply Rem.s | apply Rem.sA) | apply Take.app (by repeat first | exact .nil | exact Take.tzA | exact Take.tz | apply Take.ts | apply Take.skA) | exact Take.tzA | apply Take.ts | apply Take.skA)
  cases n1 with
  | nil =>
    refine GD.loudN rfl .no (SN.ap0 ap47_47 rfl (.row rfl (.at .z) rfl) (by omega) (by omega)) rfl rfl (by kernel_rfl) (fun a7 => ?_)
    refine GD.one rfl .no (S1.nc rfl) rfl ?_
    refine GD.one rfl .no (S1.fa fa85_1 rfl) rfl ?_
    refine GD.one rfl .no (S1.fa fa49_0 rfl) rfl ?_
    refine GD.loud rfl .no (S1.st (u := (.slice _ _ _)) sc47 rfl rfl rfl (by repeat constructor) (.s (.s .z))) rfl rfl (by kernel_rfl) ?_
    refine GD.done rfl ?_
    refine GQ.retN ⟨mb, sr, ar, cl, 1, p, tm, ev, rowS a7 1, kv, pv, [(a7, opRow (ints [e2, e3, e5, e6, 0]) 5)], kE, pE, [e2, e3, e5, e6, 0], kl, ps, si, ac, es⟩ .nil .z rfl ⟨⟨.row (by omega) rfl, n2, n3, LsOk.app .nil q3, hsi, hac, him⟩, Nat.le_refl _, Nat.le_add_right _ _⟩ (by repeat first | exact .nil | exact Take.tz | apply Take.cons (by repeat first | exact .z | apply Rem.s | apply Rem.sA) | apply Take.app (by repeat first | exact .nil | exact Take.tzA | exact Take.tz | apply Take.ts | apply Take.skA) | exact Take.tzA | apply Take.ts | apply Take.skA)
  | @row r m l h1 h2 =>
    refine GD.loudN rfl .no (SN.apO ap47_47 rfl (.row rfl (.at .z) rfl) (by omega) (by omega) rfl (.s (.s (.s .z))) (by first | rfl | omega | (rw [ints_len]; omega) | (rw [strs_len]; omega))) rfl rfl (by kernel_rfl) (fun a8 => ?_)
    refine GD.one rfl .no (S1.nc rfl) rfl ?_
    refine GD.one rfl .no (S1.fa fa85_1 rfl) rfl ?_
    refine GD.one rfl .no (S1.fa fa49_0 rfl) rfl ?_
    refine GD.loud rfl .no (S1.st (u := (.slice _ _ _)) sc47 rfl rfl rfl (by repeat constructor) (.s (.s .z))) rfl rfl (by kernel_rfl) ?_
    refine GD.done rfl ?_
    refine GQ.retN ⟨mb, sr, ar, cl, m + 1, p, tm, ev, rowS _ (m + 1), kv, pv, [(_, opRow (ints ls ++ [.int .i64 e2, .int .i64 e3, .int .i64 e5, .int .i64 e6, .int .i64 0]) 5)], kE, pE, ls ++ [e2, e3, e5, e6, 0], kl, ps, si, ac, es⟩ .nil .z rfl ⟨⟨.rowA rfl (by omega) (by rw [h2]; simp only [List.length_cons, List.length_nil]; omega), n2, n3, LsOk.app lo q3, hsi, hac, him⟩, Nat.le_refl _, Nat.le_add_right _ _⟩ (by repeat first | exact .nil | exact Take.tz | apply Take.cons (by repeat first | exact .z | apply Rem.s | apply Rem.sA) | apply Take.app (by repeat first | exact .nil | exact Take.tzA | exact Take.tz | apply Take.ts | apply Take.skA) | exact Take.tzA | apply Take.ts | apply Take.skA)
end
end Go.Proofs.YtkpbpfnmgnpfaaaGreat
namespace Go.Proofs.YtkpbpfnmgnpfaaaGreat
open Go Go.E
set_option maxRecDepth 100000

section
variable {h : EH} {hr : RO} {s : Sch} {b mb ar A lr m : Nat} {lv kv sv av pv : Value} {pE : Ents} {tm ev x i j st : Int} {acc l ls : List Int}

theorem ct113i (n : NR 4 pv pE m l) (hm : m < 1073741824) (hA : acc.length = A) (hi : 0 ≤ i ∧ i < A) (hj : 0 ≤ j ∧ j < A)
    (H : Hp hr h (b :: ar :: pE.map (·.1)) ((b, .cells (bkC s lv kv sv (.slice (some ⟨ar, 0, none⟩) A A) pv mb tm ev) none true) :: (ar, .cells (ints acc) none true) :: pE) h) :
    Ct Tryz.prog 113 ⟨[.pointer (some ⟨b, 0, none⟩), .int .i64 i, .int .i64 j, .int .i64 x]⟩ h (b :: ar :: pE.map (·.1)) (fun _ : Value × Ents × Nat × List Int × List Int => .tuple #[])
      (fun y => NR 4 y.1 y.2.1 y.2.2.1 y.2.2.2.1 ∧ y.2.2.2.2.length = A ∧ y.2.2.1 ≤ m + 1)
      (fun y => (b, .cells (bkC s lv kv sv (.slice (some ⟨ar, 0, none⟩) A A) y.1 mb tm ev) none true) :: (ar, .cells (ints y.2.2.2.2) none true) :: y.2.1) := by
  obtain ⟨i', rfl⟩ : ∃ k : Nat, i = k := ⟨i.toNat, by omega⟩
  obtain ⟨j', rfl⟩ : ∃ k : Nat, j = k := ⟨j.toNat, by omega⟩
  exact ct113 n hm hA (by omega) (by omega) H

theorem ct112i (hm : m ≤ 1073741824) (lo : LsOk s ls m) (hb : h[b]? = some (.cells (bkC s (rowS lr m) kv sv av pv mb tm ev) none true)) (hr : h[lr]? = some (opRow (ints ls) 5)) :
    Cp Tryz.prog 112 ⟨[.pointer (some ⟨b, 0, none⟩), .int .i64 i, .int .i64 st]⟩ h [] (fun k : Nat => .pointer (some ⟨lr, 0 + k * 5, none⟩)) (fun k => k < m ∧ (0 ≤ ls.getD (0 + k * 5) 0 ∧ ls.getD (0 + k * 5) 0 < s.ln) ∧ (0 ≤ ls.getD (0 + k * 5 + 1) 0 ∧ ls.getD (0 + k * 5 + 1) 0 < s.cn) ∧ (0 ≤ ls.getD (0 + k * 5 + 2) 0 ∧ ls.getD (0 + k * 5 + 2) 0 ≤ 4800) ∧ (1 ≤ ls.getD (0 + k * 5 + 3) 0 ∧ ls.getD (0 + k * 5 + 3) 0 ≤ 4)) (fun _ => []) (fun e : Int => .iface 38 (.int .i64 e)) (fun _ => True) (fun _ => []) := by
  refine WF.mono (ct112 hm lo.1 hb hr) fun o h' q => ?_
  cases o with
  | ret v =>
    obtain ⟨k, rfl, ⟨h1, h2⟩, hP⟩ := q
    refine ⟨k, rfl, ⟨h1, ?_⟩, hP⟩
    rw [Nat.zero_add]
    exact lo.2 k h1
  | pan v => exact q

theorem ct112n (hb : h[b]? = some (.cells (bkC s nilS kv sv av pv mb tm ev) none true)) :
    Cp Tryz.prog 112 ⟨[.pointer (some ⟨b, 0, none⟩), .int .i64 i, .int .i64 st]⟩ h [] (fun _ : Nat => .pointer none) (fun _ => False) (fun _ => []) (fun e : Int => .iface 38 (.int .i64 e)) (fun _ => True) (fun _ => []) := by
  refine Cp.go Tryz.func112 rfl rfl co112 (Hp.start (hr := fun _ => none) (by simp)) ?_
  refine GW.toSeq rfl ?_
  refine GW.toReg rfl ?_
  refine GL.one rfl .no (S1.as (v := (.pointer _)) rfl) ?_
  refine GL.done rfl ?_
  refine GQ.on ?_
  refine GW.toSeq rfl ?_
  refine GW.toReg rfl ?_
  refine GL.one rfl .no (S1.mv (v := (.pointer _)) rfl) ?_
  refine GL.one rfl .no (S1.nc rfl) ?_
  refine GL.one rfl .no (S1.fa fa85_1 rfl) ?_
  refine GL.one rfl .no (S1.fa fa49_0 rfl) ?_
  refine GL.one rfl .no (S1.ld sc47 rfl (.old0 hb) rfl) ?_
  refine GL.one rfl .no (S1.len el47 rfl) ?_
  refine GL.one rfl .no (S1.subI rfl rfl (by omega) (by omega)) ?_
  refine GL.one rfl .no (S1.mv (v := (.int _ _)) rfl) ?_
  refine GL.opN rfl .no (SN.bs el32 ez32 (.c (v := (.int _ _)) rfl rfl .n) rfl rfl) (fun a1 => ?_)
  refine GL.call rfl .no fo31 .nil (fun h H => ct31_1 (H.get (by repeat first | exact .z | apply At.s | apply At.sA))) (.d (.c (v := (.int _ _)) rfl (.c (v := (.int _ _)) rfl (.c (v := (.slice _ _ _)) rfl .n)))) (fun _ _ => ?_)
  refine GL.one rfl .no (S1.not rfl) ?_
  refine GL.one rfl .no (S1.mv (v := (.bool _)) rfl) ?_
  refine GL.split 18 rfl (fun w4 => ?_) (fun w4 => ?_)
  refine GL.one rfl (.yes rfl rfl rfl) (S1.mv (v := (.pointer _)) rfl) ?_
  refine GL.one rfl (.yes rfl rfl rfl) (S1.nc rfl) ?_
  refine GL.one rfl (.yes rfl rfl rfl) (S1.fa fa85_1 rfl) ?_
  refine GL.one rfl (.yes rfl rfl rfl) (S1.fa fa49_0 rfl) ?_
  refine GL.one rfl (.yes rfl rfl rfl) (S1.ld sc47 rfl (.old0 hb) rfl) ?_
  refine GL.one rfl (.yes rfl rfl rfl) (S1.mv (v := (.int _ _)) rfl) ?_
  (exfalso; simp only [outB_ok] at *; omega)
  refine GL.skip rfl (.not rfl rfl rfl) ?_
  refine GL.skip rfl (.not rfl rfl rfl) ?_
  refine GL.skip rfl (.not rfl rfl rfl) ?_
  refine GL.skip rfl (.not rfl rfl rfl) ?_
  refine GL.skip rfl (.not rfl rfl rfl) ?_
  refine GL.skip rfl (.not rfl rfl rfl) ?_
  refine GL.skip rfl (.not rfl rfl rfl) ?_
  refine GL.skip rfl (.not rfl rfl rfl) ?_
  refine GL.skip rfl (.not rfl rfl rfl) ?_
  refine GL.skip rfl (.not rfl rfl rfl) ?_
  refine GL.skip rfl (.not rfl rfl rfl) ?_
  refine GL.one rfl .no (S1.pickF (v := (.bool _)) rfl rfl) ?_
  refine GL.callP rfl .no fo85 .nil (fun h H => ct85) (.d (.c (v := (.bool _)) rfl (.c (v := (.int _ _)) rfl .n))) (fun _ q5 => ?_) (fun e5 q5 => ?_)
  exact absurd q5 (by decide)
  refine GQ.onP ?_
  refine GQ.pan _ rfl ?_ .nil
  exact trivial
end

section
variable {hr : RO} {s : Sch}

theorem ct110 (hln : s.ln ≤ 1073741824) : BkH hr 110 s := by
  intro h b y e0 e1 e2 e3 e4 e5 e6 e7 e8 e9 e10 hI hm hp H
  obtain ⟨mb, sr, ar, cl, m, p, tm, ev, lv, kv, pv, lE, kE, pE, ls, kl, ps, si, ac, es⟩ := y
  obtain ⟨n1, n2, n3, lo, hsi, hac, him⟩ := hI
  simp only at hm hp n1 n2 n3 lo hsi hac him
  refine Cp.go Tryz.func110 rfl rfl co110 H ?_
  refine GW.toSeq rfl ?_
  refine GW.toReg rfl ?_
  refine GL.opN rfl .no (SN.bx (u := .agg ⟨_⟩) rfl .agg) (fun a1 => ?_)
  refine GL.done rfl ?_
  refine GQ.on ?_
  refine GW.toSeq rfl ?_
  refine GW.toDrw mx rfl ?_
  refine GD.one rfl .no (S1.mv (v := (.pointer _)) rfl) rfl ?_
  refine GD.one rfl .no (S1.nc rfl) rfl ?_
  refine GD.one rfl .no (S1.fa fa85_0 rfl) rfl ?_
  refine GD.one rfl .no (S1.fa fa28_0 rfl) rfl ?_
  refine GD.one rfl .no (S1.ld sc22 rfl (.at (.s .z)) rfl) rfl ?_
  refine GD.one rfl .no (S1.len el22 rfl) rfl ?_
  refine GD.one rfl .no (S1.subI rfl rfl (by omega) (by omega)) rfl ?_
  refine GD.one rfl .no (S1.fa fa117_2 rfl) rfl ?_
  refine GD.one rfl .no (S1.ld sc3 rfl (.at .z) rfl) rfl ?_
  refine GD.opN rfl .no (SN.bs el32 ez32 (.c (v := (.int _ _)) rfl rfl .n) rfl rfl) rfl (fun a2 => ?_)
  refine GD.call rfl .no fo31 .nil (fun h H => ct31_1 (H.get (by repeat first | exact .z | apply At.s | apply At.sA))) (.d (.c (v := (.int _ _)) rfl (.c (v := (.int _ _)) rfl (.c (v := (.slice _ _ _)) rfl .n)))) (fun _ _ => ?_)
  refine GD.one rfl .no (S1.not rfl) rfl ?_
  refine GD.callP rfl rfl .no fo85 .nil (fun h H => ct85) (.d (.c (v := (.bool _)) rfl (.c (v := (.int _ _)) rfl .n))) (fun _ q5 => ?_) (fun e5 q5 => ?_)
  refine GD.done rfl ?_
  refine GQ.on ?_
  refine GW.toSeq rfl ?_
  refine GW.toReg rfl ?_
  refine GL.one rfl .no (S1.fa fa117_10 rfl) ?_
  refine GL.one rfl .no (S1.ld sc3 rfl (.at (.s .z)) rfl) ?_
  refine GL.callP rfl .no fo116 .nil (fun h H => ct116) (.d (.c (v := (.int _ _)) rfl .n)) (fun _ q6 => ?_) (fun e6 q6 => ?_)
  refine GL.done rfl ?_
  refine GQ.on ?_
  refine GW.toDrw mx rfl ?_
  refine GD.one rfl .no (S1.mv (v := (.pointer _)) rfl) rfl ?_
  refine GD.one rfl .no (S1.mv (v := (.pointer _)) rfl) rfl ?_
  refine GD.call rfl .no fo119 .nil (fun h H => ct119 hln (H.get (by repeat first | exact .z | apply At.s | apply At.sA))) (.d (.c (v := (.pointer _)) rfl .n)) (fun _ _ => ?_)
  refine GD.one rfl .no (S1.fa fa117_2 rfl) rfl ?_
  refine GD.one rfl .no (S1.ld sc3 rfl (.at (.s .z)) rfl) rfl ?_
  refine GD.one rfl .no (S1.fa fa117_10 rfl) rfl ?_
  refine GD.one rfl .no (S1.ld sc3 rfl (.at (.s .z)) rfl) rfl ?_
  refine GD.callF rfl .no fo113 (by kernel_rfl) (show Take _ ((b, _) :: (ar, _) :: pE) _ from (by repeat first | exact .nil | exact Take.tz | apply Take.cons (by repeat first | exact .z | apply Rem.s | apply Rem.sA) | apply Take.app (by repeat first | exact .nil | exact Take.tzA | exact Take.tz | apply Take.ts | apply Take.skA) | exact Take.tzA | apply Take.ts | apply Take.skA)) (fun h H => ct113i n3 (by omega) hac (by first | omega | (simp only [outB_ok] at *; omega) | (simp only [Nat.add_zero]; omega) | (simp only [Nat.add_zero]; rw [getD_setI, if_neg (by omega)]; omega)) (by first | omega | (simp only [outB_ok] at *; omega) | (simp only [Nat.add_zero]; omega) | (simp only [Nat.add_zero]; rw [getD_setI, if_neg (by omega)]; omega)) (H.give (show Take _ ((b, _) :: (ar, _) :: pE) _ from (by repeat first | exact .nil | exact Take.tz | apply Take.cons (by repeat first | exact .z | apply Rem.s | apply Rem.sA) | apply Take.app (by repeat first | exact .nil | exact Take.tzA | exact Take.tz | apply Take.ts | apply Take.skA) | exact Take.tzA | apply Take.ts | apply Take.skA)))) (.d (.c (v := (.pointer _)) rfl (.c (v := (.int _ _)) rfl (.c (v := (.int _ _)) rfl (.c (v := (.int _ _)) rfl .n))))) (fun y q => ?_)
  refine GD.done rfl ?_
  refine GQ.retN ⟨mb, sr, ar, cl, m, y.2.2.1, tm, ev, lv, kv, y.1, lE, kE, y.2.1, ls, kl, y.2.2.2.1, si, y.2.2.2.2, es⟩ .nil .z rfl ⟨⟨n1, n2, q.1, lo, hsi, q.2.1, him⟩, Nat.le_succ _, by have := q.2.2; simp only; omega⟩ (by repeat first | exact .nil | exact Take.tz | apply Take.cons (by repeat first | exact .z | apply Rem.s | apply Rem.sA) | apply Take.app (by repeat first | exact .nil | exact Take.tzA | exact Take.tz | apply Take.ts | apply Take.skA) | exact Take.tzA | apply Take.ts | apply Take.skA)
  refine GQ.onP ?_
  refine GQ.pan (_, ⟨mb, sr, ar, cl, m, p, tm, ev, lv, kv, pv, lE, kE, pE, ls, kl, ps, si, ac, es⟩) rfl ⟨⟨n1, n2, n3, lo, hsi, hac, him⟩, Nat.le_succ _, Nat.le_add_right _ _⟩ (by repeat first | exact .nil | exact Take.tz | apply Take.cons (by repeat first | exact .z | apply Rem.s | apply Rem.sA) | apply Take.app (by repeat first | exact .nil | exact Take.tzA | exact Take.tz | apply Take.ts | apply Take.skA) | exact Take.tzA | apply Take.ts | apply Take.skA)
  refine GQ.onP ?_
  refine GQ.pan (_, ⟨mb, sr, ar, cl, m, p, tm, ev, lv, kv, pv, lE, kE, pE, ls, kl, ps, si, ac, es⟩) rfl ⟨⟨n1, n2, n3, lo, hsi, hac, him⟩, Nat.le_succ _, Nat.le_add_right _ _⟩ (by repeat first | exact .nil | exact Take.tz | apply Take.cons (by repeat first | exact .z | apply Rem.s | apply Rem.sA) | apply Take.app (by repeat first | exact .nil | exact Take.tzA | exact Take.tz | apply Take.ts | apply Take.skA) | exact Take.tzA | apply Take.ts | apply Take.skA)

theorem ct108 (hln : s.ln ≤ 1073741824) (hcn : s.cn ≤ 1073741824) : BkH hr 108 s := by
  intro h b y e0 e1 e2 e3 e4 e5 e6 e7 e8 e9 e10 hI hm hp H
  obtain ⟨mb, sr, ar, cl, m, p, tm, ev, lv, kv, pv, lE, kE, pE, ls, kl, ps, si, ac, es⟩ := y
  obtain ⟨n1, n2, n3, lo, hsi, hac, him⟩ := hI
  simp only at hm hp n1 n2 n3 lo hsi hac him
  refine Cp.go Tryz.func108 rfl rfl co108 H ?_
  refine GW.toSeq rfl ?_
  refine GW.toReg rfl ?_
  refine GL.opN rfl .no (SN.bx (u := .agg ⟨_⟩) rfl .agg) (fun a1 => ?_)
  refine GL.done rfl ?_
  refine GQ.on ?_
  refine GW.toSeq rfl ?_
  refine GW.toDrw mx rfl ?_
  refine GD.one rfl .no (S1.mv (v := (.pointer _)) rfl) rfl ?_
  refine GD.one rfl .no (S1.nc rfl) rfl ?_
  refine GD.one rfl .no (S1.fa fa85_0 rfl) rfl ?_
  refine GD.one rfl .no (S1.fa fa28_1 rfl) rfl ?_
  refine GD.one rfl .no (S1.ld sc23 rfl (.at (.s .z)) rfl) rfl ?_
  refine GD.one rfl .no (S1.len el23 rfl) rfl ?_
  refine GD.one rfl .no (S1.subI rfl rfl (by omega) (by omega)) rfl ?_
  refine GD.one rfl .no (S1.fa fa117_3 rfl) rfl ?_
  refine GD.one rfl .no (S1.ld sc3 rfl (.at .z) rfl) rfl ?_
  refine GD.opN rfl .no (SN.bs el32 ez32 (.c (v := (.int _ _)) rfl rfl .n) rfl rfl) rfl (fun a2 => ?_)
  refine GD.call rfl .no fo31 .nil (fun h H => ct31_1 (H.get (by repeat first | exact .z | apply At.s | apply At.sA))) (.d (.c (v := (.int _ _)) rfl (.c (v := (.int _ _)) rfl (.c (v := (.slice _ _ _)) rfl .n)))) (fun _ _ => ?_)
  refine GD.one rfl .no (S1.not rfl) rfl ?_
  refine GD.callP rfl rfl .no fo85 .nil (fun h H => ct85) (.d (.c (v := (.bool _)) rfl (.c (v := (.int _ _)) rfl .n))) (fun _ q5 => ?_) (fun e5 q5 => ?_)
  refine GD.done rfl ?_
  refine GQ.on ?_
  refine GW.toSeq rfl ?_
  refine GW.toReg rfl ?_
  refine GL.one rfl .no (S1.fa fa117_10 rfl) ?_
  refine GL.one rfl .no (S1.ld sc3 rfl (.at (.s .z)) rfl) ?_
  refine GL.callP rfl .no fo116 .nil (fun h H => ct116) (.d (.c (v := (.int _ _)) rfl .n)) (fun _ q6 => ?_) (fun e6 q6 => ?_)
  refine GL.done rfl ?_
  refine GQ.on ?_
  refine GW.toSeq rfl ?_
  refine GW.toDrw mx rfl ?_
  refine GD.one rfl .no (S1.mv (v := (.pointer _)) rfl) rfl ?_
  refine GD.one rfl .no (S1.nc rfl) rfl ?_
  refine GD.one rfl .no (S1.fa fa85_1 rfl) rfl ?_
  refine GD.one rfl .no (S1.fa fa49_2 rfl) rfl ?_
  refine GD.one rfl .no (S1.ld sc32 rfl (.at (.s (.s .z))) rfl) rfl ?_
  refine GD.one rfl .no (S1.fa fa117_3 rfl) rfl ?_
  refine GD.one rfl .no (S1.ld sc3 rfl (.at (.s .z)) rfl) rfl ?_
  refine GD.one rfl .no (S1.ixI el32 rfl rfl (by simp only [outB_ok] at *; omega)) rfl ?_
  refine GD.loud rfl .no (S1.stI sc3 rfl rfl (by first | (simp only [outB_ok, List.length_set] at *; omega) | (simp only [outB_ok] at *; omega) | (simp only [Nat.add_zero, List.length_set]; omega) | (simp only [Nat.add_zero]; rw [getD_setI, if_neg (by omega)]; omega) | (simp only [Nat.add_zero, List.length_set]; rw [getD_setI, if_neg (by omega)]; omega)) (.s (.s (.s (.s .z))))) rfl rfl (by kernel_rfl) ?_
  refine GD.done rfl ?_
  refine GQ.on ?_
  refine GW.toDrw mx rfl ?_
  refine GD.one rfl .no (S1.mv (v := (.pointer _)) rfl) rfl ?_
  refine GD.one rfl .no (S1.mv (v := (.pointer _)) rfl) rfl ?_
  refine GD.call rfl .no fo114 .nil (fun h H => ct114 (H.get (by repeat first | exact .z | apply At.s | apply At.sA))) (.d (.c (v := (.pointer _)) rfl .n)) (fun _ _ => ?_)
  refine GD.one rfl .no (S1.mv (v := (.pointer _)) rfl) rfl ?_
  refine GD.call rfl .no fo117 .nil (fun h H => ct117 hln (H.get (by repeat first | exact .z | apply At.s | apply At.sA))) (.d (.c (v := (.pointer _)) rfl .n)) (fun _ _ => ?_)
  refine GD.one rfl .no (S1.fa fa117_10 rfl) rfl ?_
  refine GD.one rfl .no (S1.ld sc3 rfl (.at (.s .z)) rfl) rfl ?_
  refine GD.callF rfl .no fo113 (by kernel_rfl) (show Take _ ((b, _) :: (ar, _) :: pE) _ from (by repeat first | exact .nil | exact Take.tz | apply Take.cons (by repeat first | exact .z | apply Rem.s | apply Rem.sA) | apply Take.app (by repeat first | exact .nil | exact Take.tzA | exact Take.tz | apply Take.ts | apply Take.skA) | exact Take.tzA | apply Take.ts | apply Take.skA)) (fun h H => ct113i n3 (by omega) hac (by first | omega | (simp only [outB_ok] at *; omega) | (simp only [Nat.add_zero]; omega) | (simp only [Nat.add_zero]; rw [getD_setI, if_neg (by omega)]; omega)) (by first | omega | (simp only [outB_ok] at *; omega) | (simp only [Nat.add_zero]; omega) | (simp only [Nat.add_zero]; rw [getD_setI, if_neg (by omega)]; omega)) (H.give (show Take _ ((b, _) :: (ar, _) :: pE) _ from (by repeat first | exact .nil | exact Take.tz | apply Take.cons (by repeat first | exact .z | apply Rem.s | apply Rem.sA) | apply Take.app (by repeat first | exact .nil | exact Take.tzA | exact Take.tz | apply Take.ts | apply Take.skA) | exact Take.tzA | apply Take.ts | apply Take.skA)))) (.d (.c (v := (.pointer _)) rfl (.c (v := (.int _ _)) rfl (.c (v := (.int _ _)) rfl (.c (v := (.int _ _)) rfl .n))))) (fun y q => ?_)
  refine GD.done rfl ?_
  refine GQ.retN ⟨mb, sr, ar, cl, m, y.2.2.1, tm, ev, lv, kv, y.1, lE, kE, y.2.1, ls, kl, y.2.2.2.1, si.set (0 + e3.toNat * 1) 0, y.2.2.2.2, es⟩ .nil .z rfl ⟨⟨n1, n2, q.1, lo, (by simp only [List.length_set]; exact hsi), q.2.1, him⟩, Nat.le_succ _, by have := q.2.2; simp only; omega⟩ (by repeat first | exact .nil | exact Take.tz | apply Take.cons (by repeat first | exact .z | apply Rem.s | apply Rem.sA) | apply Take.app (by repeat first | exact .nil | exact Take.tzA | exact Take.tz | apply Take.ts | apply Take.skA) | exact Take.tzA | apply Take.ts | apply Take.skA)
  refine GQ.onP ?_
  refine GQ.pan (_, ⟨mb, sr, ar, cl, m, p, tm, ev, lv, kv, pv, lE, kE, pE, ls, kl, ps, si, ac, es⟩) rfl ⟨⟨n1, n2, n3, lo, hsi, hac, him⟩, Nat.le_succ _, Nat.le_add_right _ _⟩ (by repeat first | exact .nil | exact Take.tz | apply Take.cons (by repeat first | exact .z | apply Rem.s | apply Rem.sA) | apply Take.app (by repeat first | exact .nil | exact Take.tzA | exact Take.tz | apply Take.ts | apply Take.skA) | exact Take.tzA | apply Take.ts | apply Take.skA)
  refine GQ.onP ?_
  refine GQ.pan (_, ⟨mb, sr, ar, cl, m, p, tm, ev, lv, kv, pv, lE, kE, pE, ls, kl, ps, si, ac, es⟩) rfl ⟨⟨n1, n2, n3, lo, hsi, hac, him⟩, Nat.le_succ _, Nat.le_add_right _ _⟩ (by repeat first | exact .nil | exact Take.tz | apply Take.cons (by repeat first | exact .z | apply Rem.s | apply Rem.sA) | apply Take.app (by repeat first | exact .nil | exact Take.tzA | exact Take.tz | apply Take.ts | apply Take.skA) | exact Take.tzA | apply Take.ts | apply Take.skA)

theorem ct109 (hln : s.ln ≤ 1073741824) : BkH hr 109 s := by
  intro h b y e0 e1 e2 e3 e4 e5 e6 e7 e8 e9 e10 hI hm hp H
  obtain ⟨mb, sr, ar, cl, m, p, tm, ev, lv, kv, pv, lE, kE, pE, ls, kl, ps, si, ac, es⟩ := y
  obtain ⟨n1, n2, n3, lo, hsi, hac, him⟩ := hI
  simp only at hm hp n1 n2 n3 lo hsi hac him
  refine Cp.go Tryz.func109 rfl rfl co109 H ?_
  cases n1 with
  | nil =>
    refine GW.toSeq rfl ?_
    refine GW.toReg rfl ?_
    refine GL.opN rfl .no (SN.bx (u := .agg ⟨_⟩) rfl .agg) (fun a1 => ?_)
    refine GL.done rfl ?_
    refine GQ.on ?_
    refine GW.toSeq rfl ?_
    refine GW.toReg rfl ?_
    refine GL.one rfl .no (S1.mv (v := (.pointer _)) rfl) ?_
    refine GL.one rfl .no (S1.fa fa117_4 rfl) ?_
    refine GL.one rfl .no (S1.ld sc3 rfl (.at .z) rfl) ?_
    refine GL.callP rfl .no fo112 .nil (fun h H => ct112n (H.get (by repeat first | exact .z | apply At.s | apply At.sA))) (.d (.c (v := (.pointer _)) rfl (.c (v := (.int _ _)) rfl (.c (v := (.int _ _)) rfl .n)))) (fun _ q2 => q2.elim) (fun e2 _ => ?_)
    refine GQ.onP ?_
    refine GQ.pan (_, ⟨mb, sr, ar, cl, 0, p, tm, ev, nilS, kv, pv, [], kE, pE, [], kl, ps, si, ac, es⟩) rfl ⟨⟨.nil, n2, n3, lo, hsi, hac, him⟩, Nat.le_succ _, Nat.le_add_right _ _⟩ (by repeat first | exact .nil | exact Take.tz | apply Take.cons (by repeat first | exact .z | apply Rem.s | apply Rem.sA) | apply Take.app (by repeat first | exact .nil | exact Take.tzA | exact Take.tz | apply Take.ts | apply Take.skA) | exact Take.tzA | apply Take.ts | apply Take.skA)
  | @row lr m l h1 h2 =>
    have hlen := lo.1
    refine GW.toSeq rfl ?_
    refine GW.toReg rfl ?_
    refine GL.opN rfl .no (SN.bx (u := .agg ⟨_⟩) rfl .agg) (fun a3 => ?_)
    refine GL.done rfl ?_
    refine GQ.on ?_
    refine GW.toSeq rfl ?_
    refine GW.toReg rfl ?_
    refine GL.one rfl .no (S1.mv (v := (.pointer _)) rfl) ?_
    refine GL.one rfl .no (S1.fa fa117_4 rfl) ?_
    refine GL.one rfl .no (S1.ld sc3 rfl (.at .z) rfl) ?_
    refine GL.callP rfl .no fo112 .nil (fun h H => ct112i (by omega) lo (H.get (by repeat first | exact .z | apply At.s | apply At.sA)) (H.get (by repeat first | exact .z | apply At.s | apply At.sA))) (.d (.c (v := (.pointer _)) rfl (.c (v := (.int _ _)) rfl (.c (v := (.int _ _)) rfl .n)))) (fun k q4 => ?_) (fun e4 _ => ?_)
    refine GL.one rfl .no (S1.as (v := (.pointer _)) rfl) ?_
    refine GL.done rfl ?_
    refine GQ.on ?_
    refine GW.toSeq rfl ?_
    refine GW.toReg rfl ?_
    refine GL.one rfl .no (S1.fa fa117_10 rfl) ?_
    refine GL.one rfl .no (S1.ld sc3 rfl (.at .z) rfl) ?_
    refine GL.callP rfl .no fo116 .nil (fun h H => ct116) (.d (.c (v := (.int _ _)) rfl .n)) (fun _ q5 => ?_) (fun e5 q5 => ?_)
    refine GL.done rfl ?_
    refine GQ.on ?_
    refine GW.toSeq rfl ?_
    refine GW.toReg rfl ?_
    refine GL.one rfl .no (S1.mv (v := (.pointer _)) rfl) ?_
    refine GL.one rfl .no (S1.nc rfl) ?_
    refine GL.one rfl .no (S1.fa fa102_4 rfl) ?_
    refine GL.one rfl .no (S1.stI sc3 rfl rfl (by omega) (.s (.s (.s (.s (.s .z)))))) ?_
    refine GL.done rfl ?_
    refine GQ.on ?_
    refine GW.toSeq rfl ?_
    refine GW.toDrw mx rfl ?_
    refine GD.one rfl .no (S1.fa fa117_10 rfl) rfl ?_
    refine GD.one rfl .no (S1.ld sc3 rfl (.at .z) rfl) rfl ?_
    refine GD.one rfl .no (S1.mv (v := (.pointer _)) rfl) rfl ?_
    refine GD.one rfl .no (S1.nc rfl) rfl ?_
    refine GD.one rfl .no (S1.fa fa85_0 rfl) rfl ?_
    refine GD.one rfl .no (S1.fa fa28_3 rfl) rfl ?_
    refine GD.one rfl .no (S1.ld sc3 rfl (.at (.s .z)) rfl) rfl ?_
    refine GD.one rfl .no (S1.mn2 rfl rfl) rfl ?_
    refine GD.one rfl .no (S1.as (v := (.int _ _)) rfl) rfl ?_
    refine GD.done rfl ?_
    refine GQ.on ?_
    refine GW.toSeq rfl ?_
    refine GW.toReg rfl ?_
    refine GL.one rfl .no (S1.mv (v := (.pointer _)) rfl) ?_
    refine GL.one rfl .no (S1.mv (v := (.pointer _)) rfl) ?_
    refine GL.call rfl .no fo114 .nil (fun h H => ct114 (H.get (by repeat first | exact .z | apply At.s | apply At.sA))) (.d (.c (v := (.pointer _)) rfl .n)) (fun _ _ => ?_)
    refine GL.one rfl .no (S1.mv (v := (.pointer _)) rfl) ?_
    refine GL.call rfl .no fo117 .nil (fun h H => ct117 hln (H.get (by repeat first | exact .z | apply At.s | apply At.sA))) (.d (.c (v := (.pointer _)) rfl .n)) (fun _ _ => ?_)
    refine GL.one rfl .no (S1.mv (v := (.int _ _)) rfl) ?_
    refine GL.call rfl .no fo113 (show Take _ ((b, _) :: (ar, _) :: pE) _ from (by repeat first | exact .nil | exact Take.tz | apply Take.cons (by repeat first | exact .z | apply Rem.s | apply Rem.sA) | apply Take.app (by repeat first | exact .nil | exact Take.tzA | exact Take.tz | apply Take.ts | apply Take.skA) | exact Take.tzA | apply Take.ts | apply Take.skA)) (fun h H => ct113i n3 (by omega) hac (by first | omega | (simp only [outB_ok] at *; omega) | (simp only [Nat.add_zero]; omega) | (simp only [Nat.add_zero]; rw [getD_setI, if_neg (by omega)]; omega)) (by first | omega | (simp only [outB_ok] at *; omega) | (simp only [Nat.add_zero]; omega) | (simp only [Nat.add_zero]; rw [getD_setI, if_neg (by omega)]; omega)) (H.give (show Take _ ((b, _) :: (ar, _) :: pE) _ from (by repeat first | exact .nil | exact Take.tz | apply Take.cons (by repeat first | exact .z | apply Rem.s | apply Rem.sA) | apply Take.app (by repeat first | exact .nil | exact Take.tzA | exact Take.tz | apply Take.ts | apply Take.skA) | exact Take.tzA | apply Take.ts | apply Take.skA)))) (.d (.c (v := (.pointer _)) rfl (.c (v := (.int _ _)) rfl (.c (v := (.int _ _)) rfl (.c (v := (.int _ _)) rfl .n))))) (fun y q => ?_)
    refine GL.done rfl ?_
    refine GQ.on ?_
    refine GW.toDrw mx rfl ?_
    refine GD.one rfl .no (S1.mv (v := (.pointer _)) rfl) rfl ?_
    refine GD.one rfl .no (S1.mv (v := (.pointer _)) rfl) rfl ?_
    refine GD.call rfl .no fo118 .nil (fun h H => ct118 hln (H.get (by repeat first | exact .z | apply At.s | apply At.sA))) (.d (.c (v := (.pointer _)) rfl .n)) (fun _ _ => ?_)
    refine GD.one rfl .no (S1.mv (v := (.pointer _)) rfl) rfl ?_
    refine GD.call rfl .no fo117 .nil (fun h H => ct117 hln (H.get (by repeat first | exact .z | apply At.s | apply At.sA))) (.d (.c (v := (.pointer _)) rfl .n)) (fun _ _ => ?_)
    refine GD.one rfl .no (S1.fa fa117_10 rfl) rfl ?_
    refine GD.one rfl .no (S1.ld sc3 rfl (.at (.s (.s (.sA .z)))) rfl) rfl ?_
    refine GD.one rfl .no (S1.mv (v := (.int _ _)) rfl) rfl ?_
    refine GD.one rfl .no (S1.sub rfl rfl) rfl ?_
    refine GD.callF rfl .no fo113 (by kernel_rfl) (show Take _ ((b, _) :: (ar, _) :: y.2.1) _ from (by repeat first | exact .nil | exact Take.tz | apply Take.cons (by repeat first | exact .z | apply Rem.s | apply Rem.sA) | apply Take.app (by repeat first | exact .nil | exact Take.tzA | exact Take.tz | apply Take.ts | apply Take.skA) | exact Take.tzA | apply Take.ts | apply Take.skA)) (fun h H => ct113i q.1 (by omega) q.2.1 (by first | omega | (simp only [outB_ok] at *; omega) | (simp only [Nat.add_zero]; omega) | (simp only [Nat.add_zero]; rw [getD_setI, if_neg (by omega)]; omega)) (by first | omega | (simp only [outB_ok] at *; omega) | (simp only [Nat.add_zero]; omega) | (simp only [Nat.add_zero]; rw [getD_setI, if_neg (by omega)]; omega)) (H.give (show Take _ ((b, _) :: (ar, _) :: y.2.1) _ from (by repeat first | exact .nil | exact Take.tz | apply Take.cons (by repeat first | exact .z | apply Rem.s | apply Rem.sA) | apply Take.app (by repeat first | exact .nil | exact Take.tzA | exact Take.tz | apply Take.ts | apply Take.skA) | exact Take.tzA | apply Take.ts | apply Take.skA)))) (.d (.c (v := (.pointer _)) rfl (.c (v := (.int _ _)) rfl (.c (v := (.int _ _)) rfl (.c (v := (.int _ _)) rfl .n))))) (fun y q => ?_)
    refine GD.done rfl ?_
    rotate_left
    refine GQ.onP ?_
    refine GQ.pan (_, ⟨mb, sr, ar, cl, m, p, tm, ev, rowS lr m, kv, pv, [(lr, opRow (ints ls) 5)], kE, pE, ls, kl, ps, si, ac, es⟩) rfl ⟨⟨.row h1 h2, n2, n3, lo, hsi, hac, him⟩, Nat.le_succ _, Nat.le_add_right _ _⟩ (by repeat first | exact .nil | exact Take.tz | apply Take.cons (by repeat first | exact .z | apply Rem.s | apply Rem.sA) | apply Take.app (by repeat first | exact .nil | exact Take.tzA | exact Take.tz | apply Take.ts | apply Take.skA) | exact Take.tzA | apply Take.ts | apply Take.skA)
    refine GQ.onP ?_
    refine GQ.pan (_, ⟨mb, sr, ar, cl, m, p, tm, ev, rowS lr m, kv, pv, [(lr, opRow (ints ls) 5)], kE, pE, ls, kl, ps, si, ac, es⟩) rfl ⟨⟨.row h1 h2, n2, n3, lo, hsi, hac, him⟩, Nat.le_succ _, Nat.le_add_right _ _⟩ (by repeat first | exact .nil | exact Take.tz | apply Take.cons (by repeat first | exact .z | apply Rem.s | apply Rem.sA) | apply Take.app (by repeat first | exact .nil | exact Take.tzA | exact Take.tz | apply Take.ts | apply Take.skA) | exact Take.tzA | apply Take.ts | apply Take.skA)
    refine GQ.retN ⟨mb, sr, ar, cl, m, y.2.2.1, tm, ev, rowS lr m, kv, y.1, [(lr, opRow (ints (ls.set (0 + k * 5 + 4) 3)) 5)], kE, y.2.1, ls.set (0 + k * 5 + 4) 3, kl, y.2.2.2.1, si, y.2.2.2.2, es⟩ .nil .z rfl ⟨⟨.row h1 (by rw [List.length_set]; exact h2), n2, q.1, by rw [Nat.zero_add]; exact lo.set4, hsi, q.2.1, him⟩, Nat.le_succ _, ?_⟩ (by repeat first | exact .nil | exact Take.tz | apply Take.cons (by repeat first | exact .z | apply Rem.s | apply Rem.sA) | apply Take.app (by repeat first | exact .nil | exact Take.tzA | exact Take.tz | apply Take.ts | apply Take.skA) | exact Take.tzA | apply Take.ts | apply Take.skA)
    have := q.2.2
    simp only
    omega

theorem ct105 (hln : s.ln ≤ 1073741824) (hL : Cell hr (.sl ly9) (.slice s.la s.ln s.lc)) (hc : Cell hr (.sl ly74) (.slice s.ca s.cn s.cc)) (hT : Cell hr (.sl ly78) (.slice s.ta s.tn s.tc)) : BkH hr 105 s := by
  intro h b y e0 e1 e2 e3 e4 e5 e6 e7 e8 e9 e10 hI hm hp H
  obtain ⟨mb, sr, ar, cl, m, p, tm, ev, lv, kv, pv, lE, kE, pE, ls, kl, ps, si, ac, es⟩ := y
  obtain ⟨n1, n2, n3, lo, hsi, hac, him⟩ := hI
  simp only at hm hp n1 n2 n3 lo hsi hac him
  refine Cp.go Tryz.func105 rfl rfl co105 H ?_
  cases n1 with
  | nil =>
    refine GW.toSeq rfl ?_
    refine GW.toReg rfl ?_
    refine GL.opN rfl .no (SN.bx (u := .agg ⟨_⟩) rfl .agg) (fun a1 => ?_)
    refine GL.done rfl ?_
    refine GQ.on ?_
    refine GW.toSeq rfl ?_
    refine GW.toReg rfl ?_
    refine GL.one rfl .no (S1.mv (v := (.pointer _)) rfl) ?_
    refine GL.one rfl .no (S1.fa fa117_4 rfl) ?_
    refine GL.one rfl .no (S1.ld sc3 rfl (.at .z) rfl) ?_
    refine GL.callP rfl .no fo112 .nil (fun h H => ct112n (H.get (by repeat first | exact .z | apply At.s | apply At.sA))) (.d (.c (v := (.pointer _)) rfl (.c (v := (.int _ _)) rfl (.c (v := (.int _ _)) rfl .n)))) (fun _ q2 => q2.elim) (fun e2 _ => ?_)
    refine GQ.onP ?_
    refine GQ.pan (_, ⟨mb, sr, ar, cl, 0, p, tm, ev, nilS, kv, pv, [], kE, pE, [], kl, ps, si, ac, es⟩) rfl ⟨⟨.nil, n2, n3, lo, hsi, hac, him⟩, Nat.le_succ _, Nat.le_add_right _ _⟩ (by repeat first | exact .nil | exact Take.tz | apply Take.cons (by repeat first | exact .z | apply Rem.s | apply Rem.sA) | apply Take.app (by repeat first | exact .nil | exact Take.tzA | exact Take.tz | apply Take.ts | apply Take.skA) | exact Take.tzA | apply Take.ts | apply Take.skA)
  | @row lr m l h1 h2 =>
    have hlen := lo.1
    refine GW.toSeq rfl ?_
    refine GW.toReg rfl ?_
    refine GL.opN rfl .no (SN.bx (u := .agg ⟨_⟩) rfl .agg) (fun a3 => ?_)
    refine GL.done rfl ?_
    refine GQ.on ?_
    refine GW.toSeq rfl ?_
    refine GW.toReg rfl ?_
    refine GL.one rfl .no (S1.mv (v := (.pointer _)) rfl) ?_
    refine GL.one rfl .no (S1.fa fa117_4 rfl) ?_
    refine GL.one rfl .no (S1.ld sc3 rfl (.at .z) rfl) ?_
    refine GL.callP rfl .no fo112 .nil (fun h H => ct112i (by omega) lo (H.get (by repeat first | exact .z | apply At.s | apply At.sA)) (H.get (by repeat first | exact .z | apply At.s | apply At.sA))) (.d (.c (v := (.pointer _)) rfl (.c (v := (.int _ _)) rfl (.c (v := (.int _ _)) rfl .n)))) (fun k q4 => ?_) (fun e4 _ => ?_)
    refine GL.one rfl .no (S1.as (v := (.pointer _)) rfl) ?_
    refine GL.done rfl ?_
    refine GQ.on ?_
    refine GW.toSeq rfl ?_
    refine GW.toDrw mx rfl ?_
    refine GD.one rfl .no (S1.fa fa117_1 rfl) rfl ?_
    refine GD.one rfl .no (S1.ld sc3 rfl (.at .z) rfl) rfl ?_
    refine GD.one rfl .no (S1.mv (v := (.pointer _)) rfl) rfl ?_
    refine GD.one rfl .no (S1.nc rfl) rfl ?_
    refine GD.one rfl .no (S1.fa fa102_2 rfl) rfl ?_
    refine GD.one rfl .no (S1.ldI sc3 rfl (.at (.s (.s (.s (.s (.s .z)))))) (by omega)) rfl ?_
    refine GD.one rfl .no (S1.lss rfl rfl) rfl ?_
    refine GD.callP rfl rfl .no fo85 .nil (fun h H => ct85) (.d (.c (v := (.bool _)) rfl (.c (v := (.int _ _)) rfl .n))) (fun _ q5 => ?_) (fun e5 q5 => ?_)
    refine GD.done rfl ?_
    refine GQ.on ?_
    refine GW.toSeq rfl ?_
    refine GW.toReg rfl ?_
    refine GL.one rfl .no (S1.mv (v := (.pointer _)) rfl) ?_
    refine GL.one rfl .no (S1.nc rfl) ?_
    refine GL.one rfl .no (S1.fa fa102_4 rfl) ?_
    refine GL.one rfl .no (S1.stI sc3 rfl rfl (by omega) (.s (.s (.s (.s (.s .z)))))) ?_
    refine GL.done rfl ?_
    refine GQ.on ?_
    refine GW.toDrw mx rfl ?_
    refine GD.one rfl .no (S1.mv (v := (.pointer _)) rfl) rfl ?_
    refine GD.one rfl .no (S1.mv (v := (.pointer _)) rfl) rfl ?_
    refine GD.one rfl .no (S1.nc rfl) rfl ?_
    refine GD.one rfl .no (S1.fa fa102_0 rfl) rfl ?_
    refine GD.one rfl .no (S1.ldI sc3 rfl (.at (.s (.s (.s (.s (.s .z)))))) (by simp only [List.length_set]; omega)) rfl ?_
    refine GD.one rfl .no (S1.mv (v := (.pointer _)) rfl) rfl ?_
    refine GD.call rfl .no fo114 .nil (fun h H => ct114 (H.get (by repeat first | exact .z | apply At.s | apply At.sA))) (.d (.c (v := (.pointer _)) rfl .n)) (fun _ _ => ?_)
    refine GD.one rfl .no (S1.mv (v := (.pointer _)) rfl) rfl ?_
    refine GD.one rfl .no (S1.nc rfl) rfl ?_
    refine GD.one rfl .no (S1.fa fa85_0 rfl) rfl ?_
    refine GD.one rfl .no (S1.ldA ag28 rfl (.at (.s .z)) (by repeat constructor)) rfl ?_
    refine GD.one rfl .no (S1.mv (v := (.pointer _)) rfl) rfl ?_
    refine GD.one rfl .no (S1.nc rfl) rfl ?_
    refine GD.one rfl .no (S1.fa fa102_3 rfl) rfl ?_
    refine GD.one rfl .no (S1.ldI sc3 rfl (.at (.s (.s (.s (.s (.s .z)))))) (by simp only [List.length_set]; omega)) rfl ?_
    refine GD.one rfl .no (S1.mv (v := (.pointer _)) rfl) rfl ?_
    refine GD.one rfl .no (S1.nc rfl) rfl ?_
    refine GD.one rfl .no (S1.fa fa102_2 rfl) rfl ?_
    refine GD.one rfl .no (S1.ldI sc3 rfl (.at (.s (.s (.s (.s (.s .z)))))) (by simp only [List.length_set]; omega)) rfl ?_
    refine GD.one rfl .no (S1.fa fa117_1 rfl) rfl ?_
    refine GD.one rfl .no (S1.ld sc3 rfl (.at .z) rfl) rfl ?_
    refine GD.one rfl .no (S1.sub rfl rfl) rfl ?_
    refine GD.call rfl .no fo36 .nil (fun h H => ct36 H.rom hL hc hT) (.d (.c (v := (.agg _)) rfl (.c (v := (.int _ _)) rfl (.c (v := (.int _ _)) rfl .n)))) (fun r7 _ => ?_)
    refine GD.callF rfl .no fo113 (by kernel_rfl) (show Take _ ((b, _) :: (ar, _) :: pE) _ from (by repeat first | exact .nil | exact Take.tz | apply Take.cons (by repeat first | exact .z | apply Rem.s | apply Rem.sA) | apply Take.app (by repeat first | exact .nil | exact Take.tzA | exact Take.tz | apply Take.ts | apply Take.skA) | exact Take.tzA | apply Take.ts | apply Take.skA)) (fun h H => ct113i n3 (by omega) hac (by first | omega | (simp only [outB_ok] at *; omega) | (simp only [Nat.add_zero]; omega) | (simp only [Nat.add_zero]; rw [getD_setI, if_neg (by omega)]; omega)) (by first | omega | (simp only [outB_ok] at *; omega) | (simp only [Nat.add_zero]; omega) | (simp only [Nat.add_zero]; rw [getD_setI, if_neg (by omega)]; omega)) (H.give (show Take _ ((b, _) :: (ar, _) :: pE) _ from (by repeat first | exact .nil | exact Take.tz | apply Take.cons (by repeat first | exact .z | apply Rem.s | apply Rem.sA) | apply Take.app (by repeat first | exact .nil | exact Take.tzA | exact Take.tz | apply Take.ts | apply Take.skA) | exact Take.tzA | apply Take.ts | apply Take.skA)))) (.d (.c (v := (.pointer _)) rfl (.c (v := (.int _ _)) rfl (.c (v := (.int _ _)) rfl (.c (v := (.int _ _)) rfl .n))))) (fun y q => ?_)
    refine GD.done rfl ?_
    rotate_left
    refine GQ.onP ?_
    refine GQ.pan (_, ⟨mb, sr, ar, cl, m, p, tm, ev, rowS lr m, kv, pv, [(lr, opRow (ints ls) 5)], kE, pE, ls, kl, ps, si, ac, es⟩) rfl ⟨⟨.row h1 h2, n2, n3, lo, hsi, hac, him⟩, Nat.le_succ _, Nat.le_add_right _ _⟩ (by repeat first | exact .nil | exact Take.tz | apply Take.cons (by repeat first | exact .z | apply Rem.s | apply Rem.sA) | apply Take.app (by repeat first | exact .nil | exact Take.tzA | exact Take.tz | apply Take.ts | apply Take.skA) | exact Take.tzA | apply Take.ts | apply Take.skA)
    refine GQ.onP ?_
    refine GQ.pan (_, ⟨mb, sr, ar, cl, m, p, tm, ev, rowS lr m, kv, pv, [(lr, opRow (ints ls) 5)], kE, pE, ls, kl, ps, si, ac, es⟩) rfl ⟨⟨.row h1 h2, n2, n3, lo, hsi, hac, him⟩, Nat.le_succ _, Nat.le_add_right _ _⟩ (by repeat first | exact .nil | exact Take.tz | apply Take.cons (by repeat first | exact .z | apply Rem.s | apply Rem.sA) | apply Take.app (by repeat first | exact .nil | exact Take.tzA | exact Take.tz | apply Take.ts | apply Take.skA) | exact Take.tzA | apply Take.ts | apply Take.skA)
    refine GQ.retN ⟨mb, sr, ar, cl, m, y.2.2.1, tm, ev, rowS lr m, kv, y.1, [(lr, opRow (ints (ls.set (0 + k * 5 + 4) 1)) 5)], kE, y.2.1, ls.set (0 + k * 5 + 4) 1, kl, y.2.2.2.1, si, y.2.2.2.2, es⟩ .nil .z rfl ⟨⟨.row h1 (by rw [List.length_set]; exact h2), n2, q.1, by rw [Nat.zero_add]; exact lo.set4, hsi, q.2.1, him⟩, Nat.le_succ _, ?_⟩ (by repeat first | exact .nil | exact Take.tz | apply Take.cons (by repeat first | exact .z | apply Rem.s | apply Rem.sA) | apply Take.app (by repeat first | exact .nil | exact Take.tzA | exact Take.tz | apply Take.ts | apply Take.skA) | exact Take.tzA | apply Take.ts | apply Take.skA)
    have := q.2.2
    simp only
    omega
end
end Go.Proofs.YtkpbpfnmgnpfaaaGreat
namespace Go.Proofs.YtkpbpfnmgnpfaaaGreat
open Go Go.E
set_option maxRecDepth 100000

theorem NR.get {z m : Nat} {v : Value} {E : Ents} {l : List Int} (n : NR z v E m l) (h : 0 < m) : ∃ r, v = rowS r m ∧ E = [(r, opRow (ints l) z)] ∧ l.length = m * z := by
  cases n with
  | nil => omega
  | row h1 h2 => exact ⟨_, rfl, rfl, h2⟩

section
variable {hr : RO} {s : Sch}

theorem ct107 (hln : s.ln ≤ 1073741824) (hc : Cell hr (.sl ly74) (.slice s.ca s.cn s.cc)) : BkH hr 107 s := by
  intro h b y e0 e1 e2 e3 e4 e5 e6 e7 e8 e9 e10 hI hm hp H
  obtain ⟨mb, sr, ar, cl, m, p, tm, ev, lv, kv, pv, lE, kE, pE, ls, kl, ps, si, ac, es⟩ := y
  obtain ⟨n1, n2, n3, lo, hsi, hac, him⟩ := hI
  simp only at hm hp n1 n2 n3 lo hsi hac him
  have hcl := hc.le
  refine Cp.go Tryz.func107 rfl rfl co107 H ?_
  cases n1 with
  | nil =>
    refine GW.toSeq rfl ?_
    refine GW.toReg rfl ?_
    refine GL.opN rfl .no (SN.bx (u := .agg ⟨_⟩) rfl .agg) (fun a1 => ?_)
    refine GL.done rfl ?_
    refine GQ.on ?_
    refine GW.toSeq rfl ?_
    refine GW.toReg rfl ?_
    refine GL.one rfl .no (S1.mv (v := (.pointer _)) rfl) ?_
    refine GL.one rfl .no (S1.fa fa117_4 rfl) ?_
    refine GL.one rfl .no (S1.ld sc3 rfl (.at .z) rfl) ?_
    refine GL.callP rfl .no fo112 .nil (fun h H => ct112n (H.get (by repeat first | exact .z | apply At.s | apply At.sA))) (.d (.c (v := (.pointer _)) rfl (.c (v := (.int _ _)) rfl (.c (v := (.int _ _)) rfl .n)))) (fun _ q2 => q2.elim) (fun e2 _ => ?_)
    refine GQ.onP ?_
    refine GQ.pan (_, ⟨mb, sr, ar, cl, 0, p, tm, ev, nilS, kv, pv, [], kE, pE, [], kl, ps, si, ac, es⟩) rfl ⟨⟨.nil, n2, n3, lo, hsi, hac, him⟩, Nat.le_succ _, Nat.le_add_right _ _⟩ (by repeat first | exact .nil | exact Take.tz | apply Take.cons (by repeat first | exact .z | apply Rem.s | apply Rem.sA) | apply Take.app (by repeat first | exact .nil | exact Take.tzA | exact Take.tz | apply Take.ts | apply Take.skA) | exact Take.tzA | apply Take.ts | apply Take.skA)
  | @row lr m l h1 h2 =>
    have hlen := lo.1
    by_cases hcn : 0 < s.cn
    · obtain ⟨kr, rfl, rfl, hkl⟩ := NR.get n2 hcn
      refine GW.toSeq rfl ?_
      refine GW.toReg rfl ?_
      refine GL.opN rfl .no (SN.bx (u := .agg ⟨_⟩) rfl .agg) (fun a3 => ?_)
      refine GL.done rfl ?_
      refine GQ.on ?_
      refine GW.toSeq rfl ?_
      refine GW.toReg rfl ?_
      refine GL.one rfl .no (S1.mv (v := (.pointer _)) rfl) ?_
      refine GL.one rfl .no (S1.fa fa117_4 rfl) ?_
      refine GL.one rfl .no (S1.ld sc3 rfl (.at .z) rfl) ?_
      refine GL.callP rfl .no fo112 .nil (fun h H => ct112i (by omega) lo (H.get (by repeat first | exact .z | apply At.s | apply At.sA)) (H.get (by repeat first | exact .z | apply At.s | apply At.sA))) (.d (.c (v := (.pointer _)) rfl (.c (v := (.int _ _)) rfl (.c (v := (.int _ _)) rfl .n)))) (fun k q4 => ?_) (fun e4 _ => ?_)
      refine GL.one rfl .no (S1.as (v := (.pointer _)) rfl) ?_
      refine GL.done rfl ?_
      refine GQ.on ?_
      refine GW.toSeq rfl ?_
      refine GW.toDrw mx rfl ?_
      refine GD.one rfl .no (S1.fa fa117_1 rfl) rfl ?_
      refine GD.one rfl .no (S1.ld sc3 rfl (.at .z) rfl) rfl ?_
      refine GD.one rfl .no (S1.mv (v := (.pointer _)) rfl) rfl ?_
      refine GD.one rfl .no (S1.nc rfl) rfl ?_
      refine GD.one rfl .no (S1.fa fa102_2 rfl) rfl ?_
      refine GD.one rfl .no (S1.ldI sc3 rfl (.at (.s (.s (.s (.s (.s .z)))))) (by omega)) rfl ?_
      refine GD.one rfl .no (S1.mv (v := (.pointer _)) rfl) rfl ?_
      refine GD.one rfl .no (S1.nc rfl) rfl ?_
      refine GD.one rfl .no (S1.fa fa102_3 rfl) rfl ?_
      refine GD.one rfl .no (S1.ldI sc3 rfl (.at (.s (.s (.s (.s (.s .z)))))) (by omega)) rfl ?_
      refine GD.one rfl .no (S1.addI rfl rfl (by omega) (by omega)) rfl ?_
      refine GD.one rfl .no (S1.geq rfl rfl) rfl ?_
      refine GD.callP rfl rfl .no fo85 .nil (fun h H => ct85) (.d (.c (v := (.bool _)) rfl (.c (v := (.int _ _)) rfl .n))) (fun _ q5 => ?_) (fun e5 q5 => ?_)
      refine GD.done rfl ?_
      refine GQ.on ?_
      refine GW.toSeq rfl ?_
      refine GW.toReg rfl ?_
      refine GL.one rfl .no (S1.fa fa117_9 rfl) ?_
      refine GL.one rfl .no (S1.ld sc3 rfl (.at .z) rfl) ?_
      refine GL.opN rfl .no (SN.bs el32 ez32 (.c (v := (.int _ _)) rfl rfl .n) rfl rfl) (fun a6 => ?_)
      refine GL.call rfl .no fo31 .nil (fun h H => ct31_1 (H.get (by repeat first | exact .z | apply At.s | apply At.sA))) (.d (.c (v := (.int _ _)) rfl (.c (v := (.int _ _)) rfl (.c (v := (.slice _ _ _)) rfl .n)))) (fun _ _ => ?_)
      refine GL.one rfl .no (S1.not rfl) ?_
      refine GL.callP rfl .no fo85 .nil (fun h H => ct85) (.d (.c (v := (.bool _)) rfl (.c (v := (.int _ _)) rfl .n))) (fun _ q9 => ?_) (fun e9 q9 => ?_)
      refine GL.done rfl ?_
      refine GQ.on ?_
      refine GW.toSeq rfl ?_
      refine GW.toDrw mx rfl ?_
      refine GD.one rfl .no (S1.mv (v := (.pointer _)) rfl) rfl ?_
      refine GD.one rfl .no (S1.nc rfl) rfl ?_
      refine GD.one rfl .no (S1.fa fa85_1 rfl) rfl ?_
      refine GD.one rfl .no (S1.fa fa49_2 rfl) rfl ?_
      refine GD.one rfl .no (S1.ld sc32 rfl (.at (.s (.s .z))) rfl) rfl ?_
      refine GD.one rfl .no (S1.mv (v := (.pointer _)) rfl) rfl ?_
      refine GD.one rfl .no (S1.nc rfl) rfl ?_
      refine GD.one rfl .no (S1.fa fa102_1 rfl) rfl ?_
      refine GD.one rfl .no (S1.ldI sc3 rfl (.at (.s (.s (.s (.s (.s (.s .z))))))) (by omega)) rfl ?_
      refine GD.one rfl .no (S1.ix el32 rfl rfl (by omega) (by omega)) rfl ?_
      refine GD.one rfl .no (S1.ldI sc3 rfl (.at (.s (.s (.s (.s .z))))) (by simp only [List.length_set]; omega)) rfl ?_
      refine GD.one rfl .no (S1.mv (v := (.pointer _)) rfl) rfl ?_
      refine GD.one rfl .no (S1.nc rfl) rfl ?_
      refine GD.one rfl .no (S1.fa fa85_0 rfl) rfl ?_
      refine GD.one rfl .no (S1.fa fa28_1 rfl) rfl ?_
      refine GD.one rfl .no (S1.ld sc23 rfl (.at (.s (.s .z))) rfl) rfl ?_
      refine GD.one rfl .no (S1.mv (v := (.pointer _)) rfl) rfl ?_
      refine GD.one rfl .no (S1.nc rfl) rfl ?_
      refine GD.one rfl .no (S1.fa fa102_1 rfl) rfl ?_
      refine GD.one rfl .no (S1.ldI sc3 rfl (.at (.s (.s (.s (.s (.s (.s .z))))))) (by omega)) rfl ?_
      refine GD.one rfl .no (S1.ixRI el23 hc rfl rfl (by omega)) rfl ?_
      refine GD.one rfl .no (S1.fa fa74_2 rfl) rfl ?_
      refine GD.one rfl .no (S1.ldCI sc3 (z := 4) hc rfl (m := (ls.getD (0 + k * 5 + 1) 0).toNat) (by omega) rfl (d := 2) rfl rfl) rfl ?_
      refine GD.one rfl .no (S1.leq rfl rfl) rfl ?_
      refine GD.callP rfl rfl .no fo85 .nil (fun h H => ct85) (.d (.c (v := (.bool _)) rfl (.c (v := (.int _ _)) rfl .n))) (fun _ q10 => ?_) (fun e10 q10 => ?_)
      refine GD.done rfl ?_
      refine GQ.on ?_
      refine GW.toSeq rfl ?_
      refine GW.toReg rfl ?_
      refine GL.one rfl .no (S1.mv (v := (.pointer _)) rfl) ?_
      refine GL.one rfl .no (S1.nc rfl) ?_
      refine GL.one rfl .no (S1.fa fa102_4 rfl) ?_
      refine GL.one rfl .no (S1.stI sc3 rfl rfl (by omega) (.s (.s (.s (.s (.s (.s .z))))))) ?_
      refine GL.done rfl ?_
      refine GQ.on ?_
      refine GW.toSeq rfl ?_
      refine GW.toDrw mx rfl ?_
      refine GD.one rfl .no (S1.mv (v := (.pointer _)) rfl) rfl ?_
      refine GD.one rfl .no (S1.nc rfl) rfl ?_
      refine GD.one rfl .no (S1.fa fa85_1 rfl) rfl ?_
      refine GD.one rfl .no (S1.fa fa49_1 rfl) rfl ?_
      refine GD.one rfl .no (S1.ld sc32 rfl (.at (.s (.s .z))) rfl) rfl ?_
      refine GD.one rfl .no (S1.mv (v := (.pointer _)) rfl) rfl ?_
      refine GD.one rfl .no (S1.nc rfl) rfl ?_
      refine GD.one rfl .no (S1.fa fa102_1 rfl) rfl ?_
      refine GD.one rfl .no (S1.ldI sc3 rfl (.at (.s (.s (.s (.s (.s (.s .z))))))) (by simp only [List.length_set]; omega)) rfl ?_
      refine GD.one rfl .no (S1.ixI el32 rfl rfl (by first | (simp only [Nat.add_zero]; omega) | (rw [getD_setI, if_neg (by omega)]; omega) | (simp only [Nat.add_zero]; rw [getD_setI, if_neg (by omega)]; omega))) rfl ?_
      refine GD.one rfl .no (S1.ldI sc3 rfl (.at (.s (.s (.s (.s (.s (.s (.s .z)))))))) (by first | (simp only [outB_ok, List.length_set] at *; omega) | (simp only [outB_ok] at *; omega) | (simp only [Nat.add_zero, List.length_set]; omega) | (rw [getD_setI, if_neg (by omega)]; omega) | (simp only [Nat.add_zero]; rw [getD_setI, if_neg (by omega)]; omega) | (simp only [Nat.add_zero, List.length_set]; rw [getD_setI, if_neg (by omega)]; omega))) rfl ?_
      refine GD.one rfl .no (S1.fa fa117_9 rfl) rfl ?_
      refine GD.one rfl .no (S1.ld sc3 rfl (.at (.s .z)) rfl) rfl ?_
      refine GD.one rfl .no (S1.add rfl rfl) rfl ?_
      refine GD.one rfl .no (S1.ixI el32 rfl rfl (by first | (simp only [Nat.add_zero]; omega) | (rw [getD_setI, if_neg (by omega)]; omega) | (simp only [Nat.add_zero]; rw [getD_setI, if_neg (by omega)]; omega))) rfl ?_
      refine GD.loud rfl .no (S1.stI sc3 rfl rfl (by first | (simp only [outB_ok, List.length_set] at *; omega) | (simp only [outB_ok] at *; omega) | (simp only [Nat.add_zero, List.length_set]; omega) | (rw [getD_setI, if_neg (by omega)]; omega) | (simp only [Nat.add_zero]; rw [getD_setI, if_neg (by omega)]; omega) | (simp only [Nat.add_zero, List.length_set]; rw [getD_setI, if_neg (by omega)]; omega)) (.s (.s (.s (.s (.s (.s (.s .z)))))))) rfl rfl (by kernel_rfl) ?_
      refine GD.done rfl ?_
      refine GQ.on ?_
      refine GW.toSeq rfl ?_
      refine GW.toDrw mx rfl ?_
      refine GD.one rfl .no (S1.mv (v := (.pointer _)) rfl) rfl ?_
      refine GD.one rfl .no (S1.nc rfl) rfl ?_
      refine GD.one rfl .no (S1.fa fa85_1 rfl) rfl ?_
      refine GD.one rfl .no (S1.fa fa49_2 rfl) rfl ?_
      refine GD.one rfl .no (S1.ld sc32 rfl (.at (.s (.s .z))) rfl) rfl ?_
      refine GD.one rfl .no (S1.mv (v := (.pointer _)) rfl) rfl ?_
      refine GD.one rfl .no (S1.nc rfl) rfl ?_
      refine GD.one rfl .no (S1.fa fa102_1 rfl) rfl ?_
      refine GD.one rfl .no (S1.ldI sc3 rfl (.at (.s (.s (.s (.s (.s (.s .z))))))) (by simp only [List.length_set]; omega)) rfl ?_
      refine GD.one rfl .no (S1.ixI el32 rfl rfl (by first | (simp only [Nat.add_zero]; omega) | (rw [getD_setI, if_neg (by omega)]; omega) | (simp only [Nat.add_zero]; rw [getD_setI, if_neg (by omega)]; omega))) rfl ?_
      refine GD.one rfl .no (S1.ldI sc3 rfl (.at (.s (.s (.s (.s .z))))) (by first | (simp only [outB_ok, List.length_set] at *; omega) | (simp only [outB_ok] at *; omega) | (simp only [Nat.add_zero, List.length_set]; omega) | (rw [getD_setI, if_neg (by omega)]; omega) | (simp only [Nat.add_zero]; rw [getD_setI, if_neg (by omega)]; omega) | (simp only [Nat.add_zero, List.length_set]; rw [getD_setI, if_neg (by omega)]; omega))) rfl ?_
      refine GD.one rfl .no (S1.fa fa117_9 rfl) rfl ?_
      refine GD.one rfl .no (S1.ld sc3 rfl (.at (.s .z)) rfl) rfl ?_
      refine GD.one rfl .no (S1.add rfl rfl) rfl ?_
      refine GD.one rfl .no (S1.ixI el32 rfl rfl (by first | (simp only [Nat.add_zero]; omega) | (rw [getD_setI, if_neg (by omega)]; omega) | (simp only [Nat.add_zero]; rw [getD_setI, if_neg (by omega)]; omega))) rfl ?_
      refine GD.loud rfl .no (S1.stI sc3 rfl rfl (by first | (simp only [outB_ok, List.length_set] at *; omega) | (simp only [outB_ok] at *; omega) | (simp only [Nat.add_zero, List.length_set]; omega) | (rw [getD_setI, if_neg (by omega)]; omega) | (simp only [Nat.add_zero]; rw [getD_setI, if_neg (by omega)]; omega) | (simp only [Nat.add_zero, List.length_set]; rw [getD_setI, if_neg (by omega)]; omega)) (.s (.s (.s (.s .z))))) rfl rfl (by kernel_rfl) ?_
      refine GD.done rfl ?_
      refine GQ.on ?_
      refine GW.toDrw mx rfl ?_
      refine GD.one rfl .no (S1.mv (v := (.pointer _)) rfl) rfl ?_
      refine GD.one rfl .no (S1.mv (v := (.pointer _)) rfl) rfl ?_
      refine GD.one rfl .no (S1.nc rfl) rfl ?_
      refine GD.one rfl .no (S1.fa fa102_0 rfl) rfl ?_
      refine GD.one rfl .no (S1.ldI sc3 rfl (.at (.s (.s (.s (.s (.s (.s .z))))))) (by simp only [List.length_set]; omega)) rfl ?_
      refine GD.one rfl .no (S1.mv (v := (.pointer _)) rfl) rfl ?_
      refine GD.call rfl .no fo114 .nil (fun h H => ct114 (H.get (by repeat first | exact .z | apply At.s | apply At.sA))) (.d (.c (v := (.pointer _)) rfl .n)) (fun _ _ => ?_)
      refine GD.one rfl .no (S1.mv (v := (.pointer _)) rfl) rfl ?_
      refine GD.one rfl .no (S1.nc rfl) rfl ?_
      refine GD.one rfl .no (S1.fa fa102_3 rfl) rfl ?_
      refine GD.one rfl .no (S1.ldI sc3 rfl (.at (.s (.s (.s (.s (.s (.s .z))))))) (by simp only [List.length_set]; omega)) rfl ?_
      refine GD.one rfl .no (S1.mv (v := (.pointer _)) rfl) rfl ?_
      refine GD.one rfl .no (S1.nc rfl) rfl ?_
      refine GD.one rfl .no (S1.fa fa85_0 rfl) rfl ?_
      refine GD.one rfl .no (S1.fa fa28_2 rfl) rfl ?_
      refine GD.one rfl .no (S1.ld sc3 rfl (.at (.s (.s .z))) rfl) rfl ?_
      refine GD.one rfl .no (S1.mul rfl rfl) rfl ?_
      refine GD.callF rfl .no fo113 (by kernel_rfl) (show Take _ ((b, _) :: (ar, _) :: pE) _ from (by repeat first | exact .nil | exact Take.tz | apply Take.cons (by repeat first | exact .z | apply Rem.s | apply Rem.sA) | apply Take.app (by repeat first | exact .nil | exact Take.tzA | exact Take.tz | apply Take.ts | apply Take.skA) | exact Take.tzA | apply Take.ts | apply Take.skA)) (fun h H => ct113i n3 (by omega) hac (by first | omega | (simp only [outB_ok] at *; omega) | (simp only [Nat.add_zero]; omega) | (rw [getD_setI, if_neg (by omega)]; omega) | (simp only [Nat.add_zero]; rw [getD_setI, if_neg (by omega)]; omega)) (by first | omega | (simp only [outB_ok] at *; omega) | (simp only [Nat.add_zero]; omega) | (rw [getD_setI, if_neg (by omega)]; omega) | (simp only [Nat.add_zero]; rw [getD_setI, if_neg (by omega)]; omega)) (H.give (show Take _ ((b, _) :: (ar, _) :: pE) _ from (by repeat first | exact .nil | exact Take.tz | apply Take.cons (by repeat first | exact .z | apply Rem.s | apply Rem.sA) | apply Take.app (by repeat first | exact .nil | exact Take.tzA | exact Take.tz | apply Take.ts | apply Take.skA) | exact Take.tzA | apply Take.ts | apply Take.skA)))) (.d (.c (v := (.pointer _)) rfl (.c (v := (.int _ _)) rfl (.c (v := (.int _ _)) rfl (.c (v := (.int _ _)) rfl .n))))) (fun y q => ?_)
      refine GD.done rfl ?_
      rotate_left
      refine GQ.onP ?_
      refine GQ.pan (_, ⟨mb, sr, ar, cl, m, p, tm, ev, rowS lr m, rowS kr s.cn, pv, [(lr, opRow (ints ls) 5)], [(kr, opRow (ints kl) 1)], pE, ls, kl, ps, si, ac, es⟩) rfl ⟨⟨.row h1 h2, n2, n3, lo, hsi, hac, him⟩, Nat.le_succ _, Nat.le_add_right _ _⟩ (by repeat first | exact .nil | exact Take.tz | apply Take.cons (by repeat first | exact .z | apply Rem.s | apply Rem.sA) | apply Take.app (by repeat first | exact .nil | exact Take.tzA | exact Take.tz | apply Take.ts | apply Take.skA) | exact Take.tzA | apply Take.ts | apply Take.skA)
      refine GQ.onP ?_
      refine GQ.pan (_, ⟨mb, sr, ar, cl, m, p, tm, ev, rowS lr m, rowS kr s.cn, pv, [(lr, opRow (ints ls) 5)], [(kr, opRow (ints kl) 1)], pE, ls, kl, ps, si, ac, es⟩) rfl ⟨⟨.row h1 h2, n2, n3, lo, hsi, hac, him⟩, Nat.le_succ _, Nat.le_add_right _ _⟩ (by repeat first | exact .nil | exact Take.tz | apply Take.cons (by repeat first | exact .z | apply Rem.s | apply Rem.sA) | apply Take.app (by repeat first | exact .nil | exact Take.tzA | exact Take.tz | apply Take.ts | apply Take.skA) | exact Take.tzA | apply Take.ts | apply Take.skA)
      refine GQ.onP ?_
      refine GQ.pan (_, ⟨mb, sr, ar, cl, m, p, tm, ev, rowS lr m, rowS kr s.cn, pv, [(lr, opRow (ints ls) 5)], [(kr, opRow (ints kl) 1)], pE, ls, kl, ps, si, ac, es⟩) rfl ⟨⟨.row h1 h2, n2, n3, lo, hsi, hac, him⟩, Nat.le_succ _, Nat.le_add_right _ _⟩ (by repeat first | exact .nil | exact Take.tz | apply Take.cons (by repeat first | exact .z | apply Rem.s | apply Rem.sA) | apply Take.app (by repeat first | exact .nil | exact Take.tzA | exact Take.tz | apply Take.ts | apply Take.skA) | exact Take.tzA | apply Take.ts | apply Take.skA)
      refine GQ.onP ?_
      refine GQ.pan (_, ⟨mb, sr, ar, cl, m, p, tm, ev, rowS lr m, rowS kr s.cn, pv, [(lr, opRow (ints ls) 5)], [(kr, opRow (ints kl) 1)], pE, ls, kl, ps, si, ac, es⟩) rfl ⟨⟨.row h1 h2, n2, n3, lo, hsi, hac, him⟩, Nat.le_succ _, Nat.le_add_right _ _⟩ (by repeat first | exact .nil | exact Take.tz | apply Take.cons (by repeat first | exact .z | apply Rem.s | apply Rem.sA) | apply Take.app (by repeat first | exact .nil | exact Take.tzA | exact Take.tz | apply Take.ts | apply Take.skA) | exact Take.tzA | apply Take.ts | apply Take.skA)
      have hn2 : ∀ K : List Int, K.length = kl.length → NR 1 (rowS kr s.cn) [(kr, opRow (ints K) 1)] s.cn K := fun K e => .row hcn (by rw [e]; exact hkl)
      refine GQ.retN ⟨mb, sr, ar, cl, m, y.2.2.1, tm, ev, rowS lr m, rowS kr s.cn, y.1, [(lr, opRow (ints (ls.set (0 + k * 5 + 4) 2)) 5)], [(kr, opRow (ints _) 1)], y.2.1, ls.set (0 + k * 5 + 4) 2, kl.set (0 + ((ls.set (0 + k * 5 + 4) 2).getD (0 + k * 5 + 1) 0).toNat * 1) (IntKind.i64.wrap (kl.getD (0 + ((ls.set (0 + k * 5 + 4) 2).getD (0 + k * 5 + 1) 0).toNat * 1) 0 + e9)), y.2.2.2.1, _, y.2.2.2.2, es⟩ .nil .z rfl ?_ (by repeat first | exact .nil | exact Take.tz | apply Take.cons (by repeat first | exact .z | apply Rem.s | apply Rem.sA) | apply Take.app (by repeat first | exact .nil | exact Take.tzA | exact Take.tz | apply Take.ts | apply Take.skA) | exact Take.tzA | apply Take.ts | apply Take.skA)
      refine ⟨⟨.row h1 (by rw [List.length_set]; exact h2), hn2 _ (by simp only [List.length_set]), q.1, by rw [Nat.zero_add]; exact lo.set4, by rw [List.length_set]; exact hsi, q.2.1, him⟩, Nat.le_succ _, ?_⟩
      have := q.2.2
      simp only
      omega
    · refine GW.toSeq rfl ?_
      refine GW.toReg rfl ?_
      refine GL.opN rfl .no (SN.bx (u := .agg ⟨_⟩) rfl .agg) (fun a13 => ?_)
      refine GL.done rfl ?_
      refine GQ.on ?_
      refine GW.toSeq rfl ?_
      refine GW.toReg rfl ?_
      refine GL.one rfl .no (S1.mv (v := (.pointer _)) rfl) ?_
      refine GL.one rfl .no (S1.fa fa117_4 rfl) ?_
      refine GL.one rfl .no (S1.ld sc3 rfl (.at .z) rfl) ?_
      refine GL.callP rfl .no fo112 .nil (fun h H => ct112i (by omega) lo (H.get (by repeat first | exact .z | apply At.s | apply At.sA)) (H.get (by repeat first | exact .z | apply At.s | apply At.sA))) (.d (.c (v := (.pointer _)) rfl (.c (v := (.int _ _)) rfl (.c (v := (.int _ _)) rfl .n)))) (fun k q14 => ?_) (fun e14 _ => ?_)
      refine GL.one rfl .no (S1.as (v := (.pointer _)) rfl) ?_
      refine GL.done rfl ?_
      refine GQ.on ?_
      refine GW.toSeq rfl ?_
      refine GW.toDrw mx rfl ?_
      refine GD.one rfl .no (S1.fa fa117_1 rfl) rfl ?_
      refine GD.one rfl .no (S1.ld sc3 rfl (.at .z) rfl) rfl ?_
      refine GD.one rfl .no (S1.mv (v := (.pointer _)) rfl) rfl ?_
      refine GD.one rfl .no (S1.nc rfl) rfl ?_
      refine GD.one rfl .no (S1.fa fa102_2 rfl) rfl ?_
      refine GD.one rfl .no (S1.ldI sc3 rfl (.at (.s (.s (.s (.s (.s .z)))))) (by omega)) rfl ?_
      refine GD.one rfl .no (S1.mv (v := (.pointer _)) rfl) rfl ?_
      refine GD.one rfl .no (S1.nc rfl) rfl ?_
      refine GD.one rfl .no (S1.fa fa102_3 rfl) rfl ?_
      refine GD.one rfl .no (S1.ldI sc3 rfl (.at (.s (.s (.s (.s (.s .z)))))) (by omega)) rfl ?_
      refine GD.one rfl .no (S1.addI rfl rfl (by omega) (by omega)) rfl ?_
      refine GD.one rfl .no (S1.geq rfl rfl) rfl ?_
      refine GD.callP rfl rfl .no fo85 .nil (fun h H => ct85) (.d (.c (v := (.bool _)) rfl (.c (v := (.int _ _)) rfl .n))) (fun _ q15 => ?_) (fun e15 q15 => ?_)
      refine GD.done rfl ?_
      refine GQ.on ?_
      refine GW.toSeq rfl ?_
      refine GW.toReg rfl ?_
      refine GL.one rfl .no (S1.fa fa117_9 rfl) ?_
      refine GL.one rfl .no (S1.ld sc3 rfl (.at .z) rfl) ?_
      refine GL.opN rfl .no (SN.bs el32 ez32 (.c (v := (.int _ _)) rfl rfl .n) rfl rfl) (fun a16 => ?_)
      refine GL.call rfl .no fo31 .nil (fun h H => ct31_1 (H.get (by repeat first | exact .z | apply At.s | apply At.sA))) (.d (.c (v := (.int _ _)) rfl (.c (v := (.int _ _)) rfl (.c (v := (.slice _ _ _)) rfl .n)))) (fun _ _ => ?_)
      refine GL.one rfl .no (S1.not rfl) ?_
      refine GL.callP rfl .no fo85 .nil (fun h H => ct85) (.d (.c (v := (.bool _)) rfl (.c (v := (.int _ _)) rfl .n))) (fun _ q19 => ?_) (fun e19 q19 => ?_)
      refine GL.done rfl ?_
      refine GQ.on ?_
      refine GW.toSeq rfl ?_
      refine GW.toDrw mx rfl ?_
      refine GD.one rfl .no (S1.mv (v := (.pointer _)) rfl) rfl ?_
      refine GD.one rfl .no (S1.nc rfl) rfl ?_
      refine GD.one rfl .no (S1.fa fa85_1 rfl) rfl ?_
      refine GD.one rfl .no (S1.fa fa49_2 rfl) rfl ?_
      refine GD.one rfl .no (S1.ld sc32 rfl (.at (.s (.s .z))) rfl) rfl ?_
      refine GD.one rfl .no (S1.mv (v := (.pointer _)) rfl) rfl ?_
      refine GD.one rfl .no (S1.nc rfl) rfl ?_
      refine GD.one rfl .no (S1.fa fa102_1 rfl) rfl ?_
      refine GD.one rfl .no (S1.ldI sc3 rfl (.at (.s (.s (.s (.s (.s (.s .z))))))) (by omega)) rfl ?_
      refine GD.one rfl .no (S1.ix el32 rfl rfl (by omega) (by omega)) rfl ?_
      refine GD.one rfl .no (S1.ldI sc3 rfl (.at (.s (.s (.s (.s .z))))) (by omega)) rfl ?_
      refine GD.one rfl .no (S1.mv (v := (.pointer _)) rfl) rfl ?_
      refine GD.one rfl .no (S1.nc rfl) rfl ?_
      refine GD.one rfl .no (S1.fa fa85_0 rfl) rfl ?_
      refine GD.one rfl .no (S1.fa fa28_1 rfl) rfl ?_
      refine GD.one rfl .no (S1.ld sc23 rfl (.at (.s (.s .z))) rfl) rfl ?_
      refine GD.one rfl .no (S1.mv (v := (.pointer _)) rfl) rfl ?_
      refine GD.one rfl .no (S1.nc rfl) rfl ?_
      refine GD.one rfl .no (S1.fa fa102_1 rfl) rfl ?_
      refine GD.one rfl .no (S1.ldI sc3 rfl (.at (.s (.s (.s (.s (.s (.s .z))))))) (by omega)) rfl ?_
      refine GD.one rfl .no (S1.ixRI el23 hc rfl rfl (by omega)) rfl ?_
      refine GD.one rfl .no (S1.fa fa74_2 rfl) rfl ?_
      refine GD.one rfl .no (S1.ldCI sc3 (z := 4) hc rfl (m := (ls.getD (0 + k * 5 + 1) 0).toNat) (by omega) rfl (d := 2) rfl rfl) rfl ?_
      refine GD.one rfl .no (S1.leq rfl rfl) rfl ?_
      refine GD.callP rfl rfl .no fo85 .nil (fun h H => ct85) (.d (.c (v := (.bool _)) rfl (.c (v := (.int _ _)) rfl .n))) (fun _ q20 => ?_) (fun e20 q20 => ?_)
      refine GD.done rfl ?_
      refine GQ.on ?_
      refine GW.toSeq rfl ?_
      refine GW.toReg rfl ?_
      refine GL.one rfl .no (S1.mv (v := (.pointer _)) rfl) ?_
      refine GL.one rfl .no (S1.nc rfl) ?_
      refine GL.one rfl .no (S1.fa fa102_4 rfl) ?_
      refine GL.one rfl .no (S1.stI sc3 rfl rfl (by omega) (.s (.s (.s (.s (.s (.s .z))))))) ?_
      refine GL.done rfl ?_
      refine GQ.on ?_
      refine GW.toSeq rfl ?_
      refine GW.toDrw mx rfl ?_
      refine GD.one rfl .no (S1.mv (v := (.pointer _)) rfl) rfl ?_
      refine GD.one rfl .no (S1.nc rfl) rfl ?_
      refine GD.one rfl .no (S1.fa fa85_1 rfl) rfl ?_
      refine GD.one rfl .no (S1.fa fa49_1 rfl) rfl ?_
      refine GD.one rfl .no (S1.ld sc32 rfl (.at (.s (.s .z))) rfl) rfl ?_
      refine GD.one rfl .no (S1.mv (v := (.pointer _)) rfl) rfl ?_
      refine GD.one rfl .no (S1.nc rfl) rfl ?_
      refine GD.one rfl .no (S1.fa fa102_1 rfl) rfl ?_
      refine GD.one rfl .no (S1.ldI sc3 rfl (.at (.s (.s (.s (.s (.s (.s .z))))))) (by omega)) rfl ?_
      (exfalso; omega)
      refine GQ.onP ?_
      refine GQ.pan (_, ⟨mb, sr, ar, cl, m, p, tm, ev, rowS lr m, kv, pv, [(lr, opRow (ints ls) 5)], kE, pE, ls, kl, ps, si, ac, es⟩) rfl ⟨⟨.row h1 h2, n2, n3, lo, hsi, hac, him⟩, Nat.le_succ _, Nat.le_add_right _ _⟩ (by repeat first | exact .nil | exact Take.tz | apply Take.cons (by repeat first | exact .z | apply Rem.s | apply Rem.sA) | apply Take.app (by repeat first | exact .nil | exact Take.tzA | exact Take.tz | apply Take.ts | apply Take.skA) | exact Take.tzA | apply Take.ts | apply Take.skA)
      refine GQ.onP ?_
      refine GQ.pan (_, ⟨mb, sr, ar, cl, m, p, tm, ev, rowS lr m, kv, pv, [(lr, opRow (ints ls) 5)], kE, pE, ls, kl, ps, si, ac, es⟩) rfl ⟨⟨.row h1 h2, n2, n3, lo, hsi, hac, him⟩, Nat.le_succ _, Nat.le_add_right _ _⟩ (by repeat first | exact .nil | exact Take.tz | apply Take.cons (by repeat first | exact .z | apply Rem.s | apply Rem.sA) | apply Take.app (by repeat first | exact .nil | exact Take.tzA | exact Take.tz | apply Take.ts | apply Take.skA) | exact Take.tzA | apply Take.ts | apply Take.skA)
      refine GQ.onP ?_
      refine GQ.pan (_, ⟨mb, sr, ar, cl, m, p, tm, ev, rowS lr m, kv, pv, [(lr, opRow (ints ls) 5)], kE, pE, ls, kl, ps, si, ac, es⟩) rfl ⟨⟨.row h1 h2, n2, n3, lo, hsi, hac, him⟩, Nat.le_succ _, Nat.le_add_right _ _⟩ (by repeat first | exact .nil | exact Take.tz | apply Take.cons (by repeat first | exact .z | apply Rem.s | apply Rem.sA) | apply Take.app (by repeat first | exact .nil | exact Take.tzA | exact Take.tz | apply Take.ts | apply Take.skA) | exact Take.tzA | apply Take.ts | apply Take.skA)
      refine GQ.onP ?_
      refine GQ.pan (_, ⟨mb, sr, ar, cl, m, p, tm, ev, rowS lr m, kv, pv, [(lr, opRow (ints ls) 5)], kE, pE, ls, kl, ps, si, ac, es⟩) rfl ⟨⟨.row h1 h2, n2, n3, lo, hsi, hac, him⟩, Nat.le_succ _, Nat.le_add_right _ _⟩ (by repeat first | exact .nil | exact Take.tz | apply Take.cons (by repeat first | exact .z | apply Rem.s | apply Rem.sA) | apply Take.app (by repeat first | exact .nil | exact Take.tzA | exact Take.tz | apply Take.ts | apply Take.skA) | exact Take.tzA | apply Take.ts | apply Take.skA)
end
end Go.Proofs.YtkpbpfnmgnpfaaaGreat
