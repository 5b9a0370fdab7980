/- B1: contracts: out, IndexFunc, ContainsFunc over integers. -/
import Derived.Test.YtadgfnnkpddneaaGreatFA
import Derived.Test.YtadgfnnkpddneaaGreatGC
set_option linter.all false
set_option linter.constructorNameAsVariable false
set_option linter.unusedSimpArgs false
set_option linter.unusedVariables false
set_option linter.unusedSectionVars false
set_option linter.unnecessarySimpa false
namespace Go.Proofs.YtadgfnnkpddneaaGreat
open Go Go.E
set_option maxRecDepth 100000

theorem ct86 {h : EH} {lo hi n : Int} {b1 b2 : Nat} (h1 : h[b1]? = some (.cells [.int .i64 lo] none true)) (h2 : h[b2]? = some (.cells [.int .i64 hi] none true)) :
    Ct Tryz.prog 86 ⟨[.int .i64 n, .pointer (some ⟨b1, 0, none⟩), .pointer (some ⟨b2, 0, none⟩)]⟩ h [] (fun _ : Unit => .bool (decide (n < lo) || decide (hi < n))) (fun _ => True) (fun _ => []) := by
  refine Ct.go Tryz.func86 rfl rfl co86 (Hp.start (hr := fun _ => none) (by simp)) ?_
  refine GW.sr rfl rfl ?_
  refine GL.o rfl (S1.asB rfl) ?_
  refine GL.dn rfl ?_
  refine GW.sr rfl rfl ?_
  refine GL.o rfl (S1.mvI rfl) ?_
  refine GL.o rfl (S1.ld sc3 rfl (.old0 h1) rfl) ?_
  refine GL.o rfl (S1.lss rfl rfl) ?_
  refine GL.o rfl (S1.mvB rfl) ?_
  refine GL.splitD 8 rfl (fun w1 => ?_) (fun w1 => ?_)
  refine GL.skip rfl (.not rfl rfl rfl) ?_
  refine GL.skip rfl (.not rfl rfl rfl) ?_
  refine GL.skip rfl (.not rfl rfl rfl) ?_
  refine GL.o rfl (S1.pickT (v := (.bool _)) rfl rfl) ?_
  refine GL.o rfl (S1.asB rfl) ?_
  refine GL.dn rfl ?_
  refine GW.toRet rfl ?_
  refine GQ.ret () (.tmp (v := (.bool _)) rfl rfl .nil) .one ?_ ?_ .nil
  rotate_left
  exact trivial
  refine GL.one rfl (.yes rfl rfl rfl) (S1.mvI rfl) ?_
  refine GL.one rfl (.yes rfl rfl rfl) (S1.ld sc3 rfl (.old0 h2) rfl) ?_
  refine GL.one rfl (.yes rfl rfl rfl) (S1.gtr rfl rfl) ?_
  refine GL.o rfl (S1.pickF (v := (.bool _)) rfl rfl) ?_
  refine GL.o rfl (S1.asB rfl) ?_
  refine GL.dn rfl ?_
  refine GW.toRet rfl ?_
  refine GQ.ret () (.tmp (v := (.bool _)) rfl rfl .nil) .one ?_ ?_ .nil
  rotate_left
  exact trivial
  all_goals simp [*]

end Go.Proofs.YtadgfnnkpddneaaGreat
namespace Go.Proofs.YtadgfnnkpddneaaGreat
open Go Go.E
set_option maxRecDepth 100000


theorem ct96 {h : EH} {a : Option Addr} {n c b o g : Nat} {vs : List Value} {opn : Option Nat} {wr : Bool} {x : Nat → Int} {R : Nat → Bool → Prop} {fs cs : List Value} (hn : n ≤ 1073741824) (hf : fnOk Tryz.prog g = true)
    (ha : 0 < n → a = some ⟨b, o, none⟩ ∧ h[b]? = some (.cells vs opn wr) ∧ ∀ k, k < n → vs[o + k * 1]? = some (.int .i64 (x k)))
    (hg : ∀ (h' : EH) (k : Nat), k < n → Ext h h' → Ct Tryz.prog g ⟨fs ++ ([.int .i64 (x k)] ++ cs)⟩ h' [] (fun r : Bool => .bool r) (R k) (fun _ => [])) :
    Ct Tryz.prog 96 ⟨[.slice a n c, .func (.func g) ⟨fs⟩ ⟨cs⟩]⟩ h [] (fun r : Int => .int .i64 r) (fun r => (r = -1 ∧ ∀ k, k < n → R k false) ∨ ∃ k, k < n ∧ r = (k : Int) ∧ R k true) (fun _ => []) := by
  refine Ct.go Tryz.func96 rfl rfl co96 (Hp.start (hr := fun _ => none) (by simp)) ?_
  refine GW.sr rfl rfl ?_
  refine GL.o rfl (S1.asI rfl) ?_
  refine GL.dn rfl ?_
  refine GW.toSeq rfl ?_
  refine GW.sr rfl rfl ?_
  refine GL.o rfl (S1.mvL rfl) ?_
  refine GL.o rfl (S1.len el23 rfl) ?_
  refine GL.o rfl (S1.mvI rfl) ?_
  refine GL.dn rfl ?_
  refine GW.toBlock rfl ?_
  refine GW.toLoop (fun k : Nat => [(0, .slice a n c), (1, .func (.func g) ⟨fs⟩ ⟨cs⟩), (7, .int .i64 n), (8, .int .i64 k)]) (fun _ => []) (fun k => k ≤ n ∧ ∀ j, j < k → R j false) (fun k => n - k) rfl 0 ⟨Nat.zero_le _, fun j hj => by omega⟩ (.c rfl (.c rfl (.c rfl (.c rfl .n)))) .nil ?_
  rintro k f ⟨hk, hp⟩
  refine GW.sr rfl rfl ?_
  refine GL.o rfl (S1.lss rfl rfl) ?_
  refine GL.dn rfl ?_
  refine GW.toSeq rfl ?_
  refine GW.toD rfl rfl (fun w1 => ?_) (fun w1 => ?_)
  refine GW.toSkip rfl ?_
  refine GQ.on ?_
  refine GW.toSeq rfl ?_
  refine GW.toBlock rfl ?_
  refine GW.sr rfl rfl ?_
  refine GL.o rfl (S1.mvI rfl) ?_
  refine GL.o rfl (S1.asI rfl) ?_
  refine GL.dn rfl ?_
  refine GW.sr rfl rfl ?_
  refine GL.o rfl (S1.mvF rfl) ?_
  refine GL.o rfl (S1.mvL rfl) ?_
  refine GL.o rfl (S1.mvI rfl) ?_
  rotate_left
  refine GW.toExit rfl ?_
  refine GQ.onE ?_
  refine GQ.onE ?_
  refine GQ.outH ?_
  refine GQ.on ?_
  refine GW.sr rfl rfl ?_
  refine GL.o rfl (S1.asI rfl) ?_
  refine GL.dn rfl ?_
  refine GW.toRet rfl ?_
  refine GQ.ret (-1) (.tmp (v := (.int _ _)) rfl rfl .nil) .one ?_ ?_ .nil
  rfl
  rotate_left
  · obtain ⟨rfl, hb, hx⟩ := ha (by omega)
    refine GL.o rfl (S1.ixN el23 rfl rfl (by omega)) ?_
    refine GL.o rfl (S1.ld sc3 rfl (.old0 hb) (hx _ (by omega))) ?_
    refine GL.call rfl .no hf .nil (fun h H => hg _ k (by omega) H.ext) (.v rfl (.c (v := (.int _ _)) rfl .n)) ((fun v r => ?_))
    refine GL.dn rfl ?_
    refine GW.toC rfl rfl (fun w3 => ?_) (fun w3 => ?_)
    refine GW.sr rfl rfl ?_
    refine GL.o rfl (S1.mvI rfl) ?_
    refine GL.o rfl (S1.asI rfl) ?_
    refine GL.dn rfl ?_
    refine GW.toRet rfl ?_
    refine GQ.outR ?_
    refine GQ.onR ?_
    refine GQ.onR ?_
    refine GQ.outR ?_
    refine GQ.onR ?_
    refine GQ.ret (k : Int) (.tmp (v := (.int _ _)) rfl rfl .nil) .one ?_ ?_ .nil
    rfl
    rotate_left
    refine GW.toSkip rfl ?_
    refine GQ.outN ?_
    refine GQ.on ?_
    refine GW.toReg rfl ?_
    refine GL.o rfl (S1.inc rfl rfl (by omega)) ?_
    refine GL.o rfl (S1.mvI rfl) ?_
    refine GL.done rfl ?_
    rotate_left
    · exact .inr ⟨k, by omega, rfl, by simp_all⟩
    · refine GQ.next (k + 1) ⟨by omega, fun j hj => ?_⟩ (by omega) (.c rfl (.c rfl (.c rfl (.c rfl .n)))) .nil
      by_cases e : j = k
      · simp_all
      · exact hp j (by omega)
  · exact .inl ⟨rfl, fun j hj => hp j (by omega)⟩


theorem ct85 {h : EH} {a : Option Addr} {n c b o g : Nat} {vs : List Value} {opn : Option Nat} {wr : Bool} {x : Nat → Int} {R : Nat → Bool → Prop} {fs cs : List Value} (hn : n ≤ 1073741824) (hf : fnOk Tryz.prog g = true)
    (ha : 0 < n → a = some ⟨b, o, none⟩ ∧ h[b]? = some (.cells vs opn wr) ∧ ∀ k, k < n → vs[o + k * 1]? = some (.int .i64 (x k)))
    (hg : ∀ (h' : EH) (k : Nat), k < n → Ext h h' → Ct Tryz.prog g ⟨fs ++ ([.int .i64 (x k)] ++ cs)⟩ h' [] (fun r : Bool => .bool r) (R k) (fun _ => [])) :
    Ct Tryz.prog 85 ⟨[.slice a n c, .func (.func g) ⟨fs⟩ ⟨cs⟩]⟩ h [] (fun r : Bool => .bool r) (fun r => (r = false → ∀ k, k < n → R k false) ∧ (r = true → ∃ k, k < n ∧ R k true)) (fun _ => []) := by
  refine Ct.go Tryz.func85 rfl rfl co85 (Hp.start (hr := fun _ => none) (by simp)) ?_
  refine GW.sr rfl rfl ?_
  refine GL.o rfl (S1.asB rfl) ?_
  refine GL.dn rfl ?_
  refine GW.sr rfl rfl ?_
  refine GL.o rfl (S1.mvL rfl) ?_
  refine GL.o rfl (S1.mvF rfl) ?_
  refine GL.call rfl .no fo96 .nil (fun h H => ct96 hn hf (fun q => ⟨(ha q).1, H.ext _ _ (ha q).2.1, (ha q).2.2⟩) (fun h'' k hk e => hg h'' k hk (H.ext.trans e))) (.d (.c (v := (.slice _ _ _)) rfl (.c (v := (.func _ _ _)) rfl .n))) (fun r1 q1 => ?_)
  refine GL.o rfl (S1.geq rfl rfl) ?_
  refine GL.o rfl (S1.asB rfl) ?_
  refine GL.dn rfl ?_
  refine GW.toRet rfl ?_
  refine GQ.ret (decide (0 ≤ r1)) (.tmp (v := (.bool _)) rfl rfl .nil) .one ?_ ?_ .nil
  rfl
  rcases q1 with ⟨rfl, q⟩ | ⟨k, hk, rfl, q⟩
  · exact ⟨fun _ => q, by simp⟩
  · exact ⟨by simp, fun _ => ⟨k, hk, q⟩⟩

theorem ct44 {h : EH} {lo hi : Int} {a : Option Addr} {n c b o : Nat} {vs : List Value} {opn : Option Nat} {wr : Bool} {x : Nat → Int} (hn : n ≤ 1073741824)
    (ha : 0 < n → a = some ⟨b, o, none⟩ ∧ h[b]? = some (.cells vs opn wr) ∧ ∀ k, k < n → vs[o + k * 1]? = some (.int .i64 (x k))) :
    Ct Tryz.prog 44 ⟨[.int .i64 lo, .int .i64 hi, .slice a n c]⟩ h [] (fun r : Bool => .bool r) (fun r => (r = false → ∀ k, k < n → outB lo hi (x k) = false) ∧ (r = true → ∃ k, k < n ∧ outB lo hi (x k) = true)) (fun _ => []) := by
  refine Ct.go Tryz.func44 rfl rfl co44 (Hp.start (hr := fun _ => none) (by simp)) ?_
  refine GW.sr rfl rfl ?_
  refine GL.opN rfl .no (SN.bx (u := (.int _ _)) rfl (.one rfl)) (fun a1 => ?_)
  refine GL.opN rfl .no (SN.bx (u := (.int _ _)) rfl (.one rfl)) (fun a2 => ?_)
  refine GL.o rfl (S1.asB rfl) ?_
  refine GL.dn rfl ?_
  refine GW.sr rfl rfl ?_
  refine GL.o rfl (S1.mvL rfl) ?_
  refine GL.o rfl (S1.mf .n (.c (v := (.pointer _)) rfl (.c (v := (.pointer _)) rfl .n))) ?_
  refine GL.call rfl .no fo85 .nil (fun h H => ct85 (R := fun k r => outB lo hi (x k) = r) hn fo86 (fun q => ⟨(ha q).1, H.ext _ _ (ha q).2.1, (ha q).2.2⟩) (fun h'' k hk e => (ct86 (e _ _ (H.get (.s .z))) (e _ _ (H.get .z))).toBool rfl)) (.d (.c rfl (.c (v := .func _ ⟨[]⟩ ⟨[_, _]⟩) rfl .n))) (fun r q => ?_)
  refine GL.o rfl (S1.asB rfl) ?_
  refine GL.dn rfl ?_
  refine GW.toRet rfl ?_
  refine GQ.ret r (.tmp (v := (.bool _)) rfl rfl .nil) .one ?_ ?_ .nil
  rfl
  assumption

theorem ct44_1 {h : EH} {lo hi p : Int} {b : Nat} (hb : h[b]? = some (.cells [.int .i64 p] none true)) : Ct Tryz.prog 44 ⟨[.int .i64 lo, .int .i64 hi, .slice (some ⟨b, 0, none⟩) 1 1]⟩ h [] (fun _ : Unit => .bool (outB lo hi p)) (fun _ => True) (fun _ => []) := by
  refine (ct44 (lo := lo) (hi := hi) (n := 1) (c := 1) (x := fun _ => p) (by omega) fun _ => ⟨rfl, hb, fun k hk => ?_⟩).mono fun r q => ⟨(), ?_, trivial, rfl⟩
  · have : k = 0 := by omega
    subst this; rfl
  · cases r with
    | false => rw [q.1 rfl 0 (by omega)]
    | true =>
      obtain ⟨k, _, e⟩ := q.2 rfl
      rw [e]
theorem ct44_2 {h : EH} {lo hi p q : Int} {b : Nat} (hb : h[b]? = some (.cells [.int .i64 p, .int .i64 q] none true)) : Ct Tryz.prog 44 ⟨[.int .i64 lo, .int .i64 hi, .slice (some ⟨b, 0, none⟩) 2 2]⟩ h [] (fun _ : Unit => .bool (outB lo hi p || outB lo hi q)) (fun _ => True) (fun _ => []) := by
  refine (ct44 (lo := lo) (hi := hi) (n := 2) (c := 2) (x := fun k => if k = 0 then p else q) (by omega) fun _ => ⟨rfl, hb, fun k hk => ?_⟩).mono fun r w => ⟨(), ?_, trivial, rfl⟩
  · rcases (by omega : k = 0 ∨ k = 1) with rfl | rfl <;> rfl
  · cases r with
    | false =>
      have h0 := w.1 rfl 0 (by omega)
      have h1 := w.1 rfl 1 (by omega)
      simp at h0 h1
      simp [h0, h1]
    | true =>
      obtain ⟨k, hk, e⟩ := w.2 rfl
      rcases (by omega : k = 0 ∨ k = 1) with rfl | rfl <;> simp at e <;> simp [e]
end Go.Proofs.YtadgfnnkpddneaaGreat
namespace Go.Proofs.YtadgfnnkpddneaaGreat
open Go Go.E
set_option maxRecDepth 100000

theorem ct40 {h : EH} {p1 p2 p3 p4 : Option Addr} {n m : Nat} {ns : List Int} {ss : List ByteArray} (hn : n = ns.length) (hm : m = ss.length) (hn3 : n ≤ 1073741824) (hm3 : m ≤ 1073741824) (q1 : Qrow h p1 (ints ns)) (q2 : Qrow h p2 (strs ss)) (q3 : Qrow h p3 (ints ns)) (q4 : Qrow h p4 (strs ss)) :
    Ct Tryz.prog 40 ⟨[.agg ⟨[.slice p1 n n, .slice p2 m m]⟩, .agg ⟨[.slice p3 n n, .slice p4 m m]⟩]⟩ h [] (fun _ : Unit => .bool true) (fun _ => True) (fun _ => []) := by
  refine Ct.go Tryz.func40 rfl rfl co40 (Hp.start (hr := fun _ => none) (by simp)) ?_
  refine GW.sr rfl rfl ?_
  refine GL.opN rfl .no (SN.bx (u := .agg ⟨_⟩) rfl .agg) (fun a1 => ?_)
  refine GL.opN rfl .no (SN.bx (u := .agg ⟨_⟩) rfl .agg) (fun a2 => ?_)
  refine GL.o rfl (S1.asB rfl) ?_
  refine GL.dn rfl ?_
  refine GW.toSeq rfl ?_
  refine GW.sr rfl rfl ?_
  refine GL.o rfl (S1.fa fa32_0 rfl) ?_
  refine GL.o rfl (S1.ld sc23 rfl (.at (.s .z)) rfl) ?_
  refine GL.o rfl (S1.len el23 rfl) ?_
  refine GL.o rfl (S1.fa fa32_0 rfl) ?_
  refine GL.o rfl (S1.ld sc23 rfl (.at .z) rfl) ?_
  refine GL.o rfl (S1.len el23 rfl) ?_
  refine GL.o rfl (S1.neq rfl rfl) ?_
  refine GL.o rfl (S1.mvB rfl) ?_
  refine GL.splitD 14 rfl (fun w3 => ?_) (fun w3 => ?_)
  refine GL.skip rfl (.not rfl rfl rfl) ?_
  refine GL.skip rfl (.not rfl rfl rfl) ?_
  refine GL.skip rfl (.not rfl rfl rfl) ?_
  refine GL.skip rfl (.not rfl rfl rfl) ?_
  refine GL.skip rfl (.not rfl rfl rfl) ?_
  refine GL.skip rfl (.not rfl rfl rfl) ?_
  refine GL.skip rfl (.not rfl rfl rfl) ?_
  refine GL.o rfl (S1.pickT (v := (.bool _)) rfl rfl) ?_
  refine GL.dn rfl ?_
  refine GW.toT rfl rfl ?_
  refine GW.sr rfl rfl ?_
  refine GL.o rfl (S1.asB rfl) ?_
  refine GL.dn rfl ?_
  refine GW.toRet rfl ?_
  refine GQ.onR ?_
  refine GQ.ret () (.tmp (v := (.bool _)) rfl rfl .nil) .one ?_ ?_ .nil
  omega
  exact trivial
  refine GL.one rfl (.yes rfl rfl rfl) (S1.fa fa32_1 rfl) ?_
  refine GL.one rfl (.yes rfl rfl rfl) (S1.ld sc30 rfl (.at (.s .z)) rfl) ?_
  refine GL.one rfl (.yes rfl rfl rfl) (S1.len el30 rfl) ?_
  refine GL.one rfl (.yes rfl rfl rfl) (S1.fa fa32_1 rfl) ?_
  refine GL.one rfl (.yes rfl rfl rfl) (S1.ld sc30 rfl (.at .z) rfl) ?_
  refine GL.one rfl (.yes rfl rfl rfl) (S1.len el30 rfl) ?_
  refine GL.one rfl (.yes rfl rfl rfl) (S1.neq rfl rfl) ?_
  refine GL.o rfl (S1.pickF (v := (.bool _)) rfl rfl) ?_
  refine GL.dn rfl ?_
  refine GW.toD rfl rfl (fun w4 => ?_) (fun w4 => ?_)
  refine GW.sr rfl rfl ?_
  refine GL.o rfl (S1.asB rfl) ?_
  refine GL.dn rfl ?_
  refine GW.toRet rfl ?_
  refine GQ.onR ?_
  refine GQ.ret () (.tmp (v := (.bool _)) rfl rfl .nil) .one ?_ ?_ .nil
  omega
  exact trivial
  refine GW.toSkip rfl ?_
  refine GQ.on ?_
  refine GW.toSeq rfl ?_
  refine GW.sr rfl rfl ?_
  refine GL.o rfl (S1.asI rfl) ?_
  refine GL.dn rfl ?_
  refine GW.toBlock rfl ?_
  refine GW.toLoop (fun i : Nat => [(2, .pointer (some ⟨a1, 0, none⟩)), (3, .pointer (some ⟨a2, 0, none⟩)), (5, .int .i64 i)]) (fun _ => [(a1, .cells [.slice p1 n n, .slice p2 m m] none true), (a2, .cells [.slice p3 n n, .slice p4 m m] none true)]) (fun i => i ≤ n) (fun i => n - i) rfl 0 (Nat.zero_le _) (.c rfl (.c rfl (.c rfl .n))) (.cons (.s .z) .tz) ?_
  rintro i f hi0
  refine GW.toSeq rfl ?_
  refine GW.sr rfl rfl ?_
  refine GL.o rfl (S1.mvI rfl) ?_
  refine GL.o rfl (S1.fa fa32_0 rfl) ?_
  refine GL.o rfl (S1.ld sc23 rfl (.at .z) rfl) ?_
  refine GL.o rfl (S1.len el23 rfl) ?_
  refine GL.o rfl (S1.lss rfl rfl) ?_
  refine GL.dn rfl ?_
  refine GW.toD rfl rfl (fun w5 => ?_) (fun w5 => ?_)
  refine GW.toSkip rfl ?_
  refine GQ.on ?_
  refine GW.toSeq rfl ?_
  refine GW.toBlock rfl ?_
  refine GW.toSeq rfl ?_
  refine GW.toDrw mx rfl ?_
  refine GD.o rfl (S1.fa fa32_0 rfl) rfl ?_
  refine GD.o rfl (S1.ld sc23 rfl (.at .z) rfl) rfl ?_
  refine GD.o rfl (S1.mvI rfl) rfl ?_
  rotate_left
  refine GW.toExit rfl ?_
  refine GQ.onE ?_
  refine GQ.onE ?_
  refine GQ.outH ?_
  refine GQ.on ?_
  refine GW.toSeq rfl ?_
  refine GW.sr rfl rfl ?_
  refine GL.o rfl (S1.asI rfl) ?_
  refine GL.dn rfl ?_
  refine GW.toBlock rfl ?_
  rotate_left
  · obtain ⟨b1, rfl, hb1⟩ := q1 (by rw [ints_len]; omega)
    obtain ⟨b3, rfl, hb3⟩ := q3 (by rw [ints_len]; omega)
    refine GD.o rfl (S1.ixN el23 rfl rfl (by omega)) rfl ?_
    refine GD.o rfl (S1.ld sc3 rfl (.old0 hb1) (ints_get (by omega))) rfl ?_
    refine GD.o rfl (S1.fa fa32_0 rfl) rfl ?_
    refine GD.o rfl (S1.ld sc23 rfl (.at (.s .z)) rfl) rfl ?_
    refine GD.o rfl (S1.mvI rfl) rfl ?_
    refine GD.o rfl (S1.ixN el23 rfl rfl (by omega)) rfl ?_
    refine GD.o rfl (S1.ld sc3 rfl (.old0 hb3) (ints_get (by omega))) rfl ?_
    refine GD.o rfl (S1.neq rfl rfl) rfl ?_
    refine GD.done rfl ?_
    refine GQ.on ?_
    refine GW.toD rfl rfl (fun w6 => ?_) (fun w6 => ?_)
    refine GW.sr rfl rfl ?_
    refine GL.o rfl (S1.asB rfl) ?_
    refine GL.dn rfl ?_
    refine GW.toRet rfl ?_
    refine GQ.outR ?_
    refine GQ.onR ?_
    refine GQ.onR ?_
    refine GQ.outR ?_
    refine GQ.onR ?_
    refine GQ.ret () (.tmp (v := (.bool _)) rfl rfl .nil) .one ?_ ?_ .nil
    omega
    exact trivial
    refine GW.toSkip rfl ?_
    refine GQ.outN ?_
    refine GQ.on ?_
    refine GW.toReg rfl ?_
    refine GL.o rfl (S1.mvI rfl) ?_
    refine GL.o rfl (S1.inc rfl rfl (by omega)) ?_
    refine GL.o rfl (S1.asI rfl) ?_
    refine GL.done rfl ?_
    refine GQ.next (i + 1) (by omega) (by omega) (.c rfl (.c rfl (.c rfl .n))) .tz
  refine GW.toLoop (fun i : Nat => [(2, .pointer (some ⟨a1, 0, none⟩)), (3, .pointer (some ⟨a2, 0, none⟩)), (6, .int .i64 i)]) (fun _ => [(a1, .cells [.slice p1 n n, .slice p2 m m] none true), (a2, .cells [.slice p3 n n, .slice p4 m m] none true)]) (fun i => i ≤ m) (fun i => m - i) rfl 0 (Nat.zero_le _) (.c rfl (.c rfl (.c rfl .n))) .tz ?_
  rintro j f2 hi1
  refine GW.toSeq rfl ?_
  refine GW.sr rfl rfl ?_
  refine GL.o rfl (S1.mvI rfl) ?_
  refine GL.o rfl (S1.fa fa32_1 rfl) ?_
  refine GL.o rfl (S1.ld sc30 rfl (.at .z) rfl) ?_
  refine GL.o rfl (S1.len el30 rfl) ?_
  refine GL.o rfl (S1.lss rfl rfl) ?_
  refine GL.dn rfl ?_
  refine GW.toD rfl rfl (fun w7 => ?_) (fun w7 => ?_)
  refine GW.toSkip rfl ?_
  refine GQ.on ?_
  refine GW.toSeq rfl ?_
  refine GW.toBlock rfl ?_
  refine GW.toSeq rfl ?_
  refine GW.toDrw mx rfl ?_
  refine GD.o rfl (S1.fa fa32_1 rfl) rfl ?_
  refine GD.o rfl (S1.ld sc30 rfl (.at .z) rfl) rfl ?_
  refine GD.o rfl (S1.mvI rfl) rfl ?_
  rotate_left
  refine GW.toExit rfl ?_
  refine GQ.onE ?_
  refine GQ.onE ?_
  refine GQ.outH ?_
  refine GQ.on ?_
  refine GW.sr rfl rfl ?_
  refine GL.o rfl (S1.asB rfl) ?_
  refine GL.dn rfl ?_
  refine GW.toRet rfl ?_
  refine GQ.ret () (.tmp (v := (.bool _)) rfl rfl .nil) .one ?_ ?_ .nil
  rfl
  exact trivial
  · obtain ⟨b1, rfl, hb1⟩ := q2 (by rw [strs_len]; omega)
    obtain ⟨b3, rfl, hb3⟩ := q4 (by rw [strs_len]; omega)
    refine GD.o rfl (S1.ixN el30 rfl rfl (by omega)) rfl ?_
    refine GD.o rfl (S1.ld sc9 rfl (.old0 hb1) (strs_get (by omega))) rfl ?_
    refine GD.o rfl (S1.fa fa32_1 rfl) rfl ?_
    refine GD.o rfl (S1.ld sc30 rfl (.at (.s .z)) rfl) rfl ?_
    refine GD.o rfl (S1.mvI rfl) rfl ?_
    refine GD.o rfl (S1.ixN el30 rfl rfl (by omega)) rfl ?_
    refine GD.o rfl (S1.ld sc9 rfl (.old0 hb3) (strs_get (by omega))) rfl ?_
    refine GD.o rfl (S1.sne rfl rfl) rfl ?_
    refine GD.done rfl ?_
    refine GQ.on ?_
    refine GW.toC rfl rfl (fun w8 => ?_) (fun w8 => ?_)
    refine GW.sr rfl rfl ?_
    refine GL.o rfl (S1.asB rfl) ?_
    refine GL.dn rfl ?_
    refine GW.toRet rfl ?_
    refine GQ.outR ?_
    refine GQ.onR ?_
    refine GQ.onR ?_
    refine GQ.outR ?_
    refine GQ.onR ?_
    refine GQ.ret () (.tmp (v := (.bool _)) rfl rfl .nil) .one ?_ ?_ .nil
    rotate_left
    exact trivial
    refine GW.toSkip rfl ?_
    refine GQ.outN ?_
    refine GQ.on ?_
    refine GW.toReg rfl ?_
    refine GL.o rfl (S1.mvI rfl) ?_
    refine GL.o rfl (S1.inc rfl rfl (by omega)) ?_
    refine GL.o rfl (S1.asI rfl) ?_
    refine GL.done rfl ?_
    refine GQ.next (j + 1) (by omega) (by omega) (.c rfl (.c rfl (.c rfl .n))) .tz
    all_goals simp_all

theorem ct5 {h : EH} {hr : RO} {xs : List Value} {xb g : Nat} {ns : List Int} {ss : List ByteArray} (hR : ∀ b o, hr b = some o → h[b]? = some o) (hx : h[xb]? = some (.cells xs none true)) (hxo : hr xb = none) (hf : fnOk Tryz.prog g = true)
    (hn : ns.length ≤ 1073741824) (hs : ss.length ≤ 1073741824) (D : ∀ xb hb h, GoodA hr xs zero2 xb hb h → Twice Tryz.prog g xb hb h ns ss) :
    Ct Tryz.prog 5 ⟨[.func (.func g) ⟨[]⟩ ⟨[.pointer (some ⟨xb, 0, none⟩)]⟩]⟩ h [] (fun _ : Unit => .bool true) (fun _ => True) (fun _ => []) := by
  refine Ct.go Tryz.func5 rfl rfl co5 (Hp.start hR) ?_
  refine GW.sr rfl rfl ?_
  refine GL.o rfl (S1.asB rfl) ?_
  refine GL.dn rfl ?_
  refine GW.sr rfl rfl ?_
  refine GL.opN rfl .no (SN.al zc32) (fun a1 => ?_)
  refine GL.opN rfl .no (SN.al zc32) (fun a2 => ?_)
  refine GL.dn rfl ?_
  refine GW.sr rfl rfl ?_
  refine GL.o rfl (S1.mvF rfl) ?_
  have good1 : ∀ H, Hp hr h [] [(a2, .cells zero2 none true), (a1, .cells zero2 none true)] H → GoodA hr xs zero2 xb a1 H := fun H K =>
    ⟨K.rom, K.old _ _ hx (by simp), K.get (.s .z), hxo, K.off _ (.tail _ (.head _)), by have := get_lt hx; have := K.own _ (.tail _ (.head _)); simp at this; omega⟩
  refine GL.callG (C' := fun (x : Nat × List Value) h1 => ∃ H v2 h2, Hp hr h [] [(a2, .cells zero2 none true), (a1, .cells zero2 none true)] H ∧ SndFn Tryz.prog x.1 ⟨x.2⟩ h1 (.ret v2) h2 ∧ H.length ≤ h2.length ∧ HS H.length h2 a1 ns ss ∧ Keep a1 H h2)
    (V := fun x => .func (.func x.1) ⟨[]⟩ ⟨x.2⟩) (R := fun x => fnOk Tryz.prog x.1 = true) rfl .no hf (fun H K => ?_) (.v rfl (.c (v := .pointer _) rfl .n)) (fun x hfw => ?_)
  · obtain ⟨fw, ⟨cs⟩, h1, v2, h2, k0, k1, k2, k3, k4, k5, k5', k6, k6'⟩ := D xb a1 H (good1 H K)
    exact ⟨_, _, k1, (fw, cs), rfl, k0, H, v2, h2, K, k2, Nat.le_trans k3 k4, k5', k6'⟩
  obtain ⟨fw, cs⟩ := x
  refine GL.o rfl (S1.asF rfl) ?_
  refine GL.dn rfl ?_
  refine GW.sr rfl rfl ?_
  refine GL.o rfl (S1.mvF rfl) ?_
  refine GL.callG (X := Value) (V := fun x => x) (R := fun _ => True) (C' := fun _ h2 => ∃ H, Hp hr h [] [(a2, .cells zero2 none true), (a1, .cells zero2 none true)] H ∧ H.length ≤ h2.length ∧ HS H.length h2 a1 ns ss ∧ Keep a1 H h2) rfl .no hfw (fun H K => ?_) (.v rfl .n) (fun x _ => ?_)
  · obtain ⟨H0, v2, h2, q1, q2, q3, q4, q5⟩ := K
    exact ⟨_, _, q2, v2, rfl, trivial, H0, q1, q3, q4, q5⟩
  refine GL.dn rfl ?_
  refine GW.sr rfl rfl ?_
  refine GL.o rfl (S1.mvF rfl) ?_
  refine GL.callG (X := Value × Option Addr × Option Addr × Option Addr × Option Addr) (V := fun x => x.1) (R := fun _ => True)
    (C' := fun x h3 => Post [] h h3 [] ∧ h3[a1]? = some (.cells [.slice x.2.1 ns.length ns.length, .slice x.2.2.1 ss.length ss.length] none true) ∧ h3[a2]? = some (.cells [.slice x.2.2.2.1 ns.length ns.length, .slice x.2.2.2.2 ss.length ss.length] none true) ∧
      Qrow h3 x.2.1 (ints ns) ∧ Qrow h3 x.2.2.1 (strs ss) ∧ Qrow h3 x.2.2.2.1 (ints ns) ∧ Qrow h3 x.2.2.2.2 (strs ss)) rfl .no hf (fun h2 K => ?_) (.v rfl (.c (v := .pointer _) rfl .n)) (fun x _ => ?_)
  · obtain ⟨H, K, hl, hs1, kp⟩ := K
    have l1 : a1 < H.length := K.lt (.tail _ (.head _))
    have l2 : a2 < H.length := K.lt (.head _)
    have o1 : h.length ≤ a1 := by have := K.own _ (.tail _ (.head _)); simpa using this
    have o2 : h.length ≤ a2 := by have := K.own _ (.head _); simpa using this
    have ne : a2 ≠ a1 := by have := K.nd; simp at this; exact this
    have n1 := K.off _ (.tail _ (.head _))
    have n2 := K.off _ (.head _)
    have hxl := get_lt hx
    have g2 : GoodA hr xs zero2 xb a2 h2 := by
      refine ⟨fun b o e => kp _ _ (K.rom _ _ e) ?_, kp _ _ (K.old _ _ hx (by simp)) (by omega), kp _ _ (K.get .z) ne, hxo, n2, by omega⟩
      rintro rfl
      simp only at n1
      rw [n1] at e; cases e
    obtain ⟨fw2, cs2, h3, v4, h4, k0, k1, k2, k3, k4, k5, _, k6, _⟩ := D xb a2 h2 g2
    have hs2 := hs1.keep k6 (Ne.symm ne) l2 (Nat.le_refl _)
    obtain ⟨vn, vs, e1, r1, r2⟩ := hs2
    obtain ⟨wn, ws, e2, r3, r4⟩ := k5
    obtain ⟨p1, rfl, u1⟩ := r1.slice
    obtain ⟨p2, rfl, u2⟩ := r2.slice
    obtain ⟨p3, rfl, u3⟩ := r3.slice
    obtain ⟨p4, rfl, u4⟩ := r4.slice
    rw [ints_len] at e1 e2
    rw [strs_len] at e1 e2
    refine ⟨_, _, k1, (_, p1, p2, p3, p4), rfl, trivial, ⟨fun b o e _ => ?_, ?_, by simp, by simp, by simp⟩, e1, e2, u1, u2, u3, u4⟩
    · have hb := get_lt e
      exact k6 _ _ (kp _ _ (K.old _ _ e (by simp)) (by omega)) (by omega)
    · have := K.len; omega
  obtain ⟨w, p1, p2, p3, p4⟩ := x
  refine GL.dn rfl ?_
  refine GW.sr rfl rfl ?_
  refine GL.o rfl (S1.ldW ag32 rfl (fun h3 K => K.2.1) rfl) ?_
  refine GL.o rfl (S1.ldW ag32 rfl (fun h3 K => K.2.2.1) rfl) ?_
  refine GL.callG (X := Unit) (V := fun _ => .bool true) (R := fun _ => True) (C' := fun _ h4 => Hp (fun _ => none) h [] [] h4) rfl .no fo40 (fun h3 K => ?_) (.d (.c rfl (.c rfl .n))) (fun _ _ => ?_)
  · refine WF.mono (ct40 rfl rfl hn hs K.2.2.2.1 K.2.2.2.2.1 K.2.2.2.2.2.1 K.2.2.2.2.2.2) fun o h4 q => ?_
    cases o with
    | pan v => exact q.elim
    | ret v =>
      obtain ⟨_, rfl, _, P2⟩ := q
      exact ⟨(), rfl, trivial, fun b o e _ => P2.old _ _ (K.1.old _ _ e (by simp)) (by simp), Nat.le_trans K.1.len P2.len, by simp, by simp, by simp, by simp, by simp⟩
  refine GL.o rfl (S1.asB rfl) ?_
  refine GL.dn rfl ?_
  refine GW.toRet rfl ?_
  refine GQ.ret () (.tmp (v := (.bool _)) rfl rfl .nil) .one ?_ ?_ .nil
  rfl
  exact trivial
end Go.Proofs.YtadgfnnkpddneaaGreat
namespace Go.Proofs.YtadgfnnkpddneaaGreat
open Go Go.E
set_option maxRecDepth 100000
set_option maxHeartbeats 4000000

theorem outB_e {lo hi n : Int} : (outB lo hi n = false) ↔ (lo ≤ n ∧ n ≤ hi) := ⟨outB_f, outB_in⟩
theorem allNext {p : Nat → Prop} {x : Nat} (h : ∀ k, k < x → p k) (q : p x) : ∀ k, k < x + 1 → p k := fun k hk => by
  rcases Nat.lt_succ_iff_lt_or_eq.1 hk with hk | rfl
  · exact h k hk
  · exact q

structure AnOk (hr : RO) (qa : Option Addr) (qn : Nat) (pn : Nat) : Prop where
  q1 : 1 ≤ qn
  q12 : qn ≤ 12
  p1 : 1 ≤ pn
  p4 : pn ≤ 4
  qs : ∀ k, k < qn → 0 ≤ ie hr qa (k * 5) ∧ ie hr qa (k * 5) < pn ∧ 2 ≤ ie hr qa (k * 5 + 1) ∧ ie hr qa (k * 5 + 1) ≤ 4


theorem ct7 {h : EH} {hr : RO} {qa pa : Option Addr} {qn qc pn pc : Nat} {al : Int} (hR : ∀ b o, hr b = some o → h[b]? = some o) (h1 : Cell hr (.sl ly81) (.slice qa qn qc)) (h2 : Cell hr (.sl ly3) (.slice pa pn pc)) :
    Ct Tryz.prog 7 ⟨[.agg ⟨[.slice qa qn qc, .slice pa pn pc, .int .i64 al]⟩]⟩ h [] (fun x : Int × Int × Int => .tuple ⟨[.int .i64 x.1, .int .i64 x.2.1, .int .i64 x.2.2]⟩) (fun x => x.2.2 = 0 → AnOk hr qa qn pn) (fun _ => []) := by
  have hl1 := h1.le
  have hl2 := h2.le
  refine Ct.go Tryz.func7 rfl rfl co7 (Hp.start hR) ?_
  refine GW.sr rfl rfl ?_
  refine GL.opN rfl .no (SN.bx (u := .agg ⟨_⟩) rfl .agg) (fun a1 => ?_)
  refine GL.o rfl (S1.asI rfl) ?_
  refine GL.o rfl (S1.asI rfl) ?_
  refine GL.o rfl (S1.asI rfl) ?_
  refine GL.dn rfl ?_
  refine GW.toSeq rfl ?_
  refine GW.sr rfl rfl ?_
  refine GL.o rfl (S1.fa fa25_0 rfl) ?_
  refine GL.o rfl (S1.ld sc22 rfl (.at .z) rfl) ?_
  refine GL.o rfl (S1.len el22 rfl) ?_
  refine GL.opN rfl .no (SN.bs el23 ez23 (.c (v := (.int _ _)) rfl rfl .n) rfl rfl) (fun a2 => ?_)
  refine GL.call rfl .no fo44 .nil (fun h H => ct44_1 (H.get .z)) (.d (.c (v := (.int _ _)) rfl (.c (v := (.int _ _)) rfl (.c (v := (.slice _ _ _)) rfl .n)))) (fun _ _ => ?_)
  refine GL.o rfl (S1.mvB rfl) ?_
  refine GL.split 14 rfl (fun w5 => ?_) (fun w5 => ?_)
  refine GL.skip rfl (.not rfl rfl rfl) ?_
  refine GL.skip rfl (.not rfl rfl rfl) ?_
  refine GL.skip rfl (.not rfl rfl rfl) ?_
  refine GL.skip rfl (.not rfl rfl rfl) ?_
  refine GL.skip rfl (.not rfl rfl rfl) ?_
  refine GL.o rfl (S1.pickT (v := (.bool _)) rfl rfl) ?_
  refine GL.dn rfl ?_
  refine GW.toT rfl rfl ?_
  refine GW.sr rfl rfl ?_
  refine GL.o rfl (S1.asI rfl) ?_
  refine GL.o rfl (S1.asI rfl) ?_
  refine GL.o rfl (S1.asI rfl) ?_
  refine GL.dn rfl ?_
  refine GW.toRet rfl ?_
  refine GQ.onR ?_
  refine GQ.ret (_, _, _) (.tmp (v := (.int _ _)) rfl rfl (.tmp (v := (.int _ _)) rfl rfl (.tmp (v := (.int _ _)) rfl rfl .nil))) .more rfl ?_ .nil
  exact fun h => absurd h (by decide)
  refine GL.one rfl (.yes rfl rfl rfl) (S1.fa fa25_1 rfl) ?_
  refine GL.one rfl (.yes rfl rfl rfl) (S1.ld sc23 rfl (.at (.s .z)) rfl) ?_
  refine GL.one rfl (.yes rfl rfl rfl) (S1.len el23 rfl) ?_
  refine GL.opN rfl (.yes rfl rfl rfl) (SN.bs el23 ez23 (.c (v := (.int _ _)) rfl rfl .n) rfl rfl) (fun a6 => ?_)
  refine GL.call rfl (.yes rfl rfl rfl) fo44 .nil (fun h H => ct44_1 (H.get .z)) (.d (.c (v := (.int _ _)) rfl (.c (v := (.int _ _)) rfl (.c (v := (.slice _ _ _)) rfl .n)))) (fun _ _ => ?_)
  refine GL.o rfl (S1.pickF (v := (.bool _)) rfl rfl) ?_
  refine GL.dn rfl ?_
  refine GW.toC rfl rfl (fun w9 => ?_) (fun w9 => ?_)
  refine GW.sr rfl rfl ?_
  refine GL.o rfl (S1.asI rfl) ?_
  refine GL.o rfl (S1.asI rfl) ?_
  refine GL.o rfl (S1.asI rfl) ?_
  refine GL.dn rfl ?_
  refine GW.toRet rfl ?_
  refine GQ.onR ?_
  refine GQ.ret (_, _, _) (.tmp (v := (.int _ _)) rfl rfl (.tmp (v := (.int _ _)) rfl rfl (.tmp (v := (.int _ _)) rfl rfl .nil))) .more rfl ?_ .nil
  exact fun h => absurd h (by decide)
  refine GW.toSkip rfl ?_
  refine GQ.on ?_
  refine GW.toSeq rfl ?_
  refine GW.sr rfl rfl ?_
  refine GL.o rfl (S1.fa fa25_0 rfl) ?_
  refine GL.o rfl (S1.ld sc22 rfl (.at (.s (.s .z))) rfl) ?_
  refine GL.o rfl (S1.len el22 rfl) ?_
  refine GL.o rfl (S1.mvI rfl) ?_
  refine GL.dn rfl ?_
  refine GW.toBlock rfl ?_
  refine GW.toLoop (fun x : Nat => [(1, .pointer (some ⟨a1, 0, none⟩)), (22, .slice qa qn qc), (23, .int .i64 qn), (24, .int .i64 x)]) (fun _ => [(a1, .cells [.slice qa qn qc, .slice pa pn pc, .int .i64 al] none true)]) (fun x => x ≤ qn ∧ ∀ k, k < x → 0 ≤ ie hr qa (k * 5) ∧ ie hr qa (k * 5) < pn ∧ 2 ≤ ie hr qa (k * 5 + 1) ∧ ie hr qa (k * 5 + 1) ≤ 4) (fun x => qn - x) rfl 0 ⟨Nat.zero_le _, fun k hk => absurd hk (by omega)⟩ (.c rfl (.c rfl (.c rfl (.c rfl .n)))) (.cons (.s (.s .z)) .nil) ?_
  rintro x f ⟨hx, hp⟩
  refine GW.sr rfl rfl ?_
  refine GL.o rfl (S1.lss rfl rfl) ?_
  refine GL.dn rfl ?_
  refine GW.toSeq rfl ?_
  refine GW.toD rfl rfl (fun w10 => ?_) (fun w10 => ?_)
  refine GW.toSkip rfl ?_
  refine GQ.on ?_
  refine GW.toSeq rfl ?_
  refine GW.toBlock rfl ?_
  refine GW.sr rfl rfl ?_
  refine GL.o rfl (S1.mvI rfl) ?_
  refine GL.o rfl (S1.ixR el22 h1 rfl rfl (by omega)) ?_
  refine GL.o rfl (S1.ldE ag81 h1 rfl (m := x) (by omega) rfl le81) ?_
  refine GL.opN rfl .no (SN.al zc81) (fun a11 => ?_)
  refine GL.o rfl (S1.asI rfl) ?_
  refine GL.o rfl (S1.stA ag81 rfl rfl rfl rfl (by repeat constructor) .z) ?_
  refine GL.dn rfl ?_
  refine GW.toBlock rfl ?_
  refine GW.sr rfl rfl ?_
  refine GL.o rfl (S1.fa fa25_1 rfl) ?_
  refine GL.o rfl (S1.ld sc23 rfl (.at (.s .z)) rfl) ?_
  refine GL.o rfl (S1.len el23 rfl) ?_
  refine GL.o rfl (S1.subI rfl rfl (by omega) (by omega)) ?_
  refine GL.o rfl (S1.fa fa81_0 rfl) ?_
  refine GL.o rfl (S1.ld sc3 rfl (.at .z) rfl) ?_
  refine GL.opN rfl .no (SN.bs el23 ez23 (.c (v := (.int _ _)) rfl rfl .n) rfl rfl) (fun a12 => ?_)
  refine GL.call rfl .no fo44 .nil (fun h H => ct44_1 (H.get .z)) (.d (.c (v := (.int _ _)) rfl (.c (v := (.int _ _)) rfl (.c (v := (.slice _ _ _)) rfl .n)))) (fun _ _ => ?_)
  refine GL.o rfl (S1.asB rfl) ?_
  refine GL.dn rfl ?_
  refine GW.toC rfl rfl (fun w15 => ?_) (fun w15 => ?_)
  refine GW.sr rfl rfl ?_
  refine GL.o rfl (S1.mvI rfl) ?_
  refine GL.o rfl (S1.asI rfl) ?_
  refine GL.o rfl (S1.asI rfl) ?_
  refine GL.o rfl (S1.asI rfl) ?_
  refine GL.dn rfl ?_
  refine GW.toRet rfl ?_
  refine GQ.outR ?_
  refine GQ.outR ?_
  refine GQ.onR ?_
  refine GQ.onR ?_
  refine GQ.outR ?_
  refine GQ.onR ?_
  refine GQ.ret (_, _, _) (.tmp (v := (.int _ _)) rfl rfl (.tmp (v := (.int _ _)) rfl rfl (.tmp (v := (.int _ _)) rfl rfl .nil))) .more rfl ?_ .nil
  exact fun h => absurd h (by dsimp only; omega)
  refine GW.sr rfl rfl ?_
  refine GL.o rfl (S1.fa fa81_1 rfl) ?_
  refine GL.o rfl (S1.ld sc3 rfl (.at (.s .z)) rfl) ?_
  refine GL.opN rfl .no (SN.bs el23 ez23 (.c (v := (.int _ _)) rfl rfl .n) rfl rfl) (fun a16 => ?_)
  refine GL.call rfl .no fo44 .nil (fun h H => ct44_1 (H.get .z)) (.d (.c (v := (.int _ _)) rfl (.c (v := (.int _ _)) rfl (.c (v := (.slice _ _ _)) rfl .n)))) (fun _ _ => ?_)
  refine GL.o rfl (S1.asB rfl) ?_
  refine GL.dn rfl ?_
  refine GW.toC rfl rfl (fun w19 => ?_) (fun w19 => ?_)
  refine GW.sr rfl rfl ?_
  refine GL.o rfl (S1.mvI rfl) ?_
  refine GL.o rfl (S1.asI rfl) ?_
  refine GL.o rfl (S1.asI rfl) ?_
  refine GL.o rfl (S1.asI rfl) ?_
  refine GL.dn rfl ?_
  refine GW.toRet rfl ?_
  refine GQ.outR ?_
  refine GQ.outR ?_
  refine GQ.onR ?_
  refine GQ.onR ?_
  refine GQ.outR ?_
  refine GQ.onR ?_
  refine GQ.ret (_, _, _) (.tmp (v := (.int _ _)) rfl rfl (.tmp (v := (.int _ _)) rfl rfl (.tmp (v := (.int _ _)) rfl rfl .nil))) .more rfl ?_ .nil
  exact fun h => absurd h (by dsimp only; omega)
  refine GW.sr rfl rfl ?_
  refine GL.o rfl (S1.fa fa81_1 rfl) ?_
  refine GL.o rfl (S1.ld sc3 rfl (.at (.s (.s .z))) rfl) ?_
  refine GL.o rfl (S1.sub rfl rfl) ?_
  refine GL.o rfl (S1.fa fa81_2 rfl) ?_
  refine GL.o rfl (S1.ld sc3 rfl (.at (.s (.s .z))) rfl) ?_
  refine GL.opN rfl .no (SN.bs el23 ez23 (.c (v := (.int _ _)) rfl rfl .n) rfl rfl) (fun a20 => ?_)
  refine GL.call rfl .no fo44 .nil (fun h H => ct44_1 (H.get .z)) (.d (.c (v := (.int _ _)) rfl (.c (v := (.int _ _)) rfl (.c (v := (.slice _ _ _)) rfl .n)))) (fun _ _ => ?_)
  refine GL.o rfl (S1.asB rfl) ?_
  refine GL.dn rfl ?_
  refine GW.toC rfl rfl (fun w23 => ?_) (fun w23 => ?_)
  refine GW.sr rfl rfl ?_
  refine GL.o rfl (S1.mvI rfl) ?_
  refine GL.o rfl (S1.asI rfl) ?_
  refine GL.o rfl (S1.asI rfl) ?_
  refine GL.o rfl (S1.asI rfl) ?_
  refine GL.dn rfl ?_
  refine GW.toRet rfl ?_
  refine GQ.outR ?_
  refine GQ.outR ?_
  refine GQ.onR ?_
  refine GQ.onR ?_
  refine GQ.outR ?_
  refine GQ.onR ?_
  refine GQ.ret (_, _, _) (.tmp (v := (.int _ _)) rfl rfl (.tmp (v := (.int _ _)) rfl rfl (.tmp (v := (.int _ _)) rfl rfl .nil))) .more rfl ?_ .nil
  exact fun h => absurd h (by dsimp only; omega)
  refine GW.sr rfl rfl ?_
  refine GL.o rfl (S1.fa fa81_3 rfl) ?_
  refine GL.o rfl (S1.ld sc3 rfl (.at (.s (.s (.s .z)))) rfl) ?_
  refine GL.o rfl (S1.fa fa81_4 rfl) ?_
  refine GL.o rfl (S1.ld sc3 rfl (.at (.s (.s (.s .z)))) rfl) ?_
  refine GL.opN rfl .no (SN.bs el23 ez23 (.c (v := (.int _ _)) rfl rfl (.c (v := (.int _ _)) rfl rfl .n)) rfl rfl) (fun a24 => ?_)
  refine GL.call rfl .no fo44 .nil (fun h H => ct44_2 (H.get .z)) (.d (.c (v := (.int _ _)) rfl (.c (v := (.int _ _)) rfl (.c (v := (.slice _ _ _)) rfl .n)))) (fun _ _ => ?_)
  refine GL.o rfl (S1.asB rfl) ?_
  refine GL.dn rfl ?_
  refine GW.toC rfl rfl (fun w27 => ?_) (fun w27 => ?_)
  refine GW.sr rfl rfl ?_
  refine GL.o rfl (S1.mvI rfl) ?_
  refine GL.o rfl (S1.asI rfl) ?_
  refine GL.o rfl (S1.asI rfl) ?_
  refine GL.o rfl (S1.asI rfl) ?_
  refine GL.dn rfl ?_
  refine GW.toRet rfl ?_
  refine GQ.outR ?_
  refine GQ.outR ?_
  refine GQ.onR ?_
  refine GQ.onR ?_
  refine GQ.outR ?_
  refine GQ.onR ?_
  refine GQ.ret (_, _, _) (.tmp (v := (.int _ _)) rfl rfl (.tmp (v := (.int _ _)) rfl rfl (.tmp (v := (.int _ _)) rfl rfl .nil))) .more rfl ?_ .nil
  exact fun h => absurd h (by dsimp only; omega)
  refine GW.toSkip rfl ?_
  refine GQ.outN ?_
  refine GQ.outN ?_
  refine GQ.on ?_
  refine GW.toReg rfl ?_
  refine GL.o rfl (S1.inc rfl rfl (by omega)) ?_
  refine GL.o rfl (S1.mvI rfl) ?_
  refine GL.done rfl ?_
  refine GQ.next (x + 1) ⟨by omega, allNext hp (by simp only [outB_e, Bool.or_eq_false_iff] at *; simp only [ie]; omega)⟩ (by omega) (.c rfl (.c rfl (.c rfl (.c rfl .n)))) (.cons (.s (.s (.s (.s (.s .z))))) .nil)
  refine GW.toExit rfl ?_
  refine GQ.onE ?_
  refine GQ.onE ?_
  refine GQ.outH ?_
  refine GQ.on ?_
  refine GW.toSeq rfl ?_
  refine GW.sr rfl rfl ?_
  refine GL.o rfl (S1.fa fa25_1 rfl) ?_
  refine GL.o rfl (S1.ld sc23 rfl (.at .z) rfl) ?_
  refine GL.o rfl (S1.len el23 rfl) ?_
  refine GL.o rfl (S1.mvI rfl) ?_
  refine GL.dn rfl ?_
  refine GW.toBlock rfl ?_
  refine GW.toLoop (fun x : Nat => [(1, .pointer (some ⟨a1, 0, none⟩)), (64, .slice pa pn pc), (65, .int .i64 pn), (66, .int .i64 x)]) (fun _ => [(a1, .cells [.slice qa qn qc, .slice pa pn pc, .int .i64 al] none true)]) (fun x => x ≤ pn) (fun x => pn - x) rfl 0 (Nat.zero_le _) (.c rfl (.c rfl (.c rfl (.c rfl .n)))) .tz ?_
  rintro y f hy
  refine GW.sr rfl rfl ?_
  refine GL.o rfl (S1.lss rfl rfl) ?_
  refine GL.dn rfl ?_
  refine GW.toSeq rfl ?_
  refine GW.toD rfl rfl (fun w28 => ?_) (fun w28 => ?_)
  refine GW.toSkip rfl ?_
  refine GQ.on ?_
  refine GW.toSeq rfl ?_
  refine GW.toBlock rfl ?_
  refine GW.sr rfl rfl ?_
  refine GL.o rfl (S1.mvI rfl) ?_
  refine GL.o rfl (S1.ixR el23 h2 rfl rfl (by omega)) ?_
  refine GL.o rfl (S1.ldCI sc3 (z := 1) h2 rfl (m := y) (by omega) rfl (d := 0) rfl rfl) ?_
  refine GL.o rfl (S1.asI rfl) ?_
  refine GL.o rfl (S1.asI rfl) ?_
  refine GL.dn rfl ?_
  refine GW.sr rfl rfl ?_
  refine GL.o rfl (S1.mvI rfl) ?_
  refine GL.opN rfl .no (SN.bs el23 ez23 (.c (v := (.int _ _)) rfl rfl .n) rfl rfl) (fun a29 => ?_)
  refine GL.call rfl .no fo44 .nil (fun h H => ct44_1 (H.get .z)) (.d (.c (v := (.int _ _)) rfl (.c (v := (.int _ _)) rfl (.c (v := (.slice _ _ _)) rfl .n)))) (fun _ _ => ?_)
  refine GL.dn rfl ?_
  refine GW.toC rfl rfl (fun w32 => ?_) (fun w32 => ?_)
  refine GW.sr rfl rfl ?_
  refine GL.o rfl (S1.mvI rfl) ?_
  refine GL.o rfl (S1.asI rfl) ?_
  refine GL.o rfl (S1.asI rfl) ?_
  refine GL.o rfl (S1.asI rfl) ?_
  refine GL.dn rfl ?_
  refine GW.toRet rfl ?_
  refine GQ.outR ?_
  refine GQ.onR ?_
  refine GQ.onR ?_
  refine GQ.outR ?_
  refine GQ.onR ?_
  refine GQ.ret (_, _, _) (.tmp (v := (.int _ _)) rfl rfl (.tmp (v := (.int _ _)) rfl rfl (.tmp (v := (.int _ _)) rfl rfl .nil))) .more rfl ?_ .nil
  exact fun h => absurd h (by dsimp only; omega)
  refine GW.toSkip rfl ?_
  refine GQ.outN ?_
  refine GQ.on ?_
  refine GW.toReg rfl ?_
  refine GL.o rfl (S1.inc rfl rfl (by omega)) ?_
  refine GL.o rfl (S1.mvI rfl) ?_
  refine GL.done rfl ?_
  refine GQ.next (y + 1) (by omega) (by omega) (.c rfl (.c rfl (.c rfl (.c rfl .n)))) (.cons (.s .z) .nil)
  refine GW.toExit rfl ?_
  refine GQ.onE ?_
  refine GQ.onE ?_
  refine GQ.outH ?_
  refine GQ.on ?_
  refine GW.toSeq rfl ?_
  refine GW.sr rfl rfl ?_
  refine GL.o rfl (S1.fa fa25_2 rfl) ?_
  refine GL.o rfl (S1.ld sc3 rfl (.at .z) rfl) ?_
  refine GL.opN rfl .no (SN.bs el23 ez23 (.c (v := (.int _ _)) rfl rfl .n) rfl rfl) (fun a33 => ?_)
  refine GL.call rfl .no fo44 .nil (fun h H => ct44_1 (H.get .z)) (.d (.c (v := (.int _ _)) rfl (.c (v := (.int _ _)) rfl (.c (v := (.slice _ _ _)) rfl .n)))) (fun _ _ => ?_)
  refine GL.dn rfl ?_
  refine GW.toC rfl rfl (fun w36 => ?_) (fun w36 => ?_)
  refine GW.sr rfl rfl ?_
  refine GL.o rfl (S1.asI rfl) ?_
  refine GL.o rfl (S1.asI rfl) ?_
  refine GL.o rfl (S1.asI rfl) ?_
  refine GL.dn rfl ?_
  refine GW.toRet rfl ?_
  refine GQ.onR ?_
  refine GQ.ret (_, _, _) (.tmp (v := (.int _ _)) rfl rfl (.tmp (v := (.int _ _)) rfl rfl (.tmp (v := (.int _ _)) rfl rfl .nil))) .more rfl ?_ .nil
  exact fun h => absurd h (by dsimp only; omega)
  refine GW.toSkip rfl ?_
  refine GQ.on ?_
  refine GW.sr rfl rfl ?_
  refine GL.o rfl (S1.asI rfl) ?_
  refine GL.o rfl (S1.asI rfl) ?_
  refine GL.o rfl (S1.asI rfl) ?_
  refine GL.dn rfl ?_
  refine GW.toRet rfl ?_
  refine GQ.ret (_, _, _) (.tmp (v := (.int _ _)) rfl rfl (.tmp (v := (.int _ _)) rfl rfl (.tmp (v := (.int _ _)) rfl rfl .nil))) .more rfl ?_ .nil
  simp only [outB_e] at *
  exact fun _ => ⟨by omega, by omega, by omega, by omega, fun k hk => hp k (by omega)⟩
end Go.Proofs.YtadgfnnkpddneaaGreat
namespace Go.Proofs.YtadgfnnkpddneaaGreat
open Go Go.E
set_option maxRecDepth 100000
set_option maxHeartbeats 4000000

section
variable {h : EH} {hr : RO} {b o n c : Nat} {l : List Int} {opn : Option Nat} {wr : Bool} {v : Int}

theorem ct94 (hb : h[b]? = some (.cells (ints l) opn wr)) (ho : o + n ≤ l.length) (hn : n ≤ 1073741824) : Ct Tryz.prog 94 ⟨[.slice (some ⟨b, o, none⟩) n c, .int .i64 v]⟩ h [] (fun r : Int => .int .i64 r) (fun r => -1 ≤ r ∧ r < n) (fun _ => []) := by
  refine Ct.go Tryz.func94 rfl rfl co94 (Hp.start (hr := fun _ => none) (by simp)) ?_
  refine GW.sr rfl rfl ?_
  refine GL.o rfl (S1.asI rfl) ?_
  refine GL.dn rfl ?_
  refine GW.toSeq rfl ?_
  refine GW.sr rfl rfl ?_
  refine GL.o rfl (S1.mvL rfl) ?_
  refine GL.o rfl (S1.len el23 rfl) ?_
  refine GL.o rfl (S1.mvI rfl) ?_
  refine GL.dn rfl ?_
  refine GW.toBlock rfl ?_
  refine GW.toLoop (fun k : Nat => [(0, .slice (some ⟨b, o, none⟩) n c), (1, .int .i64 v), (7, .int .i64 n), (8, .int .i64 k)]) (fun _ => []) (fun k => k ≤ n) (fun k => n - k) rfl 0 (Nat.zero_le _) (.c rfl (.c rfl (.c rfl (.c rfl .n)))) .nil ?_
  rintro k f hk
  refine GW.sr rfl rfl ?_
  refine GL.o rfl (S1.lss rfl rfl) ?_
  refine GL.dn rfl ?_
  refine GW.toSeq rfl ?_
  refine GW.toD rfl rfl (fun w1 => ?_) (fun w1 => ?_)
  refine GW.toSkip rfl ?_
  refine GQ.on ?_
  refine GW.toSeq rfl ?_
  refine GW.toBlock rfl ?_
  refine GW.sr rfl rfl ?_
  refine GL.o rfl (S1.mvI rfl) ?_
  refine GL.o rfl (S1.asI rfl) ?_
  refine GL.dn rfl ?_
  refine GW.sr rfl rfl ?_
  refine GL.o rfl (S1.mvI rfl) ?_
  refine GL.o rfl (S1.mvL rfl) ?_
  refine GL.o rfl (S1.mvI rfl) ?_
  refine GL.o rfl (S1.ixN el23 rfl rfl (by omega)) ?_
  refine GL.o rfl (S1.ldI sc3 rfl (.old0 hb) (by omega)) ?_
  refine GL.o rfl (S1.eql rfl rfl) ?_
  refine GL.dn rfl ?_
  refine GW.toD rfl rfl (fun w2 => ?_) (fun w2 => ?_)
  refine GW.sr rfl rfl ?_
  refine GL.o rfl (S1.mvI rfl) ?_
  refine GL.o rfl (S1.asI rfl) ?_
  refine GL.dn rfl ?_
  refine GW.toRet rfl ?_
  refine GQ.outR ?_
  refine GQ.onR ?_
  refine GQ.onR ?_
  refine GQ.outR ?_
  refine GQ.onR ?_
  refine GQ.ret _ (.tmp (v := (.int _ _)) rfl rfl .nil) .one rfl ?_ .nil
  omega
  refine GW.toSkip rfl ?_
  refine GQ.outN ?_
  refine GQ.on ?_
  refine GW.toReg rfl ?_
  refine GL.o rfl (S1.inc rfl rfl (by omega)) ?_
  refine GL.o rfl (S1.mvI rfl) ?_
  refine GL.done rfl ?_
  refine GQ.next (k + 1) (by omega) (by omega) (.c rfl (.c rfl (.c rfl (.c rfl .n)))) .nil
  refine GW.toExit rfl ?_
  refine GQ.onE ?_
  refine GQ.onE ?_
  refine GQ.outH ?_
  refine GQ.on ?_
  refine GW.sr rfl rfl ?_
  refine GL.o rfl (S1.asI rfl) ?_
  refine GL.dn rfl ?_
  refine GW.toRet rfl ?_
  refine GQ.ret _ (.tmp (v := (.int _ _)) rfl rfl .nil) .one rfl ?_ .nil
  omega

theorem ct95 (hb : h[b]? = some (.cells (ints l) opn wr)) (ho : o + n ≤ l.length) (hn : n ≤ 1073741824) : Ct Tryz.prog 95 ⟨[.slice (some ⟨b, o, none⟩) n c, .int .i64 v]⟩ h [] (fun r : Bool => .bool r) (fun _ => True) (fun _ => []) := by
  refine Ct.go Tryz.func95 rfl rfl co95 (Hp.start (hr := fun _ => none) (by simp)) ?_
  refine GW.sr rfl rfl ?_
  refine GL.o rfl (S1.asB rfl) ?_
  refine GL.dn rfl ?_
  refine GW.sr rfl rfl ?_
  refine GL.o rfl (S1.mvL rfl) ?_
  refine GL.o rfl (S1.mvI rfl) ?_
  refine GL.call rfl .no fo94 .nil (fun h H => ct94 (H.ext _ _ hb) ho hn) (.d (.c (v := (.slice _ _ _)) rfl (.c (v := (.int _ _)) rfl .n))) (fun r1 q1 => ?_)
  refine GL.o rfl (S1.geq rfl rfl) ?_
  refine GL.o rfl (S1.asB rfl) ?_
  refine GL.dn rfl ?_
  refine GW.toRet rfl ?_
  refine GQ.ret _ (.tmp (v := (.bool _)) rfl rfl .nil) .one rfl ?_ .nil
  exact trivial

theorem ct54 (hb : h[b]? = some (.cells (ints l) opn wr)) (ho : n ≤ l.length) (hn : n ≤ 1073741824) : Ct Tryz.prog 54 ⟨[.slice (some ⟨b, 0, none⟩) n c]⟩ h [] (fun r : Int => .int .i64 r) (fun _ => True) (fun _ => []) := by
  refine Ct.go Tryz.func54 rfl rfl co54 (Hp.start (hr := fun _ => none) (by simp)) ?_
  refine GW.sr rfl rfl ?_
  refine GL.o rfl (S1.asI rfl) ?_
  refine GL.dn rfl ?_
  refine GW.toSeq rfl ?_
  refine GW.sr rfl rfl ?_
  refine GL.o rfl (S1.mvL rfl) ?_
  refine GL.o rfl (S1.len el23 rfl) ?_
  refine GL.o rfl (S1.mvI rfl) ?_
  refine GL.dn rfl ?_
  refine GW.toBlock rfl ?_
  refine GW.toLoop (X := Nat × Int) (fun x => [(2, .int .i64 x.2), (5, .slice (some ⟨b, 0, none⟩) n c), (6, .int .i64 n), (7, .int .i64 x.1)]) (fun _ => []) (fun x => x.1 ≤ n) (fun x => n - x.1) rfl (0, 0) (Nat.zero_le _) (.c rfl (.c rfl (.c rfl (.c rfl .n)))) .nil ?_
  rintro x f hx
  refine GW.sr rfl rfl ?_
  refine GL.o rfl (S1.lss rfl rfl) ?_
  refine GL.dn rfl ?_
  refine GW.toSeq rfl ?_
  refine GW.toD rfl rfl (fun w1 => ?_) (fun w1 => ?_)
  refine GW.toSkip rfl ?_
  refine GQ.on ?_
  refine GW.toSeq rfl ?_
  refine GW.toBlock rfl ?_
  refine GW.sr rfl rfl ?_
  refine GL.o rfl (S1.ixN el23 rfl rfl (by omega)) ?_
  refine GL.o rfl (S1.ldI sc3 rfl (.old0 hb) (by omega)) ?_
  refine GL.o rfl (S1.asI rfl) ?_
  refine GL.dn rfl ?_
  refine GW.toReg rfl ?_
  refine GL.o rfl (S1.mvI rfl) ?_
  refine GL.o rfl (S1.mvI rfl) ?_
  refine GL.o rfl (S1.add rfl rfl) ?_
  refine GL.o rfl (S1.asI rfl) ?_
  refine GL.done rfl ?_
  refine GQ.outN ?_
  refine GQ.on ?_
  refine GW.toReg rfl ?_
  refine GL.o rfl (S1.inc rfl rfl (by omega)) ?_
  refine GL.o rfl (S1.mvI rfl) ?_
  refine GL.done rfl ?_
  refine GQ.nextT (x.1 + 1, _) (.c rfl (.c rfl (.c rfl (.c rfl .n)))) .nil (by dsimp only; omega) (by dsimp only; omega)
  refine GW.toExit rfl ?_
  refine GQ.onE ?_
  refine GQ.onE ?_
  refine GQ.outH ?_
  refine GQ.on ?_
  refine GW.sr rfl rfl ?_
  refine GL.o rfl (S1.mvI rfl) ?_
  refine GL.o rfl (S1.asI rfl) ?_
  refine GL.dn rfl ?_
  refine GW.toRet rfl ?_
  refine GQ.ret _ (.tmp (v := (.int _ _)) rfl rfl .nil) .one rfl ?_ .nil
  exact trivial

theorem ct51 {x y : Bool} : Ct Tryz.prog 51 ⟨[.bool x, .bool y]⟩ h [] (fun r : Int => .int .i64 r) (fun _ => True) (fun _ => []) := by
  refine Ct.go Tryz.func51 rfl rfl co51 (Hp.start (hr := fun _ => none) (by simp)) ?_
  refine GW.sr rfl rfl ?_
  refine GL.o rfl (S1.asI rfl) ?_
  refine GL.dn rfl ?_
  refine GW.toSeq rfl ?_
  refine GW.toBlock rfl ?_
  refine GW.sr rfl rfl ?_
  refine GL.o rfl (S1.mvB rfl) ?_
  refine GL.o rfl (S1.asB rfl) ?_
  refine GL.dn rfl ?_
  refine GW.toC rfl rfl (fun w1 => ?_) (fun w1 => ?_)
  refine GW.sr rfl rfl ?_
  refine GL.o rfl (S1.asI rfl) ?_
  refine GL.dn rfl ?_
  refine GW.toRet rfl ?_
  refine GQ.outR ?_
  refine GQ.onR ?_
  refine GQ.ret _ (.tmp (v := (.int _ _)) rfl rfl .nil) .one rfl ?_ .nil
  exact trivial
  refine GW.sr rfl rfl ?_
  refine GL.o rfl (S1.mvB rfl) ?_
  refine GL.o rfl (S1.asB rfl) ?_
  refine GL.dn rfl ?_
  refine GW.toC rfl rfl (fun w2 => ?_) (fun w2 => ?_)
  refine GW.sr rfl rfl ?_
  refine GL.o rfl (S1.asI rfl) ?_
  refine GL.dn rfl ?_
  refine GW.toRet rfl ?_
  refine GQ.outR ?_
  refine GQ.onR ?_
  refine GQ.ret _ (.tmp (v := (.int _ _)) rfl rfl .nil) .one rfl ?_ .nil
  exact trivial
  refine GW.toSkip rfl ?_
  refine GQ.outN ?_
  refine GQ.on ?_
  refine GW.sr rfl rfl ?_
  refine GL.o rfl (S1.asI rfl) ?_
  refine GL.dn rfl ?_
  refine GW.toRet rfl ?_
  refine GQ.ret _ (.tmp (v := (.int _ _)) rfl rfl .nil) .one rfl ?_ .nil
  exact trivial
end
end Go.Proofs.YtadgfnnkpddneaaGreat
namespace Go.Proofs.YtadgfnnkpddneaaGreat
open Go Go.E
set_option maxRecDepth 100000
set_option maxHeartbeats 4000000

abbrev ShC (qa : Option Addr) (qn qc : Nat) (pa : Option Addr) (pn pc : Nat) (al : Int) (sa' : Option Addr) (sn' sc' : Nat) (uv : Value) : List Value := [.slice qa qn qc, .slice pa pn pc, .int .i64 al, .slice sa' sn' sc', uv]

section
variable {h : EH} {hr : RO} {qa pa sh : Option Addr} {qn qc pn pc shn shc lb un : Nat} {al bits : Int} {uv : Value} {uE : Ents} {ul : List Int}

theorem ct72 {i : Nat} (h4 : Cell hr (.sl ly23) (.slice sh shn shc)) (hi : i < shn) (hu : NR 2 uv uE un ul) (hun2 : un ≤ 1073741824) (hR : ∀ b o, hr b = some o → h[b]? = some o) (hb : h[lb]? = some (.cells (ShC qa qn qc pa pn pc al sh shn shc uv) none true)) (hE : ∀ e ∈ uE, h[e.1]? = some e.2)
    (hul : ∀ k, k < un → ul.getD (0 + k * 2) 0 = i → 0 ≤ ul.getD (0 + k * 2 + 1) 0 ∧ ul.getD (0 + k * 2 + 1) 0 < sn (el hr sh (i * 1 + 0))) :
    Ct Tryz.prog 72 ⟨[.pointer (some ⟨lb, 0, none⟩), .int .i64 i, .int .i64 bits]⟩ h [] (fun r : Int => .int .i64 r) (fun _ => True) (fun _ => []) := by
  have hc0 := h4.at (m := i) hi (d := 0) (l := .sl ly3) rfl
  refine Ct.go Tryz.func72 rfl rfl co72 (Hp.start hR) ?_
  have hl0 : sn (el hr sh (i * 1 + 0)) ≤ sc (el hr sh (i * 1 + 0)) ∧ sc (el hr sh (i * 1 + 0)) ≤ 1073741824 := hc0.le
  obtain ⟨q1, q2, q3⟩ := hc0.romV rfl rfl (by decide)
  obtain ⟨bx, hbx, hbl⟩ := q2.toInts (by simp [ly3]) q1 (by decide)
  have hbl' : bx.length = sn (el hr sh (i * 1 + 0)) := by rw [hbl]; exact Nat.mul_one _
  refine GW.sr rfl rfl ?_
  refine GL.o rfl (S1.asI rfl) ?_
  refine GL.dn rfl ?_
  refine GW.sr rfl rfl ?_
  refine GL.o rfl (S1.mvP rfl) ?_
  refine GL.o rfl (S1.nc rfl) ?_
  refine GL.o rfl (S1.fa fa86_1 rfl) ?_
  refine GL.o rfl (S1.ld sc26 rfl (.old0 hb) rfl) ?_
  refine GL.o rfl (S1.mvI rfl) ?_
  refine GL.o rfl (S1.ixR el26 h4 rfl rfl (by omega)) ?_
  refine GL.o rfl (S1.ldCL sc23 (z := 1) h4 rfl (m := i) (by omega) rfl (d := 0) rfl rfl) ?_
  refine GL.o rfl (S1.len el23 rfl) ?_
  refine GL.opN rfl .no (SN.ms ze23 el23 rfl rfl rfl (by omega)) (fun a1 => ?_)
  refine GL.o rfl (S1.asL rfl) ?_
  refine GL.dn rfl ?_
  refine GW.sr rfl rfl ?_
  refine GL.o rfl (S1.mvL rfl) ?_
  refine GL.o rfl (S1.mvP rfl) ?_
  refine GL.o rfl (S1.nc rfl) ?_
  refine GL.o rfl (S1.fa fa86_1 rfl) ?_
  refine GL.o rfl (S1.ld sc26 rfl (.old0 hb) rfl) ?_
  refine GL.o rfl (S1.mvI rfl) ?_
  refine GL.o rfl (S1.ixR el26 h4 rfl rfl (by omega)) ?_
  refine GL.o rfl (S1.ldCL sc23 (z := 1) h4 rfl (m := i) (by omega) rfl (d := 0) rfl rfl) ?_
  refine GL.o rfl (S1.copyC el23 rfl rfl hc0 rfl rfl (by decide) hbx .z (by simp)) ?_
  rcases hu.two with ⟨rfl, rfl, rfl⟩ | ⟨hun, ur, rfl, rfl, hul2⟩
  · refine GL.done rfl ?_
    refine GQ.on ?_
    refine GW.toSeq rfl ?_
    refine GW.sr rfl rfl ?_
    refine GL.o rfl (S1.mvP rfl) ?_
    refine GL.o rfl (S1.nc rfl) ?_
    refine GL.o rfl (S1.fa fa86_2 rfl) ?_
    refine GL.o rfl (S1.ld sc52 rfl (.old0 hb) rfl) ?_
    refine GL.o rfl (S1.len el52 rfl) ?_
    refine GL.o rfl (S1.mvI rfl) ?_
    refine GL.dn rfl ?_
    refine GW.toBlock rfl ?_
    refine GW.toLoop (X := Unit) (fun _ => [(1, .int .i64 i), (2, .int .i64 bits), (7, .slice (some ⟨a1, 0, none⟩) (sn (el hr sh (i * 1 + 0))) (sn (el hr sh (i * 1 + 0)))), (32, nilS), (33, .int .i64 0), (34, .int .i64 0)]) (fun _ => [(a1, .cells (ints bx) none true)]) (fun _ => True) (fun _ => 0) rfl () trivial (.c rfl (.c rfl (.c rfl (.c rfl (.c rfl (.c rfl .n)))))) .tz ?_
    rintro ⟨⟩ f _
    refine GW.sr rfl rfl ?_
    refine GL.o rfl (S1.lss rfl rfl) ?_
    refine GL.dn rfl ?_
    refine GW.toSeq rfl ?_
    refine GW.toF rfl rfl ?_
    refine GW.toExit rfl ?_
    refine GQ.onE ?_
    refine GQ.onE ?_
    refine GQ.outH ?_
    refine GQ.on ?_
    refine GW.sr rfl rfl ?_
    refine GL.o rfl (S1.mvL rfl) ?_
    refine GL.call rfl .no fo94 .nil (fun h H => ct94 (H.get .z) (by omega) (by omega)) (.d (.c (v := (.slice _ _ _)) rfl (.c (v := (.int _ _)) rfl .n))) (fun r94 q94 => ?_)
    refine GL.o rfl (S1.asI rfl) ?_
    refine GL.dn rfl ?_
    refine GW.toSeq rfl ?_
    refine GW.sr rfl rfl ?_
    refine GL.o rfl (S1.mvI rfl) ?_
    refine GL.o rfl (S1.geq rfl rfl) ?_
    refine GL.o rfl (S1.mvB rfl) ?_
    refine GL.splitD 56 rfl (fun w3 => ?_) (fun w3 => ?_)
    refine GL.one rfl (.yes rfl rfl rfl) (S1.mvL rfl) ?_
    refine GL.one rfl (.yes rfl rfl rfl) (S1.mvI rfl) ?_
    refine GL.one rfl (.yes rfl rfl rfl) (S1.addI rfl rfl (by omega) (by omega)) ?_
    rotate_left
    refine GL.skip rfl (.not rfl rfl rfl) ?_
    refine GL.skip rfl (.not rfl rfl rfl) ?_
    refine GL.skip rfl (.not rfl rfl rfl) ?_
    refine GL.skip rfl (.not rfl rfl rfl) ?_
    refine GL.skip rfl (.not rfl rfl rfl) ?_
    refine GL.o rfl (S1.pickF (v := (.bool _)) rfl rfl) ?_
    refine GL.dn rfl ?_
    refine GW.toF rfl rfl ?_
    refine GW.toSkip rfl ?_
    refine GQ.on ?_
    refine GW.sr rfl rfl ?_
    refine GL.o rfl (S1.mvI rfl) ?_
    refine GL.o rfl (S1.asI rfl) ?_
    refine GL.dn rfl ?_
    refine GW.toRet rfl ?_
    refine GQ.ret _ (.tmp (v := (.int _ _)) rfl rfl .nil) .one rfl ?_ .nil
    exact trivial
    obtain ⟨j, rfl⟩ := Int.eq_ofNat_of_zero_le (show 0 ≤ r94 by omega)
    by_cases hj : j + 1 < sn (el hr sh (i * 1 + 0))
    · refine GL.one rfl (.yes rfl rfl rfl) (S1.cutO (j := j + 1) el23 (.at .z) (.inl rfl) rfl (.at rfl) .no (by omega) (by omega) (by omega) hj) ?_
      refine GL.call rfl (.yes rfl rfl rfl) fo95 .nil (fun h H => ct95 (H.get .z) (by omega) (by omega)) (.d (.c (v := (.slice _ _ _)) rfl (.c (v := (.int _ _)) rfl .n))) (fun r4 _ => ?_)
      refine GL.o rfl (S1.pickT (v := (.bool _)) rfl rfl) ?_
      refine GL.dn rfl ?_
      refine GW.toC rfl rfl (fun w5 => ?_) (fun w5 => ?_)
      refine GW.sr rfl rfl ?_
      refine GL.o rfl (S1.asI rfl) ?_
      refine GL.dn rfl ?_
      refine GW.toRet rfl ?_
      refine GQ.onR ?_
      refine GQ.ret _ (.tmp (v := (.int _ _)) rfl rfl .nil) .one rfl ?_ .nil
      exact trivial
      refine GW.toSkip rfl ?_
      refine GQ.on ?_
      refine GW.sr rfl rfl ?_
      refine GL.o rfl (S1.mvI rfl) ?_
      refine GL.o rfl (S1.asI rfl) ?_
      refine GL.dn rfl ?_
      refine GW.toRet rfl ?_
      refine GQ.ret _ (.tmp (v := (.int _ _)) rfl rfl .nil) .one rfl ?_ .nil
      exact trivial
    · have hj2 : j + 1 = sn (el hr sh (i * 1 + 0)) := by omega
      refine GL.one rfl (.yes rfl rfl rfl) (S1.cutE el23 (.at .z) rfl (hj2 ▸ .at (l := j + 1) rfl)) ?_
      refine GL.call rfl (.yes rfl rfl rfl) fo95 .nil (fun h H => ct95 (H.get .z) (by omega) (by omega)) (.d (.c (v := (.slice _ _ _)) rfl (.c (v := (.int _ _)) rfl .n))) (fun r6 _ => ?_)
      refine GL.o rfl (S1.pickT (v := (.bool _)) rfl rfl) ?_
      refine GL.dn rfl ?_
      refine GW.toC rfl rfl (fun w7 => ?_) (fun w7 => ?_)
      refine GW.sr rfl rfl ?_
      refine GL.o rfl (S1.asI rfl) ?_
      refine GL.dn rfl ?_
      refine GW.toRet rfl ?_
      refine GQ.onR ?_
      refine GQ.ret _ (.tmp (v := (.int _ _)) rfl rfl .nil) .one rfl ?_ .nil
      exact trivial
      refine GW.toSkip rfl ?_
      refine GQ.on ?_
      refine GW.sr rfl rfl ?_
      refine GL.o rfl (S1.mvI rfl) ?_
      refine GL.o rfl (S1.asI rfl) ?_
      refine GL.dn rfl ?_
      refine GW.toRet rfl ?_
      refine GQ.ret _ (.tmp (v := (.int _ _)) rfl rfl .nil) .one rfl ?_ .nil
      exact trivial
  · have hur : h[ur]? = some (.cells (ints ul) (some 2) true) := hE _ (.head _)
    refine GL.dn rfl ?_
    refine GW.toSeq rfl ?_
    refine GW.sr rfl rfl ?_
    refine GL.o rfl (S1.mvP rfl) ?_
    refine GL.o rfl (S1.nc rfl) ?_
    refine GL.o rfl (S1.fa fa86_2 rfl) ?_
    refine GL.o rfl (S1.ld sc52 rfl (.old0 hb) rfl) ?_
    refine GL.o rfl (S1.len el52 rfl) ?_
    refine GL.o rfl (S1.mvI rfl) ?_
    refine GL.dn rfl ?_
    refine GW.toBlock rfl ?_
    refine GW.toLoop (X := Nat × List Int) (fun x => [(1, .int .i64 i), (2, .int .i64 bits), (7, .slice (some ⟨a1, 0, none⟩) (sn (el hr sh (i * 1 + 0))) (sn (el hr sh (i * 1 + 0)))), (32, rowS ur un), (33, .int .i64 un), (34, .int .i64 x.1)]) (fun x => [(a1, .cells (ints x.2) none true)]) (fun x => x.1 ≤ un ∧ x.2.length = bx.length) (fun x => un - x.1) rfl (0, bx) ⟨Nat.zero_le _, rfl⟩ (.c rfl (.c rfl (.c rfl (.c rfl (.c rfl (.c rfl .n)))))) .tz ?_
    rintro x f ⟨hx, hxl⟩
    have hk := hul x.1
    refine GW.sr rfl rfl ?_
    refine GL.o rfl (S1.lss rfl rfl) ?_
    refine GL.dn rfl ?_
    refine GW.toSeq rfl ?_
    refine GW.toD rfl rfl (fun w8 => ?_) (fun w8 => ?_)
    refine GW.toSkip rfl ?_
    refine GQ.on ?_
    refine GW.toSeq rfl ?_
    refine GW.toBlock rfl ?_
    refine GW.sr rfl rfl ?_
    refine GL.o rfl (S1.mvI rfl) ?_
    refine GL.o rfl (S1.ixN el52 rfl rfl (by omega)) ?_
    refine GL.o rfl (S1.ldP2 ag59 rfl (.old0 hur) (by omega)) ?_
    refine GL.opN rfl .no (SN.al zc59) (fun a9 => ?_)
    refine GL.o rfl (S1.asI rfl) ?_
    refine GL.o rfl (S1.stA ag59 rfl rfl rfl rfl (by repeat constructor) .z) ?_
    refine GL.dn rfl ?_
    refine GW.sr rfl rfl ?_
    refine GL.o rfl (S1.fa fa59_0 rfl) ?_
    refine GL.o rfl (S1.ld sc3 rfl (.at .z) rfl) ?_
    refine GL.o rfl (S1.mvI rfl) ?_
    refine GL.o rfl (S1.eql rfl rfl) ?_
    refine GL.dn rfl ?_
    refine GW.toD rfl rfl (fun w10 => ?_) (fun w10 => ?_)
    refine GW.toDrw mx rfl ?_
    refine GD.o rfl (S1.mvL rfl) rfl ?_
    refine GD.o rfl (S1.fa fa59_1 rfl) rfl ?_
    refine GD.o rfl (S1.ld sc3 rfl (.at .z) rfl) rfl ?_
    refine GD.o rfl (S1.mvI rfl) rfl ?_
    refine GD.o rfl (S1.mvI rfl) rfl ?_
    refine GD.o rfl (S1.shr rfl rfl (by omega)) rfl ?_
    refine GD.o rfl (S1.bits rfl rfl rfl) rfl ?_
    refine GD.o rfl (S1.ix el23 rfl rfl (by omega) (by omega)) rfl ?_
    refine GD.loud rfl .no (S1.stI sc3 rfl rfl (by omega) (.s .z)) rfl rfl (by kernel_rfl) ?_
    refine GD.done rfl ?_
    refine GQ.outN ?_
    refine GQ.on ?_
    refine GW.toReg rfl ?_
    refine GL.o rfl (S1.inc rfl rfl (by omega)) ?_
    refine GL.o rfl (S1.mvI rfl) ?_
    refine GL.done rfl ?_
    refine GQ.nextT (x.1 + 1, _) (.c rfl (.c rfl (.c rfl (.c rfl (.c rfl (.c rfl .n)))))) (.cons (.s .z) .nil) ⟨(by dsimp only; omega), by simp only [List.length_set]; exact hxl⟩ (by dsimp only; omega)
    refine GW.toSkip rfl ?_
    refine GQ.outN ?_
    refine GQ.on ?_
    refine GW.toReg rfl ?_
    refine GL.o rfl (S1.inc rfl rfl (by omega)) ?_
    refine GL.o rfl (S1.mvI rfl) ?_
    refine GL.done rfl ?_
    refine GQ.nextT (x.1 + 1, _) (.c rfl (.c rfl (.c rfl (.c rfl (.c rfl (.c rfl .n)))))) (.cons (.s .z) .nil) ⟨(by dsimp only; omega), by simp only [List.length_set]; exact hxl⟩ (by dsimp only; omega)
    refine GW.toExit rfl ?_
    refine GQ.onE ?_
    refine GQ.onE ?_
    refine GQ.outH ?_
    refine GQ.on ?_
    refine GW.sr rfl rfl ?_
    refine GL.o rfl (S1.mvL rfl) ?_
    refine GL.call rfl .no fo94 .nil (fun h H => ct94 (H.get .z) (by omega) (by omega)) (.d (.c (v := (.slice _ _ _)) rfl (.c (v := (.int _ _)) rfl .n))) (fun r94 q94 => ?_)
    refine GL.o rfl (S1.asI rfl) ?_
    refine GL.dn rfl ?_
    refine GW.toSeq rfl ?_
    refine GW.sr rfl rfl ?_
    refine GL.o rfl (S1.mvI rfl) ?_
    refine GL.o rfl (S1.geq rfl rfl) ?_
    refine GL.o rfl (S1.mvB rfl) ?_
    refine GL.splitD 56 rfl (fun w13 => ?_) (fun w13 => ?_)
    refine GL.one rfl (.yes rfl rfl rfl) (S1.mvL rfl) ?_
    refine GL.one rfl (.yes rfl rfl rfl) (S1.mvI rfl) ?_
    refine GL.one rfl (.yes rfl rfl rfl) (S1.addI rfl rfl (by omega) (by omega)) ?_
    rotate_left
    refine GL.skip rfl (.not rfl rfl rfl) ?_
    refine GL.skip rfl (.not rfl rfl rfl) ?_
    refine GL.skip rfl (.not rfl rfl rfl) ?_
    refine GL.skip rfl (.not rfl rfl rfl) ?_
    refine GL.skip rfl (.not rfl rfl rfl) ?_
    refine GL.o rfl (S1.pickF (v := (.bool _)) rfl rfl) ?_
    refine GL.dn rfl ?_
    refine GW.toF rfl rfl ?_
    refine GW.toSkip rfl ?_
    refine GQ.on ?_
    refine GW.sr rfl rfl ?_
    refine GL.o rfl (S1.mvI rfl) ?_
    refine GL.o rfl (S1.asI rfl) ?_
    refine GL.dn rfl ?_
    refine GW.toRet rfl ?_
    refine GQ.ret _ (.tmp (v := (.int _ _)) rfl rfl .nil) .one rfl ?_ .nil
    exact trivial
    obtain ⟨j, rfl⟩ := Int.eq_ofNat_of_zero_le (show 0 ≤ r94 by omega)
    by_cases hj : j + 1 < sn (el hr sh (i * 1 + 0))
    · refine GL.one rfl (.yes rfl rfl rfl) (S1.cutO (j := j + 1) el23 (.at .z) (.inl rfl) rfl (.at rfl) .no (by omega) (by omega) (by omega) hj) ?_
      refine GL.call rfl (.yes rfl rfl rfl) fo95 .nil (fun h H => ct95 (H.get .z) (by omega) (by omega)) (.d (.c (v := (.slice _ _ _)) rfl (.c (v := (.int _ _)) rfl .n))) (fun r14 _ => ?_)
      refine GL.o rfl (S1.pickT (v := (.bool _)) rfl rfl) ?_
      refine GL.dn rfl ?_
      refine GW.toC rfl rfl (fun w15 => ?_) (fun w15 => ?_)
      refine GW.sr rfl rfl ?_
      refine GL.o rfl (S1.asI rfl) ?_
      refine GL.dn rfl ?_
      refine GW.toRet rfl ?_
      refine GQ.onR ?_
      refine GQ.ret _ (.tmp (v := (.int _ _)) rfl rfl .nil) .one rfl ?_ .nil
      exact trivial
      refine GW.toSkip rfl ?_
      refine GQ.on ?_
      refine GW.sr rfl rfl ?_
      refine GL.o rfl (S1.mvI rfl) ?_
      refine GL.o rfl (S1.asI rfl) ?_
      refine GL.dn rfl ?_
      refine GW.toRet rfl ?_
      refine GQ.ret _ (.tmp (v := (.int _ _)) rfl rfl .nil) .one rfl ?_ .nil
      exact trivial
    · have hj2 : j + 1 = sn (el hr sh (i * 1 + 0)) := by omega
      refine GL.one rfl (.yes rfl rfl rfl) (S1.cutE el23 (.at .z) rfl (hj2 ▸ .at (l := j + 1) rfl)) ?_
      refine GL.call rfl (.yes rfl rfl rfl) fo95 .nil (fun h H => ct95 (H.get .z) (by omega) (by omega)) (.d (.c (v := (.slice _ _ _)) rfl (.c (v := (.int _ _)) rfl .n))) (fun r16 _ => ?_)
      refine GL.o rfl (S1.pickT (v := (.bool _)) rfl rfl) ?_
      refine GL.dn rfl ?_
      refine GW.toC rfl rfl (fun w17 => ?_) (fun w17 => ?_)
      refine GW.sr rfl rfl ?_
      refine GL.o rfl (S1.asI rfl) ?_
      refine GL.dn rfl ?_
      refine GW.toRet rfl ?_
      refine GQ.onR ?_
      refine GQ.ret _ (.tmp (v := (.int _ _)) rfl rfl .nil) .one rfl ?_ .nil
      exact trivial
      refine GW.toSkip rfl ?_
      refine GQ.on ?_
      refine GW.sr rfl rfl ?_
      refine GL.o rfl (S1.mvI rfl) ?_
      refine GL.o rfl (S1.asI rfl) ?_
      refine GL.dn rfl ?_
      refine GW.toRet rfl ?_
      refine GQ.ret _ (.tmp (v := (.int _ _)) rfl rfl .nil) .one rfl ?_ .nil
      exact trivial
end
end Go.Proofs.YtadgfnnkpddneaaGreat
namespace Go.Proofs.YtadgfnnkpddneaaGreat
open Go Go.E
set_option maxRecDepth 100000
set_option maxHeartbeats 4000000

structure ShOk (hr : RO) (h : EH) (lb : Nat) (qa : Option Addr) (qn qc : Nat) (pa : Option Addr) (pn pc : Nat) (al : Int) (sh : Option Addr) (shn shc un : Nat) (uv : Value) (uE : Ents) (ul : List Int) : Prop where
  ok : AnOk hr qa qn pn
  qs : shn = qn
  c1 : Cell hr (.sl ly81) (.slice qa qn qc)
  c2 : Cell hr (.sl ly3) (.slice pa pn pc)
  c4 : Cell hr (.sl ly23) (.slice sh shn shc)
  u : NR 2 uv uE un ul
  u7 : un ≤ 7
  hR : ∀ b o, hr b = some o → h[b]? = some o
  hb : h[lb]? = some (.cells (ShC qa qn qc pa pn pc al sh shn shc uv) none true)
  hE : ∀ e ∈ uE, h[e.1]? = some e.2
  ul : ∀ i k, i < shn → k < un → ul.getD (0 + k * 2) 0 = (i : Nat) → 0 ≤ ul.getD (0 + k * 2 + 1) 0 ∧ ul.getD (0 + k * 2 + 1) 0 < sn (el hr sh (i * 1 + 0))

section
variable {h : EH} {hr : RO} {qa pa sh : Option Addr} {qn qc pn pc shn shc lb un : Nat} {al bits : Int} {uv : Value} {uE : Ents} {ul : List Int}

theorem ShOk.mono {h' : EH} (S : ShOk hr h lb qa qn qc pa pn pc al sh shn shc un uv uE ul) (e : Ext h h') : ShOk hr h' lb qa qn qc pa pn pc al sh shn shc un uv uE ul :=
  ⟨S.ok, S.qs, S.c1, S.c2, S.c4, S.u, S.u7, fun b o q => e _ _ (S.hR b o q), e _ _ S.hb, fun x hx => e _ _ (S.hE x hx), S.ul⟩

theorem ct46 (S : ShOk hr h lb qa qn qc pa pn pc al sh shn shc un uv uE ul) :
    Ct Tryz.prog 46 ⟨[.pointer (some ⟨lb, 0, none⟩), .int .i64 bits]⟩ h [] (fun x : Nat × List Int => rowS x.1 pn) (fun x => x.2.length = pn) (fun x => [(x.1, .cells (ints x.2) none true)]) := by
  have h1 := S.c1
  have h2 := S.c2
  have hl1 := h1.le
  have hl2 := h2.le
  have hb := S.hb
  have hq := S.qs
  have hu7 := S.u7
  have ok := S.ok
  have ok1 := ok.q12
  refine Ct.go Tryz.func46 rfl rfl co46 (Hp.start S.hR) ?_
  refine GW.sr rfl rfl ?_
  refine GL.o rfl (S1.asL rfl) ?_
  refine GL.dn rfl ?_
  refine GW.sr rfl rfl ?_
  refine GL.o rfl (S1.mvP rfl) ?_
  refine GL.o rfl (S1.nc rfl) ?_
  refine GL.o rfl (S1.fa fa86_0 rfl) ?_
  refine GL.o rfl (S1.fa fa25_1 rfl) ?_
  refine GL.o rfl (S1.ld sc23 rfl (.old0 hb) rfl) ?_
  refine GL.o rfl (S1.len el23 rfl) ?_
  refine GL.opN rfl .no (SN.ms ze23 el23 rfl rfl rfl (by omega)) (fun a1 => ?_)
  refine GL.o rfl (S1.asL rfl) ?_
  refine GL.dn rfl ?_
  refine GW.toSeq rfl ?_
  refine GW.sr rfl rfl ?_
  refine GL.o rfl (S1.mvP rfl) ?_
  refine GL.o rfl (S1.nc rfl) ?_
  refine GL.o rfl (S1.fa fa86_0 rfl) ?_
  refine GL.o rfl (S1.fa fa25_0 rfl) ?_
  refine GL.o rfl (S1.ld sc22 rfl (.old0 hb) rfl) ?_
  refine GL.o rfl (S1.len el22 rfl) ?_
  refine GL.o rfl (S1.mvI rfl) ?_
  refine GL.dn rfl ?_
  refine GW.toBlock rfl ?_
  rw [← ints_rep]
  refine GW.toLoop (X := Nat × List Int) (fun x => [(0, .pointer (some ⟨lb, 0, none⟩)), (1, .int .i64 bits), (5, .slice (some ⟨a1, 0, none⟩) pn pn), (19, .slice qa qn qc), (20, .int .i64 qn), (21, .int .i64 x.1)]) (fun x => [(a1, .cells (ints x.2) none true)]) (fun x => x.1 ≤ qn ∧ x.2.length = pn) (fun x => qn - x.1) rfl (0, List.replicate pn 0) ⟨Nat.zero_le _, by simp⟩ (.c rfl (.c rfl (.c rfl (.c rfl (.c rfl (.c rfl .n)))))) .tz ?_
  rintro x f ⟨hx, hxl⟩
  have hk := ok.qs x.1
  simp only [ie] at hk
  refine GW.sr rfl rfl ?_
  refine GL.o rfl (S1.lss rfl rfl) ?_
  refine GL.dn rfl ?_
  refine GW.toSeq rfl ?_
  refine GW.toD rfl rfl (fun w2 => ?_) (fun w2 => ?_)
  refine GW.toSkip rfl ?_
  refine GQ.on ?_
  refine GW.toSeq rfl ?_
  refine GW.toBlock rfl ?_
  refine GW.sr rfl rfl ?_
  refine GL.o rfl (S1.mvI rfl) ?_
  refine GL.o rfl (S1.ixR el22 h1 rfl rfl (by omega)) ?_
  refine GL.o rfl (S1.ldE ag81 h1 rfl (m := x.fst) (by omega) rfl le81) ?_
  refine GL.opN rfl .no (SN.al zc81) (fun a3 => ?_)
  refine GL.o rfl (S1.asI rfl) ?_
  refine GL.o rfl (S1.stA ag81 rfl rfl rfl rfl (by repeat constructor) .z) ?_
  refine GL.dn rfl ?_
  refine GW.sr rfl rfl ?_
  refine GL.o rfl (S1.mvP rfl) ?_
  refine GL.o rfl (S1.mvI rfl) ?_
  refine GL.o rfl (S1.mvI rfl) ?_
  refine GL.call rfl .no fo72 .nil (fun h H => ct72 S.c4 (by omega) S.u (by omega) (fun b o q => H.rom _ _ q) (H.ext _ _ S.hb) (fun e he => H.ext _ _ (S.hE e he)) (fun k hk e => S.ul x.1 k (by omega) hk e)) (.d (.c (v := (.pointer _)) rfl (.c (v := (.int _ _)) rfl (.c (v := (.int _ _)) rfl .n)))) (fun r72 _ => ?_)
  refine GL.dn rfl ?_
  refine GW.toBlock rfl ?_
  refine GW.sr rfl rfl ?_
  refine GL.o rfl (S1.fa fa81_2 rfl) ?_
  refine GL.o rfl (S1.ld sc3 rfl (.at .z) rfl) ?_
  refine GL.o rfl (S1.eql rfl rfl) ?_
  refine GL.o rfl (S1.asB rfl) ?_
  refine GL.dn rfl ?_
  refine GW.toD rfl rfl (fun w5 => ?_) (fun w5 => ?_)
  refine GW.toDrw mx rfl ?_
  refine GD.o rfl (S1.mvL rfl) rfl ?_
  refine GD.o rfl (S1.fa fa81_0 rfl) rfl ?_
  refine GD.o rfl (S1.ld sc3 rfl (.at .z) rfl) rfl ?_
  refine GD.o rfl (S1.ix el23 rfl rfl (by omega) (by omega)) rfl ?_
  refine GD.o rfl (S1.ldI sc3 rfl (.at (.s .z)) (by omega)) rfl ?_
  refine GD.o rfl (S1.fa fa81_3 rfl) rfl ?_
  refine GD.o rfl (S1.ld sc3 rfl (.at .z) rfl) rfl ?_
  refine GD.o rfl (S1.add rfl rfl) rfl ?_
  refine GD.o rfl (S1.ix el23 rfl rfl (by omega) (by omega)) rfl ?_
  refine GD.loud rfl .no (S1.stI sc3 rfl rfl (by omega) (.s .z)) rfl rfl (by kernel_rfl) ?_
  refine GD.done rfl ?_
  refine GQ.outN ?_
  refine GQ.outN ?_
  refine GQ.on ?_
  refine GW.toReg rfl ?_
  refine GL.o rfl (S1.inc rfl rfl (by omega)) ?_
  refine GL.o rfl (S1.mvI rfl) ?_
  refine GL.done rfl ?_
  refine GQ.nextT (x.1 + 1, _) (.c rfl (.c rfl (.c rfl (.c rfl (.c rfl (.c rfl .n)))))) (.cons (.s .z) .nil) ⟨(by dsimp only; omega), by simp only [List.length_set]; exact hxl⟩ (by dsimp only; omega)
  refine GW.sr rfl rfl ?_
  refine GL.o rfl (S1.eql rfl rfl) ?_
  refine GL.o rfl (S1.asB rfl) ?_
  refine GL.dn rfl ?_
  refine GW.toD rfl rfl (fun w6 => ?_) (fun w6 => ?_)
  refine GW.toSkip rfl ?_
  refine GQ.outN ?_
  refine GQ.outN ?_
  refine GQ.on ?_
  refine GW.toReg rfl ?_
  refine GL.o rfl (S1.inc rfl rfl (by omega)) ?_
  refine GL.o rfl (S1.mvI rfl) ?_
  refine GL.done rfl ?_
  refine GQ.nextT (x.1 + 1, _) (.c rfl (.c rfl (.c rfl (.c rfl (.c rfl (.c rfl .n)))))) (.cons (.s .z) .nil) ⟨(by dsimp only; omega), by simp only [List.length_set]; exact hxl⟩ (by dsimp only; omega)
  refine GW.toDrw mx rfl ?_
  refine GD.o rfl (S1.mvL rfl) rfl ?_
  refine GD.o rfl (S1.fa fa81_0 rfl) rfl ?_
  refine GD.o rfl (S1.ld sc3 rfl (.at .z) rfl) rfl ?_
  refine GD.o rfl (S1.ix el23 rfl rfl (by omega) (by omega)) rfl ?_
  refine GD.o rfl (S1.ldI sc3 rfl (.at (.s .z)) (by omega)) rfl ?_
  refine GD.o rfl (S1.fa fa81_4 rfl) rfl ?_
  refine GD.o rfl (S1.ld sc3 rfl (.at .z) rfl) rfl ?_
  refine GD.o rfl (S1.sub rfl rfl) rfl ?_
  refine GD.o rfl (S1.ix el23 rfl rfl (by omega) (by omega)) rfl ?_
  refine GD.loud rfl .no (S1.stI sc3 rfl rfl (by omega) (.s .z)) rfl rfl (by kernel_rfl) ?_
  refine GD.done rfl ?_
  refine GQ.outN ?_
  refine GQ.outN ?_
  refine GQ.on ?_
  refine GW.toReg rfl ?_
  refine GL.o rfl (S1.inc rfl rfl (by omega)) ?_
  refine GL.o rfl (S1.mvI rfl) ?_
  refine GL.done rfl ?_
  refine GQ.nextT (x.1 + 1, _) (.c rfl (.c rfl (.c rfl (.c rfl (.c rfl (.c rfl .n)))))) (.cons (.s .z) .nil) ⟨(by dsimp only; omega), by simp only [List.length_set]; exact hxl⟩ (by dsimp only; omega)
  refine GW.toExit rfl ?_
  refine GQ.onE ?_
  refine GQ.onE ?_
  refine GQ.outH ?_
  refine GQ.on ?_
  refine GW.sr rfl rfl ?_
  refine GL.o rfl (S1.mvL rfl) ?_
  refine GL.o rfl (S1.asL rfl) ?_
  refine GL.dn rfl ?_
  refine GW.toRet rfl ?_
  refine GQ.ret (a1, x.2) (.tmp (v := (.slice _ _ _)) rfl rfl .nil) .one ?_ ?_ .tz
  rfl
  assumption

theorem ct47 (S : ShOk hr h lb qa qn qc pa pn pc al sh shn shc un uv uE ul) :
    Ct Tryz.prog 47 ⟨[.pointer (some ⟨lb, 0, none⟩), .int .i64 bits]⟩ h [] (fun r : Bool => .bool r) (fun _ => True) (fun _ => []) := by
  have h1 := S.c1
  have h2 := S.c2
  have hl2 := h2.le
  have hb := S.hb
  refine Ct.go Tryz.func47 rfl rfl co47 (Hp.start S.hR) ?_
  refine GW.sr rfl rfl ?_
  refine GL.o rfl (S1.asB rfl) ?_
  refine GL.dn rfl ?_
  refine GW.sr rfl rfl ?_
  refine GL.o rfl (S1.mvP rfl) ?_
  refine GL.o rfl (S1.mvI rfl) ?_
  refine GL.call rfl .no fo46 .nil (fun h H => ct46 (S.mono H.ext)) (.d (.c (v := (.pointer _)) rfl (.c (v := (.int _ _)) rfl .n))) (fun x46 q46 => ?_)
  refine GL.o rfl (S1.asL rfl) ?_
  refine GL.dn rfl ?_
  refine GW.toSeq rfl ?_
  refine GW.sr rfl rfl ?_
  refine GL.o rfl (S1.mvL rfl) ?_
  refine GL.o rfl (S1.len el23 rfl) ?_
  refine GL.o rfl (S1.mvI rfl) ?_
  refine GL.dn rfl ?_
  refine GW.toBlock rfl ?_
  refine GW.toLoop (fun x : Nat => [(0, .pointer (some ⟨lb, 0, none⟩)), (5, rowS x46.1 pn), (11, rowS x46.1 pn), (12, .int .i64 pn), (13, .int .i64 x)]) (fun _ => [(x46.1, .cells (ints x46.2) none true)]) (fun x => x ≤ pn) (fun x => pn - x) rfl 0 (Nat.zero_le _) (.c rfl (.c rfl (.c rfl (.c rfl (.c rfl .n))))) (.cons .z .nil) ?_
  rintro x f hx
  refine GW.sr rfl rfl ?_
  refine GL.o rfl (S1.lss rfl rfl) ?_
  refine GL.dn rfl ?_
  refine GW.toSeq rfl ?_
  refine GW.toD rfl rfl (fun w2 => ?_) (fun w2 => ?_)
  refine GW.toSkip rfl ?_
  refine GQ.on ?_
  refine GW.toSeq rfl ?_
  refine GW.toBlock rfl ?_
  refine GW.sr rfl rfl ?_
  refine GL.o rfl (S1.mvI rfl) ?_
  refine GL.o rfl (S1.ixN el23 rfl rfl (by omega)) ?_
  refine GL.o rfl (S1.ldI sc3 rfl (.at .z) (by omega)) ?_
  refine GL.o rfl (S1.asI rfl) ?_
  refine GL.o rfl (S1.asI rfl) ?_
  refine GL.dn rfl ?_
  refine GW.sr rfl rfl ?_
  refine GL.o rfl (S1.mvI rfl) ?_
  refine GL.o rfl (S1.mvP rfl) ?_
  refine GL.o rfl (S1.nc rfl) ?_
  refine GL.o rfl (S1.fa fa86_0 rfl) ?_
  refine GL.o rfl (S1.fa fa25_1 rfl) ?_
  refine GL.o rfl (S1.ld sc23 rfl (.old0 hb) rfl) ?_
  refine GL.o rfl (S1.mvI rfl) ?_
  refine GL.o rfl (S1.ixR el23 h2 rfl rfl (by omega)) ?_
  refine GL.o rfl (S1.ldCI sc3 (z := 1) h2 rfl (m := x) (by omega) rfl (d := 0) rfl rfl) ?_
  refine GL.o rfl (S1.lss rfl rfl) ?_
  refine GL.dn rfl ?_
  refine GW.toD rfl rfl (fun w3 => ?_) (fun w3 => ?_)
  refine GW.sr rfl rfl ?_
  refine GL.o rfl (S1.asB rfl) ?_
  refine GL.dn rfl ?_
  refine GW.toRet rfl ?_
  refine GQ.outR ?_
  refine GQ.onR ?_
  refine GQ.onR ?_
  refine GQ.outR ?_
  refine GQ.onR ?_
  refine GQ.ret _ (.tmp (v := (.bool _)) rfl rfl .nil) .one rfl ?_ .nil
  exact trivial
  refine GW.toSkip rfl ?_
  refine GQ.outN ?_
  refine GQ.on ?_
  refine GW.toReg rfl ?_
  refine GL.o rfl (S1.inc rfl rfl (by omega)) ?_
  refine GL.o rfl (S1.mvI rfl) ?_
  refine GL.done rfl ?_
  refine GQ.next (x + 1) (by omega) (by omega) (.c rfl (.c rfl (.c rfl (.c rfl (.c rfl .n))))) .tz
  refine GW.toExit rfl ?_
  refine GQ.onE ?_
  refine GQ.onE ?_
  refine GQ.outH ?_
  refine GQ.on ?_
  refine GW.toSeq rfl ?_
  refine GW.toDrw mx rfl ?_
  refine GD.o rfl (S1.mvL rfl) rfl ?_
  refine GD.call rfl .no fo54 .nil (fun h H => ct54 (H.get .z) (by omega) (by omega)) (.d (.c (v := (.slice _ _ _)) rfl .n)) (fun r4 _ => ?_)
  refine GD.o rfl (S1.mvP rfl) rfl ?_
  refine GD.o rfl (S1.nc rfl) rfl ?_
  refine GD.o rfl (S1.fa fa86_0 rfl) rfl ?_
  refine GD.o rfl (S1.fa fa25_2 rfl) rfl ?_
  refine GD.o rfl (S1.ld sc3 rfl (.old0 hb) rfl) rfl ?_
  refine GD.o rfl (S1.geq rfl rfl) rfl ?_
  refine GD.o rfl (S1.asB rfl) rfl ?_
  refine GD.done rfl ?_
  refine GQ.on ?_
  refine GW.toRet rfl ?_
  refine GQ.ret _ (.tmp (v := (.bool _)) rfl rfl .nil) .one rfl ?_ .nil
  exact trivial
end
end Go.Proofs.YtadgfnnkpddneaaGreat
namespace Go.Proofs.YtadgfnnkpddneaaGreat
open Go Go.E
set_option maxRecDepth 100000
set_option maxHeartbeats 4000000

structure Sh where
  lb : Nat
  uv : Value
  uE : Ents
  un : Nat
  ul : List Int

def UlOk (hr : RO) (sh : Option Addr) (shn un : Nat) (ul : List Int) : Prop := ∀ i k, i < shn → k < un → ul.getD (0 + k * 2) 0 = (i : Nat) → 0 ≤ ul.getD (0 + k * 2 + 1) 0 ∧ ul.getD (0 + k * 2 + 1) 0 < sn (el hr sh (i * 1 + 0))

theorem UlOk.app {hr : RO} {sh : Option Addr} {shn un i n : Nat} {uv : Value} {uE : Ents} {ul : List Int} (u : UlOk hr sh shn un ul) (nr : NR 2 uv uE un ul) (hn : n < sn (el hr sh (i * 1 + 0))) : UlOk hr sh shn (un + 1) (ul ++ [(i : Int), (n : Int)]) := by
  have hl : ul.length = un * 2 := by cases nr with
    | nil => rfl
    | row _ h => exact h
  intro j k hj hk e
  by_cases hku : k < un
  · have e1 : (ul ++ [(i : Int), (n : Int)]).getD (0 + k * 2) 0 = ul.getD (0 + k * 2) 0 := by
      rw [List.getD_eq_getElem?_getD, List.getElem?_append_left (by omega), ← List.getD_eq_getElem?_getD]
    have e2 : (ul ++ [(i : Int), (n : Int)]).getD (0 + k * 2 + 1) 0 = ul.getD (0 + k * 2 + 1) 0 := by
      rw [List.getD_eq_getElem?_getD, List.getElem?_append_left (by omega), ← List.getD_eq_getElem?_getD]
    rw [e1] at e
    rw [e2]
    exact u j k hj hku e
  · have hk2 : k = un := by omega
    subst hk2
    have e1 : (ul ++ [(i : Int), (n : Int)]).getD (0 + k * 2) 0 = i := by
      rw [List.getD_eq_getElem?_getD, List.getElem?_append_right (by omega), show 0 + k * 2 - ul.length = 0 by omega]; rfl
    have e2 : (ul ++ [(i : Int), (n : Int)]).getD (0 + k * 2 + 1) 0 = n := by
      rw [List.getD_eq_getElem?_getD, List.getElem?_append_right (by omega), show 0 + k * 2 + 1 - ul.length = 1 by omega]; rfl
    rw [e1] at e
    rw [e2]
    have : j = i := by omega
    subst this
    omega

section
variable {h : EH} {hr : RO} {qa pa sh va : Option Addr} {qn qc pn pc shn shc vn vc : Nat} {al : Int}

theorem ct44c {lo hi : Int} (hR : ∀ b o, hr b = some o → h[b]? = some o) (h6 : Cell hr (.sl ly3) (.slice va vn vc)) : Ct Tryz.prog 44 ⟨[.int .i64 lo, .int .i64 hi, .slice va vn vc]⟩ h [] (fun r : Bool => .bool r) (fun _ => True) (fun _ => []) := by
  have hl := h6.le
  by_cases hn : 0 < vn
  · obtain ⟨ha, ⟨opn, wr, hb, _⟩, _⟩ := h6.hit hn
    exact (ct44 (b := sb va) (o := so va) (vs := rv hr va) (opn := opn) (wr := wr) (x := fun k => ie hr va (k * 1 + 0)) (by omega) fun _ => ⟨ha, hR _ _ hb, fun k hk => h6.atE (d := 0) (l := .int .i64) hk rfl⟩).mono fun r _ => ⟨r, rfl, trivial, rfl⟩
  · exact (ct44 (b := 0) (o := 0) (vs := []) (opn := none) (wr := true) (x := fun _ => 0) (by omega) fun h => absurd h hn).mono fun r _ => ⟨r, rfl, trivial, rfl⟩

abbrev V70 : Sh ⊕ Int → Value
  | .inl x => .tuple ⟨[.pointer (some ⟨x.lb, 0, none⟩), .int .i64 0]⟩
  | .inr e => .tuple ⟨[.pointer none, .int .i64 e]⟩
abbrev R70 (hr : RO) (sh : Option Addr) (shn qn : Nat) : Sh ⊕ Int → Prop
  | .inl x => shn = qn ∧ NR 2 x.uv x.uE x.un x.ul ∧ x.un ≤ 7 ∧ UlOk hr sh shn x.un x.ul
  | .inr e => e ≠ 0
abbrev N70 (qa : Option Addr) (qn qc : Nat) (pa : Option Addr) (pn pc : Nat) (al : Int) (sh : Option Addr) (shn shc : Nat) : Sh ⊕ Int → Ents
  | .inl x => (x.lb, .cells (ShC qa qn qc pa pn pc al sh shn shc x.uv) none true) :: x.uE
  | .inr _ => []

theorem ct70 (hR : ∀ b o, hr b = some o → h[b]? = some o) (ok : AnOk hr qa qn pn) (h1 : Cell hr (.sl ly81) (.slice qa qn qc)) (h2 : Cell hr (.sl ly3) (.slice pa pn pc)) (h4 : Cell hr (.sl ly23) (.slice sh shn shc)) :
    Ct Tryz.prog 70 ⟨[.agg ⟨[.slice qa qn qc, .slice pa pn pc, .int .i64 al]⟩, .slice sh shn shc]⟩ h [] V70 (R70 hr sh shn qn) (N70 qa qn qc pa pn pc al sh shn shc) := by
  have hl1 := h1.le
  have hl4 := h4.le
  have hq := ok.q12
  refine Ct.go Tryz.func70 rfl rfl co70 (Hp.start hR) ?_
  refine GW.sr rfl rfl ?_
  refine GL.opN rfl .no (SN.bx (u := .agg ⟨_⟩) rfl .agg) (fun a1 => ?_)
  refine GL.o rfl (S1.asP rfl) ?_
  refine GL.o rfl (S1.asI rfl) ?_
  refine GL.dn rfl ?_
  refine GW.toSeq rfl ?_
  refine GW.sr rfl rfl ?_
  refine GL.o rfl (S1.mvL rfl) ?_
  refine GL.o rfl (S1.len el26 rfl) ?_
  refine GL.o rfl (S1.fa fa25_0 rfl) ?_
  refine GL.o rfl (S1.ld sc22 rfl (.at .z) rfl) ?_
  refine GL.o rfl (S1.len el22 rfl) ?_
  refine GL.o rfl (S1.neq rfl rfl) ?_
  refine GL.dn rfl ?_
  refine GW.toD rfl rfl (fun w2 => ?_) (fun w2 => ?_)
  refine GW.sr rfl rfl ?_
  refine GL.o rfl (S1.asP rfl) ?_
  refine GL.o rfl (S1.asI rfl) ?_
  refine GL.dn rfl ?_
  refine GW.toRet rfl ?_
  refine GQ.onR ?_
  refine GQ.ret (.inr 3) (.tmp rfl rfl (.tmp rfl rfl .nil)) .more rfl (show (3 : Int) ≠ 0 by decide) .nil
  refine GW.toSkip rfl ?_
  refine GQ.on ?_
  refine GW.sr rfl rfl ?_
  refine GL.o rfl (S1.ldW ag25 rfl (.at .z) rfl) ?_
  refine GL.o rfl (S1.mvL rfl) ?_
  refine GL.o rfl (S1.bu zc86 bo86 (.c (v := .agg ⟨_⟩) rfl .agg fz86_0 rfl (by repeat constructor) (.c (v := (.slice _ _ _)) rfl (.one rfl) fz86_1 rfl (by repeat constructor) .n))) ?_
  refine GL.opN rfl .no (SN.bx (u := .agg ⟨_⟩) rfl .agg) (fun a3 => ?_)
  refine GL.o rfl (S1.asP rfl) ?_
  refine GL.dn rfl ?_
  refine GW.toSeq rfl ?_
  refine GW.sr rfl rfl ?_
  refine GL.o rfl (S1.mvL rfl) ?_
  refine GL.o rfl (S1.len el26 rfl) ?_
  refine GL.o rfl (S1.mvI rfl) ?_
  refine GL.dn rfl ?_
  refine GW.toBlock rfl ?_
  refine GW.toLoop (X := Nat × Sh) (fun x => [(2, .pointer (some ⟨a1, 0, none⟩)), (6, .pointer (some ⟨a3, 0, none⟩)), (21, .slice sh shn shc), (22, .int .i64 shn), (23, .int .i64 x.1)]) (fun x => (a3, .cells (ShC qa qn qc pa pn pc al sh shn shc x.2.uv) none true) :: (a1, .cells [.slice qa qn qc, .slice pa pn pc, .int .i64 al] none true) :: x.2.uE) (fun x => x.1 ≤ shn ∧ NR 2 x.2.uv x.2.uE x.2.un x.2.ul ∧ x.2.un ≤ x.1 * 4 ∧ UlOk hr sh shn x.2.un x.2.ul) (fun x => shn - x.1) rfl (0, ⟨a3, nilS, [], 0, []⟩) ⟨Nat.zero_le _, .nil, by dsimp only; omega, fun i k _ hk => absurd hk (by dsimp only; omega)⟩ (.c rfl (.c rfl (.c rfl (.c rfl (.c rfl .n))))) .tz ?_
  rintro x f ⟨hx, nr, hu4, hul⟩
  have hk := ok.qs x.1
  simp only [ie] at hk
  have hcx : x.1 < shn → Cell hr (.sl ly3) (.slice (sa (el hr sh (x.1 * 1 + 0))) (sn (el hr sh (x.1 * 1 + 0))) (sc (el hr sh (x.1 * 1 + 0)))) := fun hlt => h4.at hlt (d := 0) (l := .sl ly3) rfl
  refine GW.sr rfl rfl ?_
  refine GL.o rfl (S1.lss rfl rfl) ?_
  refine GL.dn rfl ?_
  refine GW.toSeq rfl ?_
  refine GW.toD rfl rfl (fun w4 => ?_) (fun w4 => ?_)
  refine GW.toSkip rfl ?_
  refine GQ.on ?_
  refine GW.toSeq rfl ?_
  refine GW.toBlock rfl ?_
  refine GW.sr rfl rfl ?_
  refine GL.o rfl (S1.mvI rfl) ?_
  refine GL.o rfl (S1.ixR el26 h4 rfl rfl (by omega)) ?_
  refine GL.o rfl (S1.ldCL sc23 (z := 1) h4 rfl (m := x.fst) (by omega) rfl (d := 0) rfl rfl) ?_
  refine GL.o rfl (S1.asI rfl) ?_
  refine GL.o rfl (S1.asL rfl) ?_
  refine GL.dn rfl ?_
  refine GW.toSeq rfl ?_
  refine GW.toBlock rfl ?_
  refine GW.sr rfl rfl ?_
  refine GL.o rfl (S1.mvL rfl) ?_
  refine GL.o rfl (S1.len el23 rfl) ?_
  refine GL.o rfl (S1.fa fa25_0 rfl) ?_
  refine GL.o rfl (S1.ld sc22 rfl (.at (.s .z)) rfl) ?_
  refine GL.o rfl (S1.mvI rfl) ?_
  refine GL.o rfl (S1.ixR el22 h1 rfl rfl (by omega)) ?_
  refine GL.o rfl (S1.fa fa81_1 rfl) ?_
  refine GL.o rfl (S1.ldCI sc3 (z := 5) h1 rfl (m := x.fst) (by omega) rfl (d := 1) rfl rfl) ?_
  refine GL.o rfl (S1.neq rfl rfl) ?_
  refine GL.o rfl (S1.asB rfl) ?_
  refine GL.dn rfl ?_
  refine GW.toD rfl rfl (fun w5 => ?_) (fun w5 => ?_)
  refine GW.sr rfl rfl ?_
  refine GL.o rfl (S1.asP rfl) ?_
  refine GL.o rfl (S1.asI rfl) ?_
  refine GL.dn rfl ?_
  refine GW.toRet rfl ?_
  refine GQ.outR ?_
  refine GQ.onR ?_
  refine GQ.outR ?_
  refine GQ.onR ?_
  refine GQ.onR ?_
  refine GQ.outR ?_
  refine GQ.onR ?_
  refine GQ.ret (.inr 3) (.tmp rfl rfl (.tmp rfl rfl .nil)) .more rfl (show (3 : Int) ≠ 0 by decide) .nil
  refine GW.sr rfl rfl ?_
  refine GL.o rfl (S1.mvL rfl) ?_
  refine GL.call rfl .no fo44 .nil (fun h H => ct44c H.rom (hcx (by omega))) (.d (.c (v := (.int _ _)) rfl (.c (v := (.int _ _)) rfl (.c (v := (.slice _ _ _)) rfl .n)))) (fun r44 _ => ?_)
  refine GL.o rfl (S1.asB rfl) ?_
  refine GL.dn rfl ?_
  refine GW.toC rfl rfl (fun w7 => ?_) (fun w7 => ?_)
  refine GW.sr rfl rfl ?_
  refine GL.o rfl (S1.asP rfl) ?_
  refine GL.o rfl (S1.asI rfl) ?_
  refine GL.dn rfl ?_
  refine GW.toRet rfl ?_
  refine GQ.outR ?_
  refine GQ.onR ?_
  refine GQ.outR ?_
  refine GQ.onR ?_
  refine GQ.onR ?_
  refine GQ.outR ?_
  refine GQ.onR ?_
  refine GQ.ret (.inr 7) (.tmp rfl rfl (.tmp rfl rfl .nil)) .more rfl (show (7 : Int) ≠ 0 by decide) .nil
  refine GW.toSkip rfl ?_
  refine GQ.outN ?_
  refine GQ.on ?_
  refine GW.sr rfl rfl ?_
  refine GL.o rfl (S1.mvL rfl) ?_
  refine GL.o rfl (S1.len el23 rfl) ?_
  refine GL.o rfl (S1.mvI rfl) ?_
  refine GL.dn rfl ?_
  refine GW.toBlock rfl ?_
  rotate_left
  refine GW.toExit rfl ?_
  refine GQ.onE ?_
  refine GQ.onE ?_
  refine GQ.outH ?_
  refine GQ.on ?_
  refine GW.toSeq rfl ?_
  refine GW.sr rfl rfl ?_
  refine GL.o rfl (S1.mvP rfl) ?_
  refine GL.o rfl (S1.nc rfl) ?_
  refine GL.o rfl (S1.fa fa86_2 rfl) ?_
  refine GL.o rfl (S1.ld sc52 rfl (.at .z) rfl) ?_
  rotate_left
  · have hc := hcx (by omega)
    have hlc := hc.le
    have hk' := ok.qs x.1 (by omega)
    refine GW.toLoop (X := Nat × Sh) (fun y => [(2, .pointer (some ⟨a1, 0, none⟩)), (6, .pointer (some ⟨a3, 0, none⟩)), (7, .int .i64 x.1), (21, .slice sh shn shc), (22, .int .i64 shn), (23, .int .i64 x.1), (41, .slice (sa (el hr sh (x.1 * 1 + 0))) (sn (el hr sh (x.1 * 1 + 0))) (sc (el hr sh (x.1 * 1 + 0)))), (42, .int .i64 (sn (el hr sh (x.1 * 1 + 0)))), (43, .int .i64 y.1)]) (fun y => (a3, .cells (ShC qa qn qc pa pn pc al sh shn shc y.2.uv) none true) :: (a1, .cells [.slice qa qn qc, .slice pa pn pc, .int .i64 al] none true) :: y.2.uE) (fun y => y.1 ≤ sn (el hr sh (x.1 * 1 + 0)) ∧ NR 2 y.2.uv y.2.uE y.2.un y.2.ul ∧ y.2.un ≤ x.1 * 4 + y.1 ∧ UlOk hr sh shn y.2.un y.2.ul) (fun y => sn (el hr sh (x.1 * 1 + 0)) - y.1) rfl (0, x.2) ⟨Nat.zero_le _, nr, by dsimp only; omega, hul⟩ (.c rfl (.c rfl (.c rfl (.c rfl (.c rfl (.c rfl (.c rfl (.c rfl (.c rfl .n))))))))) (.cons .z .tz) ?_
    rintro y f ⟨hy, nr, hu4, hul⟩
    refine GW.sr rfl rfl ?_
    refine GL.o rfl (S1.lss rfl rfl) ?_
    refine GL.dn rfl ?_
    refine GW.toSeq rfl ?_
    refine GW.toD rfl rfl (fun w8 => ?_) (fun w8 => ?_)
    refine GW.toSkip rfl ?_
    refine GQ.on ?_
    refine GW.toSeq rfl ?_
    refine GW.toBlock rfl ?_
    refine GW.sr rfl rfl ?_
    refine GL.o rfl (S1.mvI rfl) ?_
    refine GL.o rfl (S1.ixR el23 hc rfl rfl (by omega)) ?_
    refine GL.o rfl (S1.ldCI sc3 (z := 1) hc rfl (m := y.fst) (by omega) rfl (d := 0) rfl rfl) ?_
    refine GL.o rfl (S1.asI rfl) ?_
    refine GL.o rfl (S1.asI rfl) ?_
    refine GL.dn rfl ?_
    refine GW.sr rfl rfl ?_
    refine GL.o rfl (S1.mvI rfl) ?_
    refine GL.o rfl (S1.eql rfl rfl) ?_
    refine GL.dn rfl ?_
    refine GW.toD rfl rfl (fun w9 => ?_) (fun w9 => ?_)
    refine GW.toReg rfl ?_
    refine GL.o rfl (S1.mvP rfl) ?_
    refine GL.o rfl (S1.mvP rfl) ?_
    refine GL.o rfl (S1.nc rfl) ?_
    refine GL.o rfl (S1.fa fa86_2 rfl) ?_
    refine GL.o rfl (S1.ld sc52 rfl (.at .z) rfl) ?_
    refine GL.o rfl (S1.mvI rfl) ?_
    refine GL.o rfl (S1.mvI rfl) ?_
    refine GL.o rfl (S1.bu zc59 bo59 (.c (v := (.int _ _)) rfl (.one rfl) fz59_0 rfl (by repeat constructor) (.c (v := (.int _ _)) rfl (.one rfl) fz59_1 rfl (by repeat constructor) .n))) ?_
    refine GL.opN rfl .no (SN.bs1 el52 ez52 rfl rfl rfl) (fun a11 => ?_)
    rotate_left
    refine GW.toSkip rfl ?_
    refine GQ.outN ?_
    refine GQ.on ?_
    refine GW.toReg rfl ?_
    refine GL.o rfl (S1.inc rfl rfl (by omega)) ?_
    refine GL.o rfl (S1.mvI rfl) ?_
    refine GL.done rfl ?_
    refine GQ.next (y.1 + 1, y.2) ⟨(by dsimp only; omega), nr, (by dsimp only; omega), hul⟩ (by dsimp only; omega) (.c rfl (.c rfl (.c rfl (.c rfl (.c rfl (.c rfl (.c rfl (.c rfl (.c rfl .n))))))))) .tz
    refine GW.toExit rfl ?_
    refine GQ.onE ?_
    refine GQ.onE ?_
    refine GQ.outH ?_
    refine GQ.outN ?_
    refine GQ.on ?_
    refine GW.toReg rfl ?_
    refine GL.o rfl (S1.inc rfl rfl (by omega)) ?_
    refine GL.o rfl (S1.mvI rfl) ?_
    refine GL.done rfl ?_
    refine GQ.next (x.1 + 1, y.2) ⟨(by dsimp only; omega), nr, (by dsimp only; omega), hul⟩ (by dsimp only; omega) (.c rfl (.c rfl (.c rfl (.c rfl (.c rfl .n))))) .tz
    refine GL.opN rfl .no (SN.apN (new := [((x.1 : Nat) : Int), ((y.1 : Nat) : Int)]) ap52_52 nr rfl (.row rfl (.at .z) rfl) (by decide) (by omega) (show Take _ y.2.uE _ from (.ts (.ts (.ts .tz))))) (fun a13 => ?_)
    refine GL.o rfl (S1.nc rfl) ?_
    refine GL.o rfl (S1.fa fa86_2 rfl) ?_
    refine GL.o rfl (S1.st (u := (.slice _ _ _)) sc52 rfl rfl rfl (by repeat constructor) (.s (.s .z))) ?_
    refine GL.done rfl ?_
    refine GQ.outN ?_
    refine GQ.on ?_
    refine GW.toReg rfl ?_
    refine GL.o rfl (S1.inc rfl rfl (by omega)) ?_
    refine GL.o rfl (S1.mvI rfl) ?_
    refine GL.done rfl ?_
    refine GQ.next (y.1 + 1, ⟨a3, rowS a13 (y.2.un + 1), [(a13, opRow (ints (y.2.ul ++ [((x.1 : Nat) : Int), ((y.1 : Nat) : Int)])) 2)], y.2.un + 1, (y.2.ul ++ [((x.1 : Nat) : Int), ((y.1 : Nat) : Int)])⟩) ⟨(by dsimp only; omega), nr.app (by decide) rfl, (by dsimp only; omega), hul.app nr (by omega)⟩ (by dsimp only; omega) (.c rfl (.c rfl (.c rfl (.c rfl (.c rfl (.c rfl (.c rfl (.c rfl (.c rfl .n))))))))) (.cons (.s (.s .z)) (.cons (.s (.s .z)) (.cons .z .nil)))
  obtain ⟨av, hav⟩ : ∃ a, x.2.uv = .slice a x.2.un x.2.un := by
    rcases nr.two with ⟨e1, e2, _⟩ | ⟨_, r, e2, _⟩
    · exact ⟨none, by rw [e2, e1]⟩
    · exact ⟨some ⟨r, 0, none⟩, by rw [e2]⟩
  have hav2 := hav
  rw [hav]
  refine GL.o rfl (S1.len el52 rfl) ?_
  refine GL.o rfl (S1.gtr rfl rfl) ?_
  refine GL.dn rfl ?_
  refine GW.toD rfl rfl (fun w14 => ?_) (fun w14 => ?_)
  refine GW.sr rfl rfl ?_
  refine GL.o rfl (S1.asP rfl) ?_
  refine GL.o rfl (S1.asI rfl) ?_
  refine GL.dn rfl ?_
  refine GW.toRet rfl ?_
  refine GQ.onR ?_
  refine GQ.ret (.inr 3) (.tmp rfl rfl (.tmp rfl rfl .nil)) .more rfl (show (3 : Int) ≠ 0 by decide) .nil
  refine GW.toSkip rfl ?_
  refine GQ.on ?_
  refine GW.sr rfl rfl ?_
  refine GL.o rfl (S1.mvP rfl) ?_
  refine GL.o rfl (S1.asP rfl) ?_
  refine GL.o rfl (S1.asI rfl) ?_
  refine GL.dn rfl ?_
  refine GW.toRet rfl ?_
  refine GQ.ret (.inl ⟨a3, x.2.uv, x.2.uE, x.2.un, x.2.ul⟩) (.tmp rfl rfl (.tmp rfl rfl .nil)) .more rfl ⟨by omega, nr, (by dsimp only; omega), hul⟩ (show Take _ ((a3, .cells (ShC qa qn qc pa pn pc al sh shn shc x.2.uv) none true) :: x.2.uE) _ from by rw [hav]; exact (.cons .z (.ts .tz)))
end
end Go.Proofs.YtadgfnnkpddneaaGreat
namespace Go.Proofs.YtadgfnnkpddneaaGreat
open Go Go.E
set_option maxRecDepth 100000
set_option maxHeartbeats 4000000

section
variable {h : EH} {hr : RO} {qa pa sh : Option Addr} {qn qc pn pc shn shc : Nat} {al : Int}

abbrev R45 (hr : RO) (qa : Option Addr) (pn : Nat) (sh : Option Addr) (shn qn : Nat) : Sh ⊕ Int → Prop
  | .inl x => AnOk hr qa qn pn ∧ shn = qn ∧ NR 2 x.uv x.uE x.un x.ul ∧ x.un ≤ 7 ∧ UlOk hr sh shn x.un x.ul
  | .inr e => e ≠ 0

theorem ct45 (hR : ∀ b o, hr b = some o → h[b]? = some o) (h1 : Cell hr (.sl ly81) (.slice qa qn qc)) (h2 : Cell hr (.sl ly3) (.slice pa pn pc)) (h4 : Cell hr (.sl ly23) (.slice sh shn shc)) :
    Ct Tryz.prog 45 ⟨[.agg ⟨[.slice qa qn qc, .slice pa pn pc, .int .i64 al]⟩, .slice sh shn shc]⟩ h [] V70 (R45 hr qa pn sh shn qn) (N70 qa qn qc pa pn pc al sh shn shc) := by
  refine Ct.go Tryz.func45 rfl rfl co45 (Hp.start hR) ?_
  refine GW.sr rfl rfl ?_
  refine GL.opN rfl .no (SN.bx (u := .agg ⟨_⟩) rfl .agg) (fun a1 => ?_)
  refine GL.o rfl (S1.asP rfl) ?_
  refine GL.o rfl (S1.asI rfl) ?_
  refine GL.dn rfl ?_
  refine GW.toSeq rfl ?_
  refine GW.sr rfl rfl ?_
  refine GL.o rfl (S1.ldW ag25 rfl (.at .z) rfl) ?_
  refine GL.call rfl .no fo7 .nil (fun h H => ct7 H.rom h1 h2) (.d (.c (v := (.agg _)) rfl .n)) (fun e7 q7 => ?_)
  refine GL.o rfl (S1.mvT rfl) ?_
  refine GL.o rfl (S1.ext (v := (.int _ _)) rfl rfl) ?_
  refine GL.o rfl (S1.ext (v := (.int _ _)) rfl rfl) ?_
  refine GL.o rfl (S1.ext (v := (.int _ _)) rfl rfl) ?_
  refine GL.o rfl (S1.asI rfl) ?_
  refine GL.o rfl (S1.asI rfl) ?_
  refine GL.o rfl (S1.asI rfl) ?_
  refine GL.dn rfl ?_
  refine GW.sr rfl rfl ?_
  refine GL.o rfl (S1.mvI rfl) ?_
  refine GL.o rfl (S1.neq rfl rfl) ?_
  refine GL.dn rfl ?_
  refine GW.toD rfl rfl (fun w3 => ?_) (fun w3 => ?_)
  refine GW.sr rfl rfl ?_
  refine GL.o rfl (S1.mvI rfl) ?_
  refine GL.o rfl (S1.asP rfl) ?_
  refine GL.o rfl (S1.asI rfl) ?_
  refine GL.dn rfl ?_
  refine GW.toRet rfl ?_
  refine GQ.onR ?_
  refine GQ.ret (.inr e7.2.2) (.tmp rfl rfl (.tmp rfl rfl .nil)) .more rfl (show e7.2.2 ≠ 0 by omega) .nil
  refine GW.toSkip rfl ?_
  refine GQ.on ?_
  refine GW.sr rfl rfl ?_
  refine GL.o rfl (S1.ldW ag25 rfl (.at .z) rfl) ?_
  refine GL.o rfl (S1.mvL rfl) ?_
  refine GL.call rfl .no fo70 .nil (fun h H => ct70 H.rom (q7 (by omega)) h1 h2 h4) (.d (.c (v := (.agg _)) rfl (.c (v := (.slice _ _ _)) rfl .n))) (fun x70 => match x70 with | .inl x70 => fun q70 => ?_ | .inr e70 => fun q70 => ?_)
  refine GL.o rfl (S1.ext (v := (.pointer _)) rfl rfl) ?_
  refine GL.o rfl (S1.ext (v := (.int _ _)) rfl rfl) ?_
  refine GL.o rfl (S1.asP rfl) ?_
  refine GL.o rfl (S1.asI rfl) ?_
  refine GL.dn rfl ?_
  refine GW.toRet rfl ?_
  refine GQ.ret (.inl x70) (.tmp rfl rfl (.tmp rfl rfl .nil)) .more rfl ⟨q7 (by omega), q70⟩ (.cons .z .tzA)
  refine GL.o rfl (S1.ext (v := (.pointer _)) rfl rfl) ?_
  refine GL.o rfl (S1.ext (v := (.int _ _)) rfl rfl) ?_
  refine GL.o rfl (S1.asP rfl) ?_
  refine GL.o rfl (S1.asI rfl) ?_
  refine GL.dn rfl ?_
  refine GW.toRet rfl ?_
  refine GQ.ret (.inr e70) (.tmp rfl rfl (.tmp rfl rfl .nil)) .more rfl q70 .nil
end
end Go.Proofs.YtadgfnnkpddneaaGreat
namespace Go.Proofs.YtadgfnnkpddneaaGreat
open Go Go.E
set_option maxRecDepth 100000
set_option maxHeartbeats 4000000

theorem ct53 {h : EH} {lb : Nat} : Ct Tryz.prog 53 ⟨[.pointer (some ⟨lb, 0, none⟩)]⟩ h [] (fun x : Nat => .func (.func 87) ⟨[]⟩ ⟨[.pointer (some ⟨x, 0, none⟩)]⟩) (fun _ => True) (fun x => [(x, .cells [.pointer (some ⟨lb, 0, none⟩)] none true)]) := by
  refine Ct.go Tryz.func53 rfl rfl co53 (Hp.start (hr := fun _ => none) (by simp)) ?_
  refine GW.sr rfl rfl ?_
  refine GL.opN rfl .no (SN.bx (u := (.pointer _)) rfl (.one rfl)) (fun a1 => ?_)
  refine GL.o rfl (S1.as (v := .nilFunc) rfl) ?_
  refine GL.dn rfl ?_
  refine GW.sr rfl rfl ?_
  refine GL.o rfl (S1.mf .n (.c (v := (.pointer _)) rfl .n)) ?_
  refine GL.o rfl (S1.asF rfl) ?_
  refine GL.dn rfl ?_
  refine GW.toRet rfl ?_
  refine GQ.ret _ (.tmp (v := (.func _ _ _)) rfl rfl .nil) .one rfl ?_ .tz
  exact trivial

section
variable {h : EH} {hr : RO} {qa pa sh av : Option Addr} {qn qc pn pc shn shc bx lb l un : Nat} {al : Int}

abbrev M87 (bx lb : Nat) (qa : Option Addr) (qn qc : Nat) (pa : Option Addr) (pn pc : Nat) (al : Int) (sh : Option Addr) (shn shc : Nat) (av : Option Addr) (un : Nat) (Z : Ents) : Ents :=
  (bx, .cells [.pointer (some ⟨lb, 0, none⟩)] none true) :: (lb, .cells (ShC qa qn qc pa pn pc al sh shn shc (.slice av un un)) none true) :: Z

theorem ct87i {Y : Type} (Z : Y → Ents) (RI : Nat → Y → Prop) (RD : Y → Prop) (hun : un ≤ 7)
    (round : ∀ (n : Nat) (y : Y) (h : EH), n < 2 ^ un → RI n y → Hp hr h ((M87 bx lb qa qn qc pa pn pc al sh shn shc av un (Z y)).map (·.1)) (M87 bx lb qa qn qc pa pn pc al sh shn shc av un (Z y)) h →
      Rt Tryz.prog l ⟨[.int .i64 n]⟩ h ((M87 bx lb qa qn qc pa pn pc al sh shn shc av un (Z y)).map (·.1)) (fun z : Bool × Y => .bool z.1) (fun z => if z.1 = true then RI (n + 1) z.2 else RD z.2) (fun z => M87 bx lb qa qn qc pa pn pc al sh shn shc av un (Z z.2)))
    (y0 : Y) (hy : RI 0 y0) (H : Hp hr h ((M87 bx lb qa qn qc pa pn pc al sh shn shc av un (Z y0)).map (·.1)) (M87 bx lb qa qn qc pa pn pc al sh shn shc av un (Z y0)) h) :
    Ct Tryz.prog 87 ⟨[.func (.yield l) #[] #[], .pointer (some ⟨bx, 0, none⟩)]⟩ h ((M87 bx lb qa qn qc pa pn pc al sh shn shc av un (Z y0)).map (·.1)) (fun _ : Y => .tuple #[]) (fun y => RI (2 ^ un) y ∨ RD y) (fun y => M87 bx lb qa qn qc pa pn pc al sh shn shc av un (Z y)) := by
  refine Ct.go Tryz.func87 rfl rfl co87 H ?_
  dsimp only [M87]
  refine GW.sr rfl rfl ?_
  refine GL.o rfl (S1.ld sc82 rfl (.at .z) rfl) ?_
  refine GL.o rfl (S1.nc rfl) ?_
  refine GL.o rfl (S1.fa fa86_2 rfl) ?_
  refine GL.o rfl (S1.ld sc52 rfl (.at (.s .z)) rfl) ?_
  refine GL.o rfl (S1.len el52 rfl) ?_
  refine GL.o rfl (S1.shl rfl rfl (by omega)) ?_
  refine GL.o rfl (S1.mvI rfl) ?_
  refine GL.dn rfl ?_
  refine GW.toBlock rfl ?_
  obtain ⟨B, hBe, hB, hBu⟩ : ∃ B : Nat, IntKind.i64.wrap (1 * 2 ^ (min (un : Int).toNat IntKind.i64.bits)) = (B : Int) ∧ B ≤ 128 ∧ B = 2 ^ un := ⟨2 ^ un, by
    rcases (by omega : un = 0 ∨ un = 1 ∨ un = 2 ∨ un = 3 ∨ un = 4 ∨ un = 5 ∨ un = 6 ∨ un = 7) with rfl | rfl | rfl | rfl | rfl | rfl | rfl | rfl <;> decide, by
    rcases (by omega : un = 0 ∨ un = 1 ∨ un = 2 ∨ un = 3 ∨ un = 4 ∨ un = 5 ∨ un = 6 ∨ un = 7) with rfl | rfl | rfl | rfl | rfl | rfl | rfl | rfl <;> decide, rfl⟩
  rw [hBe]
  refine GW.toLoop (X := Nat × Y) (fun x => [(0, .func (.yield l) #[] #[]), (9, .int .i64 B), (10, .int .i64 x.1)]) (fun x => M87 bx lb qa qn qc pa pn pc al sh shn shc av un (Z x.2)) (fun x => RI x.1 x.2 ∧ x.1 ≤ B) (fun x => B - x.1) rfl (0, y0) ⟨hy, Nat.zero_le _⟩ (.c rfl (.c rfl (.c rfl .n))) .tz ?_
  rintro x f ⟨hy, hxB⟩
  dsimp only [M87]
  refine GW.sr rfl rfl ?_
  refine GL.o rfl (S1.lss rfl rfl) ?_
  refine GL.dn rfl ?_
  refine GW.toSeq rfl ?_
  refine GW.toD rfl rfl (fun w1 => ?_) (fun w1 => ?_)
  refine GW.toSkip rfl ?_
  refine GQ.on ?_
  refine GW.toSeq rfl ?_
  refine GW.toBlock rfl ?_
  refine GW.sr rfl rfl ?_
  refine GL.o rfl (S1.mvI rfl) ?_
  refine GL.o rfl (S1.asI rfl) ?_
  refine GL.dn rfl ?_
  refine GW.sr rfl rfl ?_
  refine GL.o rfl (S1.mvF rfl) ?_
  refine GL.o rfl (S1.mvI rfl) ?_
  rotate_left
  refine GW.toExit rfl ?_
  refine GQ.onE ?_
  refine GQ.onE ?_
  refine GQ.outH ?_
  refine GQ.retN x.2 .nil .z ?_ ?_ .tz
  rfl
  exact .inl ((show x.1 = 2 ^ un by omega) ▸ hy)
  refine GL.yield (X := Bool × Y) (V := fun z => .bool z.1) (R := fun z => if z.1 = true then RI (x.1 + 1) z.2 else RD z.2) (M := fun z => M87 bx lb qa qn qc pa pn pc al sh shn shc av un (Z z.2)) (ps := M87 bx lb qa qn qc pa pn pc al sh shn shc av un (Z x.2)) rfl .no (yieldee_of (fs := []) (vs := [.int .i64 (x.1 : Int)]) (cs := #[]) rfl (.c rfl .n)) .tz
    (fun h H => round _ x.2 h (by omega) hy (H.give (ps := M87 bx lb qa qn qc pa pn pc al sh shn shc av un (Z x.2)) .tz)) (fun z q => ?_)
  refine GL.o rfl (S1.not rfl) ?_
  refine GL.dn rfl ?_
  refine GW.toC rfl rfl (fun w2 => ?_) (fun w2 => ?_)
  refine GW.toRet rfl ?_
  refine GQ.outR ?_
  refine GQ.onR ?_
  refine GQ.onR ?_
  refine GQ.outR ?_
  refine GQ.ret _ .nil .z rfl ?_ (.cons .z .tz)
  exact .inr (by simp_all)
  refine GW.toSkip rfl ?_
  refine GQ.outN ?_
  refine GQ.on ?_
  refine GW.toReg rfl ?_
  refine GL.o rfl (S1.inc rfl rfl (by omega)) ?_
  refine GL.o rfl (S1.mvI rfl) ?_
  refine GL.done rfl ?_
  refine GQ.nextT (x.1 + 1, z.2) (.c rfl (.c rfl (.c rfl .n))) (.cons .z .tz) ⟨by simp_all, (by first | omega | (dsimp only; omega))⟩ (by first | omega | (dsimp only; omega))

theorem ct87 {Y : Type} (Z : Y → Ents) (RI RD : Y → Prop) (hun : un ≤ 7)
    (round : ∀ (n : Int) (y : Y) (h : EH), RI y → Hp hr h ((M87 bx lb qa qn qc pa pn pc al sh shn shc av un (Z y)).map (·.1)) (M87 bx lb qa qn qc pa pn pc al sh shn shc av un (Z y)) h →
      Rt Tryz.prog l ⟨[.int .i64 n]⟩ h ((M87 bx lb qa qn qc pa pn pc al sh shn shc av un (Z y)).map (·.1)) (fun z : Bool × Y => .bool z.1) (fun z => if z.1 = true then RI z.2 else RD z.2) (fun z => M87 bx lb qa qn qc pa pn pc al sh shn shc av un (Z z.2)))
    (y0 : Y) (hy : RI y0) (H : Hp hr h ((M87 bx lb qa qn qc pa pn pc al sh shn shc av un (Z y0)).map (·.1)) (M87 bx lb qa qn qc pa pn pc al sh shn shc av un (Z y0)) h) :
    Ct Tryz.prog 87 ⟨[.func (.yield l) #[] #[], .pointer (some ⟨bx, 0, none⟩)]⟩ h ((M87 bx lb qa qn qc pa pn pc al sh shn shc av un (Z y0)).map (·.1)) (fun _ : Y => .tuple #[]) (fun y => RI y ∨ RD y) (fun y => M87 bx lb qa qn qc pa pn pc al sh shn shc av un (Z y)) :=
  ct87i Z (fun _ => RI) RD hun (fun n y h _ => round n y h) y0 hy H
end
end Go.Proofs.YtadgfnnkpddneaaGreat
namespace Go.Proofs.YtadgfnnkpddneaaGreat
open Go Go.E
set_option maxRecDepth 100000
set_option maxHeartbeats 4000000

section
variable {h : EH} {hr : RO} {qa pa sh av : Option Addr} {qn qc pn pc shn shc bx lb un g : Nat} {al : Int} {fs cs : List Value} {Z : Ents}

def H52 (hr : RO) (L : Ents) (g : Nat) (fs cs : List Value) : Prop := ∀ (n : Int) (h' : EH), (∀ b o, hr b = some o → h'[b]? = some o) → (∀ e ∈ L, h'[e.1]? = some e.2) → Ct Tryz.prog g ⟨fs ++ ([.int .i64 n] ++ cs)⟩ h' [] (fun r : Bool => .bool r) (fun _ => True) (fun _ => [])

abbrev R52 (a1 a2 a3 g : Nat) (fs cs : List Value) (s a : Bool) (Z : Ents) : Ents :=
  (a3, .cells [.bool a] none true) :: (a2, .cells [.bool s] none true) :: (a1, .cells [.func (.func g) ⟨fs⟩ ⟨cs⟩] none true) :: Z

theorem mem3 {A B c d e f x : Nat × EObj} {Z : Ents} (h : x ∈ A :: B :: Z) : x ∈ c :: A :: B :: d :: e :: f :: Z := by
  simp only [List.mem_cons] at h ⊢
  rcases h with h | h | h <;> simp [h]

theorem ct52 (hf : fnOk Tryz.prog g = true) (hun : un ≤ 7) (hg : H52 hr (M87 bx lb qa qn qc pa pn pc al sh shn shc av un Z) g fs cs) (H : Hp hr h ((M87 bx lb qa qn qc pa pn pc al sh shn shc av un Z).map (·.1)) (M87 bx lb qa qn qc pa pn pc al sh shn shc av un Z) h) :
    Ct Tryz.prog 52 ⟨[.func (.func 87) ⟨[]⟩ ⟨[.pointer (some ⟨bx, 0, none⟩)]⟩, .func (.func g) ⟨fs⟩ ⟨cs⟩]⟩ h ((M87 bx lb qa qn qc pa pn pc al sh shn shc av un Z).map (·.1)) (fun r : Bool × Bool => .tuple ⟨[.bool r.1, .bool r.2]⟩) (fun _ => True) (fun _ => M87 bx lb qa qn qc pa pn pc al sh shn shc av un Z) := by
  refine Ct.goC Tryz.func52 rfl rfl co52 H ?_
  dsimp only [M87] at H ⊢
  refine GW.sr rfl rfl ?_
  refine GL.opN rfl .no (SN.bx (u := (.func _ _ _)) rfl (.one rfl)) (fun a1 => ?_)
  refine GL.opN rfl .no (SN.al zc4) (fun a2 => ?_)
  refine GL.opN rfl .no (SN.al zc4) (fun a3 => ?_)
  refine GL.dn rfl ?_
  refine GW.sr rfl rfl ?_
  refine GL.o rfl (S1.st (u := (.bool _)) sc4 rfl rfl rfl (by repeat constructor) .z) ?_
  refine GL.dn rfl ?_
  refine GW.toSeq rfl ?_
  refine GW.sr rfl rfl ?_
  refine GL.o rfl (S1.mvF rfl) ?_
  refine GL.dn rfl ?_
  refine GW.toBlock rfl ?_
  refine GW.toRange (Y := Bool × Bool) (M := fun y => M87 bx lb qa qn qc pa pn pc al sh shn shc av un (R52 a1 a2 a3 g fs cs y.1 y.2 Z)) (R := fun _ ex => ex = .normal) rfl rfl fo87 (fun k2 k3 d l h1 H1 => ?_) (fun d y ex hR => ?_)
  · generalize hlp : newLoop _ _ _ _ _ _ = lp0 at H1
    have H1' := H1.give (ps := M87 bx lb qa qn qc pa pn pc al sh shn shc av un ((l, .loop lp0) :: R52 a1 a2 a3 g fs cs false true Z)) (.cons (.s (.s (.s (.s (.s .z))))) (.cons (.s (.s (.s (.s (.s .z))))) (.cons .z (.cons (.s .z) (.cons (.s .z) (.cons (.s .z) (.ts .tz)))))))
    refine WF.mono (ct87 (bx := bx) (l := l) (Y := Loop × Bool × Bool) (fun y => (l, .loop y.1) :: R52 a1 a2 a3 g fs cs y.2.1 y.2.2 Z) (fun y => y.1 = lp0) (fun _ => False) hun (fun n y h hy H => ?_) (lp0, false, true) rfl H1') fun o h2 q => ?_
    · obtain ⟨yl, ys, ya⟩ := y
      dsimp only at hy
      subst hy
      subst hlp
      refine Rt.go H (r := (.s (.s .z))) (by simp only [newLoop, Array.size_ofFn]) rfl (newLoop_f rfl) k2 ?_
      clear H1 H1'
      refine GW.toReg rfl ?_
      refine GL.o rfl (S1.asI rfl) ?_
      refine GL.done rfl ?_
      refine GQ.body (.s (.s .z)) rfl k3 ?_
      refine GW.toBlock rfl ?_
      refine GW.sr rfl rfl ?_
      refine GL.o rfl (S1.ld sc88 rfl (.at (.s (.s (.s (.s (.s .z)))))) rfl) ?_
      refine GL.o rfl (S1.mvI rfl) ?_
      refine GL.call rfl .no hf .nil (fun h H => hg _ _ H.rom (fun e he => H.at_ e (mem3 he))) (.v rfl (.c (v := (.int _ _)) rfl .n)) ((fun v _ => ?_))
      refine GL.o rfl (S1.asB rfl) ?_
      refine GL.dn rfl ?_
      refine GW.toReg rfl ?_
      refine GL.o rfl (S1.ld sc4 rfl (.at (.s (.s (.s (.s .z))))) rfl) ?_
      refine GL.o rfl (S1.mvB rfl) ?_
      refine GL.split 14 rfl (fun w5 => ?_) (fun w5 => ?_)
      refine GL.skip rfl (.not rfl rfl rfl) ?_
      refine GL.o rfl (S1.pickT (v := (.bool _)) rfl rfl) ?_
      refine GL.o rfl (S1.ld sc4 rfl (.at (.s (.s (.s .z)))) rfl) ?_
      refine GL.o rfl (S1.mvB rfl) ?_
      refine GL.split 18 rfl (fun w6 => ?_) (fun w6 => ?_)
      refine GL.one rfl (.yes rfl rfl rfl) (S1.mvB rfl) ?_
      refine GL.o rfl (S1.pickT (v := (.bool _)) rfl rfl) ?_
      refine GL.o rfl (S1.st (u := (.bool _)) sc4 rfl rfl rfl (by repeat constructor) (.s (.s (.s (.s .z))))) ?_
      refine GL.o rfl (S1.st (u := (.bool _)) sc4 rfl rfl rfl (by repeat constructor) (.s (.s (.s .z)))) ?_
      refine GL.done rfl ?_
      refine GQ.outN ?_
      refine GQ.rN (true, _, _, _) .z rfl rfl (.cons (.s .z) (.cons (.s .z) (.cons .z .tz)))
      refine GL.skip rfl (.not rfl rfl rfl) ?_
      refine GL.o rfl (S1.pickF (v := (.bool _)) rfl rfl) ?_
      refine GL.o rfl (S1.st (u := (.bool _)) sc4 rfl rfl rfl (by repeat constructor) (.s (.s (.s (.s .z))))) ?_
      refine GL.o rfl (S1.st (u := (.bool _)) sc4 rfl rfl rfl (by repeat constructor) (.s (.s (.s .z)))) ?_
      refine GL.done rfl ?_
      refine GQ.outN ?_
      refine GQ.rN (true, _, _, _) .z rfl rfl (.cons (.s .z) (.cons (.s .z) (.cons .z .tz)))
      refine GL.one rfl (.yes rfl rfl rfl) (S1.mvB rfl) ?_
      refine GL.o rfl (S1.pickF (v := (.bool _)) rfl rfl) ?_
      refine GL.o rfl (S1.ld sc4 rfl (.at (.s (.s (.s .z)))) rfl) ?_
      refine GL.o rfl (S1.mvB rfl) ?_
      refine GL.split 18 rfl (fun w7 => ?_) (fun w7 => ?_)
      refine GL.one rfl (.yes rfl rfl rfl) (S1.mvB rfl) ?_
      refine GL.o rfl (S1.pickT (v := (.bool _)) rfl rfl) ?_
      refine GL.o rfl (S1.st (u := (.bool _)) sc4 rfl rfl rfl (by repeat constructor) (.s (.s (.s (.s .z))))) ?_
      refine GL.o rfl (S1.st (u := (.bool _)) sc4 rfl rfl rfl (by repeat constructor) (.s (.s (.s .z)))) ?_
      refine GL.done rfl ?_
      refine GQ.outN ?_
      refine GQ.rN (true, _, _, _) .z rfl rfl (.cons (.s .z) (.cons (.s .z) (.cons .z .tz)))
      refine GL.skip rfl (.not rfl rfl rfl) ?_
      refine GL.o rfl (S1.pickF (v := (.bool _)) rfl rfl) ?_
      refine GL.o rfl (S1.st (u := (.bool _)) sc4 rfl rfl rfl (by repeat constructor) (.s (.s (.s (.s .z))))) ?_
      refine GL.o rfl (S1.st (u := (.bool _)) sc4 rfl rfl rfl (by repeat constructor) (.s (.s (.s .z)))) ?_
      refine GL.done rfl ?_
      refine GQ.outN ?_
      refine GQ.rN (true, _, _, _) .z rfl rfl (.cons (.s .z) (.cons (.s .z) (.cons .z .tz)))
    · cases o with
      | pan v => exact q.elim
      | ret v =>
        obtain ⟨y, rfl, hR, hP⟩ := q
        have H2 := H1.callT (ps := M87 bx lb qa qn qc pa pn pc al sh shn shc av un ((l, .loop lp0) :: R52 a1 a2 a3 g fs cs false true Z)) (.cons (.s (.s (.s (.s (.s .z))))) (.cons (.s (.s (.s (.s (.s .z))))) (.cons .z (.cons (.s .z) (.cons (.s .z) (.cons (.s .z) (.ts .tz))))))) hP
        obtain ⟨yl, ys, ya⟩ := y
        rcases hR with e | e
        · dsimp only at e
          subst e
          exact ⟨(ys, ya), yl, .normal, by subst hlp; rfl, by subst hlp; simp [newLoop], rfl, H2.sub (.cons (.s (.s (.s .z))) .tz)⟩
        · exact e.elim
  · obtain rfl := hR
    refine GQ.outN ?_
    refine GQ.on ?_
    refine GW.toSeq rfl ?_
    refine GW.toDrwW [a2] mx rfl (fun _ H => InL.go (.c (.s (.s (.s (.s .z)))) .n) H) ?_
    refine GE.one rfl .no (S1.ld sc4 rfl (.at (.s (.s (.s (.s .z))))) rfl) rfl (.f (by kernel_rfl)) ?_
    refine GE.one rfl .no (S1.ld sc4 rfl (.at (.s (.s (.s .z)))) rfl) rfl (.b rfl (fun _ H => NoW.go (by repeat first | exact .n | apply NoW.c (.s (.s (.s (.l .z))))) H)) ?_
    refine GE.loud rfl .no (S1.st (u := (.bool _)) sc4 rfl rfl rfl (by repeat constructor) (.s (.s (.s (.s .z))))) rfl rfl (by first | exact .w rfl (by simp) | exact .n rfl) ?_
    refine GE.loud rfl .no (S1.st (u := (.bool _)) sc4 rfl rfl rfl (by repeat constructor) (.s (.s (.s .z)))) rfl rfl (.f (by kernel_rfl)) ?_
    refine GE.done rfl ?_
    refine GQ.on ?_
    refine GW.toRet rfl ?_
    refine GQ.toC .z ?_
    refine GQ.ret _ (.cell rfl rfl (.s (.s (.s .z))) (loadV_sc sc4 rfl) (.cell rfl rfl (.s (.s .z)) (loadV_sc sc4 rfl) .nil)) .more rfl ?_ (.cons .z (.cons .z (.ts (.ts (.ts .tz)))))
    exact trivial
end
end Go.Proofs.YtadgfnnkpddneaaGreat
