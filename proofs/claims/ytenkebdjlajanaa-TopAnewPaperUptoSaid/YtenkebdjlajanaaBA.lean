/- B1: contracts: out, IndexFunc, ContainsFunc over integers. -/
import Derived.Test.YtenkebdjlajanaaFA
import Derived.Test.YtenkebdjlajanaaGC
set_option linter.all false
set_option linter.constructorNameAsVariable false
set_option linter.unusedSimpArgs false
set_option linter.unusedVariables false
set_option linter.unusedSectionVars false
set_option linter.unnecessarySimpa false
namespace Go.Proofs.Ytenkebdjlajanaa
open Go Go.E
set_option maxRecDepth 100000

theorem ct59 {h : EH} {lo hi n : Int} {b1 b2 : Nat} (h1 : h[b1]? = some (.cells [.int .i64 lo] none true)) (h2 : h[b2]? = some (.cells [.int .i64 hi] none true)) :
    Ct Try.prog 59 ⟨[.int .i64 n, .pointer (some ⟨b1, 0, none⟩), .pointer (some ⟨b2, 0, none⟩)]⟩ h [] (fun _ : Unit => .bool (decide (n < lo) || decide (hi < n))) (fun _ => True) (fun _ => []) := by
  refine Ct.go Try.func59 rfl rfl co59 (Hp.start (hr := fun _ => none) (by simp)) ?_
  refine GW.sr rfl rfl ?_
  refine GL.o rfl (S1.asB rfl) ?_
  refine GL.dn rfl ?_
  refine GW.sr rfl rfl ?_
  refine GL.o rfl (S1.mvI rfl) ?_
  refine GL.o rfl (S1.ld sc3 rfl (.old0 h1) rfl) ?_
  refine GL.o rfl (S1.lss rfl rfl) ?_
  refine GL.o rfl (S1.mvB rfl) ?_
  refine GL.splitD 8 rfl (fun w1 => ?_) (fun w1 => ?_)
  refine GL.skip rfl (.not rfl rfl rfl) ?_
  refine GL.skip rfl (.not rfl rfl rfl) ?_
  refine GL.skip rfl (.not rfl rfl rfl) ?_
  refine GL.o rfl (S1.pickT (v := (.bool _)) rfl rfl) ?_
  refine GL.o rfl (S1.asB rfl) ?_
  refine GL.dn rfl ?_
  refine GW.toRet rfl ?_
  refine GQ.ret () (.tmp (v := (.bool _)) rfl rfl .nil) .one ?_ ?_ .nil
  rotate_left
  exact trivial
  refine GL.one rfl (.yes rfl rfl rfl) (S1.mvI rfl) ?_
  refine GL.one rfl (.yes rfl rfl rfl) (S1.ld sc3 rfl (.old0 h2) rfl) ?_
  refine GL.one rfl (.yes rfl rfl rfl) (S1.gtr rfl rfl) ?_
  refine GL.o rfl (S1.pickF (v := (.bool _)) rfl rfl) ?_
  refine GL.o rfl (S1.asB rfl) ?_
  refine GL.dn rfl ?_
  refine GW.toRet rfl ?_
  refine GQ.ret () (.tmp (v := (.bool _)) rfl rfl .nil) .one ?_ ?_ .nil
  rotate_left
  exact trivial
  all_goals simp [*]

end Go.Proofs.Ytenkebdjlajanaa
namespace Go.Proofs.Ytenkebdjlajanaa
open Go Go.E
set_option maxRecDepth 100000


theorem ct66 {h : EH} {a : Option Addr} {n c b o g : Nat} {vs : List Value} {opn : Option Nat} {wr : Bool} {x : Nat → Int} {R : Nat → Bool → Prop} {fs cs : List Value} (hn : n ≤ 1073741824) (hf : fnOk Try.prog g = true)
    (ha : 0 < n → a = some ⟨b, o, none⟩ ∧ h[b]? = some (.cells vs opn wr) ∧ ∀ k, k < n → vs[o + k * 1]? = some (.int .i64 (x k)))
    (hg : ∀ (h' : EH) (k : Nat), k < n → Ext h h' → Ct Try.prog g ⟨fs ++ ([.int .i64 (x k)] ++ cs)⟩ h' [] (fun r : Bool => .bool r) (R k) (fun _ => [])) :
    Ct Try.prog 66 ⟨[.slice a n c, .func (.func g) ⟨fs⟩ ⟨cs⟩]⟩ h [] (fun r : Int => .int .i64 r) (fun r => (r = -1 ∧ ∀ k, k < n → R k false) ∨ ∃ k, k < n ∧ r = (k : Int) ∧ R k true) (fun _ => []) := by
  refine Ct.go Try.func66 rfl rfl co66 (Hp.start (hr := fun _ => none) (by simp)) ?_
  refine GW.sr rfl rfl ?_
  refine GL.o rfl (S1.asI rfl) ?_
  refine GL.dn rfl ?_
  refine GW.toSeq rfl ?_
  refine GW.sr rfl rfl ?_
  refine GL.o rfl (S1.mvL rfl) ?_
  refine GL.o rfl (S1.len el23 rfl) ?_
  refine GL.o rfl (S1.mvI rfl) ?_
  refine GL.dn rfl ?_
  refine GW.toBlock rfl ?_
  refine GW.toLoop (fun k : Nat => [(0, .slice a n c), (1, .func (.func g) ⟨fs⟩ ⟨cs⟩), (7, .int .i64 n), (8, .int .i64 k)]) (fun _ => []) (fun k => k ≤ n ∧ ∀ j, j < k → R j false) (fun k => n - k) rfl 0 ⟨Nat.zero_le _, fun j hj => by omega⟩ (.c rfl (.c rfl (.c rfl (.c rfl .n)))) .nil ?_
  rintro k f ⟨hk, hp⟩
  refine GW.sr rfl rfl ?_
  refine GL.o rfl (S1.lss rfl rfl) ?_
  refine GL.dn rfl ?_
  refine GW.toSeq rfl ?_
  refine GW.toD rfl rfl (fun w1 => ?_) (fun w1 => ?_)
  refine GW.toSkip rfl ?_
  refine GQ.on ?_
  refine GW.toSeq rfl ?_
  refine GW.toBlock rfl ?_
  refine GW.sr rfl rfl ?_
  refine GL.o rfl (S1.mvI rfl) ?_
  refine GL.o rfl (S1.asI rfl) ?_
  refine GL.dn rfl ?_
  refine GW.sr rfl rfl ?_
  refine GL.o rfl (S1.mvF rfl) ?_
  refine GL.o rfl (S1.mvL rfl) ?_
  refine GL.o rfl (S1.mvI rfl) ?_
  rotate_left
  refine GW.toExit rfl ?_
  refine GQ.onE ?_
  refine GQ.onE ?_
  refine GQ.outH ?_
  refine GQ.on ?_
  refine GW.sr rfl rfl ?_
  refine GL.o rfl (S1.asI rfl) ?_
  refine GL.dn rfl ?_
  refine GW.toRet rfl ?_
  refine GQ.ret (-1) (.tmp (v := (.int _ _)) rfl rfl .nil) .one ?_ ?_ .nil
  rfl
  rotate_left
  · obtain ⟨rfl, hb, hx⟩ := ha (by omega)
    refine GL.o rfl (S1.ixN el23 rfl rfl (by omega)) ?_
    refine GL.o rfl (S1.ld sc3 rfl (.old0 hb) (hx _ (by omega))) ?_
    refine GL.call rfl .no hf .nil (fun h H => hg _ k (by omega) H.ext) (.v rfl (.c (v := (.int _ _)) rfl .n)) ((fun v r => ?_))
    refine GL.dn rfl ?_
    refine GW.toC rfl rfl (fun w3 => ?_) (fun w3 => ?_)
    refine GW.sr rfl rfl ?_
    refine GL.o rfl (S1.mvI rfl) ?_
    refine GL.o rfl (S1.asI rfl) ?_
    refine GL.dn rfl ?_
    refine GW.toRet rfl ?_
    refine GQ.outR ?_
    refine GQ.onR ?_
    refine GQ.onR ?_
    refine GQ.outR ?_
    refine GQ.onR ?_
    refine GQ.ret (k : Int) (.tmp (v := (.int _ _)) rfl rfl .nil) .one ?_ ?_ .nil
    rfl
    rotate_left
    refine GW.toSkip rfl ?_
    refine GQ.outN ?_
    refine GQ.on ?_
    refine GW.toReg rfl ?_
    refine GL.o rfl (S1.inc rfl rfl (by omega)) ?_
    refine GL.o rfl (S1.mvI rfl) ?_
    refine GL.done rfl ?_
    rotate_left
    · exact .inr ⟨k, by omega, rfl, by simp_all⟩
    · refine GQ.next (k + 1) ⟨by omega, fun j hj => ?_⟩ (by omega) (.c rfl (.c rfl (.c rfl (.c rfl .n)))) .nil
      by_cases e : j = k
      · simp_all
      · exact hp j (by omega)
  · exact .inl ⟨rfl, fun j hj => hp j (by omega)⟩


theorem ct58 {h : EH} {a : Option Addr} {n c b o g : Nat} {vs : List Value} {opn : Option Nat} {wr : Bool} {x : Nat → Int} {R : Nat → Bool → Prop} {fs cs : List Value} (hn : n ≤ 1073741824) (hf : fnOk Try.prog g = true)
    (ha : 0 < n → a = some ⟨b, o, none⟩ ∧ h[b]? = some (.cells vs opn wr) ∧ ∀ k, k < n → vs[o + k * 1]? = some (.int .i64 (x k)))
    (hg : ∀ (h' : EH) (k : Nat), k < n → Ext h h' → Ct Try.prog g ⟨fs ++ ([.int .i64 (x k)] ++ cs)⟩ h' [] (fun r : Bool => .bool r) (R k) (fun _ => [])) :
    Ct Try.prog 58 ⟨[.slice a n c, .func (.func g) ⟨fs⟩ ⟨cs⟩]⟩ h [] (fun r : Bool => .bool r) (fun r => (r = false → ∀ k, k < n → R k false) ∧ (r = true → ∃ k, k < n ∧ R k true)) (fun _ => []) := by
  refine Ct.go Try.func58 rfl rfl co58 (Hp.start (hr := fun _ => none) (by simp)) ?_
  refine GW.sr rfl rfl ?_
  refine GL.o rfl (S1.asB rfl) ?_
  refine GL.dn rfl ?_
  refine GW.sr rfl rfl ?_
  refine GL.o rfl (S1.mvL rfl) ?_
  refine GL.o rfl (S1.mvF rfl) ?_
  refine GL.call rfl .no fo66 .nil (fun h H => ct66 hn hf (fun q => ⟨(ha q).1, H.ext _ _ (ha q).2.1, (ha q).2.2⟩) (fun h'' k hk e => hg h'' k hk (H.ext.trans e))) (.d (.c (v := (.slice _ _ _)) rfl (.c (v := (.func _ _ _)) rfl .n))) (fun r1 q1 => ?_)
  refine GL.o rfl (S1.geq rfl rfl) ?_
  refine GL.o rfl (S1.asB rfl) ?_
  refine GL.dn rfl ?_
  refine GW.toRet rfl ?_
  refine GQ.ret (decide (0 ≤ r1)) (.tmp (v := (.bool _)) rfl rfl .nil) .one ?_ ?_ .nil
  rfl
  rcases q1 with ⟨rfl, q⟩ | ⟨k, hk, rfl, q⟩
  · exact ⟨fun _ => q, by simp⟩
  · exact ⟨by simp, fun _ => ⟨k, hk, q⟩⟩

theorem ct37 {h : EH} {lo hi : Int} {a : Option Addr} {n c b o : Nat} {vs : List Value} {opn : Option Nat} {wr : Bool} {x : Nat → Int} (hn : n ≤ 1073741824)
    (ha : 0 < n → a = some ⟨b, o, none⟩ ∧ h[b]? = some (.cells vs opn wr) ∧ ∀ k, k < n → vs[o + k * 1]? = some (.int .i64 (x k))) :
    Ct Try.prog 37 ⟨[.int .i64 lo, .int .i64 hi, .slice a n c]⟩ h [] (fun r : Bool => .bool r) (fun r => (r = false → ∀ k, k < n → outB lo hi (x k) = false) ∧ (r = true → ∃ k, k < n ∧ outB lo hi (x k) = true)) (fun _ => []) := by
  refine Ct.go Try.func37 rfl rfl co37 (Hp.start (hr := fun _ => none) (by simp)) ?_
  refine GW.sr rfl rfl ?_
  refine GL.opN rfl .no (SN.bx (u := (.int _ _)) rfl (.one rfl)) (fun a1 => ?_)
  refine GL.opN rfl .no (SN.bx (u := (.int _ _)) rfl (.one rfl)) (fun a2 => ?_)
  refine GL.o rfl (S1.asB rfl) ?_
  refine GL.dn rfl ?_
  refine GW.sr rfl rfl ?_
  refine GL.o rfl (S1.mvL rfl) ?_
  refine GL.o rfl (S1.mf .n (.c (v := (.pointer _)) rfl (.c (v := (.pointer _)) rfl .n))) ?_
  refine GL.call rfl .no fo58 .nil (fun h H => ct58 (R := fun k r => outB lo hi (x k) = r) hn fo59 (fun q => ⟨(ha q).1, H.ext _ _ (ha q).2.1, (ha q).2.2⟩) (fun h'' k hk e => (ct59 (e _ _ (H.get (.s .z))) (e _ _ (H.get .z))).toBool rfl)) (.d (.c rfl (.c (v := .func _ ⟨[]⟩ ⟨[_, _]⟩) rfl .n))) (fun r q => ?_)
  refine GL.o rfl (S1.asB rfl) ?_
  refine GL.dn rfl ?_
  refine GW.toRet rfl ?_
  refine GQ.ret r (.tmp (v := (.bool _)) rfl rfl .nil) .one ?_ ?_ .nil
  rfl
  assumption

theorem ct37_1 {h : EH} {lo hi p : Int} {b : Nat} (hb : h[b]? = some (.cells [.int .i64 p] none true)) : Ct Try.prog 37 ⟨[.int .i64 lo, .int .i64 hi, .slice (some ⟨b, 0, none⟩) 1 1]⟩ h [] (fun _ : Unit => .bool (outB lo hi p)) (fun _ => True) (fun _ => []) := by
  refine (ct37 (lo := lo) (hi := hi) (n := 1) (c := 1) (x := fun _ => p) (by omega) fun _ => ⟨rfl, hb, fun k hk => ?_⟩).mono fun r q => ⟨(), ?_, trivial, rfl⟩
  · have : k = 0 := by omega
    subst this; rfl
  · cases r with
    | false => rw [q.1 rfl 0 (by omega)]
    | true =>
      obtain ⟨k, _, e⟩ := q.2 rfl
      rw [e]
theorem ct37_2 {h : EH} {lo hi p q : Int} {b : Nat} (hb : h[b]? = some (.cells [.int .i64 p, .int .i64 q] none true)) : Ct Try.prog 37 ⟨[.int .i64 lo, .int .i64 hi, .slice (some ⟨b, 0, none⟩) 2 2]⟩ h [] (fun _ : Unit => .bool (outB lo hi p || outB lo hi q)) (fun _ => True) (fun _ => []) := by
  refine (ct37 (lo := lo) (hi := hi) (n := 2) (c := 2) (x := fun k => if k = 0 then p else q) (by omega) fun _ => ⟨rfl, hb, fun k hk => ?_⟩).mono fun r w => ⟨(), ?_, trivial, rfl⟩
  · rcases (by omega : k = 0 ∨ k = 1) with rfl | rfl <;> rfl
  · cases r with
    | false =>
      have h0 := w.1 rfl 0 (by omega)
      have h1 := w.1 rfl 1 (by omega)
      simp at h0 h1
      simp [h0, h1]
    | true =>
      obtain ⟨k, hk, e⟩ := w.2 rfl
      rcases (by omega : k = 0 ∨ k = 1) with rfl | rfl <;> simp at e <;> simp [e]
end Go.Proofs.Ytenkebdjlajanaa
namespace Go.Proofs.Ytenkebdjlajanaa
open Go Go.E
set_option maxRecDepth 100000

theorem ct33 {h : EH} {p1 p2 p3 p4 : Option Addr} {n m : Nat} {ns : List Int} {ss : List ByteArray} (hn : n = ns.length) (hm : m = ss.length) (hn3 : n ≤ 1073741824) (hm3 : m ≤ 1073741824) (q1 : Qrow h p1 (ints ns)) (q2 : Qrow h p2 (strs ss)) (q3 : Qrow h p3 (ints ns)) (q4 : Qrow h p4 (strs ss)) :
    Ct Try.prog 33 ⟨[.agg ⟨[.slice p1 n n, .slice p2 m m]⟩, .agg ⟨[.slice p3 n n, .slice p4 m m]⟩]⟩ h [] (fun _ : Unit => .bool true) (fun _ => True) (fun _ => []) := by
  refine Ct.go Try.func33 rfl rfl co33 (Hp.start (hr := fun _ => none) (by simp)) ?_
  refine GW.sr rfl rfl ?_
  refine GL.opN rfl .no (SN.bx (u := .agg ⟨_⟩) rfl .agg) (fun a1 => ?_)
  refine GL.opN rfl .no (SN.bx (u := .agg ⟨_⟩) rfl .agg) (fun a2 => ?_)
  refine GL.o rfl (S1.asB rfl) ?_
  refine GL.dn rfl ?_
  refine GW.toSeq rfl ?_
  refine GW.sr rfl rfl ?_
  refine GL.o rfl (S1.fa fa35_0 rfl) ?_
  refine GL.o rfl (S1.ld sc23 rfl (.at (.s .z)) rfl) ?_
  refine GL.o rfl (S1.len el23 rfl) ?_
  refine GL.o rfl (S1.fa fa35_0 rfl) ?_
  refine GL.o rfl (S1.ld sc23 rfl (.at .z) rfl) ?_
  refine GL.o rfl (S1.len el23 rfl) ?_
  refine GL.o rfl (S1.neq rfl rfl) ?_
  refine GL.o rfl (S1.mvB rfl) ?_
  refine GL.splitD 14 rfl (fun w3 => ?_) (fun w3 => ?_)
  refine GL.skip rfl (.not rfl rfl rfl) ?_
  refine GL.skip rfl (.not rfl rfl rfl) ?_
  refine GL.skip rfl (.not rfl rfl rfl) ?_
  refine GL.skip rfl (.not rfl rfl rfl) ?_
  refine GL.skip rfl (.not rfl rfl rfl) ?_
  refine GL.skip rfl (.not rfl rfl rfl) ?_
  refine GL.skip rfl (.not rfl rfl rfl) ?_
  refine GL.o rfl (S1.pickT (v := (.bool _)) rfl rfl) ?_
  refine GL.dn rfl ?_
  refine GW.toT rfl rfl ?_
  refine GW.sr rfl rfl ?_
  refine GL.o rfl (S1.asB rfl) ?_
  refine GL.dn rfl ?_
  refine GW.toRet rfl ?_
  refine GQ.onR ?_
  refine GQ.ret () (.tmp (v := (.bool _)) rfl rfl .nil) .one ?_ ?_ .nil
  omega
  exact trivial
  refine GL.one rfl (.yes rfl rfl rfl) (S1.fa fa35_1 rfl) ?_
  refine GL.one rfl (.yes rfl rfl rfl) (S1.ld sc33 rfl (.at (.s .z)) rfl) ?_
  refine GL.one rfl (.yes rfl rfl rfl) (S1.len el33 rfl) ?_
  refine GL.one rfl (.yes rfl rfl rfl) (S1.fa fa35_1 rfl) ?_
  refine GL.one rfl (.yes rfl rfl rfl) (S1.ld sc33 rfl (.at .z) rfl) ?_
  refine GL.one rfl (.yes rfl rfl rfl) (S1.len el33 rfl) ?_
  refine GL.one rfl (.yes rfl rfl rfl) (S1.neq rfl rfl) ?_
  refine GL.o rfl (S1.pickF (v := (.bool _)) rfl rfl) ?_
  refine GL.dn rfl ?_
  refine GW.toD rfl rfl (fun w4 => ?_) (fun w4 => ?_)
  refine GW.sr rfl rfl ?_
  refine GL.o rfl (S1.asB rfl) ?_
  refine GL.dn rfl ?_
  refine GW.toRet rfl ?_
  refine GQ.onR ?_
  refine GQ.ret () (.tmp (v := (.bool _)) rfl rfl .nil) .one ?_ ?_ .nil
  omega
  exact trivial
  refine GW.toSkip rfl ?_
  refine GQ.on ?_
  refine GW.toSeq rfl ?_
  refine GW.sr rfl rfl ?_
  refine GL.o rfl (S1.asI rfl) ?_
  refine GL.dn rfl ?_
  refine GW.toBlock rfl ?_
  refine GW.toLoop (fun i : Nat => [(2, .pointer (some ⟨a1, 0, none⟩)), (3, .pointer (some ⟨a2, 0, none⟩)), (5, .int .i64 i)]) (fun _ => [(a1, .cells [.slice p1 n n, .slice p2 m m] none true), (a2, .cells [.slice p3 n n, .slice p4 m m] none true)]) (fun i => i ≤ n) (fun i => n - i) rfl 0 (Nat.zero_le _) (.c rfl (.c rfl (.c rfl .n))) (.cons (.s .z) .tz) ?_
  rintro i f hi0
  refine GW.toSeq rfl ?_
  refine GW.sr rfl rfl ?_
  refine GL.o rfl (S1.mvI rfl) ?_
  refine GL.o rfl (S1.fa fa35_0 rfl) ?_
  refine GL.o rfl (S1.ld sc23 rfl (.at .z) rfl) ?_
  refine GL.o rfl (S1.len el23 rfl) ?_
  refine GL.o rfl (S1.lss rfl rfl) ?_
  refine GL.dn rfl ?_
  refine GW.toD rfl rfl (fun w5 => ?_) (fun w5 => ?_)
  refine GW.toSkip rfl ?_
  refine GQ.on ?_
  refine GW.toSeq rfl ?_
  refine GW.toBlock rfl ?_
  refine GW.toSeq rfl ?_
  refine GW.toDrw mx rfl ?_
  refine GD.o rfl (S1.fa fa35_0 rfl) rfl ?_
  refine GD.o rfl (S1.ld sc23 rfl (.at .z) rfl) rfl ?_
  refine GD.o rfl (S1.mvI rfl) rfl ?_
  rotate_left
  refine GW.toExit rfl ?_
  refine GQ.onE ?_
  refine GQ.onE ?_
  refine GQ.outH ?_
  refine GQ.on ?_
  refine GW.toSeq rfl ?_
  refine GW.sr rfl rfl ?_
  refine GL.o rfl (S1.asI rfl) ?_
  refine GL.dn rfl ?_
  refine GW.toBlock rfl ?_
  rotate_left
  · obtain ⟨b1, rfl, hb1⟩ := q1 (by rw [ints_len]; omega)
    obtain ⟨b3, rfl, hb3⟩ := q3 (by rw [ints_len]; omega)
    refine GD.o rfl (S1.ixN el23 rfl rfl (by omega)) rfl ?_
    refine GD.o rfl (S1.ld sc3 rfl (.old0 hb1) (ints_get (by omega))) rfl ?_
    refine GD.o rfl (S1.fa fa35_0 rfl) rfl ?_
    refine GD.o rfl (S1.ld sc23 rfl (.at (.s .z)) rfl) rfl ?_
    refine GD.o rfl (S1.mvI rfl) rfl ?_
    refine GD.o rfl (S1.ixN el23 rfl rfl (by omega)) rfl ?_
    refine GD.o rfl (S1.ld sc3 rfl (.old0 hb3) (ints_get (by omega))) rfl ?_
    refine GD.o rfl (S1.neq rfl rfl) rfl ?_
    refine GD.done rfl ?_
    refine GQ.on ?_
    refine GW.toD rfl rfl (fun w6 => ?_) (fun w6 => ?_)
    refine GW.sr rfl rfl ?_
    refine GL.o rfl (S1.asB rfl) ?_
    refine GL.dn rfl ?_
    refine GW.toRet rfl ?_
    refine GQ.outR ?_
    refine GQ.onR ?_
    refine GQ.onR ?_
    refine GQ.outR ?_
    refine GQ.onR ?_
    refine GQ.ret () (.tmp (v := (.bool _)) rfl rfl .nil) .one ?_ ?_ .nil
    omega
    exact trivial
    refine GW.toSkip rfl ?_
    refine GQ.outN ?_
    refine GQ.on ?_
    refine GW.toReg rfl ?_
    refine GL.o rfl (S1.mvI rfl) ?_
    refine GL.o rfl (S1.inc rfl rfl (by omega)) ?_
    refine GL.o rfl (S1.asI rfl) ?_
    refine GL.done rfl ?_
    refine GQ.next (i + 1) (by omega) (by omega) (.c rfl (.c rfl (.c rfl .n))) .tz
  refine GW.toLoop (fun i : Nat => [(2, .pointer (some ⟨a1, 0, none⟩)), (3, .pointer (some ⟨a2, 0, none⟩)), (6, .int .i64 i)]) (fun _ => [(a1, .cells [.slice p1 n n, .slice p2 m m] none true), (a2, .cells [.slice p3 n n, .slice p4 m m] none true)]) (fun i => i ≤ m) (fun i => m - i) rfl 0 (Nat.zero_le _) (.c rfl (.c rfl (.c rfl .n))) .tz ?_
  rintro j f2 hi1
  refine GW.toSeq rfl ?_
  refine GW.sr rfl rfl ?_
  refine GL.o rfl (S1.mvI rfl) ?_
  refine GL.o rfl (S1.fa fa35_1 rfl) ?_
  refine GL.o rfl (S1.ld sc33 rfl (.at .z) rfl) ?_
  refine GL.o rfl (S1.len el33 rfl) ?_
  refine GL.o rfl (S1.lss rfl rfl) ?_
  refine GL.dn rfl ?_
  refine GW.toD rfl rfl (fun w7 => ?_) (fun w7 => ?_)
  refine GW.toSkip rfl ?_
  refine GQ.on ?_
  refine GW.toSeq rfl ?_
  refine GW.toBlock rfl ?_
  refine GW.toSeq rfl ?_
  refine GW.toDrw mx rfl ?_
  refine GD.o rfl (S1.fa fa35_1 rfl) rfl ?_
  refine GD.o rfl (S1.ld sc33 rfl (.at .z) rfl) rfl ?_
  refine GD.o rfl (S1.mvI rfl) rfl ?_
  rotate_left
  refine GW.toExit rfl ?_
  refine GQ.onE ?_
  refine GQ.onE ?_
  refine GQ.outH ?_
  refine GQ.on ?_
  refine GW.sr rfl rfl ?_
  refine GL.o rfl (S1.asB rfl) ?_
  refine GL.dn rfl ?_
  refine GW.toRet rfl ?_
  refine GQ.ret () (.tmp (v := (.bool _)) rfl rfl .nil) .one ?_ ?_ .nil
  rfl
  exact trivial
  · obtain ⟨b1, rfl, hb1⟩ := q2 (by rw [strs_len]; omega)
    obtain ⟨b3, rfl, hb3⟩ := q4 (by rw [strs_len]; omega)
    refine GD.o rfl (S1.ixN el33 rfl rfl (by omega)) rfl ?_
    refine GD.o rfl (S1.ld sc9 rfl (.old0 hb1) (strs_get (by omega))) rfl ?_
    refine GD.o rfl (S1.fa fa35_1 rfl) rfl ?_
    refine GD.o rfl (S1.ld sc33 rfl (.at (.s .z)) rfl) rfl ?_
    refine GD.o rfl (S1.mvI rfl) rfl ?_
    refine GD.o rfl (S1.ixN el33 rfl rfl (by omega)) rfl ?_
    refine GD.o rfl (S1.ld sc9 rfl (.old0 hb3) (strs_get (by omega))) rfl ?_
    refine GD.o rfl (S1.sne rfl rfl) rfl ?_
    refine GD.done rfl ?_
    refine GQ.on ?_
    refine GW.toC rfl rfl (fun w8 => ?_) (fun w8 => ?_)
    refine GW.sr rfl rfl ?_
    refine GL.o rfl (S1.asB rfl) ?_
    refine GL.dn rfl ?_
    refine GW.toRet rfl ?_
    refine GQ.outR ?_
    refine GQ.onR ?_
    refine GQ.onR ?_
    refine GQ.outR ?_
    refine GQ.onR ?_
    refine GQ.ret () (.tmp (v := (.bool _)) rfl rfl .nil) .one ?_ ?_ .nil
    rotate_left
    exact trivial
    refine GW.toSkip rfl ?_
    refine GQ.outN ?_
    refine GQ.on ?_
    refine GW.toReg rfl ?_
    refine GL.o rfl (S1.mvI rfl) ?_
    refine GL.o rfl (S1.inc rfl rfl (by omega)) ?_
    refine GL.o rfl (S1.asI rfl) ?_
    refine GL.done rfl ?_
    refine GQ.next (j + 1) (by omega) (by omega) (.c rfl (.c rfl (.c rfl .n))) .tz
    all_goals simp_all

theorem ct5 {h : EH} {hr : RO} {xs : List Value} {xb g : Nat} {ns : List Int} {ss : List ByteArray} (hR : ∀ b o, hr b = some o → h[b]? = some o) (hx : h[xb]? = some (.cells xs none true)) (hxo : hr xb = none) (hf : fnOk Try.prog g = true)
    (hn : ns.length ≤ 1073741824) (hs : ss.length ≤ 1073741824) (D : ∀ xb hb h, GoodA hr xs zero2 xb hb h → Twice Try.prog g xb hb h ns ss) :
    Ct Try.prog 5 ⟨[.func (.func g) ⟨[]⟩ ⟨[.pointer (some ⟨xb, 0, none⟩)]⟩]⟩ h [] (fun _ : Unit => .bool true) (fun _ => True) (fun _ => []) := by
  refine Ct.go Try.func5 rfl rfl co5 (Hp.start hR) ?_
  refine GW.sr rfl rfl ?_
  refine GL.o rfl (S1.asB rfl) ?_
  refine GL.dn rfl ?_
  refine GW.sr rfl rfl ?_
  refine GL.opN rfl .no (SN.al zc35) (fun a1 => ?_)
  refine GL.opN rfl .no (SN.al zc35) (fun a2 => ?_)
  refine GL.dn rfl ?_
  refine GW.sr rfl rfl ?_
  refine GL.o rfl (S1.mvF rfl) ?_
  have good1 : ∀ H, Hp hr h [] [(a2, .cells zero2 none true), (a1, .cells zero2 none true)] H → GoodA hr xs zero2 xb a1 H := fun H K =>
    ⟨K.rom, K.old _ _ hx (by simp), K.get (.s .z), hxo, K.off _ (.tail _ (.head _)), by have := get_lt hx; have := K.own _ (.tail _ (.head _)); simp at this; omega⟩
  refine GL.callG (C' := fun (x : Nat × List Value) h1 => ∃ H v2 h2, Hp hr h [] [(a2, .cells zero2 none true), (a1, .cells zero2 none true)] H ∧ SndFn Try.prog x.1 ⟨x.2⟩ h1 (.ret v2) h2 ∧ H.length ≤ h2.length ∧ HS H.length h2 a1 ns ss ∧ Keep a1 H h2)
    (V := fun x => .func (.func x.1) ⟨[]⟩ ⟨x.2⟩) (R := fun x => fnOk Try.prog x.1 = true) rfl .no hf (fun H K => ?_) (.v rfl (.c (v := .pointer _) rfl .n)) (fun x hfw => ?_)
  · obtain ⟨fw, ⟨cs⟩, h1, v2, h2, k0, k1, k2, k3, k4, k5, k5', k6, k6'⟩ := D xb a1 H (good1 H K)
    exact ⟨_, _, k1, (fw, cs), rfl, k0, H, v2, h2, K, k2, Nat.le_trans k3 k4, k5', k6'⟩
  obtain ⟨fw, cs⟩ := x
  refine GL.o rfl (S1.asF rfl) ?_
  refine GL.dn rfl ?_
  refine GW.sr rfl rfl ?_
  refine GL.o rfl (S1.mvF rfl) ?_
  refine GL.callG (X := Value) (V := fun x => x) (R := fun _ => True) (C' := fun _ h2 => ∃ H, Hp hr h [] [(a2, .cells zero2 none true), (a1, .cells zero2 none true)] H ∧ H.length ≤ h2.length ∧ HS H.length h2 a1 ns ss ∧ Keep a1 H h2) rfl .no hfw (fun H K => ?_) (.v rfl .n) (fun x _ => ?_)
  · obtain ⟨H0, v2, h2, q1, q2, q3, q4, q5⟩ := K
    exact ⟨_, _, q2, v2, rfl, trivial, H0, q1, q3, q4, q5⟩
  refine GL.dn rfl ?_
  refine GW.sr rfl rfl ?_
  refine GL.o rfl (S1.mvF rfl) ?_
  refine GL.callG (X := Value × Option Addr × Option Addr × Option Addr × Option Addr) (V := fun x => x.1) (R := fun _ => True)
    (C' := fun x h3 => Post [] h h3 [] ∧ h3[a1]? = some (.cells [.slice x.2.1 ns.length ns.length, .slice x.2.2.1 ss.length ss.length] none true) ∧ h3[a2]? = some (.cells [.slice x.2.2.2.1 ns.length ns.length, .slice x.2.2.2.2 ss.length ss.length] none true) ∧
      Qrow h3 x.2.1 (ints ns) ∧ Qrow h3 x.2.2.1 (strs ss) ∧ Qrow h3 x.2.2.2.1 (ints ns) ∧ Qrow h3 x.2.2.2.2 (strs ss)) rfl .no hf (fun h2 K => ?_) (.v rfl (.c (v := .pointer _) rfl .n)) (fun x _ => ?_)
  · obtain ⟨H, K, hl, hs1, kp⟩ := K
    have l1 : a1 < H.length := K.lt (.tail _ (.head _))
    have l2 : a2 < H.length := K.lt (.head _)
    have o1 : h.length ≤ a1 := by have := K.own _ (.tail _ (.head _)); simpa using this
    have o2 : h.length ≤ a2 := by have := K.own _ (.head _); simpa using this
    have ne : a2 ≠ a1 := by have := K.nd; simp at this; exact this
    have n1 := K.off _ (.tail _ (.head _))
    have n2 := K.off _ (.head _)
    have hxl := get_lt hx
    have g2 : GoodA hr xs zero2 xb a2 h2 := by
      refine ⟨fun b o e => kp _ _ (K.rom _ _ e) ?_, kp _ _ (K.old _ _ hx (by simp)) (by omega), kp _ _ (K.get .z) ne, hxo, n2, by omega⟩
      rintro rfl
      simp only at n1
      rw [n1] at e; cases e
    obtain ⟨fw2, cs2, h3, v4, h4, k0, k1, k2, k3, k4, k5, _, k6, _⟩ := D xb a2 h2 g2
    have hs2 := hs1.keep k6 (Ne.symm ne) l2 (Nat.le_refl _)
    obtain ⟨vn, vs, e1, r1, r2⟩ := hs2
    obtain ⟨wn, ws, e2, r3, r4⟩ := k5
    obtain ⟨p1, rfl, u1⟩ := r1.slice
    obtain ⟨p2, rfl, u2⟩ := r2.slice
    obtain ⟨p3, rfl, u3⟩ := r3.slice
    obtain ⟨p4, rfl, u4⟩ := r4.slice
    rw [ints_len] at e1 e2
    rw [strs_len] at e1 e2
    refine ⟨_, _, k1, (_, p1, p2, p3, p4), rfl, trivial, ⟨fun b o e _ => ?_, ?_, by simp, by simp, by simp⟩, e1, e2, u1, u2, u3, u4⟩
    · have hb := get_lt e
      exact k6 _ _ (kp _ _ (K.old _ _ e (by simp)) (by omega)) (by omega)
    · have := K.len; omega
  obtain ⟨w, p1, p2, p3, p4⟩ := x
  refine GL.dn rfl ?_
  refine GW.sr rfl rfl ?_
  refine GL.o rfl (S1.ldW ag35 rfl (fun h3 K => K.2.1) rfl) ?_
  refine GL.o rfl (S1.ldW ag35 rfl (fun h3 K => K.2.2.1) rfl) ?_
  refine GL.callG (X := Unit) (V := fun _ => .bool true) (R := fun _ => True) (C' := fun _ h4 => Hp (fun _ => none) h [] [] h4) rfl .no fo33 (fun h3 K => ?_) (.d (.c rfl (.c rfl .n))) (fun _ _ => ?_)
  · refine WF.mono (ct33 rfl rfl hn hs K.2.2.2.1 K.2.2.2.2.1 K.2.2.2.2.2.1 K.2.2.2.2.2.2) fun o h4 q => ?_
    cases o with
    | pan v => exact q.elim
    | ret v =>
      obtain ⟨_, rfl, _, P2⟩ := q
      exact ⟨(), rfl, trivial, fun b o e _ => P2.old _ _ (K.1.old _ _ e (by simp)) (by simp), Nat.le_trans K.1.len P2.len, by simp, by simp, by simp, by simp, by simp⟩
  refine GL.o rfl (S1.asB rfl) ?_
  refine GL.dn rfl ?_
  refine GW.toRet rfl ?_
  refine GQ.ret () (.tmp (v := (.bool _)) rfl rfl .nil) .one ?_ ?_ .nil
  rfl
  exact trivial
end Go.Proofs.Ytenkebdjlajanaa
namespace Go.E
open Go

def inRg (lo hi L : Int) : Nat := if lo ≤ L ∧ L ≤ hi then 1 else 0
theorem inRg_le {lo hi L : Int} : inRg lo hi L ≤ 1 := by unfold inRg; split <;> omega

def nil4 (l : List Int) : Prop := (l.drop 2).take 4 = [0, 0, 0, 0]
instance (l : List Int) : Decidable (nil4 l) := by unfold nil4; infer_instance

def tkL (pt : Nat → Int) (w : Nat → Int) (l : List Int) (q : Nat) : List Int :=
  ((l.set (2 + (pt q).toNat) (IntKind.i64.wrap (l.getD (2 + (pt q).toNat) 0 - 1))).set 0 ((q + 1 : Nat) : Int)).set 1 (IntKind.i64.wrap ((l.set (2 + (pt q).toNat) (IntKind.i64.wrap (l.getD (2 + (pt q).toNat) 0 - 1))).getD 1 0 + w q))
theorem tkL_len {pt w : Nat → Int} {l : List Int} {q : Nat} : (tkL pt w l q).length = l.length := by simp [tkL]
theorem tkL_0 {pt w : Nat → Int} {l : List Int} {q : Nat} (h : l.length = 6) : (tkL pt w l q).getD 0 0 = ((q + 1 : Nat) : Int) := by
  simp only [tkL, List.getD_eq_getElem?_getD]
  rw [List.getElem?_set_ne (by omega), List.getElem?_set_self (by simp; omega)]
  rfl

def gC (Q : Nat) (pt w : Nat → Int) (lo hi : Int) : Nat → List Int → Nat
  | 0, l => if nil4 l then inRg lo hi (l.getD 1 0) else 0
  | d + 1, l => if nil4 l then inRg lo hi (l.getD 1 0) else
      (if 0 ≤ (tkL pt w l (Q - (d + 1))).getD (2 + (pt (Q - (d + 1))).toNat) 0 then gC Q pt w lo hi d (tkL pt w l (Q - (d + 1))) else 0) + gC Q pt w lo hi d l

section
variable {Q : Nat} {pt w : Nat → Int} {lo hi : Int} {l : List Int}

theorem gC_z {d : Nat} (hn : nil4 l) : gC Q pt w lo hi d l = inRg lo hi (l.getD 1 0) := by cases d <;> simp [gC, hn]
theorem gC_0 (hn : ¬nil4 l) : gC Q pt w lo hi 0 l = 0 := by simp [gC, hn]

theorem gC_s {q : Nat} (hn : ¬nil4 l) (hq : q < Q) : gC Q pt w lo hi (Q - q) l =
    (if 0 ≤ (tkL pt w l q).getD (2 + (pt q).toNat) 0 then gC Q pt w lo hi (Q - (q + 1)) (tkL pt w l q) else 0) + gC Q pt w lo hi (Q - (q + 1)) l := by
  obtain ⟨d, hd⟩ : ∃ d, Q - q = d + 1 := ⟨Q - q - 1, by omega⟩
  have h1 : Q - (d + 1) = q := by omega
  have h2 : Q - (q + 1) = d := by omega
  rw [hd, h2]
  simp only [gC, if_neg hn, h1]

theorem gC_le : ∀ (d : Nat) (l : List Int), gC Q pt w lo hi d l ≤ 2 ^ d
  | 0, l => by
    simp only [gC]
    split
    · exact inRg_le
    · exact Nat.zero_le _
  | d + 1, l => by
    have h1 := gC_le d l
    simp only [gC]
    rw [Nat.pow_succ]
    have h0 : 1 ≤ 2 ^ d := Nat.one_le_two_pow
    split
    · have := inRg_le (lo := lo) (hi := hi) (L := l.getD 1 0); omega
    · split
      · have h2 := gC_le d (tkL pt w l (Q - (d + 1))); omega
      · omega
theorem gC_16 {d : Nat} (hd : d ≤ 16) : gC Q pt w lo hi d l ≤ 65536 := Nat.le_trans (gC_le d l) (Nat.pow_le_pow_right (i := d) (j := 16) (by decide) hd)
end
end Go.E
namespace Go.Proofs.Ytenkebdjlajanaa
open Go Go.E
set_option maxRecDepth 100000
set_option maxHeartbeats 4000000

theorem outB_e {lo hi n : Int} : (outB lo hi n = false) ↔ (lo ≤ n ∧ n ≤ hi) := ⟨outB_f, outB_in⟩

theorem allNext {p : Nat → Prop} {x : Nat} (h : ∀ k, k < x → p k) (q : p x) : ∀ k, k < x + 1 → p k := fun k hk => by
  rcases Nat.lt_succ_iff_lt_or_eq.1 hk with hk | rfl
  · exact h k hk
  · exact q

structure PaOk (hr : RO) (qa : Option Addr) (qn : Nat) (wn : Nat) : Prop where
  q1 : 1 ≤ qn
  q16 : qn ≤ 16
  w1 : 1 ≤ wn
  w4 : wn ≤ 4
  qs : ∀ k, k < qn → 0 ≤ ie hr qa (k * 3) ∧ ie hr qa (k * 3) < wn


theorem ct7 {h : EH} {hr : RO} {qa wa : Option Addr} {qn qc wn wc : Nat} {lo hi : Int} (hR : ∀ b o, hr b = some o → h[b]? = some o) (h1 : Cell hr (.sl ly71) (.slice qa qn qc)) (h2 : Cell hr (.sl ly3) (.slice wa wn wc)) :
    Ct Try.prog 7 ⟨[.agg ⟨[.slice qa qn qc, .slice wa wn wc, .int .i64 lo, .int .i64 hi]⟩]⟩ h [] (fun x : Int × Int × Int => .tuple ⟨[.int .i64 x.1, .int .i64 x.2.1, .int .i64 x.2.2]⟩) (fun x => x.2.2 = 0 → PaOk hr qa qn wn) (fun _ => []) := by
  have hl1 := h1.le
  have hl2 := h2.le
  refine Ct.go Try.func7 rfl rfl co7 (Hp.start hR) ?_
  refine GW.sr rfl rfl ?_
  refine GL.opN rfl .no (SN.bx (u := .agg ⟨_⟩) rfl .agg) (fun a1 => ?_)
  refine GL.o rfl (S1.asI rfl) ?_
  refine GL.o rfl (S1.asI rfl) ?_
  refine GL.o rfl (S1.asI rfl) ?_
  refine GL.dn rfl ?_
  refine GW.sr rfl rfl ?_
  refine GL.o rfl (S1.fa fa27_1 rfl) ?_
  refine GL.o rfl (S1.ld sc23 rfl (.at .z) rfl) ?_
  refine GL.o rfl (S1.len el23 rfl) ?_
  refine GL.o rfl (S1.asI rfl) ?_
  refine GL.dn rfl ?_
  refine GW.toSeq rfl ?_
  refine GW.toBlock rfl ?_
  refine GW.sr rfl rfl ?_
  refine GL.o rfl (S1.fa fa27_0 rfl) ?_
  refine GL.o rfl (S1.ld sc22 rfl (.at .z) rfl) ?_
  refine GL.o rfl (S1.len el22 rfl) ?_
  refine GL.opN rfl .no (SN.bs el23 ez23 (.c (v := (.int _ _)) rfl rfl .n) rfl rfl) (fun a2 => ?_)
  refine GL.call rfl .no fo37 .nil (fun h H => ct37_1 (H.get .z)) (.d (.c (v := (.int _ _)) rfl (.c (v := (.int _ _)) rfl (.c (v := (.slice _ _ _)) rfl .n)))) (fun _ _ => ?_)
  refine GL.o rfl (S1.mvB rfl) ?_
  refine GL.split 20 rfl (fun w6 => ?_) (fun w6 => ?_)
  refine GL.skip rfl (.not rfl rfl rfl) ?_
  refine GL.skip rfl (.not rfl rfl rfl) ?_
  refine GL.skip rfl (.not rfl rfl rfl) ?_
  refine GL.o rfl (S1.pickT (v := (.bool _)) rfl rfl) ?_
  refine GL.o rfl (S1.asB rfl) ?_
  refine GL.dn rfl ?_
  refine GW.toT rfl rfl ?_
  refine GW.sr rfl rfl ?_
  refine GL.o rfl (S1.asI rfl) ?_
  refine GL.o rfl (S1.asI rfl) ?_
  refine GL.o rfl (S1.asI rfl) ?_
  refine GL.dn rfl ?_
  refine GW.toRet rfl ?_
  refine GQ.outR ?_
  refine GQ.onR ?_
  refine GQ.ret (_, _, _) (.tmp (v := (.int _ _)) rfl rfl (.tmp (v := (.int _ _)) rfl rfl (.tmp (v := (.int _ _)) rfl rfl .nil))) .more rfl ?_ .nil
  exact fun h => absurd h (by decide)
  refine GL.one rfl (.yes rfl rfl rfl) (S1.mvI rfl) ?_
  refine GL.opN rfl (.yes rfl rfl rfl) (SN.bs el23 ez23 (.c (v := (.int _ _)) rfl rfl .n) rfl rfl) (fun a7 => ?_)
  refine GL.call rfl (.yes rfl rfl rfl) fo37 .nil (fun h H => ct37_1 (H.get .z)) (.d (.c (v := (.int _ _)) rfl (.c (v := (.int _ _)) rfl (.c (v := (.slice _ _ _)) rfl .n)))) (fun _ _ => ?_)
  refine GL.o rfl (S1.pickF (v := (.bool _)) rfl rfl) ?_
  refine GL.o rfl (S1.asB rfl) ?_
  refine GL.dn rfl ?_
  refine GW.toC rfl rfl (fun w11 => ?_) (fun w11 => ?_)
  refine GW.sr rfl rfl ?_
  refine GL.o rfl (S1.asI rfl) ?_
  refine GL.o rfl (S1.asI rfl) ?_
  refine GL.o rfl (S1.asI rfl) ?_
  refine GL.dn rfl ?_
  refine GW.toRet rfl ?_
  refine GQ.outR ?_
  refine GQ.onR ?_
  refine GQ.ret (_, _, _) (.tmp (v := (.int _ _)) rfl rfl (.tmp (v := (.int _ _)) rfl rfl (.tmp (v := (.int _ _)) rfl rfl .nil))) .more rfl ?_ .nil
  exact fun h => absurd h (by decide)
  refine GW.sr rfl rfl ?_
  refine GL.o rfl (S1.fa fa27_2 rfl) ?_
  refine GL.o rfl (S1.fa fa25_0 rfl) ?_
  refine GL.o rfl (S1.ld sc3 rfl (.at (.s (.s .z))) rfl) ?_
  refine GL.o rfl (S1.fa fa27_2 rfl) ?_
  refine GL.o rfl (S1.fa fa25_1 rfl) ?_
  refine GL.o rfl (S1.ld sc3 rfl (.at (.s (.s .z))) rfl) ?_
  refine GL.opN rfl .no (SN.bs el23 ez23 (.c (v := (.int _ _)) rfl rfl (.c (v := (.int _ _)) rfl rfl .n)) rfl rfl) (fun a12 => ?_)
  refine GL.call rfl .no fo37 .nil (fun h H => ct37_2 (H.get .z)) (.d (.c (v := (.int _ _)) rfl (.c (v := (.int _ _)) rfl (.c (v := (.slice _ _ _)) rfl .n)))) (fun _ _ => ?_)
  refine GL.o rfl (S1.asB rfl) ?_
  refine GL.dn rfl ?_
  refine GW.toC rfl rfl (fun w16 => ?_) (fun w16 => ?_)
  refine GW.sr rfl rfl ?_
  refine GL.o rfl (S1.asI rfl) ?_
  refine GL.o rfl (S1.asI rfl) ?_
  refine GL.o rfl (S1.asI rfl) ?_
  refine GL.dn rfl ?_
  refine GW.toRet rfl ?_
  refine GQ.outR ?_
  refine GQ.onR ?_
  refine GQ.ret (_, _, _) (.tmp (v := (.int _ _)) rfl rfl (.tmp (v := (.int _ _)) rfl rfl (.tmp (v := (.int _ _)) rfl rfl .nil))) .more rfl ?_ .nil
  exact fun h => absurd h (by decide)
  refine GW.sr rfl rfl ?_
  refine GL.o rfl (S1.fa fa27_2 rfl) ?_
  refine GL.o rfl (S1.fa fa25_0 rfl) ?_
  refine GL.o rfl (S1.ld sc3 rfl (.at (.s (.s (.s .z)))) rfl) ?_
  refine GL.o rfl (S1.fa fa27_2 rfl) ?_
  refine GL.o rfl (S1.fa fa25_1 rfl) ?_
  refine GL.o rfl (S1.ld sc3 rfl (.at (.s (.s (.s .z)))) rfl) ?_
  refine GL.o rfl (S1.gtr rfl rfl) ?_
  refine GL.o rfl (S1.asB rfl) ?_
  refine GL.dn rfl ?_
  refine GW.toD rfl rfl (fun w17 => ?_) (fun w17 => ?_)
  refine GW.sr rfl rfl ?_
  refine GL.o rfl (S1.asI rfl) ?_
  refine GL.o rfl (S1.asI rfl) ?_
  refine GL.o rfl (S1.asI rfl) ?_
  refine GL.dn rfl ?_
  refine GW.toRet rfl ?_
  refine GQ.outR ?_
  refine GQ.onR ?_
  refine GQ.ret (_, _, _) (.tmp (v := (.int _ _)) rfl rfl (.tmp (v := (.int _ _)) rfl rfl (.tmp (v := (.int _ _)) rfl rfl .nil))) .more rfl ?_ .nil
  exact fun h => absurd h (by decide)
  refine GW.toSkip rfl ?_
  refine GQ.outN ?_
  refine GQ.on ?_
  refine GW.sr rfl rfl ?_
  refine GL.opN rfl .no (SN.al zc69) (fun a18 => ?_)
  refine GL.dn rfl ?_
  refine GW.toSeq rfl ?_
  refine GW.sr rfl rfl ?_
  refine GL.o rfl (S1.fa fa27_0 rfl) ?_
  refine GL.o rfl (S1.ld sc22 rfl (.at (.s (.s (.s (.s .z))))) rfl) ?_
  refine GL.o rfl (S1.len el22 rfl) ?_
  refine GL.o rfl (S1.mvI rfl) ?_
  refine GL.dn rfl ?_
  refine GW.toBlock rfl ?_
  have hq : 1 ≤ qn ∧ qn ≤ 16 ∧ 1 ≤ wn ∧ wn ≤ 4 := by simp only [outB_e, Bool.or_eq_false_iff] at *; omega
  refine GW.toLoop (X := Nat × List Int) (fun x => [(1, .pointer (some ⟨a1, 0, none⟩)), (5, .int .i64 wn), (6, .pointer (some ⟨a18, 0, none⟩)), (43, .slice qa qn qc), (44, .int .i64 qn), (45, .int .i64 x.1)]) (fun x => [(a1, .cells [.slice qa qn qc, .slice wa wn wc, .int .i64 lo, .int .i64 hi] none true), (a18, .cells (ints x.2) none true)]) (fun x => x.1 ≤ qn ∧ x.2.length = 4 ∧ ∀ k, k < x.1 → 0 ≤ ie hr qa (k * 3) ∧ ie hr qa (k * 3) < wn) (fun x => qn - x.1) rfl (0, [0, 0, 0, 0]) ⟨Nat.zero_le _, rfl, fun k hk => absurd hk (by simp)⟩ (.c rfl (.c rfl (.c rfl (.c rfl (.c rfl (.c rfl .n)))))) (.cons (.s (.s (.s (.s .z)))) (.cons .z .nil)) ?_
  rintro x f ⟨hx, hxl, hp⟩
  refine GW.sr rfl rfl ?_
  refine GL.o rfl (S1.lss rfl rfl) ?_
  refine GL.dn rfl ?_
  refine GW.toSeq rfl ?_
  refine GW.toD rfl rfl (fun w19 => ?_) (fun w19 => ?_)
  refine GW.toSkip rfl ?_
  refine GQ.on ?_
  refine GW.toSeq rfl ?_
  refine GW.toBlock rfl ?_
  refine GW.sr rfl rfl ?_
  refine GL.o rfl (S1.mvI rfl) ?_
  refine GL.o rfl (S1.ixR el22 h1 rfl rfl (by omega)) ?_
  refine GL.o rfl (S1.ldE ag71 h1 rfl (m := x.fst) (by omega) rfl le71) ?_
  refine GL.opN rfl .no (SN.al zc71) (fun a20 => ?_)
  refine GL.o rfl (S1.asI rfl) ?_
  refine GL.o rfl (S1.stA ag71 rfl rfl rfl rfl (by repeat constructor) .z) ?_
  refine GL.dn rfl ?_
  refine GW.toSeq rfl ?_
  refine GW.toBlock rfl ?_
  refine GW.sr rfl rfl ?_
  refine GL.o rfl (S1.mvI rfl) ?_
  refine GL.o rfl (S1.dec1 rfl rfl (by omega) (by omega)) ?_
  refine GL.o rfl (S1.fa fa71_0 rfl) ?_
  refine GL.o rfl (S1.ld sc3 rfl (.at .z) rfl) ?_
  refine GL.opN rfl .no (SN.bs el23 ez23 (.c (v := (.int _ _)) rfl rfl .n) rfl rfl) (fun a21 => ?_)
  refine GL.call rfl .no fo37 .nil (fun h H => ct37_1 (H.get .z)) (.d (.c (v := (.int _ _)) rfl (.c (v := (.int _ _)) rfl (.c (v := (.slice _ _ _)) rfl .n)))) (fun _ _ => ?_)
  refine GL.o rfl (S1.asB rfl) ?_
  refine GL.dn rfl ?_
  refine GW.toC rfl rfl (fun w25 => ?_) (fun w25 => ?_)
  refine GW.sr rfl rfl ?_
  refine GL.o rfl (S1.mvI rfl) ?_
  refine GL.o rfl (S1.asI rfl) ?_
  refine GL.o rfl (S1.asI rfl) ?_
  refine GL.o rfl (S1.asI rfl) ?_
  refine GL.dn rfl ?_
  refine GW.toRet rfl ?_
  refine GQ.outR ?_
  refine GQ.onR ?_
  refine GQ.outR ?_
  refine GQ.onR ?_
  refine GQ.onR ?_
  refine GQ.outR ?_
  refine GQ.onR ?_
  refine GQ.ret (_, _, _) (.tmp (v := (.int _ _)) rfl rfl (.tmp (v := (.int _ _)) rfl rfl (.tmp (v := (.int _ _)) rfl rfl .nil))) .more rfl ?_ .nil
  exact fun h => absurd h (by dsimp only; omega)
  refine GW.sr rfl rfl ?_
  refine GL.o rfl (S1.fa fa71_1 rfl) ?_
  refine GL.o rfl (S1.ld sc3 rfl (.at (.s .z)) rfl) ?_
  refine GL.opN rfl .no (SN.bs el23 ez23 (.c (v := (.int _ _)) rfl rfl .n) rfl rfl) (fun a26 => ?_)
  refine GL.call rfl .no fo37 .nil (fun h H => ct37_1 (H.get .z)) (.d (.c (v := (.int _ _)) rfl (.c (v := (.int _ _)) rfl (.c (v := (.slice _ _ _)) rfl .n)))) (fun _ _ => ?_)
  refine GL.o rfl (S1.mvB rfl) ?_
  refine GL.split 63 rfl (fun w30 => ?_) (fun w30 => ?_)
  refine GL.skip rfl (.not rfl rfl rfl) ?_
  refine GL.skip rfl (.not rfl rfl rfl) ?_
  refine GL.skip rfl (.not rfl rfl rfl) ?_
  refine GL.skip rfl (.not rfl rfl rfl) ?_
  refine GL.skip rfl (.not rfl rfl rfl) ?_
  refine GL.skip rfl (.not rfl rfl rfl) ?_
  refine GL.o rfl (S1.pickT (v := (.bool _)) rfl rfl) ?_
  refine GL.o rfl (S1.asB rfl) ?_
  refine GL.dn rfl ?_
  refine GW.toT rfl rfl ?_
  refine GW.sr rfl rfl ?_
  refine GL.o rfl (S1.mvI rfl) ?_
  refine GL.o rfl (S1.asI rfl) ?_
  refine GL.o rfl (S1.asI rfl) ?_
  refine GL.o rfl (S1.asI rfl) ?_
  refine GL.dn rfl ?_
  refine GW.toRet rfl ?_
  refine GQ.outR ?_
  refine GQ.onR ?_
  refine GQ.outR ?_
  refine GQ.onR ?_
  refine GQ.onR ?_
  refine GQ.outR ?_
  refine GQ.onR ?_
  refine GQ.ret (_, _, _) (.tmp (v := (.int _ _)) rfl rfl (.tmp (v := (.int _ _)) rfl rfl (.tmp (v := (.int _ _)) rfl rfl .nil))) .more rfl ?_ .nil
  exact fun h => absurd h (by dsimp only; omega)
  refine GL.one rfl (.yes rfl rfl rfl) (S1.fa fa71_1 rfl) ?_
  refine GL.one rfl (.yes rfl rfl rfl) (S1.ld sc3 rfl (.at (.s (.s .z))) rfl) ?_
  refine GL.one rfl (.yes rfl rfl rfl) (S1.fa fa71_2 rfl) ?_
  refine GL.one rfl (.yes rfl rfl rfl) (S1.ld sc3 rfl (.at (.s (.s .z))) rfl) ?_
  refine GL.opN rfl (.yes rfl rfl rfl) (SN.bs el23 ez23 (.c (v := (.int _ _)) rfl rfl .n) rfl rfl) (fun a31 => ?_)
  refine GL.call rfl (.yes rfl rfl rfl) fo37 .nil (fun h H => ct37_1 (H.get .z)) (.d (.c (v := (.int _ _)) rfl (.c (v := (.int _ _)) rfl (.c (v := (.slice _ _ _)) rfl .n)))) (fun _ _ => ?_)
  refine GL.o rfl (S1.pickF (v := (.bool _)) rfl rfl) ?_
  refine GL.o rfl (S1.asB rfl) ?_
  refine GL.dn rfl ?_
  refine GW.toC rfl rfl (fun w35 => ?_) (fun w35 => ?_)
  refine GW.sr rfl rfl ?_
  refine GL.o rfl (S1.mvI rfl) ?_
  refine GL.o rfl (S1.asI rfl) ?_
  refine GL.o rfl (S1.asI rfl) ?_
  refine GL.o rfl (S1.asI rfl) ?_
  refine GL.dn rfl ?_
  refine GW.toRet rfl ?_
  refine GQ.outR ?_
  refine GQ.onR ?_
  refine GQ.outR ?_
  refine GQ.onR ?_
  refine GQ.onR ?_
  refine GQ.outR ?_
  refine GQ.onR ?_
  refine GQ.ret (_, _, _) (.tmp (v := (.int _ _)) rfl rfl (.tmp (v := (.int _ _)) rfl rfl (.tmp (v := (.int _ _)) rfl rfl .nil))) .more rfl ?_ .nil
  exact fun h => absurd h (by dsimp only; omega)
  refine GW.toSkip rfl ?_
  refine GQ.outN ?_
  refine GQ.on ?_
  refine GW.toReg rfl ?_
  refine GL.o rfl (S1.fa fa71_0 rfl) ?_
  refine GL.o rfl (S1.ld sc3 rfl (.at (.s (.s (.s .z)))) rfl) ?_
  refine GL.o rfl (S1.ixPI (n := 4) (by kernel_rfl) rfl rfl (by simp only [outB_n] at *; omega)) ?_
  refine GL.o rfl (S1.ldI sc3 rfl (.at (.s (.s (.s (.s (.s .z)))))) (by simp only [outB_n, List.length_set] at *; omega)) ?_
  refine GL.o rfl (S1.add rfl rfl) ?_
  refine GL.o rfl (S1.ixPI (n := 4) (by kernel_rfl) rfl rfl (by simp only [outB_n] at *; omega)) ?_
  refine GL.o rfl (S1.stI sc3 rfl rfl (by simp only [outB_n, List.length_set] at *; omega) (.s (.s (.s (.s (.s .z)))))) ?_
  refine GL.done rfl ?_
  refine GQ.outN ?_
  refine GQ.on ?_
  refine GW.toReg rfl ?_
  refine GL.o rfl (S1.inc rfl rfl (by omega)) ?_
  refine GL.o rfl (S1.mvI rfl) ?_
  refine GL.done rfl ?_
  refine GQ.nextT (x.1 + 1, _) (.c rfl (.c rfl (.c rfl (.c rfl (.c rfl (.c rfl .n)))))) (.cons (.s (.s (.s (.s .z)))) (.cons (.s (.s (.s (.s .z)))) .nil)) ⟨(by first | omega | (dsimp only; omega)), by simp only [List.length_set]; exact hxl, allNext hp (by simp only [outB_e, Bool.or_eq_false_iff] at *; simp only [ie]; omega)⟩ (by first | omega | (dsimp only; omega))
  refine GW.toExit rfl ?_
  refine GQ.onE ?_
  refine GQ.onE ?_
  refine GQ.outH ?_
  refine GQ.on ?_
  refine GW.toSeq rfl ?_
  refine GW.sr rfl rfl ?_
  refine GL.o rfl (S1.fa fa27_1 rfl) ?_
  refine GL.o rfl (S1.ld sc23 rfl (.at .z) rfl) ?_
  refine GL.o rfl (S1.len el23 rfl) ?_
  refine GL.o rfl (S1.mvI rfl) ?_
  refine GL.dn rfl ?_
  refine GW.toBlock rfl ?_
  have hok : PaOk hr qa qn wn := ⟨hq.1, hq.2.1, hq.2.2.1, hq.2.2.2, fun k hk => hp k (by omega)⟩
  refine GW.toLoop (X := Nat) (fun y => [(6, .pointer (some ⟨a18, 0, none⟩)), (80, .slice wa wn wc), (81, .int .i64 wn), (82, .int .i64 y)]) (fun _ => [(a18, .cells (ints x.2) none true)]) (fun y => y ≤ wn) (fun y => wn - y) rfl 0 (Nat.zero_le _) (.c rfl (.c rfl (.c rfl (.c rfl .n)))) (.cons (.s .z) .nil) ?_
  rintro y f hy
  refine GW.sr rfl rfl ?_
  refine GL.o rfl (S1.lss rfl rfl) ?_
  refine GL.dn rfl ?_
  refine GW.toSeq rfl ?_
  refine GW.toD rfl rfl (fun w36 => ?_) (fun w36 => ?_)
  refine GW.toSkip rfl ?_
  refine GQ.on ?_
  refine GW.toSeq rfl ?_
  refine GW.toBlock rfl ?_
  refine GW.sr rfl rfl ?_
  refine GL.o rfl (S1.mvI rfl) ?_
  refine GL.o rfl (S1.ixR el23 h2 rfl rfl (by omega)) ?_
  refine GL.o rfl (S1.ldCI sc3 (z := 1) h2 rfl (m := y) (by omega) rfl (d := 0) rfl rfl) ?_
  refine GL.o rfl (S1.asI rfl) ?_
  refine GL.o rfl (S1.asI rfl) ?_
  refine GL.dn rfl ?_
  refine GW.sr rfl rfl ?_
  refine GL.o rfl (S1.mvI rfl) ?_
  refine GL.o rfl (S1.ixP (n := 4) (by kernel_rfl) rfl rfl (by omega)) ?_
  refine GL.o rfl (S1.ldI sc3 rfl (.at .z) (by omega)) ?_
  refine GL.o rfl (S1.mvI rfl) ?_
  refine GL.opN rfl .no (SN.bs el23 ez23 (.c (v := (.int _ _)) rfl rfl .n) rfl rfl) (fun a37 => ?_)
  refine GL.call rfl .no fo37 .nil (fun h H => ct37_1 (H.get .z)) (.d (.c (v := (.int _ _)) rfl (.c (v := (.int _ _)) rfl (.c (v := (.slice _ _ _)) rfl .n)))) (fun _ _ => ?_)
  refine GL.dn rfl ?_
  refine GW.toC rfl rfl (fun w41 => ?_) (fun w41 => ?_)
  refine GW.sr rfl rfl ?_
  refine GL.o rfl (S1.mvI rfl) ?_
  refine GL.o rfl (S1.asI rfl) ?_
  refine GL.o rfl (S1.asI rfl) ?_
  refine GL.o rfl (S1.asI rfl) ?_
  refine GL.dn rfl ?_
  refine GW.toRet rfl ?_
  refine GQ.outR ?_
  refine GQ.onR ?_
  refine GQ.onR ?_
  refine GQ.outR ?_
  refine GQ.onR ?_
  refine GQ.ret (_, _, _) (.tmp (v := (.int _ _)) rfl rfl (.tmp (v := (.int _ _)) rfl rfl (.tmp (v := (.int _ _)) rfl rfl .nil))) .more rfl ?_ .nil
  exact fun h => absurd h (by dsimp only; omega)
  refine GW.toSkip rfl ?_
  refine GQ.outN ?_
  refine GQ.on ?_
  refine GW.toReg rfl ?_
  refine GL.o rfl (S1.inc rfl rfl (by omega)) ?_
  refine GL.o rfl (S1.mvI rfl) ?_
  refine GL.done rfl ?_
  refine GQ.next (y + 1) (by omega) (by omega) (.c rfl (.c rfl (.c rfl (.c rfl .n)))) (.cons (.s .z) .nil)
  refine GW.toExit rfl ?_
  refine GQ.onE ?_
  refine GQ.onE ?_
  refine GQ.outH ?_
  refine GQ.on ?_
  refine GW.sr rfl rfl ?_
  refine GL.o rfl (S1.asI rfl) ?_
  refine GL.o rfl (S1.asI rfl) ?_
  refine GL.o rfl (S1.asI rfl) ?_
  refine GL.dn rfl ?_
  refine GW.toRet rfl ?_
  refine GQ.ret (_, _, _) (.tmp (v := (.int _ _)) rfl rfl (.tmp (v := (.int _ _)) rfl rfl (.tmp (v := (.int _ _)) rfl rfl .nil))) .more rfl ?_ .nil
  exact fun _ => hok
end Go.Proofs.Ytenkebdjlajanaa
namespace Go.Proofs.Ytenkebdjlajanaa
open Go Go.E
set_option maxRecDepth 100000
set_option maxHeartbeats 4000000

abbrev BaC (qa : Option Addr) (qn qc : Nat) (wa : Option Addr) (wn wc : Nat) (lo hi : Int) (wv : Value) (mb : Nat) : List Value := [.slice qa qn qc, .slice wa wn wc, .int .i64 lo, .int .i64 hi, wv, .map (some mb)]

structure Gr where
  v : Value
  E : Ents
  m : Nat
  l : List Int

structure Bk where
  bb : Nat
  wr : Nat
  ws : List Int
  mb : Nat

abbrev V38 : Bk ⊕ Int → Value
  | .inl x => .tuple ⟨[.pointer (some ⟨x.bb, 0, none⟩), .int .i64 0]⟩
  | .inr e => .tuple ⟨[.pointer none, .int .i64 e]⟩
abbrev R38 (hr : RO) (qa : Option Addr) (qn wn : Nat) : Bk ⊕ Int → Prop
  | .inl x => PaOk hr qa qn wn ∧ x.ws.length = qn
  | .inr e => e ≠ 0
abbrev N38 (qa : Option Addr) (qn qc : Nat) (wa : Option Addr) (wn wc : Nat) (lo hi : Int) : Bk ⊕ Int → Ents
  | .inl x => [(x.bb, .cells (BaC qa qn qc wa wn wc lo hi (rowS x.wr qn) x.mb) none true), (x.wr, opRow (ints x.ws) 1), (x.mb, .map [] 0)]
  | .inr _ => []

theorem ct38 {h : EH} {hr : RO} {qa wa : Option Addr} {qn qc wn wc : Nat} {lo hi : Int} (hR : ∀ b o, hr b = some o → h[b]? = some o) (h1 : Cell hr (.sl ly71) (.slice qa qn qc)) (h2 : Cell hr (.sl ly3) (.slice wa wn wc)) :
    Ct Try.prog 38 ⟨[.agg ⟨[.slice qa qn qc, .slice wa wn wc, .int .i64 lo, .int .i64 hi]⟩]⟩ h [] V38 (R38 hr qa qn wn) (N38 qa qn qc wa wn wc lo hi) := by
  have hl1 := h1.le
  have hl2 := h2.le
  refine Ct.go Try.func38 rfl rfl co38 (Hp.start hR) ?_
  refine GW.sr rfl rfl ?_
  refine GL.opN rfl .no (SN.bx (u := .agg ⟨_⟩) rfl .agg) (fun a1 => ?_)
  refine GL.o rfl (S1.asP rfl) ?_
  refine GL.o rfl (S1.asI rfl) ?_
  refine GL.dn rfl ?_
  refine GW.toSeq rfl ?_
  refine GW.sr rfl rfl ?_
  refine GL.o rfl (S1.ldW ag27 rfl (.at .z) rfl) ?_
  refine GL.call rfl .no fo7 .nil (fun h H => ct7 H.rom h1 h2) (.d (.c (v := (.agg _)) rfl .n)) (fun e7 q7 => ?_)
  refine GL.o rfl (S1.mvT rfl) ?_
  refine GL.o rfl (S1.ext (v := (.int _ _)) rfl rfl) ?_
  refine GL.o rfl (S1.ext (v := (.int _ _)) rfl rfl) ?_
  refine GL.o rfl (S1.ext (v := (.int _ _)) rfl rfl) ?_
  refine GL.o rfl (S1.asI rfl) ?_
  refine GL.o rfl (S1.asI rfl) ?_
  refine GL.o rfl (S1.asI rfl) ?_
  refine GL.dn rfl ?_
  refine GW.sr rfl rfl ?_
  refine GL.o rfl (S1.mvI rfl) ?_
  refine GL.o rfl (S1.neq rfl rfl) ?_
  refine GL.dn rfl ?_
  refine GW.toD rfl rfl (fun w3 => ?_) (fun w3 => ?_)
  refine GW.sr rfl rfl ?_
  refine GL.o rfl (S1.mvI rfl) ?_
  refine GL.o rfl (S1.asP rfl) ?_
  refine GL.o rfl (S1.asI rfl) ?_
  refine GL.dn rfl ?_
  refine GW.toRet rfl ?_
  refine GQ.onR ?_
  refine GQ.ret (.inr e7.2.2) (.tmp rfl rfl (.tmp rfl rfl .nil)) .more rfl (show e7.2.2 ≠ 0 by omega) .nil
  refine GW.toSkip rfl ?_
  refine GQ.on ?_
  refine GW.sr rfl rfl ?_
  refine GL.o rfl (S1.ldW ag27 rfl (.at .z) rfl) ?_
  refine GL.opN rfl .no (SN.mm) (fun a4 => ?_)
  refine GL.o rfl (S1.bu zc77 bo77 (.c (v := .agg ⟨_⟩) rfl .agg fz77_0 rfl (by repeat constructor) (.c (v := (.map _)) rfl (.one rfl) fz77_2 rfl (by repeat constructor) .n))) ?_
  refine GL.opN rfl .no (SN.bx (u := .agg ⟨_⟩) rfl .agg) (fun a5 => ?_)
  refine GL.o rfl (S1.asP rfl) ?_
  refine GL.dn rfl ?_
  refine GW.toSeq rfl ?_
  refine GW.sr rfl rfl ?_
  refine GL.o rfl (S1.fa fa27_0 rfl) ?_
  refine GL.o rfl (S1.ld sc22 rfl (.at (.s (.s .z))) rfl) ?_
  refine GL.o rfl (S1.len el22 rfl) ?_
  refine GL.o rfl (S1.mvI rfl) ?_
  refine GL.dn rfl ?_
  refine GW.toBlock rfl ?_
  have hok := q7 (by omega)
  have hq16 := hok.q16
  refine GW.toLoop (X := Nat × Gr) (fun x => [(1, .pointer (some ⟨a1, 0, none⟩)), (7, .pointer (some ⟨a5, 0, none⟩)), (25, .slice qa qn qc), (26, .int .i64 qn), (27, .int .i64 x.1)]) (fun x => (a5, .cells (BaC qa qn qc wa wn wc lo hi x.2.v a4) none true) :: (a4, .map [] 0) :: (a1, .cells [.slice qa qn qc, .slice wa wn wc, .int .i64 lo, .int .i64 hi] none true) :: x.2.E) (fun x => x.1 ≤ qn ∧ NR 1 x.2.v x.2.E x.2.m x.2.l ∧ x.2.m = x.1) (fun x => qn - x.1) rfl (0, ⟨nilS, [], 0, []⟩) ⟨Nat.zero_le _, .nil, rfl⟩ (.c rfl (.c rfl (.c rfl (.c rfl (.c rfl .n))))) (.cons .z (.cons .z (.cons .z .nil))) ?_
  rintro ⟨k, v, E, m, l⟩ f ⟨hx, nr, hm⟩
  dsimp only at hx nr hm ⊢
  subst hm
  refine GW.sr rfl rfl ?_
  refine GL.o rfl (S1.lss rfl rfl) ?_
  refine GL.dn rfl ?_
  refine GW.toSeq rfl ?_
  refine GW.toD rfl rfl (fun w6 => ?_) (fun w6 => ?_)
  refine GW.toSkip rfl ?_
  refine GQ.on ?_
  refine GW.toSeq rfl ?_
  refine GW.toBlock rfl ?_
  refine GW.sr rfl rfl ?_
  refine GL.o rfl (S1.ixR el22 h1 rfl rfl (by omega)) ?_
  refine GL.o rfl (S1.ldE ag71 h1 rfl (m := m) (by omega) rfl le71) ?_
  refine GL.opN rfl .no (SN.al zc71) (fun a7 => ?_)
  refine GL.o rfl (S1.stA ag71 rfl rfl rfl rfl (by repeat constructor) .z) ?_
  refine GL.dn rfl ?_
  refine GW.sr rfl rfl ?_
  refine GL.o rfl (S1.asI rfl) ?_
  refine GL.dn rfl ?_
  refine GW.toSeq rfl ?_
  refine GW.sr rfl rfl ?_
  refine GL.o rfl (S1.fa fa71_1 rfl) ?_
  refine GL.o rfl (S1.ld sc3 rfl (.at .z) rfl) ?_
  refine GL.o rfl (S1.gtr rfl rfl) ?_
  refine GL.dn rfl ?_
  refine GW.toD rfl rfl (fun w8 => ?_) (fun w8 => ?_)
  refine GW.toReg rfl ?_
  refine GL.o rfl (S1.fa fa71_2 rfl) ?_
  refine GL.o rfl (S1.ld sc3 rfl (.at .z) rfl) ?_
  refine GL.o rfl (S1.mul rfl rfl) ?_
  refine GL.o rfl (S1.fa fa71_1 rfl) ?_
  refine GL.o rfl (S1.ld sc3 rfl (.at .z) rfl) ?_
  refine GL.o rfl (S1.quo rfl rfl (by omega)) ?_
  refine GL.o rfl (S1.asI rfl) ?_
  refine GL.dn rfl ?_
  refine GW.toReg rfl ?_
  refine GL.o rfl (S1.mvP rfl) ?_
  refine GL.o rfl (S1.mvP rfl) ?_
  refine GL.o rfl (S1.nc rfl) ?_
  refine GL.o rfl (S1.fa fa77_1 rfl) ?_
  refine GL.o rfl (S1.ld sc23 rfl (.at (.s .z)) rfl) ?_
  refine GL.o rfl (S1.mvI rfl) ?_
  refine GL.opN rfl .no (SN.bs el23 ez23 (.c (v := (.int _ _)) rfl rfl .n) rfl rfl) (fun a9 => ?_)
  refine GL.opN rfl .no (SN.apN (new := [Go.IntKind.i64.wrap ((Go.IntKind.i64.wrap (Go.E.iv (Go.E.el hr qa (m * 3 + 2)) * 1000)).tdiv (Go.E.iv (Go.E.el hr qa (m * 3 + 1))))]) ap23_23 nr rfl (.row rfl (.at .z) rfl) (by decide) (by omega) (.ts (.ts (.ts (.ts (.ts .tz)))))) (fun a13 => ?_)
  refine GL.o rfl (S1.nc rfl) ?_
  refine GL.o rfl (S1.fa fa77_1 rfl) ?_
  refine GL.o rfl (S1.st (u := (.slice _ _ _)) sc23 rfl rfl rfl (by repeat constructor) (.s (.s (.s .z)))) ?_
  refine GL.done rfl ?_
  refine GQ.outN ?_
  refine GQ.on ?_
  refine GW.toReg rfl ?_
  refine GL.o rfl (S1.inc rfl rfl (by omega)) ?_
  refine GL.o rfl (S1.mvI rfl) ?_
  refine GL.done rfl ?_
  refine GQ.nextT (m + 1, ⟨rowS a13 (m + 1), [(a13, opRow (ints (l ++ [IntKind.i64.wrap ((IntKind.i64.wrap (iv (el hr qa (m * 3 + 2)) * 1000)).tdiv (iv (el hr qa (m * 3 + 1))))])) 1)], m + 1, l ++ [IntKind.i64.wrap ((IntKind.i64.wrap (iv (el hr qa (m * 3 + 2)) * 1000)).tdiv (iv (el hr qa (m * 3 + 1))))]⟩) (.c rfl (.c rfl (.c rfl (.c rfl (.c rfl .n))))) (.cons (.s (.s (.s .z))) (.cons (.s (.s (.s .z))) (.cons (.s (.s (.s .z))) (.cons .z .nil)))) ⟨(by first | omega | (dsimp only; omega)), nr.app (by decide) rfl, rfl⟩ (by first | omega | (dsimp only; omega))
  refine GW.toSkip rfl ?_
  refine GQ.on ?_
  refine GW.toReg rfl ?_
  refine GL.o rfl (S1.mvP rfl) ?_
  refine GL.o rfl (S1.mvP rfl) ?_
  refine GL.o rfl (S1.nc rfl) ?_
  refine GL.o rfl (S1.fa fa77_1 rfl) ?_
  refine GL.o rfl (S1.ld sc23 rfl (.at (.s .z)) rfl) ?_
  refine GL.o rfl (S1.mvI rfl) ?_
  refine GL.opN rfl .no (SN.bs el23 ez23 (.c (v := (.int _ _)) rfl rfl .n) rfl rfl) (fun a14 => ?_)
  refine GL.opN rfl .no (SN.apN (new := [500]) ap23_23 nr rfl (.row rfl (.at .z) rfl) (by decide) (by omega) (.ts (.ts (.ts (.ts (.ts .tz)))))) (fun a18 => ?_)
  refine GL.o rfl (S1.nc rfl) ?_
  refine GL.o rfl (S1.fa fa77_1 rfl) ?_
  refine GL.o rfl (S1.st (u := (.slice _ _ _)) sc23 rfl rfl rfl (by repeat constructor) (.s (.s (.s .z)))) ?_
  refine GL.done rfl ?_
  refine GQ.outN ?_
  refine GQ.on ?_
  refine GW.toReg rfl ?_
  refine GL.o rfl (S1.inc rfl rfl (by omega)) ?_
  refine GL.o rfl (S1.mvI rfl) ?_
  refine GL.done rfl ?_
  refine GQ.nextT (m + 1, ⟨rowS a18 (m + 1), [(a18, opRow (ints (l ++ [500])) 1)], m + 1, l ++ [500]⟩) (.c rfl (.c rfl (.c rfl (.c rfl (.c rfl .n))))) (.cons (.s (.s (.s .z))) (.cons (.s (.s (.s .z))) (.cons (.s (.s (.s .z))) (.cons .z .nil)))) ⟨(by first | omega | (dsimp only; omega)), nr.app (by decide) rfl, rfl⟩ (by first | omega | (dsimp only; omega))
  refine GW.toExit rfl ?_
  refine GQ.onE ?_
  refine GQ.onE ?_
  refine GQ.outH ?_
  refine GQ.on ?_
  refine GW.sr rfl rfl ?_
  refine GL.o rfl (S1.mvP rfl) ?_
  refine GL.o rfl (S1.asP rfl) ?_
  refine GL.o rfl (S1.asI rfl) ?_
  refine GL.dn rfl ?_
  refine GW.toRet rfl ?_
  have hmq : m = qn := by omega
  subst hmq
  have hq1 := hok.q1
  cases nr with
  | nil => exfalso; omega
  | @row r m l hm0 hl =>
    refine GQ.retT (.inl ⟨a5, r, l, a4⟩) (.tmp rfl rfl (.tmp rfl rfl .nil)) .more rfl (.cons .z (.cons (.s (.s .z)) (.cons .z .nil))) ⟨hok, by rw [hl]; omega⟩
end Go.Proofs.Ytenkebdjlajanaa
namespace Go.Proofs.Ytenkebdjlajanaa
open Go Go.E
set_option maxRecDepth 100000
set_option maxHeartbeats 4000000

structure BkOk (hr : RO) (h : EH) (qa : Option Addr) (qn qc : Nat) (wa : Option Addr) (wn wc : Nat) (lo hi : Int) (bb wr mb : Nat) (ws : List Int) : Prop where
  ok : PaOk hr qa qn wn
  c1 : Cell hr (.sl ly71) (.slice qa qn qc)
  c2 : Cell hr (.sl ly3) (.slice wa wn wc)
  wl : ws.length = qn
  hR : ∀ b o, hr b = some o → h[b]? = some o
  hb : h[bb]? = some (.cells (BaC qa qn qc wa wn wc lo hi (rowS wr qn) mb) none true)
  hw : h[wr]? = some (opRow (ints ws) 1)

abbrev ptQ (hr : RO) (qa : Option Addr) (k : Nat) : Int := ie hr qa (k * 3 + 0)
abbrev wtQ (ws : List Int) (k : Nat) : Int := ws.getD (0 + k * 1) 0

section
variable {h : EH} {hr : RO} {qa wa : Option Addr} {qn qc wn wc bb wr mb : Nat} {lo hi : Int} {ws l : List Int} {q : Nat}

theorem BkOk.mono {h' : EH} (S : BkOk hr h qa qn qc wa wn wc lo hi bb wr mb ws) (e : Ext h h') : BkOk hr h' qa qn qc wa wn wc lo hi bb wr mb ws :=
  ⟨S.ok, S.c1, S.c2, S.wl, fun b o q => e _ _ (S.hR b o q), e _ _ S.hb, e _ _ S.hw⟩

def bgL (hr : RO) (wa : Option Addr) (wn : Nat) : List Int := splI [0, 0, 0, 0, 0, 0] (0 + 2) (((romV hr wa wn).map iv).take (Nat.min wn 4))
theorem bgL_len {hr : RO} {wa : Option Addr} {wn : Nat} : (bgL hr wa wn).length = 6 := splI_len (l := [0, 0, 0, 0, 0, 0]) (by
  have : Nat.min wn 4 ≤ 4 := Nat.min_le_right _ _
  simp only [List.length_take, List.length_cons, List.length_nil]; omega)
theorem bgL_0 {hr : RO} {wa : Option Addr} {wn : Nat} : (bgL hr wa wn).getD 0 0 = 0 := rfl
theorem ints_iv {us : List Int} : (ints us).map iv = us := by
  simp only [ints, List.map_map]
  exact (List.map_congr_left fun _ _ => rfl).trans (List.map_id us)

theorem ct43 (S : BkOk hr h qa qn qc wa wn wc lo hi bb wr mb ws) :
    Ct Try.prog 43 ⟨[.pointer (some ⟨bb, 0, none⟩)]⟩ h [] (fun _ : Unit => .agg ⟨ints (bgL hr wa wn)⟩) (fun _ => True) (fun _ => []) := by
  have h2 := S.c2
  have hl2 := h2.le
  have hb := S.hb
  obtain ⟨q1, q2, q3⟩ := h2.romV rfl rfl (by decide)
  obtain ⟨us, hus, hul⟩ := q2.toInts (by simp [ly3]) q1 (by decide)
  rw [show ly3.length = 1 from rfl, Nat.mul_one] at hus
  have hul' : us.length = wn := by rw [hul]; exact Nat.mul_one _
  refine Ct.go Try.func43 rfl rfl co43 (Hp.start S.hR) ?_
  refine GW.sr rfl rfl ?_
  refine GL.opN rfl .no (SN.al zc84) (fun a1 => ?_)
  refine GL.dn rfl ?_
  refine GW.toSeq rfl ?_
  refine GW.toDrw mx rfl ?_
  refine GD.o rfl (S1.fa fa84_2 rfl) rfl ?_
  refine GD.o rfl (S1.cutA (n := 4) (by kernel_rfl) (by decide) rfl) rfl ?_
  refine GD.o rfl (S1.mvP rfl) rfl ?_
  refine GD.o rfl (S1.nc rfl) rfl ?_
  refine GD.o rfl (S1.fa fa77_0 rfl) rfl ?_
  refine GD.o rfl (S1.fa fa27_1 rfl) rfl ?_
  refine GD.o rfl (S1.ld sc23 rfl (.old0 hb) rfl) rfl ?_
  refine GD.loud rfl .no (S1.copyP (l := [0, 0, 0, 0, 0, 0]) (us := us) el23 rfl rfl h2 rfl hus hul' (by first | decide | (simp only [List.length_set]; omega)) .z) rfl rfl (by kernel_rfl) ?_
  refine GD.done rfl ?_
  refine GQ.on ?_
  refine GW.sr rfl rfl ?_
  rw [show splI [0, 0, 0, 0, 0, 0] (0 + 2) (List.take (wn.min 4) us) = bgL hr wa wn by rw [bgL, hus, ints_iv]]
  have hsl := bgL_len (hr := hr) (wa := wa) (wn := wn)
  refine GL.o rfl (S1.ldW ag84 rfl (.at .z) (by simp only [ints_len, List.length_set]; first | omega | assumption)) ?_
  refine GL.o rfl (S1.stW ag84 rfl rfl (by first | assumption | (simp only [List.length_set]; first | omega | assumption)) (by first | rfl | (simp only [ints_len, List.length_set]; first | omega | assumption)) .z) ?_
  refine GL.dn rfl ?_
  refine GW.toRet rfl ?_
  refine GQ.ret () (.cell rfl rfl .z (loadV_W ag84 (by rw [ints_len]; exact hsl)) .nil) .one rfl trivial .nil

theorem ct51 (S : BkOk hr h qa qn qc wa wn wc lo hi bb wr mb ws) (hl : l.length = 6) (hq : q < qn) :
    Ct Try.prog 51 ⟨[.pointer (some ⟨bb, 0, none⟩), .agg ⟨ints l⟩, .int .i64 q]⟩ h [] (fun _ : Unit => .tuple ⟨[.agg ⟨ints (tkL (ptQ hr qa) (wtQ ws) l q)⟩, .bool (decide (0 ≤ (tkL (ptQ hr qa) (wtQ ws) l q).getD (2 + (ptQ hr qa q).toNat) 0))]⟩) (fun _ => True) (fun _ => []) := by
  have h1 := S.c1
  have hl1 := h1.le
  have hb := S.hb
  have hw := S.hw
  have hwl := S.wl
  have hk : 0 ≤ ie hr qa (q * 3 + 0) ∧ ie hr qa (q * 3 + 0) < wn := S.ok.qs q hq
  have hw4 := S.ok.w4
  refine Ct.go Try.func51 rfl rfl co51 (Hp.start S.hR) ?_
  refine GW.sr rfl rfl ?_
  refine GL.opN rfl .no (SN.bx (u := .agg ⟨_⟩) rfl .agg) (fun a1 => ?_)
  refine GL.opN rfl .no (SN.al zc84) (fun a2 => ?_)
  refine GL.o rfl (S1.asB rfl) ?_
  refine GL.dn rfl ?_
  refine GW.sr rfl rfl ?_
  refine GL.o rfl (S1.mvP rfl) ?_
  refine GL.o rfl (S1.nc rfl) ?_
  refine GL.o rfl (S1.fa fa77_0 rfl) ?_
  refine GL.o rfl (S1.fa fa27_0 rfl) ?_
  refine GL.o rfl (S1.ld sc22 rfl (.old0 hb) rfl) ?_
  refine GL.o rfl (S1.mvI rfl) ?_
  refine GL.o rfl (S1.ixR el22 h1 rfl rfl (by omega)) ?_
  refine GL.o rfl (S1.fa fa71_0 rfl) ?_
  refine GL.o rfl (S1.ldCI sc3 (z := 3) h1 rfl (m := q) (by omega) rfl (d := 0) rfl rfl) ?_
  refine GL.o rfl (S1.asI rfl) ?_
  refine GL.dn rfl ?_
  refine GW.sr rfl rfl ?_
  refine GL.o rfl (S1.mvI rfl) ?_
  refine GL.o rfl (S1.fa fa84_2 rfl) ?_
  refine GL.o rfl (S1.ixPI (n := 4) (by kernel_rfl) rfl rfl (by omega)) ?_
  refine GL.o rfl (S1.ldI sc3 rfl (.at (.s .z)) (by omega)) ?_
  refine GL.o rfl (S1.sub rfl rfl) ?_
  refine GL.o rfl (S1.fa fa84_2 rfl) ?_
  refine GL.o rfl (S1.ixPI (n := 4) (by kernel_rfl) rfl rfl (by omega)) ?_
  refine GL.o rfl (S1.stI sc3 rfl rfl (by omega) (.s .z)) ?_
  refine GL.dn rfl ?_
  refine GW.toSeq rfl ?_
  refine GW.toDrwW [a1] mx rfl (fun _ H => InL.go (.c (.s .z) .n) H) ?_
  refine GE.one rfl .no (S1.mvI rfl) rfl (.f (by kernel_rfl)) ?_
  refine GE.one rfl .no (S1.inc rfl rfl (by omega)) rfl (.f (by kernel_rfl)) ?_
  refine GE.one rfl .no (S1.fa fa84_1 rfl) rfl (.f (by kernel_rfl)) ?_
  refine GE.one rfl .no (S1.ldI sc3 rfl (.at (.s .z)) (by simp only [List.length_set]; omega)) rfl (.f (by kernel_rfl)) ?_
  refine GE.one rfl .no (S1.mvP rfl) rfl (.f (by kernel_rfl)) ?_
  refine GE.one rfl .no (S1.nc rfl) rfl (.f (by kernel_rfl)) ?_
  refine GE.one rfl .no (S1.fa fa77_1 rfl) rfl (.f (by kernel_rfl)) ?_
  refine GE.one rfl .no (S1.ld sc23 rfl (.old0 hb) rfl) rfl (.b rfl (fun _ H => NoW.go (by repeat first | exact .n | apply NoW.c (.c (.s .z) .n) | apply NoW.old hb (.s .z) (by simp)) H)) ?_
  refine GE.one rfl .no (S1.mvI rfl) rfl (.f (by kernel_rfl)) ?_
  refine GE.one rfl .no (S1.ixN el23 rfl rfl (by omega)) rfl (.f (by kernel_rfl)) ?_
  refine GE.one rfl .no (S1.ldI sc3 rfl (.old0 hw) (by omega)) rfl (.b rfl (fun _ H => NoW.go (by repeat first | exact .n | apply NoW.c (.c (.s .z) .n) | apply NoW.old hw (.s .z) (by simp)) H)) ?_
  refine GE.one rfl .no (S1.add rfl rfl) rfl (.f (by kernel_rfl)) ?_
  refine GE.one rfl .no (S1.fa fa84_0 rfl) rfl (.f (by kernel_rfl)) ?_
  refine GE.loud rfl .no (S1.stI sc3 rfl rfl (by simp only [List.length_set]; omega) (.s .z)) rfl rfl (by first | exact .w rfl (by simp) | exact .n rfl) ?_
  refine GE.one rfl .no (S1.fa fa84_1 rfl) rfl (.f (by kernel_rfl)) ?_
  refine GE.loud rfl .no (S1.stI sc3 rfl rfl (by simp only [List.length_set]; omega) (.s .z)) rfl rfl (.f (by kernel_rfl)) ?_
  refine GE.done rfl ?_
  refine GQ.on ?_
  refine GW.toSeq rfl ?_
  refine GW.toDrwW [a2] mx rfl (fun _ H => InL.go (.c .z .n) H) ?_
  refine GE.one rfl .no (S1.ldW ag84 rfl (.at (.s .z)) (by simp only [ints_len, List.length_set]; first | omega | assumption)) rfl (.f (by kernel_rfl)) ?_
  refine GE.one rfl .no (S1.mvI rfl) rfl (.f (by kernel_rfl)) ?_
  refine GE.one rfl .no (S1.fa fa84_2 rfl) rfl (.f (by kernel_rfl)) ?_
  refine GE.one rfl .no (S1.ixPI (n := 4) (by kernel_rfl) rfl rfl (by omega)) rfl (.f (by kernel_rfl)) ?_
  refine GE.one rfl .no (S1.ldI sc3 rfl (.at (.s .z)) (by simp only [List.length_set]; omega)) rfl (.b rfl (fun _ H => NoW.go (by repeat first | exact .n | apply NoW.c (.r .z)) H)) ?_
  refine GE.one rfl .no (S1.geq rfl rfl) rfl (.f (by kernel_rfl)) ?_
  refine GE.loud rfl .no (S1.stW ag84 rfl rfl (by first | assumption | (simp only [List.length_set]; first | omega | assumption)) (by first | rfl | (simp only [ints_len, List.length_set]; first | omega | assumption)) .z) rfl rfl (by first | exact .w rfl (by simp) | exact .n rfl) ?_
  refine GE.one rfl .no (S1.asB rfl) rfl (.f (by kernel_rfl)) ?_
  refine GE.done rfl ?_
  refine GQ.on ?_
  refine GW.toRet rfl ?_
  refine GQ.ret () (.cell rfl rfl .z (loadV_W ag84 (ints_len.trans ((tkL_len (pt := ptQ hr qa) (w := wtQ ws) (l := l) (q := q)).trans hl))) (.tmp rfl rfl .nil)) .more rfl trivial .nil
end
end Go.Proofs.Ytenkebdjlajanaa
namespace Go.Proofs.Ytenkebdjlajanaa
open Go Go.E
set_option maxRecDepth 100000
set_option maxHeartbeats 4000000

theorem mf75 : MF Try.prog 75 6 (.int .i64 0) := MF.of (kt := 84) (el := 3) (w := 1) (by kernel_rfl) (by kernel_rfl) (by kernel_rfl) (by kernel_rfl)
theorem fl82 : FLT Try.prog 82 4 := FLT.of (by kernel_rfl) (by kernel_rfl) (by kernel_rfl)

def V75 (Q : Nat) (pt w : Nat → Int) (lo hi : Int) : List Int → Value → Prop := fun l v => ∀ fr : Nat, fr ≤ Q → l.getD 0 0 = (fr : Int) → v = .int .i64 (gC Q pt w lo hi (Q - fr) l : Int)

theorem lk75 {Q : Nat} {pt w : Nat → Int} {lo hi : Int} {l : List Int} {v : Value} {is : Bool} {fr : Nat} (hf : fr ≤ Q) (h0 : l.getD 0 0 = (fr : Int)) (h : if is = true then V75 Q pt w lo hi l v else v = .int .i64 0) : ∃ n : Int, v = .int .i64 n ∧ (is = true → n = (gC Q pt w lo hi (Q - fr) l : Int)) := by
  cases is with
  | true => exact ⟨_, h fr hf h0, fun _ => rfl⟩
  | false => exact ⟨0, h, fun e => by cases e⟩

theorem gC_out {Q d : Nat} {pt w : Nat → Int} {lo hi : Int} {l : List Int} (hn : nil4 l) (ho : outB lo hi (l.getD 1 0) = true) : gC Q pt w lo hi d l = 0 := by
  rw [gC_z hn, inRg, if_neg]
  intro e
  rw [outB_in e] at ho
  cases ho
theorem gC_inn {Q d : Nat} {pt w : Nat → Int} {lo hi : Int} {l : List Int} (hn : nil4 l) (ho : outB lo hi (l.getD 1 0) = false) : gC Q pt w lo hi d l = 1 := by
  rw [gC_z hn, inRg, if_pos (outB_f ho)]

section
variable {hr : RO} {qa wa : Option Addr} {qn qc wn wc bb wr mb : Nat} {lo hi : Int} {ws : List Int}

abbrev K42 (qa : Option Addr) (qn qc : Nat) (wa : Option Addr) (wn wc : Nat) (lo hi : Int) (bb wr mb : Nat) (ws : List Int) : Ents :=
  [(bb, .cells (BaC qa qn qc wa wn wc lo hi (rowS wr qn) mb) none true), (wr, opRow (ints ws) 1)]

abbrev gQ (hr : RO) (qa : Option Addr) (qn : Nat) (ws : List Int) (lo hi : Int) : Nat → List Int → Nat := gC qn (ptQ hr qa) (wtQ ws) lo hi


theorem BkOk.mkH {h h0 : EH} {F : List Nat} {L : Ents} (S : PaOk hr qa qn wn ∧ Cell hr (.sl ly71) (.slice qa qn qc) ∧ Cell hr (.sl ly3) (.slice wa wn wc) ∧ ws.length = qn) (H : Hp hr h0 F L h)
    (a : At L bb (.cells (BaC qa qn qc wa wn wc lo hi (rowS wr qn) mb) none true)) (b : At L wr (opRow (ints ws) 1)) : BkOk hr h qa qn qc wa wn wc lo hi bb wr mb ws :=
  ⟨S.1, S.2.1, S.2.2.1, S.2.2.2, H.rom, H.get a, H.get b⟩

theorem ct42 (S : PaOk hr qa qn wn ∧ Cell hr (.sl ly71) (.slice qa qn qc) ∧ Cell hr (.sl ly3) (.slice wa wn wc) ∧ ws.length = qn) : ∀ (m fr : Nat) (l : List Int) (es : List MapEntry) (cl : Nat) (h : EH),
    Hp hr h (((mb, .map es cl) :: K42 qa qn qc wa wn wc lo hi bb wr mb ws : Ents).map (·.1)) ((mb, .map es cl) :: K42 qa qn qc wa wn wc lo hi bb wr mb ws) h →
    l.length = 6 → l.getD 0 0 = (fr : Int) → fr ≤ qn → qn - fr < m → IMF 6 (V75 qn (ptQ hr qa) (wtQ ws) lo hi) es →
    Ct Try.prog 42 ⟨[.pointer (some ⟨bb, 0, none⟩), .agg ⟨ints l⟩]⟩ h [mb] (fun _ : List MapEntry × Nat => .int .i64 (gQ hr qa qn ws lo hi (qn - fr) l : Int)) (fun x => IMF 6 (V75 qn (ptQ hr qa) (wtQ ws) lo hi) x.1) (fun x => [(mb, .map x.1 x.2)]) := by
  have hc1 := S.2.1
  have hl1 := hc1.le
  have hq16 := S.1.q16
  intro m
  induction m with
  | zero => intro fr l es cl h H hl h0 hf hm; omega
  | succ m ih =>
    intro fr l es cl h H hl h0 hf hm him
    have htot : gQ hr qa qn ws lo hi (qn - fr) l ≤ 65536 := gC_16 (by omega)
    refine Ct.keep (K := K42 qa qn qc wa wn wc lo hi bb wr mb ws) ?_ (fun p hp => H.at_ p (.tail _ hp))
    refine Ct.go Try.func42 rfl rfl co42 H ?_
    have r0 : nil4 l → outB lo hi (l.getD (0 + 1) 0) = true → Value.int .i64 0 = .int .i64 (gQ hr qa qn ws lo hi (qn - fr) l : Int) := fun a b => by rw [show gQ hr qa qn ws lo hi (qn - fr) l = 0 from gC_out a b]; rfl
    have r1 : nil4 l → outB lo hi (l.getD (0 + 1) 0) = false → Value.int .i64 1 = .int .i64 (gQ hr qa qn ws lo hi (qn - fr) l : Int) := fun a b => by rw [show gQ hr qa qn ws lo hi (qn - fr) l = 1 from gC_inn a b]; rfl
    refine GW.sr rfl rfl ?_
    refine GL.opN rfl .no (SN.bx (u := .agg ⟨_⟩) rfl .agg) (fun a1 => ?_)
    refine GL.o rfl (S1.asI rfl) ?_
    refine GL.dn rfl ?_
    refine GW.toSeq rfl ?_
    refine GW.sr rfl rfl ?_
    refine GL.o rfl (S1.fa fa84_2 rfl) ?_
    refine GL.o rfl (S1.ldL ag82 rfl (.at .z) (by omega)) ?_
    refine GL.o rfl (S1.bu0 az82 zc82) ?_
    refine GL.o rfl (S1.eqF fl82 (l' := [0, 0, 0, 0]) rfl rfl (by first | rfl | assumption | (simp only [List.length_take, List.length_drop]; omega)) rfl) ?_
    refine GL.dn rfl ?_
    refine GW.toD rfl rfl (fun w2 => ?_) (fun w2 => ?_)
    refine GW.toSeq rfl ?_
    refine GW.toSeq rfl ?_
    refine GW.toDrw mx rfl ?_
    refine GD.o rfl (S1.mvP rfl) rfl ?_
    refine GD.o rfl (S1.nc rfl) rfl ?_
    refine GD.o rfl (S1.fa fa77_0 rfl) rfl ?_
    refine GD.o rfl (S1.fa fa27_2 rfl) rfl ?_
    refine GD.o rfl (S1.fa fa25_0 rfl) rfl ?_
    refine GD.o rfl (S1.ld sc3 rfl (.at (.s (.s .z))) rfl) rfl ?_
    refine GD.o rfl (S1.mvP rfl) rfl ?_
    refine GD.o rfl (S1.nc rfl) rfl ?_
    refine GD.o rfl (S1.fa fa77_0 rfl) rfl ?_
    refine GD.o rfl (S1.fa fa27_2 rfl) rfl ?_
    refine GD.o rfl (S1.fa fa25_1 rfl) rfl ?_
    refine GD.o rfl (S1.ld sc3 rfl (.at (.s (.s .z))) rfl) rfl ?_
    refine GD.o rfl (S1.fa fa84_1 rfl) rfl ?_
    refine GD.o rfl (S1.ldI sc3 rfl (.at .z) (by omega)) rfl ?_
    refine GD.opN rfl .no (SN.bs el23 ez23 (.c (v := (.int _ _)) rfl rfl .n) rfl rfl) rfl (fun a3 => ?_)
    refine GD.call rfl .no fo37 .nil (fun h H => ct37_1 (H.get .z)) (.d (.c (v := (.int _ _)) rfl (.c (v := (.int _ _)) rfl (.c (v := (.slice _ _ _)) rfl .n)))) (fun _ _ => ?_)
    refine GD.done rfl ?_
    refine GQ.on ?_
    refine GW.toC rfl rfl (fun w7 => ?_) (fun w7 => ?_)
    refine GW.sr rfl rfl ?_
    refine GL.o rfl (S1.asI rfl) ?_
    refine GL.dn rfl ?_
    refine GW.toRet rfl ?_
    refine GQ.onR ?_
    refine GQ.onR ?_
    refine GQ.retT (es, cl) (.tmp rfl rfl .nil) .one (r0 (by assumption) (by assumption)) (.cons (.s (.s .z)) (.cons (.s (.s .z)) (.cons (.s (.s .z)) .nil))) him
    refine GW.toSkip rfl ?_
    refine GQ.on ?_
    refine GW.sr rfl rfl ?_
    refine GL.o rfl (S1.asI rfl) ?_
    refine GL.dn rfl ?_
    refine GW.toRet rfl ?_
    refine GQ.onR ?_
    refine GQ.retT (es, cl) (.tmp rfl rfl .nil) .one (r1 (by assumption) (by assumption)) (.cons (.s (.s .z)) (.cons (.s (.s .z)) (.cons (.s (.s .z)) .nil))) him
    refine GW.toSkip rfl ?_
    refine GQ.on ?_
    have hn4 : ¬nil4 l := by assumption
    refine GW.toSeq rfl ?_
    refine GW.toDrw mx rfl ?_
    refine GD.o rfl (S1.mvP rfl) rfl ?_
    refine GD.o rfl (S1.nc rfl) rfl ?_
    refine GD.o rfl (S1.fa fa77_2 rfl) rfl ?_
    refine GD.o rfl (S1.ld sc75 rfl (.at (.s (.s .z))) rfl) rfl ?_
    refine GD.o rfl (S1.ldW ag84 rfl (.at .z) (by simp only [ints_len, List.length_set]; first | omega | assumption)) rfl ?_
    refine GD.opX rfl .no (SX.lkF (l := l) mf75 rfl rfl (.at (.s .z)) him hl) rfl (fun v21 r21 => ?_)
    obtain ⟨v, is⟩ := v21
    obtain ⟨nn, e, hnn⟩ := lk75 hf h0 r21
    dsimp only at e hnn
    subst e
    refine GD.o rfl (S1.mvT rfl) rfl ?_
    refine GD.o rfl (S1.ext (v := (.int _ _)) rfl rfl) rfl ?_
    refine GD.o rfl (S1.ext (v := (.bool _)) rfl rfl) rfl ?_
    refine GD.o rfl (S1.asI rfl) rfl ?_
    refine GD.o rfl (S1.asB rfl) rfl ?_
    refine GD.done rfl ?_
    refine GQ.on ?_
    refine GW.toSeq rfl ?_
    refine GW.sr rfl rfl ?_
    refine GL.o rfl (S1.mvB rfl) ?_
    refine GL.dn rfl ?_
    refine GW.toC rfl rfl (fun w9 => ?_) (fun w9 => ?_)
    refine GW.sr rfl rfl ?_
    refine GL.o rfl (S1.mvI rfl) ?_
    refine GL.o rfl (S1.asI rfl) ?_
    refine GL.dn rfl ?_
    refine GW.toRet rfl ?_
    refine GQ.onR ?_
    refine GQ.retT (es, cl) (.tmp rfl rfl .nil) .one (congrArg (Value.int .i64) (hnn (by assumption))) (.cons (.s .z) (.cons (.s .z) (.cons (.s .z) .nil))) him
    refine GW.toSkip rfl ?_
    refine GQ.on ?_
    refine GW.sr rfl rfl ?_
    refine GL.o rfl (S1.asI rfl) ?_
    refine GL.dn rfl ?_
    refine GW.toSeq rfl ?_
    refine GW.sr rfl rfl ?_
    refine GL.o rfl (S1.fa fa84_0 rfl) ?_
    refine GL.o rfl (S1.ldI sc3 rfl (.at .z) (by omega)) ?_
    refine GL.o rfl (S1.asI rfl) ?_
    refine GL.dn rfl ?_
    refine GW.toBlock rfl ?_
    refine GW.toLoop (X := Nat × Int × List MapEntry × Nat) (fun x => [(0, .pointer (some ⟨bb, 0, none⟩)), (3, .pointer (some ⟨a1, 0, none⟩)), (4, .int .i64 x.2.1), (6, .int .i64 x.1)]) (fun x => (a1, .cells (ints l) none true) :: (mb, .map x.2.2.1 x.2.2.2) :: K42 qa qn qc wa wn wc lo hi bb wr mb ws) (fun x => fr ≤ x.1 ∧ x.1 ≤ qn ∧ 0 ≤ x.2.1 ∧ x.2.1 + (gQ hr qa qn ws lo hi (qn - x.1) l : Int) = (gQ hr qa qn ws lo hi (qn - fr) l : Int) ∧ IMF 6 (V75 qn (ptQ hr qa) (wtQ ws) lo hi) x.2.2.1) (fun x => qn - x.1) rfl (fr, 0, es, cl) ⟨Nat.le_refl _, hf, Int.le_refl _, Int.zero_add _, him⟩ (.c rfl (.c rfl (.c rfl (.c (congrArg (Value.int .i64) h0) .n)))) .tz ?_
    rintro ⟨k, acc, es, cl⟩ f ⟨hk1, hk2, ha0, hacc, him⟩
    dsimp only at hk1 hk2 ha0 hacc him ⊢
    have hgp : k < qn → 0 ≤ (tkL (ptQ hr qa) (wtQ ws) l k).getD (2 + (ptQ hr qa k).toNat) 0 → gQ hr qa qn ws lo hi (qn - k) l = gQ hr qa qn ws lo hi (qn - (k + 1)) (tkL (ptQ hr qa) (wtQ ws) l k) + gQ hr qa qn ws lo hi (qn - (k + 1)) l := fun a b => by rw [gQ, gC_s hn4 a, if_pos b]
    have hgn : k < qn → ¬0 ≤ (tkL (ptQ hr qa) (wtQ ws) l k).getD (2 + (ptQ hr qa k).toNat) 0 → gQ hr qa qn ws lo hi (qn - k) l = gQ hr qa qn ws lo hi (qn - (k + 1)) l := fun a b => by rw [gQ, gC_s hn4 a, if_neg b, Nat.zero_add]
    have ht6 : (tkL (ptQ hr qa) (wtQ ws) l k).length = 6 := tkL_len.trans hl
    have hgz : k = qn → gQ hr qa qn ws lo hi (qn - k) l = 0 := fun a => by rw [a, Nat.sub_self]; exact gC_0 hn4
    refine GW.toSeq rfl ?_
    refine GW.sr rfl rfl ?_
    refine GL.o rfl (S1.mvI rfl) ?_
    refine GL.o rfl (S1.mvP rfl) ?_
    refine GL.o rfl (S1.nc rfl) ?_
    refine GL.o rfl (S1.fa fa77_0 rfl) ?_
    refine GL.o rfl (S1.fa fa27_0 rfl) ?_
    refine GL.o rfl (S1.ld sc22 rfl (.at (.s (.s .z))) rfl) ?_
    refine GL.o rfl (S1.len el22 rfl) ?_
    refine GL.o rfl (S1.lss rfl rfl) ?_
    refine GL.dn rfl ?_
    refine GW.toD rfl rfl (fun w10 => ?_) (fun w10 => ?_)
    refine GW.toSkip rfl ?_
    refine GQ.on ?_
    refine GW.toSeq rfl ?_
    refine GW.toBlock rfl ?_
    refine GW.sr rfl rfl ?_
    refine GL.o rfl (S1.mvP rfl) ?_
    refine GL.o rfl (S1.ldW ag84 rfl (.at .z) (by simp only [ints_len, List.length_set]; first | omega | assumption)) ?_
    refine GL.o rfl (S1.mvI rfl) ?_
    refine GL.call rfl .no fo51 .nil (fun h H => ct51 (BkOk.mkH S H (.s (.s .z)) (.s (.s (.s .z)))) hl (by omega)) (.d (.c (v := (.pointer _)) rfl (.c (v := (.agg _)) rfl (.c (v := (.int _ _)) rfl .n)))) (fun _ _ => ?_)
    refine GL.o rfl (S1.mvT rfl) ?_
    refine GL.o rfl (S1.ext (v := (.agg _)) rfl rfl) ?_
    refine GL.o rfl (S1.ext (v := (.bool _)) rfl rfl) ?_
    refine GL.opN rfl .no (SN.al zc84) (fun a12 => ?_)
    refine GL.o rfl (S1.stW ag84 rfl rfl (by first | assumption | (simp only [List.length_set]; first | omega | assumption)) (by first | rfl | (simp only [ints_len, List.length_set]; first | omega | assumption)) .z) ?_
    refine GL.o rfl (S1.asB rfl) ?_
    refine GL.dn rfl ?_
    refine GW.sr rfl rfl ?_
    refine GL.o rfl (S1.mvB rfl) ?_
    refine GL.dn rfl ?_
    refine GW.toD rfl rfl (fun w13 => ?_) (fun w13 => ?_)
    refine GW.toReg rfl ?_
    refine GL.o rfl (S1.mvI rfl) ?_
    refine GL.o rfl (S1.mvP rfl) ?_
    refine GL.o rfl (S1.ldW ag84 rfl (.at .z) (by simp only [ints_len, List.length_set]; first | omega | assumption)) ?_
    refine GL.call rfl .no fo42 (show Take _ [(mb, _)] _ from (.cons (.s (.s .z)) .nil)) (fun h H => ih (k + 1) _ _ _ _ (H.give (ps := (mb, .map _ _) :: K42 qa qn qc wa wn wc lo hi bb wr mb ws) (.cons (.s (.s .z)) (.cons (.s (.s .z)) (.cons (.s (.s .z)) .nil)))) (tkL_len.trans hl) (tkL_0 hl) (by omega) (by omega) (by assumption)) (.d (.c (v := (.pointer _)) rfl (.c (v := (.agg _)) rfl .n))) (fun x14 him14 => ?_)
    refine GL.o rfl (S1.addI rfl rfl (by omega) (by omega)) ?_
    refine GL.o rfl (S1.asI rfl) ?_
    refine GL.done rfl ?_
    refine GQ.outN ?_
    refine GQ.on ?_
    refine GW.toReg rfl ?_
    refine GL.o rfl (S1.mvI rfl) ?_
    refine GL.o rfl (S1.inc rfl rfl (by omega)) ?_
    refine GL.o rfl (S1.asI rfl) ?_
    refine GL.done rfl ?_
    refine GQ.nextT (k + 1, acc + (gQ hr qa qn ws lo hi (qn - (k + 1)) (tkL (ptQ hr qa) (wtQ ws) l k) : Int), x14.1, x14.2) (.c rfl (.c rfl (.c rfl (.c rfl .n)))) (.cons (.s (.s .z)) (.cons .z (.cons (.s .z) (.cons (.s .z) .nil)))) ⟨(by first | omega | (dsimp only; omega)), (by first | omega | (dsimp only; omega)), (by first | omega | (dsimp only; omega)), (by first | omega | (dsimp only; omega)), him14⟩ (by first | omega | (dsimp only; omega))
    refine GW.toSkip rfl ?_
    refine GQ.outN ?_
    refine GQ.on ?_
    refine GW.toReg rfl ?_
    refine GL.o rfl (S1.mvI rfl) ?_
    refine GL.o rfl (S1.inc rfl rfl (by omega)) ?_
    refine GL.o rfl (S1.asI rfl) ?_
    refine GL.done rfl ?_
    refine GQ.nextT (k + 1, acc, es, cl) (.c rfl (.c rfl (.c rfl (.c rfl .n)))) (.cons (.s .z) (.cons (.s .z) (.cons (.s .z) (.cons (.s .z) .nil)))) ⟨(by first | omega | (dsimp only; omega)), (by first | omega | (dsimp only; omega)), (by first | omega | (dsimp only; omega)), (by first | omega | (dsimp only; omega)), him⟩ (by first | omega | (dsimp only; omega))
    refine GW.toExit rfl ?_
    refine GQ.onE ?_
    refine GQ.onE ?_
    refine GQ.outH ?_
    refine GQ.on ?_
    refine GW.toSeq rfl ?_
    refine GW.toDrw mx rfl ?_
    refine GD.o rfl (S1.mvP rfl) rfl ?_
    refine GD.o rfl (S1.nc rfl) rfl ?_
    refine GD.o rfl (S1.fa fa77_2 rfl) rfl ?_
    refine GD.o rfl (S1.ld sc75 rfl (.at (.s (.s .z))) rfl) rfl ?_
    refine GD.o rfl (S1.ldW ag84 rfl (.at .z) (by simp only [ints_len, List.length_set]; first | omega | assumption)) rfl ?_
    refine GD.o rfl (S1.mvI rfl) rfl ?_
    have hv : V75 qn (ptQ hr qa) (wtQ ws) lo hi l (.int .i64 acc) := fun fr' _ e => by
      have e1 : fr' = fr := by omega
      have e2 : acc = (gQ hr qa qn ws lo hi (qn - fr) l : Int) := by omega
      subst e1
      rw [e2]
    refine GD.muF (l := l) rfl .no mf75 rfl rfl rfl (by kernel_rfl) (.s .z) him hl hv (fun es' cl' im' => ?_)
    refine GD.done rfl ?_
    refine GQ.on ?_
    refine GW.sr rfl rfl ?_
    refine GL.o rfl (S1.mvI rfl) ?_
    refine GL.o rfl (S1.asI rfl) ?_
    refine GL.dn rfl ?_
    refine GW.toRet rfl ?_
    refine GQ.retT (es', cl') (.tmp rfl rfl .nil) .one (congrArg (Value.int .i64) (by omega)) (.cons .z (.cons (.s .z) (.cons (.s .z) .nil))) im'
end
end Go.Proofs.Ytenkebdjlajanaa
namespace Go.Proofs.Ytenkebdjlajanaa
open Go Go.E
set_option maxRecDepth 100000
set_option maxHeartbeats 4000000

theorem GW.know {P : Program} {N : Nat} {ro : Option Nat} {c : Code} {f : Nat → Value} {ds : List Deferred} {rc : Option (Value × Bool)} {C : EH → Prop} {Q : Ex → St → Prop} {p : Prop} (k : ∀ h, C h → p) (g : p → GW P N ro c f ds rc C Q) : GW P N ro c f ds rc C Q := fun hk h hC => g (k h hC) hk h hC

theorem nin2 {b c r : Nat} (h1 : b ≠ c) (h2 : b ≠ r) : b ∉ [c, r] := by simp [h1, h2]

section
variable {hr : RO} {qa wa : Option Addr} {qn qc wn wc bb wr mb : Nat} {lo hi : Int} {ws : List Int}

structure Nt where
  c : Nat
  fr : Nat
  n : Int
  l : List Int
  v : Value
  E : Ents
  m : Nat
  r : List Int
  es : List MapEntry
  cl : Nat

abbrev KB (qa : Option Addr) (qn qc : Nat) (wa : Option Addr) (wn wc : Nat) (lo hi : Int) (wr mb : Nat) : EObj := .cells (BaC qa qn qc wa wn wc lo hi (rowS wr qn) mb) none true


theorem ct44 (S : PaOk hr qa qn wn ∧ Cell hr (.sl ly71) (.slice qa qn qc) ∧ Cell hr (.sl ly3) (.slice wa wn wc) ∧ ws.length = qn) {num : Int} {es : List MapEntry} {cl : Nat} {h : EH}
    (H : Hp hr h (((mb, .map es cl) :: K42 qa qn qc wa wn wc lo hi bb wr mb ws : Ents).map (·.1)) ((mb, .map es cl) :: K42 qa qn qc wa wn wc lo hi bb wr mb ws) h)
    (him : IMF 6 (V75 qn (ptQ hr qa) (wtQ ws) lo hi) es) (hn0 : 0 ≤ num) (hn1 : num < (gQ hr qa qn ws lo hi qn (bgL hr wa wn) : Int)) :
    Ct Try.prog 44 ⟨[.pointer (some ⟨bb, 0, none⟩), .int .i64 num]⟩ h [mb] (fun x : Gr × List MapEntry × Nat => x.1.v) (fun x => NR 1 x.1.v x.1.E x.1.m x.1.l ∧ x.1.m ≤ 16 ∧ IMF 6 (V75 qn (ptQ hr qa) (wtQ ws) lo hi) x.2.1) (fun x => (mb, .map x.2.1 x.2.2) :: x.1.E) := by
  have hc1 := S.2.1
  have hl1 := hc1.le
  have hq16 := S.1.q16
  refine Ct.keep (K := K42 qa qn qc wa wn wc lo hi bb wr mb ws) ?_ (fun p hp => H.at_ p (.tail _ hp))
  have hb6 := bgL_len (hr := hr) (wa := wa) (wn := wn)
  refine Ct.go Try.func44 rfl rfl co44 H ?_
  refine GW.sr rfl rfl ?_
  refine GL.o rfl (S1.asL rfl) ?_
  refine GL.dn rfl ?_
  refine GW.toSeq rfl ?_
  refine GW.sr rfl rfl ?_
  refine GL.o rfl (S1.mvP rfl) ?_
  refine GL.call rfl .no fo43 .nil (fun h H => ct43 (BkOk.mkH S H (.s .z) (.s (.s .z)))) (.d (.c (v := (.pointer _)) rfl .n)) (fun _ _ => ?_)
  refine GL.opN rfl .no (SN.al zc84) (fun a2 => ?_)
  refine GL.o rfl (S1.stW ag84 rfl rfl (by first | assumption | (simp only [List.length_set]; first | omega | assumption)) (by first | rfl | (simp only [ints_len, List.length_set]; first | omega | assumption)) .z) ?_
  refine GL.dn rfl ?_
  refine GW.toBlock rfl ?_
  refine GW.toLoop (X := Nt) (fun x => [(0, .pointer (some ⟨bb, 0, none⟩)), (1, .int .i64 x.n), (4, x.v), (5, .pointer (some ⟨x.c, 0, none⟩))]) (fun x => (x.c, .cells (ints x.l) none true) :: (mb, .map x.es x.cl) :: (bb, KB qa qn qc wa wn wc lo hi wr mb) :: (wr, opRow (ints ws) 1) :: x.E) (fun x => x.l.length = 6 ∧ x.l.getD 0 0 = (x.fr : Int) ∧ x.fr ≤ qn ∧ 0 ≤ x.n ∧ x.n < (gQ hr qa qn ws lo hi (qn - x.fr) x.l : Int) ∧ NR 1 x.v x.E x.m x.r ∧ x.m ≤ x.fr ∧ IMF 6 (V75 qn (ptQ hr qa) (wtQ ws) lo hi) x.es) (fun x => qn - x.fr) rfl ⟨a2, 0, num, bgL hr wa wn, nilS, [], 0, [], es, cl⟩ ⟨bgL_len, bgL_0, Nat.zero_le _, hn0, hn1, .nil, Nat.le_refl _, him⟩ (.c rfl (.c rfl (.c rfl (.c rfl .n)))) (.cons .z (.cons .z .tz)) ?_
  rintro ⟨c, fr, num, l, v, E, m, r, es, cl⟩ f ⟨hl, h0, hf, hn0, hn1, nr, hm, him⟩
  dsimp only at hl h0 hf hn0 hn1 nr hm him ⊢
  refine GW.toSeq rfl ?_
  refine GW.sr rfl rfl ?_
  refine GL.o rfl (S1.fa fa84_2 rfl) ?_
  refine GL.o rfl (S1.ldL ag82 rfl (.at .z) (by omega)) ?_
  refine GL.o rfl (S1.bu0 az82 zc82) ?_
  refine GL.o rfl (S1.neF fl82 (l' := [0, 0, 0, 0]) rfl rfl (by first | rfl | assumption | (simp only [List.length_take, List.length_drop]; omega)) rfl) ?_
  refine GL.dn rfl ?_
  refine GW.toD rfl rfl (fun w3 => ?_) (fun w3 => ?_)
  refine GW.toSkip rfl ?_
  refine GQ.on ?_
  refine GW.toSeq rfl ?_
  refine GW.toBlock rfl ?_
  refine GW.sr rfl rfl ?_
  refine GL.o rfl (S1.fa fa84_0 rfl) ?_
  refine GL.o rfl (S1.ldI sc3 rfl (.at .z) (by omega)) ?_
  refine GL.o rfl (S1.asI rfl) ?_
  refine GL.dn rfl ?_
  refine GW.toBlock rfl ?_
  rotate_left
  refine GW.toExit rfl ?_
  refine GQ.onE ?_
  refine GQ.onE ?_
  refine GQ.outH ?_
  refine GQ.on ?_
  refine GW.sr rfl rfl ?_
  refine GL.o rfl (S1.mv (v := (v)) rfl) ?_
  refine GL.o rfl (S1.as (v := (v)) rfl) ?_
  refine GL.dn rfl ?_
  refine GW.toRet rfl ?_
  refine GQ.retT (⟨v, E, m, r⟩, es, cl) (.tmp rfl rfl .nil) .one rfl (.cons (.s .z) (.app (.ts (.ts (.ts .tz))) (.cons (.s .z) (.cons (.s .z) .nil)))) ⟨nr, (by first | omega | (dsimp only; omega)), him⟩
  have hn4 : ¬nil4 l := by assumption
  refine GW.toLoop (X := Nat × Int × List MapEntry × Nat) (fun x => [(0, .pointer (some ⟨bb, 0, none⟩)), (1, .int .i64 x.2.1), (4, v), (5, .pointer (some ⟨c, 0, none⟩)), (6, .int .i64 x.1)]) (fun x => (c, .cells (ints l) none true) :: (mb, .map x.2.2.1 x.2.2.2) :: (bb, KB qa qn qc wa wn wc lo hi wr mb) :: (wr, opRow (ints ws) 1) :: E) (fun x => fr ≤ x.1 ∧ x.1 ≤ qn ∧ 0 ≤ x.2.1 ∧ x.2.1 < (gQ hr qa qn ws lo hi (qn - x.1) l : Int) ∧ IMF 6 (V75 qn (ptQ hr qa) (wtQ ws) lo hi) x.2.2.1) (fun x => qn - x.1) rfl (fr, num, es, cl) ⟨Nat.le_refl _, hf, hn0, hn1, him⟩ (.c rfl (.c rfl (.c rfl (.c rfl (.c (congrArg (Value.int .i64) h0) .n))))) .tz ?_
  clear him hn0 hn1 es cl num
  rintro ⟨k, num, es, cl⟩ f ⟨hk1, hk2, hn0, hn1, him⟩
  dsimp only at hk1 hk2 hn0 hn1 him ⊢
  have hb16 : gQ hr qa qn ws lo hi (qn - k) l ≤ 65536 := gC_16 (by omega)
  have hgp : k < qn → 0 ≤ (tkL (ptQ hr qa) (wtQ ws) l k).getD (2 + (ptQ hr qa k).toNat) 0 → gQ hr qa qn ws lo hi (qn - k) l = gQ hr qa qn ws lo hi (qn - (k + 1)) (tkL (ptQ hr qa) (wtQ ws) l k) + gQ hr qa qn ws lo hi (qn - (k + 1)) l := fun a b => by rw [gQ, gC_s hn4 a, if_pos b]
  have hgn : k < qn → ¬0 ≤ (tkL (ptQ hr qa) (wtQ ws) l k).getD (2 + (ptQ hr qa k).toNat) 0 → gQ hr qa qn ws lo hi (qn - k) l = gQ hr qa qn ws lo hi (qn - (k + 1)) l := fun a b => by rw [gQ, gC_s hn4 a, if_neg b, Nat.zero_add]
  have ht6 : (tkL (ptQ hr qa) (wtQ ws) l k).length = 6 := tkL_len.trans hl
  have hgz : k = qn → gQ hr qa qn ws lo hi (qn - k) l = 0 := fun a => by rw [a, Nat.sub_self]; exact gC_0 hn4
  cases nr with
  | nil =>
    have nr : NR 1 nilS [] 0 [] := .nil
    refine GW.toSeq rfl ?_
    refine GW.sr rfl rfl ?_
    refine GL.o rfl (S1.mvI rfl) ?_
    refine GL.o rfl (S1.mvP rfl) ?_
    refine GL.o rfl (S1.nc rfl) ?_
    refine GL.o rfl (S1.fa fa77_0 rfl) ?_
    refine GL.o rfl (S1.fa fa27_0 rfl) ?_
    refine GL.o rfl (S1.ld sc22 rfl (.at (.s (.s .z))) rfl) ?_
    refine GL.o rfl (S1.len el22 rfl) ?_
    refine GL.o rfl (S1.lss rfl rfl) ?_
    refine GL.dn rfl ?_
    refine GW.toD rfl rfl (fun w4 => ?_) (fun w4 => ?_)
    refine GW.toSkip rfl ?_
    refine GQ.on ?_
    refine GW.toSeq rfl ?_
    refine GW.toBlock rfl ?_
    refine GW.sr rfl rfl ?_
    refine GL.o rfl (S1.mvP rfl) ?_
    refine GL.o rfl (S1.ldW ag84 rfl (.at .z) (by simp only [ints_len, List.length_set]; first | omega | assumption)) ?_
    refine GL.o rfl (S1.mvI rfl) ?_
    refine GL.call rfl .no fo51 .nil (fun h H => ct51 (BkOk.mkH S H (.s (.s .z)) (.s (.s (.s .z)))) hl (by omega)) (.d (.c (v := (.pointer _)) rfl (.c (v := (.agg _)) rfl (.c (v := (.int _ _)) rfl .n)))) (fun _ _ => ?_)
    refine GL.o rfl (S1.mvT rfl) ?_
    refine GL.o rfl (S1.ext (v := (.agg _)) rfl rfl) ?_
    refine GL.o rfl (S1.ext (v := (.bool _)) rfl rfl) ?_
    refine GL.opN rfl .no (SN.al zc84) (fun a6 => ?_)
    refine GL.o rfl (S1.stW ag84 rfl rfl (by first | assumption | (simp only [List.length_set]; first | omega | assumption)) (by first | rfl | (simp only [ints_len, List.length_set]; first | omega | assumption)) .z) ?_
    refine GL.o rfl (S1.asB rfl) ?_
    refine GL.dn rfl ?_
    refine GW.toSeq rfl ?_
    refine GW.sr rfl rfl ?_
    refine GL.o rfl (S1.mvB rfl) ?_
    refine GL.o rfl (S1.notD rfl) ?_
    refine GL.dn rfl ?_
    refine GW.toD rfl rfl (fun w7 => ?_) (fun w7 => ?_)
    refine GW.toExit rfl ?_
    refine GQ.onE ?_
    refine GQ.outH ?_
    refine GQ.on ?_
    refine GW.toReg rfl ?_
    refine GL.o rfl (S1.mvI rfl) ?_
    refine GL.o rfl (S1.inc rfl rfl (by omega)) ?_
    refine GL.o rfl (S1.asI rfl) ?_
    refine GL.done rfl ?_
    refine GQ.nextT (k + 1, num, es, cl) (.c rfl (.c rfl (.c rfl (.c rfl (.c rfl .n))))) (.cons (.s .z) (.cons (.s .z) (.cons (.s .z) (.cons (.s .z) .nil)))) ⟨(by first | omega | (dsimp only; omega)), (by first | omega | (dsimp only; omega)), (by first | omega | (dsimp only; omega)), (by first | omega | (dsimp only; omega)), him⟩ (by first | omega | (dsimp only; omega))
    refine GW.toSkip rfl ?_
    refine GQ.on ?_
    refine GW.sr rfl rfl ?_
    refine GL.o rfl (S1.mvP rfl) ?_
    refine GL.o rfl (S1.ldW ag84 rfl (.at .z) (by simp only [ints_len, List.length_set]; first | omega | assumption)) ?_
    refine GL.call rfl .no fo42 (show Take _ [(mb, _)] _ from (.cons (.s (.s .z)) .nil)) (fun h H => ct42 S (qn + 1) (k + 1) _ _ _ _ (H.give (ps := (mb, .map _ _) :: K42 qa qn qc wa wn wc lo hi bb wr mb ws) (.cons (.s (.s .z)) (.cons (.s (.s .z)) (.cons (.s (.s .z)) .nil)))) (tkL_len.trans hl) (tkL_0 hl) (by omega) (by omega) (by assumption)) (.d (.c (v := (.pointer _)) rfl (.c (v := (.agg _)) rfl .n))) (fun x8 him8 => ?_)
    refine GL.o rfl (S1.asI rfl) ?_
    refine GL.dn rfl ?_
    refine GW.toSeq rfl ?_
    refine GW.sr rfl rfl ?_
    refine GL.o rfl (S1.mvI rfl) ?_
    refine GL.o rfl (S1.mvI rfl) ?_
    refine GL.o rfl (S1.lss rfl rfl) ?_
    refine GL.dn rfl ?_
    refine GW.toD rfl rfl (fun w9 => ?_) (fun w9 => ?_)
    refine GW.toSeq rfl ?_
    refine GW.toDrwW [c] mx rfl (fun _ H => InL.go (.c (.s (.s .z)) .n) H) ?_
    refine GE.one rfl .no (S1.mvL rfl) rfl (.f (by kernel_rfl)) ?_
    refine GE.one rfl .no (S1.mvI rfl) rfl (.f (by kernel_rfl)) ?_
    refine GE.opN rfl .no (SN.bs el23 ez23 (.c (v := (.int _ _)) rfl rfl .n) rfl rfl) rfl (.f (by kernel_rfl)) (fun a10 => ?_)
    refine GE.loudN rfl .no (SN.apN (new := [(↑k : Int)]) ap23_23 nr rfl (.row rfl (.at .z) rfl) (by decide) (by omega) .nil) rfl rfl (by first | exact .w rfl (by simp) | exact .n rfl) (fun a13 => ?_)
    refine GE.one rfl .no (S1.ldW ag84 rfl (.at (.s (.s (.s .z)))) (by simp only [ints_len, List.length_set]; first | omega | assumption)) rfl (.b rfl (fun _ H => NoW.go (by repeat first | exact .n | apply NoW.c (.s (.s (.s (.l .z))))) H)) ?_
    refine GE.one rfl .no (S1.asL rfl) rfl (.f (by kernel_rfl)) ?_
    refine GE.loud rfl .no (S1.stW ag84 rfl rfl (by first | assumption | (simp only [List.length_set]; first | omega | assumption)) (by first | rfl | (simp only [ints_len, List.length_set]; first | omega | assumption)) (.s (.s (.s (.s .z))))) rfl rfl (.f (by kernel_rfl)) ?_
    refine GE.done rfl ?_
    refine GQ.on ?_
    refine GW.toExit rfl ?_
    refine GQ.onE ?_
    refine GQ.outM rfl ?_
    refine GQ.onE ?_
    refine GQ.onE ?_
    refine GQ.outH ?_
    refine GQ.outN ?_
    refine GQ.on ?_
    refine GW.sr rfl rfl ?_
    refine GL.o rfl (S1.ldW ag84 rfl (.at (.s (.s (.s (.s .z))))) (by simp only [ints_len, List.length_set]; first | omega | assumption)) ?_
    refine GL.dn rfl ?_
    refine GW.toReg rfl ?_
    refine GL.opN rfl .no (SN.al zc84) (fun a14 => ?_)
    refine GL.o rfl (S1.stW ag84 rfl rfl (by first | assumption | (simp only [List.length_set]; first | omega | assumption)) (by first | rfl | (simp only [ints_len, List.length_set]; first | omega | assumption)) .z) ?_
    refine GL.done rfl ?_
    refine GQ.nextT ⟨a14, k + 1, num, (tkL (ptQ hr qa) (wtQ ws) l k), rowS a13 (0 + 1), [(a13, opRow (ints ([] ++ [(k : Int)])) 1)], 0 + 1, [] ++ [(k : Int)], x8.1, x8.2⟩ (.c rfl (.c rfl (.c rfl (.c rfl .n)))) (.cons .z (.cons (.s (.s .z)) (.cons (.s (.s (.s (.s .z)))) (.cons (.s (.s (.s (.s .z)))) (.cons .z .nil))))) ⟨ht6, tkL_0 hl, (by first | omega | (dsimp only; omega)), (by first | omega | (dsimp only; omega)), (by first | omega | (dsimp only; omega)), nr.app (by decide) rfl, (by first | omega | (dsimp only; omega)), him8⟩ (by first | omega | (dsimp only; omega))
    refine GW.toSkip rfl ?_
    refine GQ.on ?_
    refine GW.toReg rfl ?_
    refine GL.o rfl (S1.mvI rfl) ?_
    refine GL.o rfl (S1.mvI rfl) ?_
    refine GL.o rfl (S1.subI rfl rfl (by omega) (by omega)) ?_
    refine GL.o rfl (S1.asI rfl) ?_
    refine GL.done rfl ?_
    refine GQ.outN ?_
    refine GQ.on ?_
    refine GW.toReg rfl ?_
    refine GL.o rfl (S1.mvI rfl) ?_
    refine GL.o rfl (S1.inc rfl rfl (by omega)) ?_
    refine GL.o rfl (S1.asI rfl) ?_
    refine GL.done rfl ?_
    refine GQ.nextT (k + 1, num - (gQ hr qa qn ws lo hi (qn - (k + 1)) (tkL (ptQ hr qa) (wtQ ws) l k) : Int), x8.1, x8.2) (.c rfl (.c rfl (.c rfl (.c rfl (.c rfl .n))))) (.cons (.s (.s .z)) (.cons .z (.cons (.s .z) (.cons (.s .z) .nil)))) ⟨(by first | omega | (dsimp only; omega)), (by first | omega | (dsimp only; omega)), (by first | omega | (dsimp only; omega)), (by first | omega | (dsimp only; omega)), him8⟩ (by first | omega | (dsimp only; omega))
    refine GW.toExit rfl ?_
    refine GQ.onE ?_
    refine GQ.onE ?_
    refine GQ.outH ?_
    refine GQ.outN ?_
    refine GQ.on ?_
    refine GW.sr rfl rfl ?_
    refine GL.o rfl (S1.ldW ag84 rfl (.at .z) (by simp only [ints_len, List.length_set]; first | omega | assumption)) ?_
    refine GL.dn rfl ?_
    refine GW.toReg rfl ?_
    refine GL.opN rfl .no (SN.al zc84) (fun a15 => ?_)
    refine GL.o rfl (S1.stW ag84 rfl rfl (by first | assumption | (simp only [List.length_set]; first | omega | assumption)) (by first | rfl | (simp only [ints_len, List.length_set]; first | omega | assumption)) .z) ?_
    refine GL.done rfl ?_
    (exfalso; omega)
  | @row r0 m r hm0 hrl =>
    have nr : NR 1 (rowS r0 m) [(r0, opRow (ints r) 1)] m r := .row hm0 hrl
    refine GW.toSeq rfl ?_
    refine GW.sr rfl rfl ?_
    refine GL.o rfl (S1.mvI rfl) ?_
    refine GL.o rfl (S1.mvP rfl) ?_
    refine GL.o rfl (S1.nc rfl) ?_
    refine GL.o rfl (S1.fa fa77_0 rfl) ?_
    refine GL.o rfl (S1.fa fa27_0 rfl) ?_
    refine GL.o rfl (S1.ld sc22 rfl (.at (.s (.s .z))) rfl) ?_
    refine GL.o rfl (S1.len el22 rfl) ?_
    refine GL.o rfl (S1.lss rfl rfl) ?_
    refine GL.dn rfl ?_
    refine GW.toD rfl rfl (fun w16 => ?_) (fun w16 => ?_)
    refine GW.toSkip rfl ?_
    refine GQ.on ?_
    refine GW.toSeq rfl ?_
    refine GW.toBlock rfl ?_
    refine GW.sr rfl rfl ?_
    refine GL.o rfl (S1.mvP rfl) ?_
    refine GL.o rfl (S1.ldW ag84 rfl (.at .z) (by simp only [ints_len, List.length_set]; first | omega | assumption)) ?_
    refine GL.o rfl (S1.mvI rfl) ?_
    refine GL.call rfl .no fo51 .nil (fun h H => ct51 (BkOk.mkH S H (.s (.s .z)) (.s (.s (.s .z)))) hl (by omega)) (.d (.c (v := (.pointer _)) rfl (.c (v := (.agg _)) rfl (.c (v := (.int _ _)) rfl .n)))) (fun _ _ => ?_)
    refine GL.o rfl (S1.mvT rfl) ?_
    refine GL.o rfl (S1.ext (v := (.agg _)) rfl rfl) ?_
    refine GL.o rfl (S1.ext (v := (.bool _)) rfl rfl) ?_
    refine GL.opN rfl .no (SN.al zc84) (fun a18 => ?_)
    refine GL.o rfl (S1.stW ag84 rfl rfl (by first | assumption | (simp only [List.length_set]; first | omega | assumption)) (by first | rfl | (simp only [ints_len, List.length_set]; first | omega | assumption)) .z) ?_
    refine GL.o rfl (S1.asB rfl) ?_
    refine GL.dn rfl ?_
    refine GW.toSeq rfl ?_
    refine GW.sr rfl rfl ?_
    refine GL.o rfl (S1.mvB rfl) ?_
    refine GL.o rfl (S1.notD rfl) ?_
    refine GL.dn rfl ?_
    refine GW.toD rfl rfl (fun w19 => ?_) (fun w19 => ?_)
    refine GW.toExit rfl ?_
    refine GQ.onE ?_
    refine GQ.outH ?_
    refine GQ.on ?_
    refine GW.toReg rfl ?_
    refine GL.o rfl (S1.mvI rfl) ?_
    refine GL.o rfl (S1.inc rfl rfl (by omega)) ?_
    refine GL.o rfl (S1.asI rfl) ?_
    refine GL.done rfl ?_
    refine GQ.nextT (k + 1, num, es, cl) (.c rfl (.c rfl (.c rfl (.c rfl (.c rfl .n))))) (.cons (.s .z) (.cons (.s .z) (.cons (.s .z) (.cons (.s .z) (.cons (.s .z) .nil))))) ⟨(by first | omega | (dsimp only; omega)), (by first | omega | (dsimp only; omega)), (by first | omega | (dsimp only; omega)), (by first | omega | (dsimp only; omega)), him⟩ (by first | omega | (dsimp only; omega))
    refine GW.toSkip rfl ?_
    refine GQ.on ?_
    refine GW.sr rfl rfl ?_
    refine GL.o rfl (S1.mvP rfl) ?_
    refine GL.o rfl (S1.ldW ag84 rfl (.at .z) (by simp only [ints_len, List.length_set]; first | omega | assumption)) ?_
    refine GL.call rfl .no fo42 (show Take _ [(mb, _)] _ from (.cons (.s (.s .z)) .nil)) (fun h H => ct42 S (qn + 1) (k + 1) _ _ _ _ (H.give (ps := (mb, .map _ _) :: K42 qa qn qc wa wn wc lo hi bb wr mb ws) (.cons (.s (.s .z)) (.cons (.s (.s .z)) (.cons (.s (.s .z)) .nil)))) (tkL_len.trans hl) (tkL_0 hl) (by omega) (by omega) (by assumption)) (.d (.c (v := (.pointer _)) rfl (.c (v := (.agg _)) rfl .n))) (fun x20 him20 => ?_)
    refine GL.o rfl (S1.asI rfl) ?_
    refine GL.dn rfl ?_
    refine GW.toSeq rfl ?_
    refine GW.sr rfl rfl ?_
    refine GL.o rfl (S1.mvI rfl) ?_
    refine GL.o rfl (S1.mvI rfl) ?_
    refine GL.o rfl (S1.lss rfl rfl) ?_
    refine GL.dn rfl ?_
    refine GW.toD rfl rfl (fun w21 => ?_) (fun w21 => ?_)
    rotate_left
    refine GW.toSkip rfl ?_
    refine GQ.on ?_
    refine GW.toReg rfl ?_
    refine GL.o rfl (S1.mvI rfl) ?_
    refine GL.o rfl (S1.mvI rfl) ?_
    refine GL.o rfl (S1.subI rfl rfl (by omega) (by omega)) ?_
    refine GL.o rfl (S1.asI rfl) ?_
    refine GL.done rfl ?_
    refine GQ.outN ?_
    refine GQ.on ?_
    refine GW.toReg rfl ?_
    refine GL.o rfl (S1.mvI rfl) ?_
    refine GL.o rfl (S1.inc rfl rfl (by omega)) ?_
    refine GL.o rfl (S1.asI rfl) ?_
    refine GL.done rfl ?_
    refine GQ.nextT (k + 1, num - (gQ hr qa qn ws lo hi (qn - (k + 1)) (tkL (ptQ hr qa) (wtQ ws) l k) : Int), x20.1, x20.2) (.c rfl (.c rfl (.c rfl (.c rfl (.c rfl .n))))) (.cons (.s (.s .z)) (.cons .z (.cons (.s .z) (.cons (.s .z) (.cons (.s .z) .nil))))) ⟨(by first | omega | (dsimp only; omega)), (by first | omega | (dsimp only; omega)), (by first | omega | (dsimp only; omega)), (by first | omega | (dsimp only; omega)), him20⟩ (by first | omega | (dsimp only; omega))
    refine GW.toExit rfl ?_
    refine GQ.onE ?_
    refine GQ.onE ?_
    refine GQ.outH ?_
    refine GQ.outN ?_
    refine GQ.on ?_
    refine GW.sr rfl rfl ?_
    refine GL.o rfl (S1.ldW ag84 rfl (.at .z) (by simp only [ints_len, List.length_set]; first | omega | assumption)) ?_
    refine GL.dn rfl ?_
    refine GW.toReg rfl ?_
    refine GL.opN rfl .no (SN.al zc84) (fun a22 => ?_)
    refine GL.o rfl (S1.stW ag84 rfl rfl (by first | assumption | (simp only [List.length_set]; first | omega | assumption)) (by first | rfl | (simp only [ints_len, List.length_set]; first | omega | assumption)) .z) ?_
    refine GL.done rfl ?_
    (exfalso; omega)
    refine GW.know (fun h H => Sep.ne (b := a18) (w := r0) (.s (.l (.s (.s (.s .z))))) H.nd) fun hne => ?_
    refine GW.toSeq rfl ?_
    refine GW.toDrwW [c, r0] mx rfl (fun _ H => InL.go (.c (.s (.s .z)) (.c (.s (.s (.s (.s (.s .z))))) .n)) H) ?_
    refine GE.one rfl .no (S1.mvL rfl) rfl (.f (by kernel_rfl)) ?_
    refine GE.one rfl .no (S1.mvI rfl) rfl (.f (by kernel_rfl)) ?_
    refine GE.opN rfl .no (SN.bs el23 ez23 (.c (v := (.int _ _)) rfl rfl .n) rfl rfl) rfl (.f (by kernel_rfl)) (fun a23 => ?_)
    refine GE.loudN rfl .no (SN.apN (new := [(↑k : Int)]) ap23_23 nr rfl (.row rfl (.at .z) rfl) (by decide) (by omega) (.cons (.s (.s (.s (.s (.s (.s .z)))))) .nil)) rfl rfl (by first | exact .w rfl (by simp) | exact .n rfl) (fun a26 => ?_)
    refine GE.one rfl .no (S1.ldW ag84 rfl (.at (.s (.s (.s .z)))) (ints_len.trans ht6)) rfl (.b rfl (fun _ H => nin2 (Sep.ne (b := a18) (w := c) (.s (.s (.s (.l .z)))) H.nd) hne)) ?_
    refine GE.one rfl .no (S1.asL rfl) rfl (.f (by kernel_rfl)) ?_
    refine GE.loud rfl .no (S1.stW ag84 rfl rfl (by first | assumption | (simp only [List.length_set]; first | omega | assumption)) (by first | rfl | (simp only [ints_len, List.length_set]; first | omega | assumption)) (.s (.s (.s (.s .z))))) rfl rfl (.f (by kernel_rfl)) ?_
    refine GE.done rfl ?_
    refine GQ.on ?_
    refine GW.toExit rfl ?_
    refine GQ.onE ?_
    refine GQ.outM rfl ?_
    refine GQ.onE ?_
    refine GQ.onE ?_
    refine GQ.outH ?_
    refine GQ.outN ?_
    refine GQ.on ?_
    refine GW.sr rfl rfl ?_
    refine GL.o rfl (S1.ldW ag84 rfl (.at (.s (.s (.s (.s .z))))) (by simp only [ints_len, List.length_set]; first | omega | assumption)) ?_
    refine GL.dn rfl ?_
    refine GW.toReg rfl ?_
    refine GL.opN rfl .no (SN.al zc84) (fun a27 => ?_)
    refine GL.o rfl (S1.stW ag84 rfl rfl (by first | assumption | (simp only [List.length_set]; first | omega | assumption)) (by first | rfl | (simp only [ints_len, List.length_set]; first | omega | assumption)) .z) ?_
    refine GL.done rfl ?_
    refine GQ.nextT ⟨a27, k + 1, num, (tkL (ptQ hr qa) (wtQ ws) l k), rowS a26 (m + 1), [(a26, opRow (ints (r ++ [(k : Int)])) 1)], m + 1, r ++ [(k : Int)], x20.1, x20.2⟩ (.c rfl (.c rfl (.c rfl (.c rfl .n)))) (.cons .z (.cons (.s (.s .z)) (.cons (.s (.s (.s (.s .z)))) (.cons (.s (.s (.s (.s .z)))) (.cons .z .nil))))) ⟨ht6, tkL_0 hl, (by first | omega | (dsimp only; omega)), (by first | omega | (dsimp only; omega)), (by first | omega | (dsimp only; omega)), nr.app (by decide) rfl, (by first | omega | (dsimp only; omega)), him20⟩ (by first | omega | (dsimp only; omega))
end
end Go.Proofs.Ytenkebdjlajanaa
namespace Go.Proofs.Ytenkebdjlajanaa
open Go Go.E
set_option maxRecDepth 100000
set_option maxHeartbeats 4000000

theorem nil4_neg {pt w : Nat → Int} {l : List Int} {q : Nat} (hl : l.length = 6) (hp : 0 ≤ pt q ∧ pt q < 4) (hn : nil4 l) : (tkL pt w l q).getD (2 + (pt q).toNat) 0 = -1 := by
  obtain ⟨p, hq⟩ : ∃ p : Nat, pt q = p := ⟨(pt q).toNat, by omega⟩
  have hp4 : p < 4 := by omega
  have h0 : l.getD (2 + p) 0 = 0 := by
    have e : ((l.drop 2).take 4)[p]? = l[2 + p]? := by rw [List.getElem?_take, if_pos hp4, List.getElem?_drop]
    rw [hn] at e
    rw [List.getD_eq_getElem?_getD, ← e]
    have : p = 0 ∨ p = 1 ∨ p = 2 ∨ p = 3 := by omega
    rcases this with rfl | rfl | rfl | rfl <;> rfl
  simp only [tkL, hq, Int.toNat_natCast]
  rw [List.getD_eq_getElem?_getD, List.getElem?_set_ne (by omega), List.getElem?_set_ne (by omega), List.getElem?_set_self (by omega), h0]
  rfl

section
variable {hr : RO} {qa wa : Option Addr} {qn qc wn wc bb wr mb : Nat} {lo hi : Int} {ws : List Int}

structure Fo where
  fr : Nat
  l : List Int
  n : Int
  es : List MapEntry
  cl : Nat

structure Fr where
  n : Int
  b : Bool
  es : List MapEntry
  cl : Nat


theorem ct45 (S : PaOk hr qa qn wn ∧ Cell hr (.sl ly71) (.slice qa qn qc) ∧ Cell hr (.sl ly3) (.slice wa wn wc) ∧ ws.length = qn) {pa : Option Addr} {pn pc : Nat} {es : List MapEntry} {cl : Nat} {h : EH}
    (H : Hp hr h (((mb, .map es cl) :: K42 qa qn qc wa wn wc lo hi bb wr mb ws : Ents).map (·.1)) ((mb, .map es cl) :: K42 qa qn qc wa wn wc lo hi bb wr mb ws) h)
    (him : IMF 6 (V75 qn (ptQ hr qa) (wtQ ws) lo hi) es) (h3 : Cell hr (.sl ly3) (.slice pa pn pc)) :
    Ct Try.prog 45 ⟨[.pointer (some ⟨bb, 0, none⟩), .slice pa pn pc]⟩ h [mb] (fun x : Fr => .tuple ⟨[.int .i64 x.n, .bool x.b]⟩) (fun x => (0 ≤ x.n ∧ x.n ≤ 65536) ∧ IMF 6 (V75 qn (ptQ hr qa) (wtQ ws) lo hi) x.es) (fun x => [(mb, .map x.es x.cl)]) := by
  have hc1 := S.2.1
  have hl1 := hc1.le
  have hl3 := h3.le
  have hq16 := S.1.q16
  have hw4 := S.1.w4
  refine Ct.keep (K := K42 qa qn qc wa wn wc lo hi bb wr mb ws) ?_ (fun p hp => H.at_ p (.tail _ hp))
  have hb6 := bgL_len (hr := hr) (wa := wa) (wn := wn)
  have htot : gQ hr qa qn ws lo hi (qn - 0) (bgL hr wa wn) ≤ 65536 := gC_16 (by omega)
  refine Ct.go Try.func45 rfl rfl co45 H ?_
  refine GW.sr rfl rfl ?_
  refine GL.o rfl (S1.asI rfl) ?_
  refine GL.o rfl (S1.asB rfl) ?_
  refine GL.dn rfl ?_
  refine GW.sr rfl rfl ?_
  refine GL.o rfl (S1.mvP rfl) ?_
  refine GL.call rfl .no fo43 .nil (fun h H => ct43 (BkOk.mkH S H (.s .z) (.s (.s .z)))) (.d (.c (v := (.pointer _)) rfl .n)) (fun _ _ => ?_)
  refine GL.opN rfl .no (SN.al zc84) (fun a2 => ?_)
  refine GL.o rfl (S1.stW ag84 rfl rfl (by first | assumption | (simp only [List.length_set]; first | omega | assumption)) (by first | rfl | (simp only [ints_len, List.length_set]; first | omega | assumption)) .z) ?_
  refine GL.dn rfl ?_
  refine GW.toSeq rfl ?_
  refine GW.sr rfl rfl ?_
  refine GL.o rfl (S1.mvL rfl) ?_
  refine GL.o rfl (S1.len el23 rfl) ?_
  refine GL.o rfl (S1.mvI rfl) ?_
  refine GL.dn rfl ?_
  refine GW.toBlock rfl ?_
  refine GW.toLoop (X := Nat × Fo) (fun x => [(0, .pointer (some ⟨bb, 0, none⟩)), (4, .int .i64 x.2.n), (5, .bool false), (6, .pointer (some ⟨a2, 0, none⟩)), (16, .slice pa pn pc), (17, .int .i64 pn), (18, .int .i64 x.1)]) (fun x => (a2, .cells (ints x.2.l) none true) :: (mb, .map x.2.es x.2.cl) :: K42 qa qn qc wa wn wc lo hi bb wr mb ws) (fun x => x.1 ≤ pn ∧ x.2.l.length = 6 ∧ x.2.l.getD 0 0 = (x.2.fr : Int) ∧ x.2.fr ≤ qn ∧ 0 ≤ x.2.n ∧ x.2.n + (gQ hr qa qn ws lo hi (qn - x.2.fr) x.2.l : Int) ≤ 65536 ∧ IMF 6 (V75 qn (ptQ hr qa) (wtQ ws) lo hi) x.2.es) (fun x => pn - x.1) rfl (0, ⟨0, bgL hr wa wn, 0, es, cl⟩) ⟨Nat.zero_le _, bgL_len, bgL_0, Nat.zero_le _, Int.le_refl _, (by first | omega | (dsimp only; omega)), him⟩ (.c rfl (.c rfl (.c rfl (.c rfl (.c rfl (.c rfl (.c rfl .n))))))) (.cons .z (.cons .z .tz)) ?_
  rintro ⟨j, fr, l, acc, es, cl⟩ f ⟨hj, hl, h0, hf, hn0, hn1, him⟩
  dsimp only at hj hl h0 hf hn0 hn1 him ⊢
  refine GW.sr rfl rfl ?_
  refine GL.o rfl (S1.lss rfl rfl) ?_
  refine GL.dn rfl ?_
  refine GW.toSeq rfl ?_
  refine GW.toD rfl rfl (fun w3 => ?_) (fun w3 => ?_)
  refine GW.toSkip rfl ?_
  refine GQ.on ?_
  refine GW.toSeq rfl ?_
  refine GW.toBlock rfl ?_
  refine GW.sr rfl rfl ?_
  refine GL.o rfl (S1.ixR el23 h3 rfl rfl (by omega)) ?_
  refine GL.o rfl (S1.ldCI sc3 (z := 1) h3 rfl (m := j) (by omega) rfl (d := 0) rfl rfl) ?_
  refine GL.o rfl (S1.asI rfl) ?_
  refine GL.dn rfl ?_
  refine GW.toSeq rfl ?_
  refine GW.toSeq rfl ?_
  refine GW.toDrw mx rfl ?_
  refine GD.o rfl (S1.fa fa84_0 rfl) rfl ?_
  refine GD.o rfl (S1.ldI sc3 rfl (.at .z) (by omega)) rfl ?_
  refine GD.o rfl (S1.mvP rfl) rfl ?_
  refine GD.o rfl (S1.nc rfl) rfl ?_
  refine GD.o rfl (S1.fa fa77_0 rfl) rfl ?_
  refine GD.o rfl (S1.fa fa27_0 rfl) rfl ?_
  refine GD.o rfl (S1.ld sc22 rfl (.at (.s (.s .z))) rfl) rfl ?_
  refine GD.o rfl (S1.len el22 rfl) rfl ?_
  refine GD.o rfl (S1.subI rfl rfl (by omega) (by omega)) rfl ?_
  refine GD.o rfl (S1.mvI rfl) rfl ?_
  refine GD.opN rfl .no (SN.bs el23 ez23 (.c (v := (.int _ _)) rfl rfl .n) rfl rfl) rfl (fun a4 => ?_)
  refine GD.call rfl .no fo37 .nil (fun h H => ct37_1 (H.get .z)) (.d (.c (v := (.int _ _)) rfl (.c (v := (.int _ _)) rfl (.c (v := (.slice _ _ _)) rfl .n)))) (fun _ _ => ?_)
  refine GD.done rfl ?_
  refine GQ.on ?_
  refine GW.toC rfl rfl (fun w8 => ?_) (fun w8 => ?_)
  refine GW.sr rfl rfl ?_
  refine GL.o rfl (S1.asI rfl) ?_
  refine GL.o rfl (S1.asB rfl) ?_
  refine GL.dn rfl ?_
  refine GW.toRet rfl ?_
  refine GQ.onR ?_
  refine GQ.outR ?_
  refine GQ.onR ?_
  refine GQ.onR ?_
  refine GQ.outR ?_
  refine GQ.onR ?_
  refine GQ.retT ⟨_, _, es, cl⟩ (.tmp rfl rfl (.tmp rfl rfl .nil)) .more rfl (.cons (.s (.s .z)) (.cons (.s (.s .z)) (.cons (.s (.s .z)) .nil))) ⟨⟨(by first | omega | (dsimp only; omega)), (by first | omega | (dsimp only; omega))⟩, him⟩
  refine GW.toSkip rfl ?_
  refine GQ.on ?_
  refine GW.toSeq rfl ?_
  refine GW.sr rfl rfl ?_
  refine GL.o rfl (S1.fa fa84_0 rfl) ?_
  refine GL.o rfl (S1.ldI sc3 rfl (.at (.s .z)) (by omega)) ?_
  refine GL.o rfl (S1.asI rfl) ?_
  refine GL.dn rfl ?_
  refine GW.toBlock rfl ?_
  rotate_left
  refine GW.toExit rfl ?_
  refine GQ.onE ?_
  refine GQ.onE ?_
  refine GQ.outH ?_
  refine GQ.on ?_
  refine GW.sr rfl rfl ?_
  refine GL.o rfl (S1.mvI rfl) ?_
  refine GL.o rfl (S1.fa fa84_2 rfl) ?_
  refine GL.o rfl (S1.ldL ag82 rfl (.at .z) (by omega)) ?_
  refine GL.o rfl (S1.bu0 az82 zc82) ?_
  refine GL.o rfl (S1.eqF fl82 (l' := [0, 0, 0, 0]) rfl rfl (by first | rfl | assumption | (simp only [List.length_take, List.length_drop]; omega)) rfl) ?_
  refine GL.o rfl (S1.mvB rfl) ?_
  refine GL.splitD 70 rfl (fun w9 => ?_) (fun w9 => ?_)
  refine GL.one rfl (.yes rfl rfl rfl) (S1.mvP rfl) ?_
  refine GL.one rfl (.yes rfl rfl rfl) (S1.ldW ag84 rfl (.at .z) (by simp only [ints_len, List.length_set]; first | omega | assumption)) ?_
  refine GL.call rfl (.yes rfl rfl rfl) fo42 (show Take _ [(mb, _)] _ from (.cons (.s .z) .nil)) (fun h H => ct42 S (qn + 1) fr _ _ _ _ (H.give (ps := (mb, .map _ _) :: K42 qa qn qc wa wn wc lo hi bb wr mb ws) (.cons (.s .z) (.cons (.s .z) (.cons (.s .z) .nil)))) hl h0 (by omega) (by omega) (by assumption)) (.d (.c (v := (.pointer _)) rfl (.c (v := (.agg _)) rfl .n))) (fun x10 him10 => ?_)
  refine GL.one rfl (.yes rfl rfl rfl) (S1.eql rfl rfl) ?_
  refine GL.o rfl (S1.pickT (v := (.bool _)) rfl rfl) ?_
  refine GL.o rfl (S1.asI rfl) ?_
  refine GL.o rfl (S1.asB rfl) ?_
  refine GL.dn rfl ?_
  refine GW.toRet rfl ?_
  refine GQ.retT ⟨_, _, x10.1, x10.2⟩ (.tmp rfl rfl (.tmp rfl rfl .nil)) .more rfl (.cons .z (.cons (.s .z) (.cons (.s .z) .nil))) ⟨⟨(by first | omega | (dsimp only; omega)), (by first | omega | (dsimp only; omega))⟩, him10⟩
  refine GL.skip rfl (.not rfl rfl rfl) ?_
  refine GL.skip rfl (.not rfl rfl rfl) ?_
  refine GL.skip rfl (.not rfl rfl rfl) ?_
  refine GL.skip rfl (.not rfl rfl rfl) ?_
  refine GL.o rfl (S1.pickF (v := (.bool _)) rfl rfl) ?_
  refine GL.o rfl (S1.asI rfl) ?_
  refine GL.o rfl (S1.asB rfl) ?_
  refine GL.dn rfl ?_
  refine GW.toRet rfl ?_
  refine GQ.retT ⟨_, _, es, cl⟩ (.tmp rfl rfl (.tmp rfl rfl .nil)) .more rfl (.cons (.s .z) (.cons (.s .z) (.cons (.s .z) .nil))) ⟨⟨(by first | omega | (dsimp only; omega)), (by first | omega | (dsimp only; omega))⟩, him⟩
  have hq : l.getD 0 0 ≤ ie hr pa (j * 1 + 0) ∧ ie hr pa (j * 1 + 0) ≤ qn - 1 := outB_f (by assumption)
  obtain ⟨qz, hqz⟩ : ∃ q : Nat, ie hr pa (j * 1 + 0) = q := ⟨(ie hr pa (j * 1 + 0)).toNat, by omega⟩
  obtain ⟨z, hz⟩ : ∃ z : Nat, (z = 1 → nil4 l) ∧ (z ≠ 1 → ¬nil4 l) := if e : nil4 l then ⟨1, ⟨fun _ => e, fun a => absurd rfl a⟩⟩ else ⟨0, ⟨fun a => absurd a (by decide), fun _ => e⟩⟩
  have hgp : ∀ k, k < qn → 0 ≤ (tkL (ptQ hr qa) (wtQ ws) l k).getD (2 + (ptQ hr qa k).toNat) 0 → z ≠ 1 ∧ gQ hr qa qn ws lo hi (qn - k) l = gQ hr qa qn ws lo hi (qn - (k + 1)) (tkL (ptQ hr qa) (wtQ ws) l k) + gQ hr qa qn ws lo hi (qn - (k + 1)) l := fun k a b => by
    have hk : 0 ≤ ptQ hr qa k ∧ ptQ hr qa k < wn := S.1.qs k a
    have hz1 : ¬nil4 l := fun e => by rw [nil4_neg hl ⟨hk.1, by omega⟩ e] at b; omega
    exact ⟨fun e => hz1 (hz.1 e), by rw [gQ, gC_s hz1 a, if_pos b]⟩
  have hgn : ∀ k, k < qn → ¬0 ≤ (tkL (ptQ hr qa) (wtQ ws) l k).getD (2 + (ptQ hr qa k).toNat) 0 → z = 1 ∨ gQ hr qa qn ws lo hi (qn - k) l = gQ hr qa qn ws lo hi (qn - (k + 1)) l := fun k a b =>
    if e : z = 1 then .inl e else .inr (by rw [gQ, gC_s (hz.2 e) a, if_neg b, Nat.zero_add])
  have hqp := hgp qz (by omega)
  have ht6q : (tkL (ptQ hr qa) (wtQ ws) l qz).length = 6 := tkL_len.trans hl
  refine GW.toLoop (X := Nat × Int × List MapEntry × Nat) (fun x => [(0, .pointer (some ⟨bb, 0, none⟩)), (4, .int .i64 x.2.1), (5, .bool false), (6, .pointer (some ⟨a2, 0, none⟩)), (8, .int .i64 qz), (9, .int .i64 x.1), (16, .slice pa pn pc), (17, .int .i64 pn), (18, .int .i64 j)]) (fun x => (a2, .cells (ints l) none true) :: (mb, .map x.2.2.1 x.2.2.2) :: K42 qa qn qc wa wn wc lo hi bb wr mb ws) (fun x => fr ≤ x.1 ∧ x.1 ≤ qz ∧ 0 ≤ x.2.1 ∧ x.2.1 ≤ 65536 ∧ (z = 1 ∨ x.2.1 + (gQ hr qa qn ws lo hi (qn - x.1) l : Int) ≤ 65536) ∧ IMF 6 (V75 qn (ptQ hr qa) (wtQ ws) lo hi) x.2.2.1) (fun x => qz - x.1) rfl (fr, acc, es, cl) ⟨Nat.le_refl _, (by first | omega | (dsimp only; omega)), hn0, (by first | omega | (dsimp only; omega)), .inr hn1, him⟩ (.c rfl (.c rfl (.c rfl (.c rfl (.c (congrArg (Value.int .i64) hqz) (.c (congrArg (Value.int .i64) h0) (.c rfl (.c rfl (.c rfl .n))))))))) (.cons (.s .z) (.cons (.s .z) (.cons (.s .z) (.cons (.s .z) .nil)))) ?_
  rintro ⟨k, acc, es, cl⟩ f ⟨hk1, hk2, hn0, hn1, hzz, him⟩
  dsimp only at hk1 hk2 hn0 hn1 hzz him ⊢
  have hgpk := hgp k
  have hgnk := hgn k
  have ht6 : (tkL (ptQ hr qa) (wtQ ws) l k).length = 6 := tkL_len.trans hl
  have hkq : k = qz → gQ hr qa qn ws lo hi (qn - k) l = gQ hr qa qn ws lo hi (qn - qz) l := fun e => by rw [e]
  refine GW.toSeq rfl ?_
  refine GW.sr rfl rfl ?_
  refine GL.o rfl (S1.mvI rfl) ?_
  refine GL.o rfl (S1.mvI rfl) ?_
  refine GL.o rfl (S1.lss rfl rfl) ?_
  refine GL.dn rfl ?_
  refine GW.toD rfl rfl (fun w11 => ?_) (fun w11 => ?_)
  refine GW.toSkip rfl ?_
  refine GQ.on ?_
  refine GW.toSeq rfl ?_
  refine GW.toBlock rfl ?_
  refine GW.sr rfl rfl ?_
  refine GL.o rfl (S1.mvP rfl) ?_
  refine GL.o rfl (S1.ldW ag84 rfl (.at .z) (by simp only [ints_len, List.length_set]; first | omega | assumption)) ?_
  refine GL.o rfl (S1.mvI rfl) ?_
  refine GL.call rfl .no fo51 .nil (fun h H => ct51 (BkOk.mkH S H (.s (.s .z)) (.s (.s (.s .z)))) hl (by omega)) (.d (.c (v := (.pointer _)) rfl (.c (v := (.agg _)) rfl (.c (v := (.int _ _)) rfl .n)))) (fun _ _ => ?_)
  refine GL.o rfl (S1.mvT rfl) ?_
  refine GL.o rfl (S1.ext (v := (.agg _)) rfl rfl) ?_
  refine GL.o rfl (S1.ext (v := (.bool _)) rfl rfl) ?_
  refine GL.opN rfl .no (SN.al zc84) (fun a13 => ?_)
  refine GL.o rfl (S1.stW ag84 rfl rfl (by first | assumption | (simp only [List.length_set]; first | omega | assumption)) (by first | rfl | (simp only [ints_len, List.length_set]; first | omega | assumption)) .z) ?_
  refine GL.o rfl (S1.asB rfl) ?_
  refine GL.dn rfl ?_
  refine GW.sr rfl rfl ?_
  refine GL.o rfl (S1.mvB rfl) ?_
  refine GL.dn rfl ?_
  refine GW.toD rfl rfl (fun w14 => ?_) (fun w14 => ?_)
  refine GW.toReg rfl ?_
  refine GL.o rfl (S1.mvI rfl) ?_
  refine GL.o rfl (S1.mvP rfl) ?_
  refine GL.o rfl (S1.ldW ag84 rfl (.at .z) (by simp only [ints_len, List.length_set]; first | omega | assumption)) ?_
  refine GL.call rfl .no fo42 (show Take _ [(mb, _)] _ from (.cons (.s (.s .z)) .nil)) (fun h H => ct42 S (qn + 1) (k + 1) _ _ _ _ (H.give (ps := (mb, .map _ _) :: K42 qa qn qc wa wn wc lo hi bb wr mb ws) (.cons (.s (.s .z)) (.cons (.s (.s .z)) (.cons (.s (.s .z)) .nil)))) (tkL_len.trans hl) (tkL_0 hl) (by omega) (by omega) (by assumption)) (.d (.c (v := (.pointer _)) rfl (.c (v := (.agg _)) rfl .n))) (fun x15 him15 => ?_)
  refine GL.o rfl (S1.addI rfl rfl (by omega) (by omega)) ?_
  refine GL.o rfl (S1.asI rfl) ?_
  refine GL.done rfl ?_
  refine GQ.outN ?_
  refine GQ.on ?_
  refine GW.toReg rfl ?_
  refine GL.o rfl (S1.mvI rfl) ?_
  refine GL.o rfl (S1.inc rfl rfl (by omega)) ?_
  refine GL.o rfl (S1.asI rfl) ?_
  refine GL.done rfl ?_
  refine GQ.nextT (k + 1, acc + (gQ hr qa qn ws lo hi (qn - (k + 1)) (tkL (ptQ hr qa) (wtQ ws) l k) : Int), x15.1, x15.2) (.c rfl (.c rfl (.c rfl (.c rfl (.c rfl (.c rfl (.c rfl (.c rfl (.c rfl .n))))))))) (.cons (.s (.s .z)) (.cons .z (.cons (.s .z) (.cons (.s .z) .nil)))) ⟨(by first | omega | (dsimp only; omega)), (by first | omega | (dsimp only; omega)), (by first | omega | (dsimp only; omega)), (by first | omega | (dsimp only; omega)), (by first | omega | (dsimp only; omega)), him15⟩ (by first | omega | (dsimp only; omega))
  refine GW.toSkip rfl ?_
  refine GQ.outN ?_
  refine GQ.on ?_
  refine GW.toReg rfl ?_
  refine GL.o rfl (S1.mvI rfl) ?_
  refine GL.o rfl (S1.inc rfl rfl (by omega)) ?_
  refine GL.o rfl (S1.asI rfl) ?_
  refine GL.done rfl ?_
  refine GQ.nextT (k + 1, acc, es, cl) (.c rfl (.c rfl (.c rfl (.c rfl (.c rfl (.c rfl (.c rfl (.c rfl (.c rfl .n))))))))) (.cons (.s .z) (.cons (.s .z) (.cons (.s .z) (.cons (.s .z) .nil)))) ⟨(by first | omega | (dsimp only; omega)), (by first | omega | (dsimp only; omega)), (by first | omega | (dsimp only; omega)), (by first | omega | (dsimp only; omega)), (by first | omega | (dsimp only; omega)), him⟩ (by first | omega | (dsimp only; omega))
  refine GW.toExit rfl ?_
  refine GQ.onE ?_
  refine GQ.onE ?_
  refine GQ.outH ?_
  refine GQ.on ?_
  refine GW.sr rfl rfl ?_
  refine GL.o rfl (S1.mvP rfl) ?_
  refine GL.o rfl (S1.ldW ag84 rfl (.at .z) (by simp only [ints_len, List.length_set]; first | omega | assumption)) ?_
  refine GL.o rfl (S1.mvI rfl) ?_
  refine GL.call rfl .no fo51 .nil (fun h H => ct51 (BkOk.mkH S H (.s (.s .z)) (.s (.s (.s .z)))) hl (by omega)) (.d (.c (v := (.pointer _)) rfl (.c (v := (.agg _)) rfl (.c (v := (.int _ _)) rfl .n)))) (fun _ _ => ?_)
  refine GL.o rfl (S1.mvT rfl) ?_
  refine GL.o rfl (S1.ext (v := (.agg _)) rfl rfl) ?_
  refine GL.o rfl (S1.ext (v := (.bool _)) rfl rfl) ?_
  refine GL.opN rfl .no (SN.al zc84) (fun a17 => ?_)
  refine GL.o rfl (S1.stW ag84 rfl rfl (by first | assumption | (simp only [List.length_set]; first | omega | assumption)) (by first | rfl | (simp only [ints_len, List.length_set]; first | omega | assumption)) .z) ?_
  refine GL.o rfl (S1.asB rfl) ?_
  refine GL.dn rfl ?_
  refine GW.toSeq rfl ?_
  refine GW.sr rfl rfl ?_
  refine GL.o rfl (S1.mvB rfl) ?_
  refine GL.o rfl (S1.notD rfl) ?_
  refine GL.dn rfl ?_
  refine GW.toD rfl rfl (fun w18 => ?_) (fun w18 => ?_)
  refine GW.sr rfl rfl ?_
  refine GL.o rfl (S1.asI rfl) ?_
  refine GL.o rfl (S1.asB rfl) ?_
  refine GL.dn rfl ?_
  refine GW.toRet rfl ?_
  refine GQ.onR ?_
  refine GQ.outR ?_
  refine GQ.onR ?_
  refine GQ.onR ?_
  refine GQ.outR ?_
  refine GQ.onR ?_
  refine GQ.retT ⟨_, _, es, cl⟩ (.tmp rfl rfl (.tmp rfl rfl .nil)) .more rfl (.cons (.s (.s .z)) (.cons (.s (.s .z)) (.cons (.s (.s .z)) .nil))) ⟨⟨(by first | omega | (dsimp only; omega)), (by first | omega | (dsimp only; omega))⟩, him⟩
  refine GW.toSkip rfl ?_
  refine GQ.on ?_
  refine GW.toReg rfl ?_
  refine GL.o rfl (S1.ldW ag84 rfl (.at .z) (by simp only [ints_len, List.length_set]; first | omega | assumption)) ?_
  refine GL.o rfl (S1.stW ag84 rfl rfl (by first | assumption | (simp only [List.length_set]; first | omega | assumption)) (by first | rfl | (simp only [ints_len, List.length_set]; first | omega | assumption)) (.s .z)) ?_
  refine GL.done rfl ?_
  refine GQ.outN ?_
  refine GQ.on ?_
  refine GW.toReg rfl ?_
  refine GL.o rfl (S1.inc rfl rfl (by omega)) ?_
  refine GL.o rfl (S1.mvI rfl) ?_
  refine GL.done rfl ?_
  refine GQ.nextT (j + 1, ⟨qz + 1, (tkL (ptQ hr qa) (wtQ ws) l qz), acc, es, cl⟩) (.c rfl (.c rfl (.c rfl (.c rfl (.c rfl (.c rfl (.c rfl .n))))))) (.cons (.s .z) (.cons (.s .z) (.cons (.s .z) (.cons (.s .z) .nil)))) ⟨(by first | omega | (dsimp only; omega)), ht6q, tkL_0 hl, (by first | omega | (dsimp only; omega)), (by first | omega | (dsimp only; omega)), (by first | omega | (dsimp only; omega)), him⟩ (by first | omega | (dsimp only; omega))
end
end Go.Proofs.Ytenkebdjlajanaa
namespace Go.Proofs.Ytenkebdjlajanaa
open Go Go.E
set_option maxRecDepth 100000
set_option maxHeartbeats 4000000

section
variable {hr : RO} {qa wa : Option Addr} {qn qc wn wc : Nat} {lo hi : Int} {h : EH}


theorem ct12 (hR : ∀ b o, hr b = some o → h[b]? = some o) (h1 : Cell hr (.sl ly71) (.slice qa qn qc)) (h2 : Cell hr (.sl ly3) (.slice wa wn wc)) :
    Ct Try.prog 12 ⟨[.agg ⟨[.slice qa qn qc, .slice wa wn wc, .int .i64 lo, .int .i64 hi]⟩]⟩ h [] (fun x : Value × Ents × Nat × Int => .tuple ⟨[x.1, .int .i64 x.2.2.2]⟩) (fun x => OR wy3 x.1 x.2.1 x.2.2.1 ∧ x.2.2.1 ≤ 16) (fun x => x.2.1) := by
  refine Ct.go Try.func12 rfl rfl co12 (Hp.start hR) ?_
  refine GW.sr rfl rfl ?_
  refine GL.opN rfl .no (SN.bx (u := .agg ⟨_⟩) rfl .agg) (fun a1 => ?_)
  refine GL.o rfl (S1.asL rfl) ?_
  refine GL.o rfl (S1.asI rfl) ?_
  refine GL.dn rfl ?_
  refine GW.sr rfl rfl ?_
  refine GL.o rfl (S1.ldW ag27 rfl (.at .z) rfl) ?_
  refine GL.call rfl .no fo38 .nil (fun h H => ct38 H.rom h1 h2) (.d (.c (v := (.agg _)) rfl .n)) (fun x38 q38 => ?_)
  rcases x38 with x | e
  · have S : PaOk hr qa qn wn ∧ Cell hr (.sl ly71) (.slice qa qn qc) ∧ Cell hr (.sl ly3) (.slice wa wn wc) ∧ x.ws.length = qn := ⟨q38.1, h1, h2, q38.2⟩
    have hq1 := S.1.q1
    have hq16 := S.1.q16
    have him0 : IMF 6 (V75 qn (ptQ hr qa) (wtQ x.ws) lo hi) [] := .nil
    have htot : gQ hr qa qn x.ws lo hi (qn - 0) (bgL hr wa wn) ≤ 65536 := gC_16 (by omega)
    refine GL.o rfl (S1.mvT rfl) ?_
    refine GL.o rfl (S1.ext (v := (.pointer _)) rfl rfl) ?_
    refine GL.o rfl (S1.ext (v := (.int _ _)) rfl rfl) ?_
    refine GL.o rfl (S1.asP rfl) ?_
    refine GL.o rfl (S1.asI rfl) ?_
    refine GL.dn rfl ?_
    refine GW.toSeq rfl ?_
    refine GW.sr rfl rfl ?_
    refine GL.o rfl (S1.mvI rfl) ?_
    refine GL.o rfl (S1.neq rfl rfl) ?_
    refine GL.dn rfl ?_
    refine GW.toF rfl rfl ?_
    refine GW.toSkip rfl ?_
    refine GQ.on ?_
    refine GW.sr rfl rfl ?_
    refine GL.o rfl (S1.mvP rfl) ?_
    refine GL.o rfl (S1.nc rfl) ?_
    refine GL.o rfl (S1.fa fa77_1 rfl) ?_
    refine GL.o rfl (S1.ld sc23 rfl (.at .z) rfl) ?_
    refine GL.o rfl (S1.asL rfl) ?_
    refine GL.o rfl (S1.asI rfl) ?_
    refine GL.dn rfl ?_
    refine GW.toRet rfl ?_
    refine GQ.retT (rowS x.wr qn, [(x.wr, opRow (ints x.ws) 1)], qn, 0) (.tmp rfl rfl (.tmp rfl rfl .nil)) .more rfl (.cons (.s .z) .nil) ⟨NR.or (.row (by omega) (by have := S.2.2.2; omega)) rfl (by simp [wy3]) (by first | omega | (dsimp only; omega)), hq16⟩
  · have he : e ≠ 0 := q38
    refine GL.o rfl (S1.mvT rfl) ?_
    refine GL.o rfl (S1.ext (v := (.pointer _)) rfl rfl) ?_
    refine GL.o rfl (S1.ext (v := (.int _ _)) rfl rfl) ?_
    refine GL.o rfl (S1.asP rfl) ?_
    refine GL.o rfl (S1.asI rfl) ?_
    refine GL.dn rfl ?_
    refine GW.toSeq rfl ?_
    refine GW.sr rfl rfl ?_
    refine GL.o rfl (S1.mvI rfl) ?_
    refine GL.o rfl (S1.neq rfl rfl) ?_
    refine GL.dn rfl ?_
    refine GW.toD rfl rfl (fun w3 => ?_) (fun w3 => ?_)
    refine GW.sr rfl rfl ?_
    refine GL.o rfl (S1.mvI rfl) ?_
    refine GL.o rfl (S1.asL rfl) ?_
    refine GL.o rfl (S1.asI rfl) ?_
    refine GL.dn rfl ?_
    refine GW.toRet rfl ?_
    refine GQ.onR ?_
    refine GQ.retT (nilS, [], 0, e) (.tmp rfl rfl (.tmp rfl rfl .nil)) .more rfl .nil ⟨.nil, Nat.zero_le _⟩
    refine GW.toSkip rfl ?_
    refine GQ.on ?_
    refine GW.sr rfl rfl ?_
    refine GL.o rfl (S1.mvP rfl) ?_
    (exfalso; omega)

theorem ct17 (hR : ∀ b o, hr b = some o → h[b]? = some o) (h1 : Cell hr (.sl ly71) (.slice qa qn qc)) (h2 : Cell hr (.sl ly3) (.slice wa wn wc)) :
    Ct Try.prog 17 ⟨[.agg ⟨[.slice qa qn qc, .slice wa wn wc, .int .i64 lo, .int .i64 hi]⟩]⟩ h [] (fun x : Int × Int => .tuple ⟨[.int .i64 x.1, .int .i64 x.2]⟩) (fun x => True) (fun x => []) := by
  refine Ct.go Try.func17 rfl rfl co17 (Hp.start hR) ?_
  refine GW.sr rfl rfl ?_
  refine GL.opN rfl .no (SN.bx (u := .agg ⟨_⟩) rfl .agg) (fun a1 => ?_)
  refine GL.o rfl (S1.asI rfl) ?_
  refine GL.o rfl (S1.asI rfl) ?_
  refine GL.dn rfl ?_
  refine GW.sr rfl rfl ?_
  refine GL.o rfl (S1.ldW ag27 rfl (.at .z) rfl) ?_
  refine GL.call rfl .no fo38 .nil (fun h H => ct38 H.rom h1 h2) (.d (.c (v := (.agg _)) rfl .n)) (fun x38 q38 => ?_)
  rcases x38 with x | e
  · have S : PaOk hr qa qn wn ∧ Cell hr (.sl ly71) (.slice qa qn qc) ∧ Cell hr (.sl ly3) (.slice wa wn wc) ∧ x.ws.length = qn := ⟨q38.1, h1, h2, q38.2⟩
    have hq1 := S.1.q1
    have hq16 := S.1.q16
    have him0 : IMF 6 (V75 qn (ptQ hr qa) (wtQ x.ws) lo hi) [] := .nil
    have htot : gQ hr qa qn x.ws lo hi (qn - 0) (bgL hr wa wn) ≤ 65536 := gC_16 (by omega)
    refine GL.o rfl (S1.mvT rfl) ?_
    refine GL.o rfl (S1.ext (v := (.pointer _)) rfl rfl) ?_
    refine GL.o rfl (S1.ext (v := (.int _ _)) rfl rfl) ?_
    refine GL.o rfl (S1.asP rfl) ?_
    refine GL.o rfl (S1.asI rfl) ?_
    refine GL.dn rfl ?_
    refine GW.toSeq rfl ?_
    refine GW.sr rfl rfl ?_
    refine GL.o rfl (S1.mvI rfl) ?_
    refine GL.o rfl (S1.neq rfl rfl) ?_
    refine GL.dn rfl ?_
    refine GW.toF rfl rfl ?_
    refine GW.toSkip rfl ?_
    refine GQ.on ?_
    refine GW.sr rfl rfl ?_
    refine GL.o rfl (S1.mvP rfl) ?_
    refine GL.o rfl (S1.mvP rfl) ?_
    refine GL.call rfl .no fo43 .nil (fun h H => ct43 (BkOk.mkH S H .z (.s .z))) (.d (.c (v := (.pointer _)) rfl .n)) (fun _ _ => ?_)
    refine GL.call rfl .no fo42 (show Take _ [(x.mb, _)] _ from (.cons (.s (.s .z)) .nil)) (fun h H => ct42 S (qn + 1) 0 _ _ _ _ (H.give (ps := (x.mb, .map _ _) :: K42 qa qn qc wa wn wc lo hi x.bb x.wr x.mb x.ws) (.cons (.s (.s .z)) (.cons .z (.cons .z .nil)))) bgL_len bgL_0 (by omega) (by omega) (by assumption)) (.d (.c (v := (.pointer _)) rfl (.c (v := (.agg _)) rfl .n))) (fun x42 him42 => ?_)
    refine GL.o rfl (S1.asI rfl) ?_
    refine GL.o rfl (S1.asI rfl) ?_
    refine GL.dn rfl ?_
    refine GW.toRet rfl ?_
    refine GQ.retT (_, _) (.tmp rfl rfl (.tmp rfl rfl .nil)) .more rfl .nil trivial
  · have he : e ≠ 0 := q38
    refine GL.o rfl (S1.mvT rfl) ?_
    refine GL.o rfl (S1.ext (v := (.pointer _)) rfl rfl) ?_
    refine GL.o rfl (S1.ext (v := (.int _ _)) rfl rfl) ?_
    refine GL.o rfl (S1.asP rfl) ?_
    refine GL.o rfl (S1.asI rfl) ?_
    refine GL.dn rfl ?_
    refine GW.toSeq rfl ?_
    refine GW.sr rfl rfl ?_
    refine GL.o rfl (S1.mvI rfl) ?_
    refine GL.o rfl (S1.neq rfl rfl) ?_
    refine GL.dn rfl ?_
    refine GW.toD rfl rfl (fun w5 => ?_) (fun w5 => ?_)
    refine GW.sr rfl rfl ?_
    refine GL.o rfl (S1.mvI rfl) ?_
    refine GL.o rfl (S1.asI rfl) ?_
    refine GL.o rfl (S1.asI rfl) ?_
    refine GL.dn rfl ?_
    refine GW.toRet rfl ?_
    refine GQ.onR ?_
    refine GQ.retT (_, _) (.tmp rfl rfl (.tmp rfl rfl .nil)) .more rfl .nil trivial
    refine GW.toSkip rfl ?_
    refine GQ.on ?_
    refine GW.sr rfl rfl ?_
    refine GL.o rfl (S1.mvP rfl) ?_
    refine GL.o rfl (S1.mvP rfl) ?_
    (exfalso; omega)

theorem ct19 (hR : ∀ b o, hr b = some o → h[b]? = some o) (h1 : Cell hr (.sl ly71) (.slice qa qn qc)) (h2 : Cell hr (.sl ly3) (.slice wa wn wc)) {num : Int} :
    Ct Try.prog 19 ⟨[.agg ⟨[.slice qa qn qc, .slice wa wn wc, .int .i64 lo, .int .i64 hi]⟩, .int .i64 num]⟩ h [] (fun x : Value × Ents × Nat × Int => .tuple ⟨[x.1, .int .i64 x.2.2.2]⟩) (fun x => OR wy3 x.1 x.2.1 x.2.2.1 ∧ x.2.2.1 ≤ 16) (fun x => x.2.1) := by
  refine Ct.go Try.func19 rfl rfl co19 (Hp.start hR) ?_
  refine GW.sr rfl rfl ?_
  refine GL.opN rfl .no (SN.bx (u := .agg ⟨_⟩) rfl .agg) (fun a1 => ?_)
  refine GL.o rfl (S1.asL rfl) ?_
  refine GL.o rfl (S1.asI rfl) ?_
  refine GL.dn rfl ?_
  refine GW.sr rfl rfl ?_
  refine GL.o rfl (S1.ldW ag27 rfl (.at .z) rfl) ?_
  refine GL.call rfl .no fo38 .nil (fun h H => ct38 H.rom h1 h2) (.d (.c (v := (.agg _)) rfl .n)) (fun x38 q38 => ?_)
  rcases x38 with x | e
  · have S : PaOk hr qa qn wn ∧ Cell hr (.sl ly71) (.slice qa qn qc) ∧ Cell hr (.sl ly3) (.slice wa wn wc) ∧ x.ws.length = qn := ⟨q38.1, h1, h2, q38.2⟩
    have hq1 := S.1.q1
    have hq16 := S.1.q16
    have him0 : IMF 6 (V75 qn (ptQ hr qa) (wtQ x.ws) lo hi) [] := .nil
    have htot : gQ hr qa qn x.ws lo hi (qn - 0) (bgL hr wa wn) ≤ 65536 := gC_16 (by omega)
    refine GL.o rfl (S1.mvT rfl) ?_
    refine GL.o rfl (S1.ext (v := (.pointer _)) rfl rfl) ?_
    refine GL.o rfl (S1.ext (v := (.int _ _)) rfl rfl) ?_
    refine GL.o rfl (S1.asP rfl) ?_
    refine GL.o rfl (S1.asI rfl) ?_
    refine GL.dn rfl ?_
    refine GW.toSeq rfl ?_
    refine GW.toBlock rfl ?_
    refine GW.sr rfl rfl ?_
    refine GL.o rfl (S1.mvI rfl) ?_
    refine GL.o rfl (S1.neq rfl rfl) ?_
    refine GL.o rfl (S1.asB rfl) ?_
    refine GL.dn rfl ?_
    refine GW.toF rfl rfl ?_
    refine GW.sr rfl rfl ?_
    refine GL.o rfl (S1.mvP rfl) ?_
    refine GL.o rfl (S1.mvP rfl) ?_
    refine GL.call rfl .no fo43 .nil (fun h H => ct43 (BkOk.mkH S H .z (.s .z))) (.d (.c (v := (.pointer _)) rfl .n)) (fun _ _ => ?_)
    refine GL.call rfl .no fo42 (show Take _ [(x.mb, _)] _ from (.cons (.s (.s .z)) .nil)) (fun h H => ct42 S (qn + 1) 0 _ _ _ _ (H.give (ps := (x.mb, .map _ _) :: K42 qa qn qc wa wn wc lo hi x.bb x.wr x.mb x.ws) (.cons (.s (.s .z)) (.cons .z (.cons .z .nil)))) bgL_len bgL_0 (by omega) (by omega) (by assumption)) (.d (.c (v := (.pointer _)) rfl (.c (v := (.agg _)) rfl .n))) (fun x42 him42 => ?_)
    refine GL.o rfl (S1.subI rfl rfl (by omega) (by omega)) ?_
    refine GL.o rfl (S1.mvI rfl) ?_
    refine GL.opN rfl .no (SN.bs el23 ez23 (.c (v := (.int _ _)) rfl rfl .n) rfl rfl) (fun a5 => ?_)
    refine GL.call rfl .no fo37 .nil (fun h H => ct37_1 (H.get .z)) (.d (.c (v := (.int _ _)) rfl (.c (v := (.int _ _)) rfl (.c (v := (.slice _ _ _)) rfl .n)))) (fun _ _ => ?_)
    refine GL.o rfl (S1.asB rfl) ?_
    refine GL.dn rfl ?_
    refine GW.toC rfl rfl (fun w9 => ?_) (fun w9 => ?_)
    refine GW.sr rfl rfl ?_
    refine GL.o rfl (S1.asL rfl) ?_
    refine GL.o rfl (S1.asI rfl) ?_
    refine GL.dn rfl ?_
    refine GW.toRet rfl ?_
    refine GQ.outR ?_
    refine GQ.onR ?_
    refine GQ.retT (nilS, [], 0, _) (.tmp rfl rfl (.tmp rfl rfl .nil)) .more rfl .nil ⟨.nil, Nat.zero_le _⟩
    refine GW.toSkip rfl ?_
    refine GQ.outN ?_
    refine GQ.on ?_
    refine GW.sr rfl rfl ?_
    refine GL.o rfl (S1.mvP rfl) ?_
    refine GL.o rfl (S1.mvI rfl) ?_
    refine GL.call rfl .no fo44 (show Take _ [(x.mb, _)] _ from (.cons (.s .z) .nil)) (fun h H => ct44 S (H.give (ps := (x.mb, .map _ _) :: K42 qa qn qc wa wn wc lo hi x.bb x.wr x.mb x.ws) (.cons (.s .z) (.cons (.s .z) (.cons (.s .z) .nil)))) (by assumption) (outB_f (by assumption)).1 (Int.lt_of_le_sub_one (outB_f (by assumption)).2)) (.d (.c (v := (.pointer _)) rfl (.c (v := (.int _ _)) rfl .n))) (fun x44 q44 => ?_)
    refine GL.o rfl (S1.as (v := (x44.fst.1)) rfl) ?_
    refine GL.o rfl (S1.asI rfl) ?_
    refine GL.dn rfl ?_
    refine GW.toRet rfl ?_
    refine GQ.retT (x44.1.v, x44.1.E, x44.1.m, 0) (.tmp rfl rfl (.tmp rfl rfl .nil)) .more rfl (.ts .tzA) ⟨q44.1.or rfl (by simp [wy3]) (by omega), q44.2.1⟩
  · have he : e ≠ 0 := q38
    refine GL.o rfl (S1.mvT rfl) ?_
    refine GL.o rfl (S1.ext (v := (.pointer _)) rfl rfl) ?_
    refine GL.o rfl (S1.ext (v := (.int _ _)) rfl rfl) ?_
    refine GL.o rfl (S1.asP rfl) ?_
    refine GL.o rfl (S1.asI rfl) ?_
    refine GL.dn rfl ?_
    refine GW.toSeq rfl ?_
    refine GW.toBlock rfl ?_
    refine GW.sr rfl rfl ?_
    refine GL.o rfl (S1.mvI rfl) ?_
    refine GL.o rfl (S1.neq rfl rfl) ?_
    refine GL.o rfl (S1.asB rfl) ?_
    refine GL.dn rfl ?_
    refine GW.toD rfl rfl (fun w11 => ?_) (fun w11 => ?_)
    refine GW.sr rfl rfl ?_
    refine GL.o rfl (S1.mvI rfl) ?_
    refine GL.o rfl (S1.asL rfl) ?_
    refine GL.o rfl (S1.asI rfl) ?_
    refine GL.dn rfl ?_
    refine GW.toRet rfl ?_
    refine GQ.outR ?_
    refine GQ.onR ?_
    refine GQ.retT (nilS, [], 0, e) (.tmp rfl rfl (.tmp rfl rfl .nil)) .more rfl .nil ⟨.nil, Nat.zero_le _⟩
    refine GW.sr rfl rfl ?_
    refine GL.o rfl (S1.mvP rfl) ?_
    refine GL.o rfl (S1.mvP rfl) ?_
    (exfalso; omega)

theorem ct22 (hR : ∀ b o, hr b = some o → h[b]? = some o) (h1 : Cell hr (.sl ly71) (.slice qa qn qc)) (h2 : Cell hr (.sl ly3) (.slice wa wn wc)) {pa : Option Addr} {pn pc : Nat} (h3 : Cell hr (.sl ly3) (.slice pa pn pc)) :
    Ct Try.prog 22 ⟨[.agg ⟨[.slice qa qn qc, .slice wa wn wc, .int .i64 lo, .int .i64 hi]⟩, .slice pa pn pc]⟩ h [] (fun x : Int × Int => .tuple ⟨[.int .i64 x.1, .int .i64 x.2]⟩) (fun x => True) (fun x => []) := by
  refine Ct.go Try.func22 rfl rfl co22 (Hp.start hR) ?_
  refine GW.sr rfl rfl ?_
  refine GL.opN rfl .no (SN.bx (u := .agg ⟨_⟩) rfl .agg) (fun a1 => ?_)
  refine GL.o rfl (S1.asI rfl) ?_
  refine GL.o rfl (S1.asI rfl) ?_
  refine GL.dn rfl ?_
  refine GW.sr rfl rfl ?_
  refine GL.o rfl (S1.ldW ag27 rfl (.at .z) rfl) ?_
  refine GL.call rfl .no fo38 .nil (fun h H => ct38 H.rom h1 h2) (.d (.c (v := (.agg _)) rfl .n)) (fun x38 q38 => ?_)
  rcases x38 with x | e
  · have S : PaOk hr qa qn wn ∧ Cell hr (.sl ly71) (.slice qa qn qc) ∧ Cell hr (.sl ly3) (.slice wa wn wc) ∧ x.ws.length = qn := ⟨q38.1, h1, h2, q38.2⟩
    have hq1 := S.1.q1
    have hq16 := S.1.q16
    have him0 : IMF 6 (V75 qn (ptQ hr qa) (wtQ x.ws) lo hi) [] := .nil
    have htot : gQ hr qa qn x.ws lo hi (qn - 0) (bgL hr wa wn) ≤ 65536 := gC_16 (by omega)
    refine GL.o rfl (S1.mvT rfl) ?_
    refine GL.o rfl (S1.ext (v := (.pointer _)) rfl rfl) ?_
    refine GL.o rfl (S1.ext (v := (.int _ _)) rfl rfl) ?_
    refine GL.o rfl (S1.asP rfl) ?_
    refine GL.o rfl (S1.asI rfl) ?_
    refine GL.dn rfl ?_
    refine GW.toSeq rfl ?_
    refine GW.sr rfl rfl ?_
    refine GL.o rfl (S1.mvI rfl) ?_
    refine GL.o rfl (S1.neq rfl rfl) ?_
    refine GL.dn rfl ?_
    refine GW.toF rfl rfl ?_
    refine GW.toSkip rfl ?_
    refine GQ.on ?_
    refine GW.sr rfl rfl ?_
    refine GL.o rfl (S1.mvP rfl) ?_
    refine GL.o rfl (S1.mvL rfl) ?_
    refine GL.call rfl .no fo45 (show Take _ [(x.mb, _)] _ from (.cons (.s (.s .z)) .nil)) (fun h H => ct45 S (H.give (ps := (x.mb, .map _ _) :: K42 qa qn qc wa wn wc lo hi x.bb x.wr x.mb x.ws) (.cons (.s (.s .z)) (.cons .z (.cons .z .nil)))) (by assumption) h3) (.d (.c (v := (.pointer _)) rfl (.c (v := (.slice _ _ _)) rfl .n))) (fun x45 q45 => ?_)
    refine GL.o rfl (S1.mvT rfl) ?_
    refine GL.o rfl (S1.ext (v := (.int _ _)) rfl rfl) ?_
    refine GL.o rfl (S1.ext (v := (.bool _)) rfl rfl) ?_
    refine GL.o rfl (S1.asI rfl) ?_
    refine GL.o rfl (S1.asB rfl) ?_
    refine GL.dn rfl ?_
    refine GW.toSeq rfl ?_
    refine GW.sr rfl rfl ?_
    refine GL.o rfl (S1.mvB rfl) ?_
    refine GL.o rfl (S1.not rfl) ?_
    refine GL.dn rfl ?_
    refine GW.toC rfl rfl (fun w4 => ?_) (fun w4 => ?_)
    refine GW.sr rfl rfl ?_
    refine GL.o rfl (S1.asI rfl) ?_
    refine GL.o rfl (S1.asI rfl) ?_
    refine GL.dn rfl ?_
    refine GW.toRet rfl ?_
    refine GQ.onR ?_
    refine GQ.retT (_, _) (.tmp rfl rfl (.tmp rfl rfl .nil)) .more rfl .nil trivial
    refine GW.toSkip rfl ?_
    refine GQ.on ?_
    refine GW.sr rfl rfl ?_
    refine GL.o rfl (S1.mvI rfl) ?_
    refine GL.o rfl (S1.asI rfl) ?_
    refine GL.o rfl (S1.asI rfl) ?_
    refine GL.dn rfl ?_
    refine GW.toRet rfl ?_
    refine GQ.retT (_, _) (.tmp rfl rfl (.tmp rfl rfl .nil)) .more rfl .nil trivial
  · have he : e ≠ 0 := q38
    refine GL.o rfl (S1.mvT rfl) ?_
    refine GL.o rfl (S1.ext (v := (.pointer _)) rfl rfl) ?_
    refine GL.o rfl (S1.ext (v := (.int _ _)) rfl rfl) ?_
    refine GL.o rfl (S1.asP rfl) ?_
    refine GL.o rfl (S1.asI rfl) ?_
    refine GL.dn rfl ?_
    refine GW.toSeq rfl ?_
    refine GW.sr rfl rfl ?_
    refine GL.o rfl (S1.mvI rfl) ?_
    refine GL.o rfl (S1.neq rfl rfl) ?_
    refine GL.dn rfl ?_
    refine GW.toD rfl rfl (fun w5 => ?_) (fun w5 => ?_)
    refine GW.sr rfl rfl ?_
    refine GL.o rfl (S1.mvI rfl) ?_
    refine GL.o rfl (S1.asI rfl) ?_
    refine GL.o rfl (S1.asI rfl) ?_
    refine GL.dn rfl ?_
    refine GW.toRet rfl ?_
    refine GQ.onR ?_
    refine GQ.retT (_, _) (.tmp rfl rfl (.tmp rfl rfl .nil)) .more rfl .nil trivial
    refine GW.toSkip rfl ?_
    refine GQ.on ?_
    refine GW.sr rfl rfl ?_
    refine GL.o rfl (S1.mvP rfl) ?_
    refine GL.o rfl (S1.mvL rfl) ?_
    (exfalso; omega)

end
end Go.Proofs.Ytenkebdjlajanaa
namespace Go.Proofs.Ytenkebdjlajanaa
open Go Go.E
set_option maxRecDepth 100000
set_option maxHeartbeats 4000000

section
variable {h : EH} {hr : RO} {aa ba : Option Addr} {an ac bn bc : Nat}

theorem ct80 {v : Int} (hR : ∀ b o, hr b = some o → h[b]? = some o) (h1 : Cell hr (.sl wy3) (.slice aa an ac)) :
    Ct Try.prog 80 ⟨[.slice aa an ac, .int .i64 v]⟩ h [] (fun x : Int => .int .i64 x) (fun _ => True) (fun _ => []) := by
  have hl1 := h1.le
  refine Ct.go Try.func80 rfl rfl co80 (Hp.start hR) ?_
  refine GW.sr rfl rfl ?_
  refine GL.o rfl (S1.asI rfl) ?_
  refine GL.dn rfl ?_
  refine GW.toSeq rfl ?_
  refine GW.sr rfl rfl ?_
  refine GL.o rfl (S1.mvL rfl) ?_
  refine GL.o rfl (S1.len el23 rfl) ?_
  refine GL.o rfl (S1.mvI rfl) ?_
  refine GL.dn rfl ?_
  refine GW.toBlock rfl ?_
  refine GW.toLoop (X := Nat) (fun x => [(0, .slice aa an ac), (1, .int .i64 v), (7, .int .i64 an), (8, .int .i64 x)]) (fun _ => []) (fun x => x ≤ an) (fun x => an - x) rfl 0 (Nat.zero_le _) (.c rfl (.c rfl (.c rfl (.c rfl .n)))) .nil ?_
  rintro x f hx
  refine GW.sr rfl rfl ?_
  refine GL.o rfl (S1.lss rfl rfl) ?_
  refine GL.dn rfl ?_
  refine GW.toSeq rfl ?_
  refine GW.toD rfl rfl (fun w1 => ?_) (fun w1 => ?_)
  refine GW.toSkip rfl ?_
  refine GQ.on ?_
  refine GW.toSeq rfl ?_
  refine GW.toBlock rfl ?_
  refine GW.sr rfl rfl ?_
  refine GL.o rfl (S1.mvI rfl) ?_
  refine GL.o rfl (S1.asI rfl) ?_
  refine GL.dn rfl ?_
  refine GW.sr rfl rfl ?_
  refine GL.o rfl (S1.mvI rfl) ?_
  refine GL.o rfl (S1.mvL rfl) ?_
  refine GL.o rfl (S1.mvI rfl) ?_
  refine GL.o rfl (S1.ixR el23 h1 rfl rfl (by omega)) ?_
  refine GL.o rfl (S1.ldCI sc3 (z := 1) h1 rfl (m := x) (by omega) rfl (d := 0) rfl rfl) ?_
  refine GL.o rfl (S1.eql rfl rfl) ?_
  refine GL.dn rfl ?_
  refine GW.toD rfl rfl (fun w2 => ?_) (fun w2 => ?_)
  refine GW.sr rfl rfl ?_
  refine GL.o rfl (S1.mvI rfl) ?_
  refine GL.o rfl (S1.asI rfl) ?_
  refine GL.dn rfl ?_
  refine GW.toRet rfl ?_
  refine GQ.outR ?_
  refine GQ.onR ?_
  refine GQ.onR ?_
  refine GQ.outR ?_
  refine GQ.onR ?_
  refine GQ.ret _ (.tmp (v := (.int _ _)) rfl rfl .nil) .one rfl ?_ .nil
  exact trivial
  refine GW.toSkip rfl ?_
  refine GQ.outN ?_
  refine GQ.on ?_
  refine GW.toReg rfl ?_
  refine GL.o rfl (S1.inc rfl rfl (by omega)) ?_
  refine GL.o rfl (S1.mvI rfl) ?_
  refine GL.done rfl ?_
  refine GQ.nextT (x + 1) (.c rfl (.c rfl (.c rfl (.c rfl .n)))) .nil (by first | omega | (dsimp only; omega)) (by first | omega | (dsimp only; omega))
  refine GW.toExit rfl ?_
  refine GQ.onE ?_
  refine GQ.onE ?_
  refine GQ.outH ?_
  refine GQ.on ?_
  refine GW.sr rfl rfl ?_
  refine GL.o rfl (S1.asI rfl) ?_
  refine GL.dn rfl ?_
  refine GW.toRet rfl ?_
  refine GQ.ret _ (.tmp (v := (.int _ _)) rfl rfl .nil) .one rfl ?_ .nil
  exact trivial

theorem ct68 {v : Int} (hR : ∀ b o, hr b = some o → h[b]? = some o) (h1 : Cell hr (.sl wy3) (.slice aa an ac)) :
    Ct Try.prog 68 ⟨[.slice aa an ac, .int .i64 v]⟩ h [] (fun x : Bool => .bool x) (fun _ => True) (fun _ => []) := by
  refine Ct.go Try.func68 rfl rfl co68 (Hp.start hR) ?_
  refine GW.sr rfl rfl ?_
  refine GL.o rfl (S1.asB rfl) ?_
  refine GL.dn rfl ?_
  refine GW.sr rfl rfl ?_
  refine GL.o rfl (S1.mvL rfl) ?_
  refine GL.o rfl (S1.mvI rfl) ?_
  refine GL.call rfl .no fo80 .nil (fun h H => ct80 H.rom h1) (.d (.c (v := (.slice _ _ _)) rfl (.c (v := (.int _ _)) rfl .n))) (fun x80 _ => ?_)
  refine GL.o rfl (S1.geq rfl rfl) ?_
  refine GL.o rfl (S1.asB rfl) ?_
  refine GL.dn rfl ?_
  refine GW.toRet rfl ?_
  refine GQ.ret _ (.tmp (v := (.bool _)) rfl rfl .nil) .one rfl ?_ .nil
  exact trivial

theorem ct61 (hR : ∀ b o, hr b = some o → h[b]? = some o) (h1 : Cell hr (.sl wy3) (.slice aa an ac)) (h2 : Cell hr (.sl wy3) (.slice ba bn bc)) :
    Ct Try.prog 61 ⟨[.slice aa an ac, .slice ba bn bc]⟩ h [] (fun x : Int => .int .i64 x) (fun _ => True) (fun _ => []) := by
  have hl1 := h1.le
  refine Ct.go Try.func61 rfl rfl co61 (Hp.start hR) ?_
  refine GW.sr rfl rfl ?_
  refine GL.o rfl (S1.asI rfl) ?_
  refine GL.dn rfl ?_
  refine GW.toSeq rfl ?_
  refine GW.sr rfl rfl ?_
  refine GL.o rfl (S1.mvL rfl) ?_
  refine GL.o rfl (S1.len el23 rfl) ?_
  refine GL.o rfl (S1.mvI rfl) ?_
  refine GL.dn rfl ?_
  refine GW.toBlock rfl ?_
  refine GW.toLoop (X := Nat × Int) (fun x => [(1, .slice ba bn bc), (4, .int .i64 x.2), (7, .slice aa an ac), (8, .int .i64 an), (9, .int .i64 x.1)]) (fun _ => []) (fun x => x.1 ≤ an) (fun x => an - x.1) rfl (0, 0) (Nat.zero_le _) (.c rfl (.c rfl (.c rfl (.c rfl (.c rfl .n))))) .nil ?_
  rintro x f hx
  refine GW.sr rfl rfl ?_
  refine GL.o rfl (S1.lss rfl rfl) ?_
  refine GL.dn rfl ?_
  refine GW.toSeq rfl ?_
  refine GW.toD rfl rfl (fun w1 => ?_) (fun w1 => ?_)
  refine GW.toSkip rfl ?_
  refine GQ.on ?_
  refine GW.toSeq rfl ?_
  refine GW.toBlock rfl ?_
  refine GW.sr rfl rfl ?_
  refine GL.o rfl (S1.ixR el23 h1 rfl rfl (by omega)) ?_
  refine GL.o rfl (S1.ldCI sc3 (z := 1) h1 rfl (m := x.fst) (by omega) rfl (d := 0) rfl rfl) ?_
  refine GL.o rfl (S1.asI rfl) ?_
  refine GL.dn rfl ?_
  refine GW.sr rfl rfl ?_
  refine GL.o rfl (S1.mvL rfl) ?_
  refine GL.o rfl (S1.mvI rfl) ?_
  refine GL.call rfl .no fo68 .nil (fun h H => ct68 H.rom h2) (.d (.c (v := (.slice _ _ _)) rfl (.c (v := (.int _ _)) rfl .n))) (fun x68 _ => ?_)
  refine GL.dn rfl ?_
  refine GW.toC rfl rfl (fun w3 => ?_) (fun w3 => ?_)
  refine GW.toReg rfl ?_
  refine GL.o rfl (S1.mvI rfl) ?_
  refine GL.o rfl (S1.add rfl rfl) ?_
  refine GL.o rfl (S1.asI rfl) ?_
  refine GL.done rfl ?_
  refine GQ.outN ?_
  refine GQ.on ?_
  refine GW.toReg rfl ?_
  refine GL.o rfl (S1.inc rfl rfl (by omega)) ?_
  refine GL.o rfl (S1.mvI rfl) ?_
  refine GL.done rfl ?_
  refine GQ.nextT (x.1 + 1, _) (.c rfl (.c rfl (.c rfl (.c rfl (.c rfl .n))))) .nil (by first | omega | (dsimp only; omega)) (by first | omega | (dsimp only; omega))
  refine GW.toSkip rfl ?_
  refine GQ.outN ?_
  refine GQ.on ?_
  refine GW.toReg rfl ?_
  refine GL.o rfl (S1.inc rfl rfl (by omega)) ?_
  refine GL.o rfl (S1.mvI rfl) ?_
  refine GL.done rfl ?_
  refine GQ.nextT (x.1 + 1, _) (.c rfl (.c rfl (.c rfl (.c rfl (.c rfl .n))))) .nil (by first | omega | (dsimp only; omega)) (by first | omega | (dsimp only; omega))
  refine GW.toExit rfl ?_
  refine GQ.onE ?_
  refine GQ.onE ?_
  refine GQ.outH ?_
  refine GQ.on ?_
  refine GW.sr rfl rfl ?_
  refine GL.o rfl (S1.mvI rfl) ?_
  refine GL.o rfl (S1.asI rfl) ?_
  refine GL.dn rfl ?_
  refine GW.toRet rfl ?_
  refine GQ.ret _ (.tmp (v := (.int _ _)) rfl rfl .nil) .one rfl ?_ .nil
  exact trivial
end
end Go.Proofs.Ytenkebdjlajanaa
