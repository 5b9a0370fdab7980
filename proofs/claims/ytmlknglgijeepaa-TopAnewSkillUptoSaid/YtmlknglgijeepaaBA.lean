/- B1: contracts: out, IndexFunc, ContainsFunc over integers. -/
import Derived.Test.YtmlknglgijeepaaFA
import Derived.Test.YtmlknglgijeepaaGB
set_option linter.all false
set_option linter.constructorNameAsVariable false
set_option linter.unusedSimpArgs false
set_option linter.unusedVariables false
set_option linter.unusedSectionVars false
set_option linter.unnecessarySimpa false
namespace Go.Proofs.Ytmlknglgijeepaa
open Go Go.E
set_option maxRecDepth 100000

theorem ct79 {h : EH} {lo hi n : Int} {b1 b2 : Nat} (h1 : h[b1]? = some (.cells [.int .i64 lo] none true)) (h2 : h[b2]? = some (.cells [.int .i64 hi] none true)) :
    Ct Try.prog 79 ⟨[.int .i64 n, .pointer (some ⟨b1, 0, none⟩), .pointer (some ⟨b2, 0, none⟩)]⟩ h [] (fun _ : Unit => .bool (decide (n < lo) || decide (hi < n))) (fun _ => True) (fun _ => []) := by
  refine Ct.go Try.func79 rfl rfl co79 (Hp.start (hr := fun _ => none) (by simp)) ?_
  refine GW.toSeq rfl ?_
  refine GW.toReg rfl ?_
  refine GL.one rfl .no (S1.as (v := (.bool _)) rfl) ?_
  refine GL.done rfl ?_
  refine GQ.on ?_
  refine GW.toSeq rfl ?_
  refine GW.toReg rfl ?_
  refine GL.one rfl .no (S1.mv (v := (.int _ _)) rfl) ?_
  refine GL.one rfl .no (S1.ld sc3 rfl (.old0 h1) rfl) ?_
  refine GL.one rfl .no (S1.lss rfl rfl) ?_
  refine GL.one rfl .no (S1.mv (v := (.bool _)) rfl) ?_
  refine GL.splitD 8 rfl (fun w1 => ?_) (fun w1 => ?_)
  refine GL.skip rfl (.not rfl rfl rfl) ?_
  refine GL.skip rfl (.not rfl rfl rfl) ?_
  refine GL.skip rfl (.not rfl rfl rfl) ?_
  refine GL.one rfl .no (S1.pickT (v := (.bool _)) rfl rfl) ?_
  refine GL.one rfl .no (S1.as (v := (.bool _)) rfl) ?_
  refine GL.done rfl ?_
  refine GQ.on ?_
  refine GW.toRet rfl ?_
  refine GQ.ret () (.tmp (v := (.bool _)) rfl rfl .nil) .one ?_ ?_ .nil
  rotate_left
  exact trivial
  refine GL.one rfl (.yes rfl rfl rfl) (S1.mv (v := (.int _ _)) rfl) ?_
  refine GL.one rfl (.yes rfl rfl rfl) (S1.ld sc3 rfl (.old0 h2) rfl) ?_
  refine GL.one rfl (.yes rfl rfl rfl) (S1.gtr rfl rfl) ?_
  refine GL.one rfl .no (S1.pickF (v := (.bool _)) rfl rfl) ?_
  refine GL.one rfl .no (S1.as (v := (.bool _)) rfl) ?_
  refine GL.done rfl ?_
  refine GQ.on ?_
  refine GW.toRet rfl ?_
  refine GQ.ret () (.tmp (v := (.bool _)) rfl rfl .nil) .one ?_ ?_ .nil
  rotate_left
  exact trivial
  all_goals simp [*]

end Go.Proofs.Ytmlknglgijeepaa
namespace Go.Proofs.Ytmlknglgijeepaa
open Go Go.E
set_option maxRecDepth 100000


/-- IndexFunc over integers: what its function may say of each place. -/
theorem ct98 {h : EH} {a : Option Addr} {n c b o g : Nat} {vs : List Value} {opn : Option Nat} {wr : Bool} {x : Nat → Int} {R : Nat → Bool → Prop} {fs cs : List Value} (hn : n ≤ 1073741824) (hf : fnOk Try.prog g = true)
    (ha : 0 < n → a = some ⟨b, o, none⟩ ∧ h[b]? = some (.cells vs opn wr) ∧ ∀ k, k < n → vs[o + k * 1]? = some (.int .i64 (x k)))
    (hg : ∀ (h' : EH) (k : Nat), k < n → Ext h h' → Ct Try.prog g ⟨fs ++ ([.int .i64 (x k)] ++ cs)⟩ h' [] (fun r : Bool => .bool r) (R k) (fun _ => [])) :
    Ct Try.prog 98 ⟨[.slice a n c, .func (.func g) ⟨fs⟩ ⟨cs⟩]⟩ h [] (fun r : Int => .int .i64 r) (fun r => (r = -1 ∧ ∀ k, k < n → R k false) ∨ ∃ k, k < n ∧ r = (k : Int) ∧ R k true) (fun _ => []) := by
  refine Ct.go Try.func98 rfl rfl co98 (Hp.start (hr := fun _ => none) (by simp)) ?_
  refine GW.toSeq rfl ?_
  refine GW.toReg rfl ?_
  refine GL.one rfl .no (S1.as (v := (.int _ _)) rfl) ?_
  refine GL.done rfl ?_
  refine GQ.on ?_
  refine GW.toSeq rfl ?_
  refine GW.toSeq rfl ?_
  refine GW.toReg rfl ?_
  refine GL.one rfl .no (S1.mv (v := (.slice _ _ _)) rfl) ?_
  refine GL.one rfl .no (S1.len el31 rfl) ?_
  refine GL.one rfl .no (S1.mv (v := (.int _ _)) rfl) ?_
  refine GL.done rfl ?_
  refine GQ.on ?_
  refine GW.toBlock rfl ?_
  refine GW.toLoop (fun k : Nat => [(0, .slice a n c), (1, .func (.func g) ⟨fs⟩ ⟨cs⟩), (7, .int .i64 n), (8, .int .i64 k)]) (fun _ => []) (fun k => k ≤ n ∧ ∀ j, j < k → R j false) (fun k => n - k) rfl 0 ⟨Nat.zero_le _, fun j hj => by omega⟩ (.c rfl (.c rfl (.c rfl (.c rfl .n)))) .nil ?_
  rintro k f ⟨hk, hp⟩
  refine GW.toSeq rfl ?_
  refine GW.toReg rfl ?_
  refine GL.one rfl .no (S1.lss rfl rfl) ?_
  refine GL.done rfl ?_
  refine GQ.on ?_
  refine GW.toSeq rfl ?_
  refine GW.toD rfl rfl (fun w1 => ?_) (fun w1 => ?_)
  refine GW.toSkip rfl ?_
  refine GQ.on ?_
  refine GW.toSeq rfl ?_
  refine GW.toBlock rfl ?_
  refine GW.toSeq rfl ?_
  refine GW.toReg rfl ?_
  refine GL.one rfl .no (S1.mv (v := (.int _ _)) rfl) ?_
  refine GL.one rfl .no (S1.as (v := (.int _ _)) rfl) ?_
  refine GL.done rfl ?_
  refine GQ.on ?_
  refine GW.toSeq rfl ?_
  refine GW.toReg rfl ?_
  refine GL.one rfl .no (S1.mv (v := (.func _ _ _)) rfl) ?_
  refine GL.one rfl .no (S1.mv (v := (.slice _ _ _)) rfl) ?_
  refine GL.one rfl .no (S1.mv (v := (.int _ _)) rfl) ?_
  rotate_left
  refine GW.toExit rfl ?_
  refine GQ.onE ?_
  refine GQ.onE ?_
  refine GQ.outH ?_
  refine GQ.on ?_
  refine GW.toSeq rfl ?_
  refine GW.toReg rfl ?_
  refine GL.one rfl .no (S1.as (v := (.int _ _)) rfl) ?_
  refine GL.done rfl ?_
  refine GQ.on ?_
  refine GW.toRet rfl ?_
  refine GQ.ret (-1) (.tmp (v := (.int _ _)) rfl rfl .nil) .one ?_ ?_ .nil
  rfl
  rotate_left
  · obtain ⟨rfl, hb, hx⟩ := ha (by omega)
    refine GL.one rfl .no (S1.ixN el31 rfl rfl (by omega)) ?_
    refine GL.one rfl .no (S1.ld sc3 rfl (.old0 hb) (hx _ (by omega))) ?_
    refine GL.call rfl .no hf .nil (fun h H => hg _ k (by omega) H.ext) (.v rfl (.c (v := (.int _ _)) rfl .n)) ((fun v r => ?_))
    refine GL.done rfl ?_
    refine GQ.on ?_
    refine GW.toC rfl rfl (fun w3 => ?_) (fun w3 => ?_)
    refine GW.toSeq rfl ?_
    refine GW.toReg rfl ?_
    refine GL.one rfl .no (S1.mv (v := (.int _ _)) rfl) ?_
    refine GL.one rfl .no (S1.as (v := (.int _ _)) rfl) ?_
    refine GL.done rfl ?_
    refine GQ.on ?_
    refine GW.toRet rfl ?_
    refine GQ.outR ?_
    refine GQ.onR ?_
    refine GQ.onR ?_
    refine GQ.outR ?_
    refine GQ.onR ?_
    refine GQ.ret (k : Int) (.tmp (v := (.int _ _)) rfl rfl .nil) .one ?_ ?_ .nil
    rfl
    rotate_left
    refine GW.toSkip rfl ?_
    refine GQ.outN ?_
    refine GQ.on ?_
    refine GW.toReg rfl ?_
    refine GL.one rfl .no (S1.inc rfl rfl (by omega)) ?_
    refine GL.one rfl .no (S1.mv (v := (.int _ _)) rfl) ?_
    refine GL.done rfl ?_
    rotate_left
    · exact .inr ⟨k, by omega, rfl, by simp_all⟩
    · refine GQ.next (k + 1) ⟨by omega, fun j hj => ?_⟩ (by omega) (.c rfl (.c rfl (.c rfl (.c rfl .n)))) .nil
      by_cases e : j = k
      · simp_all
      · exact hp j (by omega)
  · exact .inl ⟨rfl, fun j hj => hp j (by omega)⟩


theorem ct78 {h : EH} {a : Option Addr} {n c b o g : Nat} {vs : List Value} {opn : Option Nat} {wr : Bool} {x : Nat → Int} {R : Nat → Bool → Prop} {fs cs : List Value} (hn : n ≤ 1073741824) (hf : fnOk Try.prog g = true)
    (ha : 0 < n → a = some ⟨b, o, none⟩ ∧ h[b]? = some (.cells vs opn wr) ∧ ∀ k, k < n → vs[o + k * 1]? = some (.int .i64 (x k)))
    (hg : ∀ (h' : EH) (k : Nat), k < n → Ext h h' → Ct Try.prog g ⟨fs ++ ([.int .i64 (x k)] ++ cs)⟩ h' [] (fun r : Bool => .bool r) (R k) (fun _ => [])) :
    Ct Try.prog 78 ⟨[.slice a n c, .func (.func g) ⟨fs⟩ ⟨cs⟩]⟩ h [] (fun r : Bool => .bool r) (fun r => (r = false → ∀ k, k < n → R k false) ∧ (r = true → ∃ k, k < n ∧ R k true)) (fun _ => []) := by
  refine Ct.go Try.func78 rfl rfl co78 (Hp.start (hr := fun _ => none) (by simp)) ?_
  refine GW.toSeq rfl ?_
  refine GW.toReg rfl ?_
  refine GL.one rfl .no (S1.as (v := (.bool _)) rfl) ?_
  refine GL.done rfl ?_
  refine GQ.on ?_
  refine GW.toSeq rfl ?_
  refine GW.toReg rfl ?_
  refine GL.one rfl .no (S1.mv (v := (.slice _ _ _)) rfl) ?_
  refine GL.one rfl .no (S1.mv (v := (.func _ _ _)) rfl) ?_
  refine GL.call rfl .no fo98 .nil (fun h H => ct98 hn hf (fun q => ⟨(ha q).1, H.ext _ _ (ha q).2.1, (ha q).2.2⟩) (fun h'' k hk e => hg h'' k hk (H.ext.trans e))) (.d (.c (v := (.slice _ _ _)) rfl (.c (v := (.func _ _ _)) rfl .n))) (fun r1 q1 => ?_)
  refine GL.one rfl .no (S1.geq rfl rfl) ?_
  refine GL.one rfl .no (S1.as (v := (.bool _)) rfl) ?_
  refine GL.done rfl ?_
  refine GQ.on ?_
  refine GW.toRet rfl ?_
  refine GQ.ret (decide (0 ≤ r1)) (.tmp (v := (.bool _)) rfl rfl .nil) .one ?_ ?_ .nil
  rfl
  rcases q1 with ⟨rfl, q⟩ | ⟨k, hk, rfl, q⟩
  · exact ⟨fun _ => q, by simp⟩
  · exact ⟨by simp, fun _ => ⟨k, hk, q⟩⟩

theorem ct38 {h : EH} {lo hi : Int} {a : Option Addr} {n c b o : Nat} {vs : List Value} {opn : Option Nat} {wr : Bool} {x : Nat → Int} (hn : n ≤ 1073741824)
    (ha : 0 < n → a = some ⟨b, o, none⟩ ∧ h[b]? = some (.cells vs opn wr) ∧ ∀ k, k < n → vs[o + k * 1]? = some (.int .i64 (x k))) :
    Ct Try.prog 38 ⟨[.int .i64 lo, .int .i64 hi, .slice a n c]⟩ h [] (fun r : Bool => .bool r) (fun r => (r = false → ∀ k, k < n → outB lo hi (x k) = false) ∧ (r = true → ∃ k, k < n ∧ outB lo hi (x k) = true)) (fun _ => []) := by
  refine Ct.go Try.func38 rfl rfl co38 (Hp.start (hr := fun _ => none) (by simp)) ?_
  refine GW.toSeq rfl ?_
  refine GW.toReg rfl ?_
  refine GL.opN rfl .no (SN.bx (u := (.int _ _)) rfl (.one rfl)) (fun a1 => ?_)
  refine GL.opN rfl .no (SN.bx (u := (.int _ _)) rfl (.one rfl)) (fun a2 => ?_)
  refine GL.one rfl .no (S1.as (v := (.bool _)) rfl) ?_
  refine GL.done rfl ?_
  refine GQ.on ?_
  refine GW.toSeq rfl ?_
  refine GW.toReg rfl ?_
  refine GL.one rfl .no (S1.mv (v := (.slice _ _ _)) rfl) ?_
  refine GL.one rfl .no (S1.mf .n (.c (v := (.pointer _)) rfl (.c (v := (.pointer _)) rfl .n))) ?_
  refine GL.call rfl .no fo78 .nil (fun h H => ct78 (R := fun k r => outB lo hi (x k) = r) hn fo79 (fun q => ⟨(ha q).1, H.ext _ _ (ha q).2.1, (ha q).2.2⟩) (fun h'' k hk e => (ct79 (e _ _ (H.get (.s .z))) (e _ _ (H.get .z))).toBool rfl)) (.d (.c rfl (.c (v := .func _ ⟨[]⟩ ⟨[_, _]⟩) rfl .n))) (fun r q => ?_)
  refine GL.one rfl .no (S1.as (v := (.bool _)) rfl) ?_
  refine GL.done rfl ?_
  refine GQ.on ?_
  refine GW.toRet rfl ?_
  refine GQ.ret r (.tmp (v := (.bool _)) rfl rfl .nil) .one ?_ ?_ .nil
  rfl
  assumption

/-- .. of one number; of two. -/
theorem ct38_1 {h : EH} {lo hi p : Int} {b : Nat} (hb : h[b]? = some (.cells [.int .i64 p] none true)) : Ct Try.prog 38 ⟨[.int .i64 lo, .int .i64 hi, .slice (some ⟨b, 0, none⟩) 1 1]⟩ h [] (fun _ : Unit => .bool (outB lo hi p)) (fun _ => True) (fun _ => []) := by
  refine (ct38 (lo := lo) (hi := hi) (n := 1) (c := 1) (x := fun _ => p) (by omega) fun _ => ⟨rfl, hb, fun k hk => ?_⟩).mono fun r q => ⟨(), ?_, trivial, rfl⟩
  · have : k = 0 := by omega
    subst this; rfl
  · cases r with
    | false => rw [q.1 rfl 0 (by omega)]
    | true =>
      obtain ⟨k, _, e⟩ := q.2 rfl
      rw [e]
theorem ct38_2 {h : EH} {lo hi p q : Int} {b : Nat} (hb : h[b]? = some (.cells [.int .i64 p, .int .i64 q] none true)) : Ct Try.prog 38 ⟨[.int .i64 lo, .int .i64 hi, .slice (some ⟨b, 0, none⟩) 2 2]⟩ h [] (fun _ : Unit => .bool (outB lo hi p || outB lo hi q)) (fun _ => True) (fun _ => []) := by
  refine (ct38 (lo := lo) (hi := hi) (n := 2) (c := 2) (x := fun k => if k = 0 then p else q) (by omega) fun _ => ⟨rfl, hb, fun k hk => ?_⟩).mono fun r w => ⟨(), ?_, trivial, rfl⟩
  · rcases (by omega : k = 0 ∨ k = 1) with rfl | rfl <;> rfl
  · cases r with
    | false =>
      have h0 := w.1 rfl 0 (by omega)
      have h1 := w.1 rfl 1 (by omega)
      simp at h0 h1
      simp [h0, h1]
    | true =>
      obtain ⟨k, hk, e⟩ := w.2 rfl
      rcases (by omega : k = 0 ∨ k = 1) with rfl | rfl <;> simp at e <;> simp [e]
end Go.Proofs.Ytmlknglgijeepaa
namespace Go.Proofs.Ytmlknglgijeepaa
open Go Go.E
set_option maxRecDepth 100000

theorem ct99 {h : EH} {lo hi n : Int} {b1 b2 : Nat} (h1 : h[b1]? = some (.cells [.int .i64 lo] none true)) (h2 : h[b2]? = some (.cells [.int .i64 hi] none true)) :
    Ct Try.prog 99 ⟨[.int .i64 n, .pointer (some ⟨b1, 0, none⟩), .pointer (some ⟨b2, 0, none⟩)]⟩ h [] (fun _ : Unit => .bool (decide (n < lo) || decide (hi < n))) (fun _ => True) (fun _ => []) := by
  refine Ct.go Try.func99 rfl rfl co99 (Hp.start (hr := fun _ => none) (by simp)) ?_
  refine GW.toSeq rfl ?_
  refine GW.toReg rfl ?_
  refine GL.one rfl .no (S1.as (v := (.bool _)) rfl) ?_
  refine GL.done rfl ?_
  refine GQ.on ?_
  refine GW.toSeq rfl ?_
  refine GW.toReg rfl ?_
  refine GL.one rfl .no (S1.mv (v := (.int _ _)) rfl) ?_
  refine GL.one rfl .no (S1.ld sc3 rfl (.old0 h1) rfl) ?_
  refine GL.one rfl .no (S1.lss rfl rfl) ?_
  refine GL.one rfl .no (S1.mv (v := (.bool _)) rfl) ?_
  refine GL.splitD 8 rfl (fun w1 => ?_) (fun w1 => ?_)
  refine GL.skip rfl (.not rfl rfl rfl) ?_
  refine GL.skip rfl (.not rfl rfl rfl) ?_
  refine GL.skip rfl (.not rfl rfl rfl) ?_
  refine GL.one rfl .no (S1.pickT (v := (.bool _)) rfl rfl) ?_
  refine GL.one rfl .no (S1.as (v := (.bool _)) rfl) ?_
  refine GL.done rfl ?_
  refine GQ.on ?_
  refine GW.toRet rfl ?_
  refine GQ.ret () (.tmp (v := (.bool _)) rfl rfl .nil) .one ?_ ?_ .nil
  rotate_left
  exact trivial
  refine GL.one rfl (.yes rfl rfl rfl) (S1.mv (v := (.int _ _)) rfl) ?_
  refine GL.one rfl (.yes rfl rfl rfl) (S1.ld sc3 rfl (.old0 h2) rfl) ?_
  refine GL.one rfl (.yes rfl rfl rfl) (S1.gtr rfl rfl) ?_
  refine GL.one rfl .no (S1.pickF (v := (.bool _)) rfl rfl) ?_
  refine GL.one rfl .no (S1.as (v := (.bool _)) rfl) ?_
  refine GL.done rfl ?_
  refine GQ.on ?_
  refine GW.toRet rfl ?_
  refine GQ.ret () (.tmp (v := (.bool _)) rfl rfl .nil) .one ?_ ?_ .nil
  rotate_left
  exact trivial
  all_goals simp [*]

theorem ct80 {h : EH} {lo hi : Int} {a : Option Addr} {n c b o : Nat} {vs : List Value} {opn : Option Nat} {wr : Bool} {x : Nat → Int} (hn : n ≤ 1073741824)
    (ha : 0 < n → a = some ⟨b, o, none⟩ ∧ h[b]? = some (.cells vs opn wr) ∧ ∀ k, k < n → vs[o + k * 1]? = some (.int .i64 (x k))) :
    Ct Try.prog 80 ⟨[.int .i64 lo, .int .i64 hi, .slice a n c]⟩ h [] (fun r : Bool => .bool r) (fun r => (r = false → ∀ k, k < n → outB lo hi (x k) = false) ∧ (r = true → ∃ k, k < n ∧ outB lo hi (x k) = true)) (fun _ => []) := by
  refine Ct.go Try.func80 rfl rfl co80 (Hp.start (hr := fun _ => none) (by simp)) ?_
  refine GW.toSeq rfl ?_
  refine GW.toReg rfl ?_
  refine GL.opN rfl .no (SN.bx (u := (.int _ _)) rfl (.one rfl)) (fun a1 => ?_)
  refine GL.opN rfl .no (SN.bx (u := (.int _ _)) rfl (.one rfl)) (fun a2 => ?_)
  refine GL.one rfl .no (S1.as (v := (.bool _)) rfl) ?_
  refine GL.done rfl ?_
  refine GQ.on ?_
  refine GW.toSeq rfl ?_
  refine GW.toReg rfl ?_
  refine GL.one rfl .no (S1.mv (v := (.slice _ _ _)) rfl) ?_
  refine GL.one rfl .no (S1.mf .n (.c (v := (.pointer _)) rfl (.c (v := (.pointer _)) rfl .n))) ?_
  refine GL.call rfl .no fo78 .nil (fun h H => ct78 (R := fun k r => outB lo hi (x k) = r) hn fo99 (fun q => ⟨(ha q).1, H.ext _ _ (ha q).2.1, (ha q).2.2⟩) (fun h'' k hk e => (ct99 (e _ _ (H.get (.s .z))) (e _ _ (H.get .z))).toBool rfl)) (.d (.c rfl (.c (v := .func _ ⟨[]⟩ ⟨[_, _]⟩) rfl .n))) (fun r q => ?_)
  refine GL.one rfl .no (S1.as (v := (.bool _)) rfl) ?_
  refine GL.done rfl ?_
  refine GQ.on ?_
  refine GW.toRet rfl ?_
  refine GQ.ret r (.tmp (v := (.bool _)) rfl rfl .nil) .one ?_ ?_ .nil
  rfl
  assumption

theorem dec_pos (s : ByteArray) (p : Nat) : 0 < (Utf8.decode s p).2 := by
  unfold Utf8.decode
  simp only
  repeat' split
  all_goals simp

theorem ct80_1 {h : EH} {lo hi p : Int} {b : Nat} (hb : h[b]? = some (.cells [.int .i64 p] none true)) : Ct Try.prog 80 ⟨[.int .i64 lo, .int .i64 hi, .slice (some ⟨b, 0, none⟩) 1 1]⟩ h [] (fun _ : Unit => .bool (outB lo hi p)) (fun _ => True) (fun _ => []) := by
  refine (ct80 (lo := lo) (hi := hi) (n := 1) (c := 1) (x := fun _ => p) (by omega) fun _ => ⟨rfl, hb, fun k hk => ?_⟩).mono fun r q => ⟨(), ?_, trivial, rfl⟩
  · have : k = 0 := by omega
    subst this; rfl
  · cases r with
    | false => rw [q.1 rfl 0 (by omega)]
    | true =>
      obtain ⟨k, _, e⟩ := q.2 rfl
      rw [e]


theorem ct39 {h : EH} {s : ByteArray} (hs : s.size ≤ 1073741824) : Ct Try.prog 39 ⟨[.string s]⟩ h [] (fun r : Bool => .bool r) (fun _ => True) (fun _ => []) := by
  refine Ct.go Try.func39 rfl rfl co39 (Hp.start (hr := fun _ => none) (by simp)) ?_
  refine GW.toSeq rfl ?_
  refine GW.toReg rfl ?_
  refine GL.one rfl .no (S1.as (v := (.bool _)) rfl) ?_
  refine GL.done rfl ?_
  refine GQ.on ?_
  refine GW.toSeq rfl ?_
  refine GW.toSeq rfl ?_
  refine GW.toReg rfl ?_
  refine GL.one rfl .no (S1.mv (v := (.string _)) rfl) ?_
  refine GL.opN rfl .no (SN.rng st9 rfl) (fun a1 => ?_)
  refine GL.done rfl ?_
  refine GQ.on ?_
  refine GW.toBlock rfl ?_
  refine GW.toLoop (fun p : Nat => [(0, .string s), (6, .pointer (some ⟨a1, 0, none⟩))]) (fun p => [(a1, .str s p)]) (fun _ => True) (fun p => s.size - p) rfl 0 trivial (.c rfl (.c rfl .n)) (.cons .z .nil) ?_
  rintro p f -
  refine GW.toSeq rfl ?_
  refine GW.toReg rfl ?_
  refine GL.nxt rfl .no rfl .z (fun w2 => ?_) (fun w2 => ?_)
  refine GL.one rfl .no (S1.ext (v := (.bool _)) rfl rfl) ?_
  refine GL.done rfl ?_
  refine GQ.on ?_
  refine GW.toSeq rfl ?_
  refine GW.toT rfl rfl ?_
  refine GW.toSkip rfl ?_
  refine GQ.on ?_
  refine GW.toBlock rfl ?_
  refine GW.toSeq rfl ?_
  refine GW.toReg rfl ?_
  refine GL.one rfl .no (S1.ext (v := (.int _ _)) rfl rfl) ?_
  refine GL.one rfl .no (S1.ext (v := (.int _ _)) rfl rfl) ?_
  refine GL.one rfl .no (S1.as (v := (.int _ _)) rfl) ?_
  refine GL.one rfl .no (S1.as (v := (.int _ _)) rfl) ?_
  refine GL.done rfl ?_
  refine GQ.on ?_
  refine GW.toSeq rfl ?_
  refine GW.toReg rfl ?_
  refine GL.one rfl .no (S1.mv (v := (.int _ _)) rfl) ?_
  refine GL.one rfl .no (S1.lss rfl rfl) ?_
  refine GL.one rfl .no (S1.mv (v := (.bool _)) rfl) ?_
  refine GL.splitD 13 rfl (fun w3 => ?_) (fun w3 => ?_)
  refine GL.skip rfl (.not rfl rfl rfl) ?_
  refine GL.skip rfl (.not rfl rfl rfl) ?_
  refine GL.one rfl .no (S1.pickT (v := (.bool _)) rfl rfl) ?_
  refine GL.one rfl .no (S1.mv (v := (.bool _)) rfl) ?_
  refine GL.one rfl (.yes rfl rfl rfl) (S1.mv (v := (.int _ _)) rfl) ?_
  refine GL.one rfl (.yes rfl rfl rfl) (S1.eql rfl rfl) ?_
  refine GL.one rfl (.yes rfl rfl rfl) (S1.mv (v := (.bool _)) rfl) ?_
  refine GL.splitD 20 rfl (fun w4 => ?_) (fun w4 => ?_)
  refine GL.skip rfl (.not rfl rfl rfl) ?_
  refine GL.skip rfl (.not rfl rfl rfl) ?_
  refine GL.one rfl (.yes rfl rfl rfl) (S1.pickT (v := (.bool _)) rfl rfl) ?_
  refine GL.one rfl (.yes rfl rfl rfl) (S1.mv (v := (.bool _)) rfl) ?_
  refine GL.skip rfl (.not rfl rfl rfl) ?_
  refine GL.skip rfl (.not rfl rfl rfl) ?_
  refine GL.one rfl (.yes rfl rfl rfl) (S1.pickT (v := (.bool _)) rfl rfl) ?_
  refine GL.one rfl .no (S1.pickT (v := (.bool _)) rfl rfl) ?_
  refine GL.done rfl ?_
  refine GQ.on ?_
  refine GW.toT rfl rfl ?_
  refine GW.toSeq rfl ?_
  refine GW.toReg rfl ?_
  refine GL.one rfl .no (S1.as (v := (.bool _)) rfl) ?_
  refine GL.done rfl ?_
  refine GQ.on ?_
  refine GW.toRet rfl ?_
  refine GQ.outR ?_
  refine GQ.onR ?_
  refine GQ.outR ?_
  refine GQ.onR ?_
  refine GQ.ret _ (.tmp (v := (.bool _)) rfl rfl .nil) .one rfl ?_ .nil
  exact trivial
  refine GL.one rfl (.yes rfl rfl rfl) (S1.mv (v := (.int _ _)) rfl) ?_
  refine GL.one rfl (.yes rfl rfl rfl) (S1.lss rfl rfl) ?_
  refine GL.one rfl (.yes rfl rfl rfl) (S1.pickF (v := (.bool _)) rfl rfl) ?_
  refine GL.one rfl (.yes rfl rfl rfl) (S1.mv (v := (.bool _)) rfl) ?_
  refine GL.splitD 24 rfl (fun w5 => ?_) (fun w5 => ?_)
  refine GL.skip rfl (.not rfl rfl rfl) ?_
  refine GL.skip rfl (.not rfl rfl rfl) ?_
  refine GL.one rfl (.yes rfl rfl rfl) (S1.pickT (v := (.bool _)) rfl rfl) ?_
  refine GL.one rfl .no (S1.pickT (v := (.bool _)) rfl rfl) ?_
  refine GL.done rfl ?_
  refine GQ.on ?_
  refine GW.toT rfl rfl ?_
  refine GW.toSeq rfl ?_
  refine GW.toReg rfl ?_
  refine GL.one rfl .no (S1.as (v := (.bool _)) rfl) ?_
  refine GL.done rfl ?_
  refine GQ.on ?_
  refine GW.toRet rfl ?_
  refine GQ.outR ?_
  refine GQ.onR ?_
  refine GQ.outR ?_
  refine GQ.onR ?_
  refine GQ.ret _ (.tmp (v := (.bool _)) rfl rfl .nil) .one rfl ?_ .nil
  exact trivial
  refine GL.one rfl (.yes rfl rfl rfl) (S1.mv (v := (.int _ _)) rfl) ?_
  refine GL.one rfl (.yes rfl rfl rfl) (S1.gtr rfl rfl) ?_
  refine GL.one rfl (.yes rfl rfl rfl) (S1.pickF (v := (.bool _)) rfl rfl) ?_
  refine GL.one rfl .no (S1.pickT (v := (.bool _)) rfl rfl) ?_
  refine GL.done rfl ?_
  refine GQ.on ?_
  refine GW.toD rfl rfl (fun w6 => ?_) (fun w6 => ?_)
  refine GW.toSeq rfl ?_
  refine GW.toReg rfl ?_
  refine GL.one rfl .no (S1.as (v := (.bool _)) rfl) ?_
  refine GL.done rfl ?_
  refine GQ.on ?_
  refine GW.toRet rfl ?_
  refine GQ.outR ?_
  refine GQ.onR ?_
  refine GQ.outR ?_
  refine GQ.onR ?_
  refine GQ.ret _ (.tmp (v := (.bool _)) rfl rfl .nil) .one rfl ?_ .nil
  exact trivial
  refine GW.toSkip rfl ?_
  refine GQ.outN ?_
  refine GQ.next (p + (Utf8.decode s p).2) trivial (by have := dec_pos s p; omega) (.c rfl (.c rfl .n)) (.cons .z .nil)
  refine GL.one rfl (.yes rfl rfl rfl) (S1.mv (v := (.int _ _)) rfl) ?_
  refine GL.one rfl (.yes rfl rfl rfl) (S1.gtr rfl rfl) ?_
  refine GL.one rfl .no (S1.pickF (v := (.bool _)) rfl rfl) ?_
  refine GL.one rfl .no (S1.mv (v := (.bool _)) rfl) ?_
  refine GL.splitD 17 rfl (fun w7 => ?_) (fun w7 => ?_)
  refine GL.one rfl (.yes rfl rfl rfl) (S1.mv (v := (.int _ _)) rfl) ?_
  refine GL.one rfl (.yes rfl rfl rfl) (S1.eql rfl rfl) ?_
  refine GL.one rfl (.yes rfl rfl rfl) (S1.mv (v := (.bool _)) rfl) ?_
  refine GL.splitD 20 rfl (fun w8 => ?_) (fun w8 => ?_)
  refine GL.skip rfl (.not rfl rfl rfl) ?_
  refine GL.skip rfl (.not rfl rfl rfl) ?_
  refine GL.one rfl (.yes rfl rfl rfl) (S1.pickT (v := (.bool _)) rfl rfl) ?_
  refine GL.one rfl (.yes rfl rfl rfl) (S1.mv (v := (.bool _)) rfl) ?_
  refine GL.skip rfl (.not rfl rfl rfl) ?_
  refine GL.skip rfl (.not rfl rfl rfl) ?_
  refine GL.one rfl (.yes rfl rfl rfl) (S1.pickT (v := (.bool _)) rfl rfl) ?_
  refine GL.one rfl .no (S1.pickT (v := (.bool _)) rfl rfl) ?_
  refine GL.done rfl ?_
  refine GQ.on ?_
  refine GW.toT rfl rfl ?_
  refine GW.toSeq rfl ?_
  refine GW.toReg rfl ?_
  refine GL.one rfl .no (S1.as (v := (.bool _)) rfl) ?_
  refine GL.done rfl ?_
  refine GQ.on ?_
  refine GW.toRet rfl ?_
  refine GQ.outR ?_
  refine GQ.onR ?_
  refine GQ.outR ?_
  refine GQ.onR ?_
  refine GQ.ret _ (.tmp (v := (.bool _)) rfl rfl .nil) .one rfl ?_ .nil
  exact trivial
  refine GL.one rfl (.yes rfl rfl rfl) (S1.mv (v := (.int _ _)) rfl) ?_
  refine GL.one rfl (.yes rfl rfl rfl) (S1.lss rfl rfl) ?_
  refine GL.one rfl (.yes rfl rfl rfl) (S1.pickF (v := (.bool _)) rfl rfl) ?_
  refine GL.one rfl (.yes rfl rfl rfl) (S1.mv (v := (.bool _)) rfl) ?_
  refine GL.splitD 24 rfl (fun w9 => ?_) (fun w9 => ?_)
  refine GL.skip rfl (.not rfl rfl rfl) ?_
  refine GL.skip rfl (.not rfl rfl rfl) ?_
  refine GL.one rfl (.yes rfl rfl rfl) (S1.pickT (v := (.bool _)) rfl rfl) ?_
  refine GL.one rfl .no (S1.pickT (v := (.bool _)) rfl rfl) ?_
  refine GL.done rfl ?_
  refine GQ.on ?_
  refine GW.toT rfl rfl ?_
  refine GW.toSeq rfl ?_
  refine GW.toReg rfl ?_
  refine GL.one rfl .no (S1.as (v := (.bool _)) rfl) ?_
  refine GL.done rfl ?_
  refine GQ.on ?_
  refine GW.toRet rfl ?_
  refine GQ.outR ?_
  refine GQ.onR ?_
  refine GQ.outR ?_
  refine GQ.onR ?_
  refine GQ.ret _ (.tmp (v := (.bool _)) rfl rfl .nil) .one rfl ?_ .nil
  exact trivial
  refine GL.one rfl (.yes rfl rfl rfl) (S1.mv (v := (.int _ _)) rfl) ?_
  refine GL.one rfl (.yes rfl rfl rfl) (S1.gtr rfl rfl) ?_
  refine GL.one rfl (.yes rfl rfl rfl) (S1.pickF (v := (.bool _)) rfl rfl) ?_
  refine GL.one rfl .no (S1.pickT (v := (.bool _)) rfl rfl) ?_
  refine GL.done rfl ?_
  refine GQ.on ?_
  refine GW.toD rfl rfl (fun w10 => ?_) (fun w10 => ?_)
  refine GW.toSeq rfl ?_
  refine GW.toReg rfl ?_
  refine GL.one rfl .no (S1.as (v := (.bool _)) rfl) ?_
  refine GL.done rfl ?_
  refine GQ.on ?_
  refine GW.toRet rfl ?_
  refine GQ.outR ?_
  refine GQ.onR ?_
  refine GQ.outR ?_
  refine GQ.onR ?_
  refine GQ.ret _ (.tmp (v := (.bool _)) rfl rfl .nil) .one rfl ?_ .nil
  exact trivial
  refine GW.toSkip rfl ?_
  refine GQ.outN ?_
  refine GQ.next (p + (Utf8.decode s p).2) trivial (by have := dec_pos s p; omega) (.c rfl (.c rfl .n)) (.cons .z .nil)
  refine GL.skip rfl (.not rfl rfl rfl) ?_
  refine GL.skip rfl (.not rfl rfl rfl) ?_
  refine GL.skip rfl (.not rfl rfl rfl) ?_
  refine GL.skip rfl (.und rfl rfl rfl) ?_
  refine GL.skip rfl (.und rfl rfl rfl) ?_
  refine GL.skip rfl (.not rfl rfl rfl) ?_
  refine GL.skip rfl (.not rfl rfl rfl) ?_
  refine GL.skip rfl (.und rfl rfl rfl) ?_
  refine GL.skip rfl (.und rfl rfl rfl) ?_
  refine GL.skip rfl (.not rfl rfl rfl) ?_
  refine GL.one rfl .no (S1.pickF (v := (.bool _)) rfl rfl) ?_
  refine GL.done rfl ?_
  refine GQ.on ?_
  refine GW.toF rfl rfl ?_
  refine GW.toSkip rfl ?_
  refine GQ.outN ?_
  refine GQ.next (p + (Utf8.decode s p).2) trivial (by have := dec_pos s p; omega) (.c rfl (.c rfl .n)) (.cons .z .nil)
  refine GL.one rfl .no (S1.ext (v := (.bool _)) rfl rfl) ?_
  refine GL.done rfl ?_
  refine GQ.on ?_
  refine GW.toSeq rfl ?_
  refine GW.toF rfl rfl ?_
  refine GW.toExit rfl ?_
  refine GQ.onE ?_
  refine GQ.onE ?_
  refine GQ.outH ?_
  refine GQ.on ?_
  refine GW.toSeq rfl ?_
  refine GW.toReg rfl ?_
  refine GL.one rfl .no (S1.mv (v := (.string _)) rfl) ?_
  refine GL.one rfl .no (S1.lenS st9 rfl) ?_
  refine GL.opN rfl .no (SN.bs el31 ez31 (.c (v := (.int _ _)) rfl rfl .n) rfl rfl) (fun a11 => ?_)
  refine GL.call rfl .no fo80 .nil (fun h H => ct80_1 (H.get .z)) (.d (.c (v := (.int _ _)) rfl (.c (v := (.int _ _)) rfl (.c (v := (.slice _ _ _)) rfl .n)))) (fun _ _ => ?_)
  refine GL.one rfl .no (S1.not rfl) ?_
  refine GL.one rfl .no (S1.as (v := (.bool _)) rfl) ?_
  refine GL.done rfl ?_
  refine GQ.on ?_
  refine GW.toRet rfl ?_
  refine GQ.ret _ (.tmp (v := (.bool _)) rfl rfl .nil) .one rfl ?_ .nil
  exact trivial
end Go.Proofs.Ytmlknglgijeepaa
namespace Go.Proofs.Ytmlknglgijeepaa
open Go Go.E
set_option maxRecDepth 100000

theorem ct33 {h : EH} {p1 p2 p3 p4 : Option Addr} {n m : Nat} {ns : List Int} {ss : List ByteArray} (hn : n = ns.length) (hm : m = ss.length) (hn3 : n ≤ 1073741824) (hm3 : m ≤ 1073741824) (q1 : Qrow h p1 (ints ns)) (q2 : Qrow h p2 (strs ss)) (q3 : Qrow h p3 (ints ns)) (q4 : Qrow h p4 (strs ss)) :
    Ct Try.prog 33 ⟨[.agg ⟨[.slice p1 n n, .slice p2 m m]⟩, .agg ⟨[.slice p3 n n, .slice p4 m m]⟩]⟩ h [] (fun _ : Unit => .bool true) (fun _ => True) (fun _ => []) := by
  refine Ct.go Try.func33 rfl rfl co33 (Hp.start (hr := fun _ => none) (by simp)) ?_
  refine GW.toSeq rfl ?_
  refine GW.toReg rfl ?_
  refine GL.opN rfl .no (SN.bx (u := .agg ⟨_⟩) rfl .agg) (fun a1 => ?_)
  refine GL.opN rfl .no (SN.bx (u := .agg ⟨_⟩) rfl .agg) (fun a2 => ?_)
  refine GL.one rfl .no (S1.as (v := (.bool _)) rfl) ?_
  refine GL.done rfl ?_
  refine GQ.on ?_
  refine GW.toSeq rfl ?_
  refine GW.toSeq rfl ?_
  refine GW.toReg rfl ?_
  refine GL.one rfl .no (S1.fa fa36_0 rfl) ?_
  refine GL.one rfl .no (S1.ld sc31 rfl (.at (.s .z)) rfl) ?_
  refine GL.one rfl .no (S1.len el31 rfl) ?_
  refine GL.one rfl .no (S1.fa fa36_0 rfl) ?_
  refine GL.one rfl .no (S1.ld sc31 rfl (.at .z) rfl) ?_
  refine GL.one rfl .no (S1.len el31 rfl) ?_
  refine GL.one rfl .no (S1.neq rfl rfl) ?_
  refine GL.one rfl .no (S1.mv (v := (.bool _)) rfl) ?_
  refine GL.splitD 14 rfl (fun w3 => ?_) (fun w3 => ?_)
  refine GL.skip rfl (.not rfl rfl rfl) ?_
  refine GL.skip rfl (.not rfl rfl rfl) ?_
  refine GL.skip rfl (.not rfl rfl rfl) ?_
  refine GL.skip rfl (.not rfl rfl rfl) ?_
  refine GL.skip rfl (.not rfl rfl rfl) ?_
  refine GL.skip rfl (.not rfl rfl rfl) ?_
  refine GL.skip rfl (.not rfl rfl rfl) ?_
  refine GL.one rfl .no (S1.pickT (v := (.bool _)) rfl rfl) ?_
  refine GL.done rfl ?_
  refine GQ.on ?_
  refine GW.toT rfl rfl ?_
  refine GW.toSeq rfl ?_
  refine GW.toReg rfl ?_
  refine GL.one rfl .no (S1.as (v := (.bool _)) rfl) ?_
  refine GL.done rfl ?_
  refine GQ.on ?_
  refine GW.toRet rfl ?_
  refine GQ.onR ?_
  refine GQ.ret () (.tmp (v := (.bool _)) rfl rfl .nil) .one ?_ ?_ .nil
  omega
  exact trivial
  refine GL.one rfl (.yes rfl rfl rfl) (S1.fa fa36_1 rfl) ?_
  refine GL.one rfl (.yes rfl rfl rfl) (S1.ld sc34 rfl (.at (.s .z)) rfl) ?_
  refine GL.one rfl (.yes rfl rfl rfl) (S1.len el34 rfl) ?_
  refine GL.one rfl (.yes rfl rfl rfl) (S1.fa fa36_1 rfl) ?_
  refine GL.one rfl (.yes rfl rfl rfl) (S1.ld sc34 rfl (.at .z) rfl) ?_
  refine GL.one rfl (.yes rfl rfl rfl) (S1.len el34 rfl) ?_
  refine GL.one rfl (.yes rfl rfl rfl) (S1.neq rfl rfl) ?_
  refine GL.one rfl .no (S1.pickF (v := (.bool _)) rfl rfl) ?_
  refine GL.done rfl ?_
  refine GQ.on ?_
  refine GW.toD rfl rfl (fun w4 => ?_) (fun w4 => ?_)
  refine GW.toSeq rfl ?_
  refine GW.toReg rfl ?_
  refine GL.one rfl .no (S1.as (v := (.bool _)) rfl) ?_
  refine GL.done rfl ?_
  refine GQ.on ?_
  refine GW.toRet rfl ?_
  refine GQ.onR ?_
  refine GQ.ret () (.tmp (v := (.bool _)) rfl rfl .nil) .one ?_ ?_ .nil
  omega
  exact trivial
  refine GW.toSkip rfl ?_
  refine GQ.on ?_
  refine GW.toSeq rfl ?_
  refine GW.toSeq rfl ?_
  refine GW.toReg rfl ?_
  refine GL.one rfl .no (S1.as (v := (.int _ _)) rfl) ?_
  refine GL.done rfl ?_
  refine GQ.on ?_
  refine GW.toBlock rfl ?_
  refine GW.toLoop (fun i : Nat => [(2, .pointer (some ⟨a1, 0, none⟩)), (3, .pointer (some ⟨a2, 0, none⟩)), (5, .int .i64 i)]) (fun _ => [(a1, .cells [.slice p1 n n, .slice p2 m m] none true), (a2, .cells [.slice p3 n n, .slice p4 m m] none true)]) (fun i => i ≤ n) (fun i => n - i) rfl 0 (Nat.zero_le _) (.c rfl (.c rfl (.c rfl .n))) (.cons (.s .z) .tz) ?_
  rintro i f hi0
  refine GW.toSeq rfl ?_
  refine GW.toSeq rfl ?_
  refine GW.toReg rfl ?_
  refine GL.one rfl .no (S1.mv (v := (.int _ _)) rfl) ?_
  refine GL.one rfl .no (S1.fa fa36_0 rfl) ?_
  refine GL.one rfl .no (S1.ld sc31 rfl (.at .z) rfl) ?_
  refine GL.one rfl .no (S1.len el31 rfl) ?_
  refine GL.one rfl .no (S1.lss rfl rfl) ?_
  refine GL.done rfl ?_
  refine GQ.on ?_
  refine GW.toD rfl rfl (fun w5 => ?_) (fun w5 => ?_)
  refine GW.toSkip rfl ?_
  refine GQ.on ?_
  refine GW.toSeq rfl ?_
  refine GW.toBlock rfl ?_
  refine GW.toSeq rfl ?_
  refine GW.toDrw mx rfl ?_
  refine GD.one rfl .no (S1.fa fa36_0 rfl) rfl ?_
  refine GD.one rfl .no (S1.ld sc31 rfl (.at .z) rfl) rfl ?_
  refine GD.one rfl .no (S1.mv (v := (.int _ _)) rfl) rfl ?_
  rotate_left
  refine GW.toExit rfl ?_
  refine GQ.onE ?_
  refine GQ.onE ?_
  refine GQ.outH ?_
  refine GQ.on ?_
  refine GW.toSeq rfl ?_
  refine GW.toSeq rfl ?_
  refine GW.toReg rfl ?_
  refine GL.one rfl .no (S1.as (v := (.int _ _)) rfl) ?_
  refine GL.done rfl ?_
  refine GQ.on ?_
  refine GW.toBlock rfl ?_
  rotate_left
  · obtain ⟨b1, rfl, hb1⟩ := q1 (by rw [ints_len]; omega)
    obtain ⟨b3, rfl, hb3⟩ := q3 (by rw [ints_len]; omega)
    refine GD.one rfl .no (S1.ixN el31 rfl rfl (by omega)) rfl ?_
    refine GD.one rfl .no (S1.ld sc3 rfl (.old0 hb1) (ints_get (by omega))) rfl ?_
    refine GD.one rfl .no (S1.fa fa36_0 rfl) rfl ?_
    refine GD.one rfl .no (S1.ld sc31 rfl (.at (.s .z)) rfl) rfl ?_
    refine GD.one rfl .no (S1.mv (v := (.int _ _)) rfl) rfl ?_
    refine GD.one rfl .no (S1.ixN el31 rfl rfl (by omega)) rfl ?_
    refine GD.one rfl .no (S1.ld sc3 rfl (.old0 hb3) (ints_get (by omega))) rfl ?_
    refine GD.one rfl .no (S1.neq rfl rfl) rfl ?_
    refine GD.done rfl ?_
    refine GQ.on ?_
    refine GW.toD rfl rfl (fun w6 => ?_) (fun w6 => ?_)
    refine GW.toSeq rfl ?_
    refine GW.toReg rfl ?_
    refine GL.one rfl .no (S1.as (v := (.bool _)) rfl) ?_
    refine GL.done rfl ?_
    refine GQ.on ?_
    refine GW.toRet rfl ?_
    refine GQ.outR ?_
    refine GQ.onR ?_
    refine GQ.onR ?_
    refine GQ.outR ?_
    refine GQ.onR ?_
    refine GQ.ret () (.tmp (v := (.bool _)) rfl rfl .nil) .one ?_ ?_ .nil
    omega
    exact trivial
    refine GW.toSkip rfl ?_
    refine GQ.outN ?_
    refine GQ.on ?_
    refine GW.toReg rfl ?_
    refine GL.one rfl .no (S1.mv (v := (.int _ _)) rfl) ?_
    refine GL.one rfl .no (S1.inc rfl rfl (by omega)) ?_
    refine GL.one rfl .no (S1.as (v := (.int _ _)) rfl) ?_
    refine GL.done rfl ?_
    refine GQ.next (i + 1) (by omega) (by omega) (.c rfl (.c rfl (.c rfl .n))) .tz
  refine GW.toLoop (fun i : Nat => [(2, .pointer (some ⟨a1, 0, none⟩)), (3, .pointer (some ⟨a2, 0, none⟩)), (6, .int .i64 i)]) (fun _ => [(a1, .cells [.slice p1 n n, .slice p2 m m] none true), (a2, .cells [.slice p3 n n, .slice p4 m m] none true)]) (fun i => i ≤ m) (fun i => m - i) rfl 0 (Nat.zero_le _) (.c rfl (.c rfl (.c rfl .n))) .tz ?_
  rintro j f2 hi1
  refine GW.toSeq rfl ?_
  refine GW.toSeq rfl ?_
  refine GW.toReg rfl ?_
  refine GL.one rfl .no (S1.mv (v := (.int _ _)) rfl) ?_
  refine GL.one rfl .no (S1.fa fa36_1 rfl) ?_
  refine GL.one rfl .no (S1.ld sc34 rfl (.at .z) rfl) ?_
  refine GL.one rfl .no (S1.len el34 rfl) ?_
  refine GL.one rfl .no (S1.lss rfl rfl) ?_
  refine GL.done rfl ?_
  refine GQ.on ?_
  refine GW.toD rfl rfl (fun w7 => ?_) (fun w7 => ?_)
  refine GW.toSkip rfl ?_
  refine GQ.on ?_
  refine GW.toSeq rfl ?_
  refine GW.toBlock rfl ?_
  refine GW.toSeq rfl ?_
  refine GW.toDrw mx rfl ?_
  refine GD.one rfl .no (S1.fa fa36_1 rfl) rfl ?_
  refine GD.one rfl .no (S1.ld sc34 rfl (.at .z) rfl) rfl ?_
  refine GD.one rfl .no (S1.mv (v := (.int _ _)) rfl) rfl ?_
  rotate_left
  refine GW.toExit rfl ?_
  refine GQ.onE ?_
  refine GQ.onE ?_
  refine GQ.outH ?_
  refine GQ.on ?_
  refine GW.toSeq rfl ?_
  refine GW.toReg rfl ?_
  refine GL.one rfl .no (S1.as (v := (.bool _)) rfl) ?_
  refine GL.done rfl ?_
  refine GQ.on ?_
  refine GW.toRet rfl ?_
  refine GQ.ret () (.tmp (v := (.bool _)) rfl rfl .nil) .one ?_ ?_ .nil
  rfl
  exact trivial
  · obtain ⟨b1, rfl, hb1⟩ := q2 (by rw [strs_len]; omega)
    obtain ⟨b3, rfl, hb3⟩ := q4 (by rw [strs_len]; omega)
    refine GD.one rfl .no (S1.ixN el34 rfl rfl (by omega)) rfl ?_
    refine GD.one rfl .no (S1.ld sc9 rfl (.old0 hb1) (strs_get (by omega))) rfl ?_
    refine GD.one rfl .no (S1.fa fa36_1 rfl) rfl ?_
    refine GD.one rfl .no (S1.ld sc34 rfl (.at (.s .z)) rfl) rfl ?_
    refine GD.one rfl .no (S1.mv (v := (.int _ _)) rfl) rfl ?_
    refine GD.one rfl .no (S1.ixN el34 rfl rfl (by omega)) rfl ?_
    refine GD.one rfl .no (S1.ld sc9 rfl (.old0 hb3) (strs_get (by omega))) rfl ?_
    refine GD.one rfl .no (S1.sne rfl rfl) rfl ?_
    refine GD.done rfl ?_
    refine GQ.on ?_
    refine GW.toC rfl rfl (fun w8 => ?_) (fun w8 => ?_)
    refine GW.toSeq rfl ?_
    refine GW.toReg rfl ?_
    refine GL.one rfl .no (S1.as (v := (.bool _)) rfl) ?_
    refine GL.done rfl ?_
    refine GQ.on ?_
    refine GW.toRet rfl ?_
    refine GQ.outR ?_
    refine GQ.onR ?_
    refine GQ.onR ?_
    refine GQ.outR ?_
    refine GQ.onR ?_
    refine GQ.ret () (.tmp (v := (.bool _)) rfl rfl .nil) .one ?_ ?_ .nil
    rotate_left
    exact trivial
    refine GW.toSkip rfl ?_
    refine GQ.outN ?_
    refine GQ.on ?_
    refine GW.toReg rfl ?_
    refine GL.one rfl .no (S1.mv (v := (.int _ _)) rfl) ?_
    refine GL.one rfl .no (S1.inc rfl rfl (by omega)) ?_
    refine GL.one rfl .no (S1.as (v := (.int _ _)) rfl) ?_
    refine GL.done rfl ?_
    refine GQ.next (j + 1) (by omega) (by omega) (.c rfl (.c rfl (.c rfl .n))) .tz
    all_goals simp_all

theorem ct5 {h : EH} {hr : RO} {xs : List Value} {xb g : Nat} {ns : List Int} {ss : List ByteArray} (hR : ∀ b o, hr b = some o → h[b]? = some o) (hx : h[xb]? = some (.cells xs none true)) (hxo : hr xb = none) (hf : fnOk Try.prog g = true)
    (hn : ns.length ≤ 1073741824) (hs : ss.length ≤ 1073741824) (D : ∀ xb hb h, GoodA hr xs zero2 xb hb h → Twice Try.prog g xb hb h ns ss) :
    Ct Try.prog 5 ⟨[.func (.func g) ⟨[]⟩ ⟨[.pointer (some ⟨xb, 0, none⟩)]⟩]⟩ h [] (fun _ : Unit => .bool true) (fun _ => True) (fun _ => []) := by
  refine Ct.go Try.func5 rfl rfl co5 (Hp.start hR) ?_
  refine GW.toSeq rfl ?_
  refine GW.toReg rfl ?_
  refine GL.one rfl .no (S1.as (v := (.bool _)) rfl) ?_
  refine GL.done rfl ?_
  refine GQ.on ?_
  refine GW.toSeq rfl ?_
  refine GW.toReg rfl ?_
  refine GL.opN rfl .no (SN.al zc36) (fun a1 => ?_)
  refine GL.opN rfl .no (SN.al zc36) (fun a2 => ?_)
  refine GL.done rfl ?_
  refine GQ.on ?_
  refine GW.toSeq rfl ?_
  refine GW.toReg rfl ?_
  refine GL.one rfl .no (S1.mv (v := (.func _ _ _)) rfl) ?_
  have good1 : ∀ H, Hp hr h [] [(a2, .cells zero2 none true), (a1, .cells zero2 none true)] H → GoodA hr xs zero2 xb a1 H := fun H K =>
    ⟨K.rom, K.old _ _ hx (by simp), K.get (.s .z), hxo, K.off _ (.tail _ (.head _)), by have := get_lt hx; have := K.own _ (.tail _ (.head _)); simp at this; omega⟩
  refine GL.callG (C' := fun (x : Nat × List Value) h1 => ∃ H v2 h2, Hp hr h [] [(a2, .cells zero2 none true), (a1, .cells zero2 none true)] H ∧ SndFn Try.prog x.1 ⟨x.2⟩ h1 (.ret v2) h2 ∧ H.length ≤ h2.length ∧ HS H.length h2 a1 ns ss ∧ Keep a1 H h2)
    (V := fun x => .func (.func x.1) ⟨[]⟩ ⟨x.2⟩) (R := fun x => fnOk Try.prog x.1 = true) rfl .no hf (fun H K => ?_) (.v rfl (.c (v := .pointer _) rfl .n)) (fun x hfw => ?_)
  · obtain ⟨fw, ⟨cs⟩, h1, v2, h2, k0, k1, k2, k3, k4, k5, k5', k6, k6'⟩ := D xb a1 H (good1 H K)
    exact ⟨_, _, k1, (fw, cs), rfl, k0, H, v2, h2, K, k2, Nat.le_trans k3 k4, k5', k6'⟩
  obtain ⟨fw, cs⟩ := x
  refine GL.one rfl .no (S1.as (v := (.func _ _ _)) rfl) ?_
  refine GL.done rfl ?_
  refine GQ.on ?_
  refine GW.toSeq rfl ?_
  refine GW.toReg rfl ?_
  refine GL.one rfl .no (S1.mv (v := (.func _ _ _)) rfl) ?_
  refine GL.callG (X := Value) (V := fun x => x) (R := fun _ => True) (C' := fun _ h2 => ∃ H, Hp hr h [] [(a2, .cells zero2 none true), (a1, .cells zero2 none true)] H ∧ H.length ≤ h2.length ∧ HS H.length h2 a1 ns ss ∧ Keep a1 H h2) rfl .no hfw (fun H K => ?_) (.v rfl .n) (fun x _ => ?_)
  · obtain ⟨H0, v2, h2, q1, q2, q3, q4, q5⟩ := K
    exact ⟨_, _, q2, v2, rfl, trivial, H0, q1, q3, q4, q5⟩
  refine GL.done rfl ?_
  refine GQ.on ?_
  refine GW.toSeq rfl ?_
  refine GW.toReg rfl ?_
  refine GL.one rfl .no (S1.mv (v := (.func _ _ _)) rfl) ?_
  refine GL.callG (X := Value × Option Addr × Option Addr × Option Addr × Option Addr) (V := fun x => x.1) (R := fun _ => True)
    (C' := fun x h3 => Post [] h h3 [] ∧ h3[a1]? = some (.cells [.slice x.2.1 ns.length ns.length, .slice x.2.2.1 ss.length ss.length] none true) ∧ h3[a2]? = some (.cells [.slice x.2.2.2.1 ns.length ns.length, .slice x.2.2.2.2 ss.length ss.length] none true) ∧
      Qrow h3 x.2.1 (ints ns) ∧ Qrow h3 x.2.2.1 (strs ss) ∧ Qrow h3 x.2.2.2.1 (ints ns) ∧ Qrow h3 x.2.2.2.2 (strs ss)) rfl .no hf (fun h2 K => ?_) (.v rfl (.c (v := .pointer _) rfl .n)) (fun x _ => ?_)
  · obtain ⟨H, K, hl, hs1, kp⟩ := K
    have l1 : a1 < H.length := K.lt (.tail _ (.head _))
    have l2 : a2 < H.length := K.lt (.head _)
    have o1 : h.length ≤ a1 := by have := K.own _ (.tail _ (.head _)); simpa using this
    have o2 : h.length ≤ a2 := by have := K.own _ (.head _); simpa using this
    have ne : a2 ≠ a1 := by have := K.nd; simp at this; exact this
    have n1 := K.off _ (.tail _ (.head _))
    have n2 := K.off _ (.head _)
    have hxl := get_lt hx
    have g2 : GoodA hr xs zero2 xb a2 h2 := by
      refine ⟨fun b o e => kp _ _ (K.rom _ _ e) ?_, kp _ _ (K.old _ _ hx (by simp)) (by omega), kp _ _ (K.get .z) ne, hxo, n2, by omega⟩
      rintro rfl
      simp only at n1
      rw [n1] at e; cases e
    obtain ⟨fw2, cs2, h3, v4, h4, k0, k1, k2, k3, k4, k5, _, k6, _⟩ := D xb a2 h2 g2
    have hs2 := hs1.keep k6 (Ne.symm ne) l2 (Nat.le_refl _)
    obtain ⟨vn, vs, e1, r1, r2⟩ := hs2
    obtain ⟨wn, ws, e2, r3, r4⟩ := k5
    obtain ⟨p1, rfl, u1⟩ := r1.slice
    obtain ⟨p2, rfl, u2⟩ := r2.slice
    obtain ⟨p3, rfl, u3⟩ := r3.slice
    obtain ⟨p4, rfl, u4⟩ := r4.slice
    rw [ints_len] at e1 e2
    rw [strs_len] at e1 e2
    refine ⟨_, _, k1, (_, p1, p2, p3, p4), rfl, trivial, ⟨fun b o e _ => ?_, ?_, by simp, by simp, by simp⟩, e1, e2, u1, u2, u3, u4⟩
    · have hb := get_lt e
      exact k6 _ _ (kp _ _ (K.old _ _ e (by simp)) (by omega)) (by omega)
    · have := K.len; omega
  obtain ⟨w, p1, p2, p3, p4⟩ := x
  refine GL.done rfl ?_
  refine GQ.on ?_
  refine GW.toSeq rfl ?_
  refine GW.toReg rfl ?_
  refine GL.one rfl .no (S1.ldW ag36 rfl (fun h3 K => K.2.1) rfl) ?_
  refine GL.one rfl .no (S1.ldW ag36 rfl (fun h3 K => K.2.2.1) rfl) ?_
  refine GL.callG (X := Unit) (V := fun _ => .bool true) (R := fun _ => True) (C' := fun _ h4 => Hp (fun _ => none) h [] [] h4) rfl .no fo33 (fun h3 K => ?_) (.d (.c rfl (.c rfl .n))) (fun _ _ => ?_)
  · refine WF.mono (ct33 rfl rfl hn hs K.2.2.2.1 K.2.2.2.2.1 K.2.2.2.2.2.1 K.2.2.2.2.2.2) fun o h4 q => ?_
    cases o with
    | pan v => exact q.elim
    | ret v =>
      obtain ⟨_, rfl, _, P2⟩ := q
      exact ⟨(), rfl, trivial, fun b o e _ => P2.old _ _ (K.1.old _ _ e (by simp)) (by simp), Nat.le_trans K.1.len P2.len, by simp, by simp, by simp, by simp, by simp⟩
  refine GL.one rfl .no (S1.as (v := (.bool _)) rfl) ?_
  refine GL.done rfl ?_
  refine GQ.on ?_
  refine GW.toRet rfl ?_
  refine GQ.ret () (.tmp (v := (.bool _)) rfl rfl .nil) .one ?_ ?_ .nil
  rfl
  exact trivial
end Go.Proofs.Ytmlknglgijeepaa
namespace Go.Proofs.Ytmlknglgijeepaa
open Go Go.E
set_option maxRecDepth 100000


theorem outB_e {lo hi n : Int} : (outB lo hi n = false) ↔ (lo ≤ n ∧ n ≤ hi) := ⟨outB_f, outB_in⟩

/-- IndexFunc over a typed list. -/
theorem ct81 {h : EH} {hr : RO} {a : Option Addr} {n c g : Nat} {R : Nat → Bool → Prop} {fs cs : List Value} (hR : ∀ b o, hr b = some o → h[b]? = some o) (hc : Cell hr (.sl ly75) (.slice a n c)) (hf : fnOk Try.prog g = true)
    (hg : ∀ (h' : EH) (k : Nat), k < n → Ext h h' → Ct Try.prog g ⟨fs ++ ([.agg ⟨[.string (sv (el hr a (k * 5))), .int .i64 (iv (el hr a (k * 5 + 1))), .int .i64 (iv (el hr a (k * 5 + 2))), .int .i64 (iv (el hr a (k * 5 + 3))), .int .i64 (iv (el hr a (k * 5 + 4)))]⟩] ++ cs)⟩ h' [] (fun r : Bool => .bool r) (R k) (fun _ => [])) :
    Ct Try.prog 81 ⟨[.slice a n c, .func (.func g) ⟨fs⟩ ⟨cs⟩]⟩ h [] (fun r : Int => .int .i64 r) (fun r => (r = -1 ∧ ∀ k, k < n → R k false) ∨ ∃ k, k < n ∧ r = (k : Int) ∧ R k true) (fun _ => []) := by
  have hl := hc.le
  refine Ct.go Try.func81 rfl rfl co81 (Hp.start hR) ?_
  refine GW.toSeq rfl ?_
  refine GW.toReg rfl ?_
  refine GL.one rfl .no (S1.as (v := (.int _ _)) rfl) ?_
  refine GL.done rfl ?_
  refine GQ.on ?_
  refine GW.toSeq rfl ?_
  refine GW.toSeq rfl ?_
  refine GW.toReg rfl ?_
  refine GL.one rfl .no (S1.mv (v := (.slice _ _ _)) rfl) ?_
  refine GL.one rfl .no (S1.len el22 rfl) ?_
  refine GL.one rfl .no (S1.mv (v := (.int _ _)) rfl) ?_
  refine GL.done rfl ?_
  refine GQ.on ?_
  refine GW.toBlock rfl ?_
  refine GW.toLoop (fun k : Nat => [(0, .slice a n c), (1, .func (.func g) ⟨fs⟩ ⟨cs⟩), (7, .int .i64 n), (8, .int .i64 k)]) (fun _ => []) (fun k => k ≤ n ∧ ∀ j, j < k → R j false) (fun k => n - k) rfl 0 ⟨Nat.zero_le _, fun j hj => by omega⟩ (.c rfl (.c rfl (.c rfl (.c rfl .n)))) .nil ?_
  rintro k f ⟨hk, hp⟩
  refine GW.toSeq rfl ?_
  refine GW.toReg rfl ?_
  refine GL.one rfl .no (S1.lss rfl rfl) ?_
  refine GL.done rfl ?_
  refine GQ.on ?_
  refine GW.toSeq rfl ?_
  refine GW.toD rfl rfl (fun w1 => ?_) (fun w1 => ?_)
  refine GW.toSkip rfl ?_
  refine GQ.on ?_
  refine GW.toSeq rfl ?_
  refine GW.toBlock rfl ?_
  refine GW.toSeq rfl ?_
  refine GW.toReg rfl ?_
  refine GL.one rfl .no (S1.mv (v := (.int _ _)) rfl) ?_
  refine GL.one rfl .no (S1.as (v := (.int _ _)) rfl) ?_
  refine GL.done rfl ?_
  refine GQ.on ?_
  refine GW.toSeq rfl ?_
  refine GW.toReg rfl ?_
  refine GL.one rfl .no (S1.mv (v := (.func _ _ _)) rfl) ?_
  refine GL.one rfl .no (S1.mv (v := (.slice _ _ _)) rfl) ?_
  refine GL.one rfl .no (S1.mv (v := (.int _ _)) rfl) ?_
  refine GL.one rfl .no (S1.ixR el22 hc rfl rfl (by omega)) ?_
  refine GL.one rfl .no (S1.ldE ag75 hc rfl (m := k) (by omega) rfl le75) ?_
  refine GL.call rfl .no hf .nil (fun h H => hg _ k (by omega) H.ext) (.v rfl (.c (v := (.agg _)) rfl .n)) ((fun v r => ?_))
  refine GL.done rfl ?_
  refine GQ.on ?_
  refine GW.toC rfl rfl (fun w3 => ?_) (fun w3 => ?_)
  refine GW.toSeq rfl ?_
  refine GW.toReg rfl ?_
  refine GL.one rfl .no (S1.mv (v := (.int _ _)) rfl) ?_
  refine GL.one rfl .no (S1.as (v := (.int _ _)) rfl) ?_
  refine GL.done rfl ?_
  refine GQ.on ?_
  refine GW.toRet rfl ?_
  refine GQ.outR ?_
  refine GQ.onR ?_
  refine GQ.onR ?_
  refine GQ.outR ?_
  refine GQ.onR ?_
  refine GQ.ret _ (.tmp (v := (.int _ _)) rfl rfl .nil) .one rfl ?_ .nil
  rotate_left
  refine GW.toSkip rfl ?_
  refine GQ.outN ?_
  refine GQ.on ?_
  refine GW.toReg rfl ?_
  refine GL.one rfl .no (S1.inc rfl rfl (by omega)) ?_
  refine GL.one rfl .no (S1.mv (v := (.int _ _)) rfl) ?_
  refine GL.done rfl ?_
  rotate_left
  refine GW.toExit rfl ?_
  refine GQ.onE ?_
  refine GQ.onE ?_
  refine GQ.outH ?_
  refine GQ.on ?_
  refine GW.toSeq rfl ?_
  refine GW.toReg rfl ?_
  refine GL.one rfl .no (S1.as (v := (.int _ _)) rfl) ?_
  refine GL.done rfl ?_
  refine GQ.on ?_
  refine GW.toRet rfl ?_
  refine GQ.ret _ (.tmp (v := (.int _ _)) rfl rfl .nil) .one rfl ?_ .nil
  rotate_left
  · exact .inr ⟨k, by omega, rfl, by simp_all⟩
  · refine GQ.next (k + 1) ⟨by omega, fun j hj => ?_⟩ (by omega) (.c rfl (.c rfl (.c rfl (.c rfl .n)))) .nil
    by_cases e : j = k
    · simp_all
    · exact hp j (by omega)
  · exact .inl ⟨rfl, fun j hj => hp j (by omega)⟩


theorem ct40 {h : EH} {hr : RO} {a : Option Addr} {n c g : Nat} {R : Nat → Bool → Prop} {fs cs : List Value} (hR : ∀ b o, hr b = some o → h[b]? = some o) (hc : Cell hr (.sl ly75) (.slice a n c)) (hf : fnOk Try.prog g = true)
    (hg : ∀ (h' : EH) (k : Nat), k < n → Ext h h' → Ct Try.prog g ⟨fs ++ ([.agg ⟨[.string (sv (el hr a (k * 5))), .int .i64 (iv (el hr a (k * 5 + 1))), .int .i64 (iv (el hr a (k * 5 + 2))), .int .i64 (iv (el hr a (k * 5 + 3))), .int .i64 (iv (el hr a (k * 5 + 4)))]⟩] ++ cs)⟩ h' [] (fun r : Bool => .bool r) (R k) (fun _ => [])) :
    Ct Try.prog 40 ⟨[.slice a n c, .func (.func g) ⟨fs⟩ ⟨cs⟩]⟩ h [] (fun r : Bool => .bool r) (fun r => (r = false → ∀ k, k < n → R k false) ∧ (r = true → ∃ k, k < n ∧ R k true)) (fun _ => []) := by
  refine Ct.go Try.func40 rfl rfl co40 (Hp.start hR) ?_
  refine GW.toSeq rfl ?_
  refine GW.toReg rfl ?_
  refine GL.one rfl .no (S1.as (v := (.bool _)) rfl) ?_
  refine GL.done rfl ?_
  refine GQ.on ?_
  refine GW.toSeq rfl ?_
  refine GW.toReg rfl ?_
  refine GL.one rfl .no (S1.mv (v := (.slice _ _ _)) rfl) ?_
  refine GL.one rfl .no (S1.mv (v := (.func _ _ _)) rfl) ?_
  refine GL.call rfl .no fo81 .nil (fun h H => ct81 H.rom hc hf (fun h'' k hk e => hg h'' k hk (H.ext.trans e))) (.d (.c (v := (.slice _ _ _)) rfl (.c (v := (.func _ _ _)) rfl .n))) (fun r1 q1 => ?_)
  refine GL.one rfl .no (S1.geq rfl rfl) ?_
  refine GL.one rfl .no (S1.as (v := (.bool _)) rfl) ?_
  refine GL.done rfl ?_
  refine GQ.on ?_
  refine GW.toRet rfl ?_
  refine GQ.ret (decide (0 ≤ r1)) (.tmp (v := (.bool _)) rfl rfl .nil) .one ?_ ?_ .nil
  rfl
  rcases q1 with ⟨rfl, q⟩ | ⟨k, hk, rfl, q⟩
  · exact ⟨fun _ => q, by simp⟩
  · exact ⟨by simp, fun _ => ⟨k, hk, q⟩⟩


/-- IndexFunc over a typed list. -/
theorem ct82 {h : EH} {hr : RO} {a : Option Addr} {n c g : Nat} {R : Nat → Bool → Prop} {fs cs : List Value} (hR : ∀ b o, hr b = some o → h[b]? = some o) (hc : Cell hr (.sl ly80) (.slice a n c)) (hf : fnOk Try.prog g = true)
    (hg : ∀ (h' : EH) (k : Nat), k < n → Ext h h' → Ct Try.prog g ⟨fs ++ ([.agg ⟨[.string (sv (el hr a (k * 3))), .int .i64 (iv (el hr a (k * 3 + 1))), .int .i64 (iv (el hr a (k * 3 + 2)))]⟩] ++ cs)⟩ h' [] (fun r : Bool => .bool r) (R k) (fun _ => [])) :
    Ct Try.prog 82 ⟨[.slice a n c, .func (.func g) ⟨fs⟩ ⟨cs⟩]⟩ h [] (fun r : Int => .int .i64 r) (fun r => (r = -1 ∧ ∀ k, k < n → R k false) ∨ ∃ k, k < n ∧ r = (k : Int) ∧ R k true) (fun _ => []) := by
  have hl := hc.le
  refine Ct.go Try.func82 rfl rfl co82 (Hp.start hR) ?_
  refine GW.toSeq rfl ?_
  refine GW.toReg rfl ?_
  refine GL.one rfl .no (S1.as (v := (.int _ _)) rfl) ?_
  refine GL.done rfl ?_
  refine GQ.on ?_
  refine GW.toSeq rfl ?_
  refine GW.toSeq rfl ?_
  refine GW.toReg rfl ?_
  refine GL.one rfl .no (S1.mv (v := (.slice _ _ _)) rfl) ?_
  refine GL.one rfl .no (S1.len el23 rfl) ?_
  refine GL.one rfl .no (S1.mv (v := (.int _ _)) rfl) ?_
  refine GL.done rfl ?_
  refine GQ.on ?_
  refine GW.toBlock rfl ?_
  refine GW.toLoop (fun k : Nat => [(0, .slice a n c), (1, .func (.func g) ⟨fs⟩ ⟨cs⟩), (7, .int .i64 n), (8, .int .i64 k)]) (fun _ => []) (fun k => k ≤ n ∧ ∀ j, j < k → R j false) (fun k => n - k) rfl 0 ⟨Nat.zero_le _, fun j hj => by omega⟩ (.c rfl (.c rfl (.c rfl (.c rfl .n)))) .nil ?_
  rintro k f ⟨hk, hp⟩
  refine GW.toSeq rfl ?_
  refine GW.toReg rfl ?_
  refine GL.one rfl .no (S1.lss rfl rfl) ?_
  refine GL.done rfl ?_
  refine GQ.on ?_
  refine GW.toSeq rfl ?_
  refine GW.toD rfl rfl (fun w1 => ?_) (fun w1 => ?_)
  refine GW.toSkip rfl ?_
  refine GQ.on ?_
  refine GW.toSeq rfl ?_
  refine GW.toBlock rfl ?_
  refine GW.toSeq rfl ?_
  refine GW.toReg rfl ?_
  refine GL.one rfl .no (S1.mv (v := (.int _ _)) rfl) ?_
  refine GL.one rfl .no (S1.as (v := (.int _ _)) rfl) ?_
  refine GL.done rfl ?_
  refine GQ.on ?_
  refine GW.toSeq rfl ?_
  refine GW.toReg rfl ?_
  refine GL.one rfl .no (S1.mv (v := (.func _ _ _)) rfl) ?_
  refine GL.one rfl .no (S1.mv (v := (.slice _ _ _)) rfl) ?_
  refine GL.one rfl .no (S1.mv (v := (.int _ _)) rfl) ?_
  refine GL.one rfl .no (S1.ixR el23 hc rfl rfl (by omega)) ?_
  refine GL.one rfl .no (S1.ldE ag80 hc rfl (m := k) (by omega) rfl le80) ?_
  refine GL.call rfl .no hf .nil (fun h H => hg _ k (by omega) H.ext) (.v rfl (.c (v := (.agg _)) rfl .n)) ((fun v r => ?_))
  refine GL.done rfl ?_
  refine GQ.on ?_
  refine GW.toC rfl rfl (fun w3 => ?_) (fun w3 => ?_)
  refine GW.toSeq rfl ?_
  refine GW.toReg rfl ?_
  refine GL.one rfl .no (S1.mv (v := (.int _ _)) rfl) ?_
  refine GL.one rfl .no (S1.as (v := (.int _ _)) rfl) ?_
  refine GL.done rfl ?_
  refine GQ.on ?_
  refine GW.toRet rfl ?_
  refine GQ.outR ?_
  refine GQ.onR ?_
  refine GQ.onR ?_
  refine GQ.outR ?_
  refine GQ.onR ?_
  refine GQ.ret _ (.tmp (v := (.int _ _)) rfl rfl .nil) .one rfl ?_ .nil
  rotate_left
  refine GW.toSkip rfl ?_
  refine GQ.outN ?_
  refine GQ.on ?_
  refine GW.toReg rfl ?_
  refine GL.one rfl .no (S1.inc rfl rfl (by omega)) ?_
  refine GL.one rfl .no (S1.mv (v := (.int _ _)) rfl) ?_
  refine GL.done rfl ?_
  rotate_left
  refine GW.toExit rfl ?_
  refine GQ.onE ?_
  refine GQ.onE ?_
  refine GQ.outH ?_
  refine GQ.on ?_
  refine GW.toSeq rfl ?_
  refine GW.toReg rfl ?_
  refine GL.one rfl .no (S1.as (v := (.int _ _)) rfl) ?_
  refine GL.done rfl ?_
  refine GQ.on ?_
  refine GW.toRet rfl ?_
  refine GQ.ret _ (.tmp (v := (.int _ _)) rfl rfl .nil) .one rfl ?_ .nil
  rotate_left
  · exact .inr ⟨k, by omega, rfl, by simp_all⟩
  · refine GQ.next (k + 1) ⟨by omega, fun j hj => ?_⟩ (by omega) (.c rfl (.c rfl (.c rfl (.c rfl .n)))) .nil
    by_cases e : j = k
    · simp_all
    · exact hp j (by omega)
  · exact .inl ⟨rfl, fun j hj => hp j (by omega)⟩


theorem ct42 {h : EH} {hr : RO} {a : Option Addr} {n c g : Nat} {R : Nat → Bool → Prop} {fs cs : List Value} (hR : ∀ b o, hr b = some o → h[b]? = some o) (hc : Cell hr (.sl ly80) (.slice a n c)) (hf : fnOk Try.prog g = true)
    (hg : ∀ (h' : EH) (k : Nat), k < n → Ext h h' → Ct Try.prog g ⟨fs ++ ([.agg ⟨[.string (sv (el hr a (k * 3))), .int .i64 (iv (el hr a (k * 3 + 1))), .int .i64 (iv (el hr a (k * 3 + 2)))]⟩] ++ cs)⟩ h' [] (fun r : Bool => .bool r) (R k) (fun _ => [])) :
    Ct Try.prog 42 ⟨[.slice a n c, .func (.func g) ⟨fs⟩ ⟨cs⟩]⟩ h [] (fun r : Bool => .bool r) (fun r => (r = false → ∀ k, k < n → R k false) ∧ (r = true → ∃ k, k < n ∧ R k true)) (fun _ => []) := by
  refine Ct.go Try.func42 rfl rfl co42 (Hp.start hR) ?_
  refine GW.toSeq rfl ?_
  refine GW.toReg rfl ?_
  refine GL.one rfl .no (S1.as (v := (.bool _)) rfl) ?_
  refine GL.done rfl ?_
  refine GQ.on ?_
  refine GW.toSeq rfl ?_
  refine GW.toReg rfl ?_
  refine GL.one rfl .no (S1.mv (v := (.slice _ _ _)) rfl) ?_
  refine GL.one rfl .no (S1.mv (v := (.func _ _ _)) rfl) ?_
  refine GL.call rfl .no fo82 .nil (fun h H => ct82 H.rom hc hf (fun h'' k hk e => hg h'' k hk (H.ext.trans e))) (.d (.c (v := (.slice _ _ _)) rfl (.c (v := (.func _ _ _)) rfl .n))) (fun r1 q1 => ?_)
  refine GL.one rfl .no (S1.geq rfl rfl) ?_
  refine GL.one rfl .no (S1.as (v := (.bool _)) rfl) ?_
  refine GL.done rfl ?_
  refine GQ.on ?_
  refine GW.toRet rfl ?_
  refine GQ.ret (decide (0 ≤ r1)) (.tmp (v := (.bool _)) rfl rfl .nil) .one ?_ ?_ .nil
  rfl
  rcases q1 with ⟨rfl, q⟩ | ⟨k, hk, rfl, q⟩
  · exact ⟨fun _ => q, by simp⟩
  · exact ⟨by simp, fun _ => ⟨k, hk, q⟩⟩


theorem ct38_4 {h : EH} {lo hi p q r t : Int} {b : Nat} (hb : h[b]? = some (.cells [.int .i64 p, .int .i64 q, .int .i64 r, .int .i64 t] none true)) : Ct Try.prog 38 ⟨[.int .i64 lo, .int .i64 hi, .slice (some ⟨b, 0, none⟩) 4 4]⟩ h [] (fun r : Bool => .bool r) (fun _ => True) (fun _ => []) := by
  refine (ct38 (lo := lo) (hi := hi) (n := 4) (c := 4) (x := fun k => if k = 0 then p else if k = 1 then q else if k = 2 then r else t) (by omega) fun _ => ⟨rfl, hb, fun k hk => ?_⟩).mono fun r _ => ⟨r, rfl, trivial, rfl⟩
  rcases (by omega : k = 0 ∨ k = 1 ∨ k = 2 ∨ k = 3) with rfl | rfl | rfl | rfl <;> rfl


theorem ct41 {h : EH} {b : Nat} {s t : ByteArray} {x1 x2 x3 x4 y1 y2 y3 y4 : Int} (hb : h[b]? = some (.cells [.string t, .int .i64 y1, .int .i64 y2, .int .i64 y3, .int .i64 y4] none true)) :
    Ct Try.prog 41 ⟨[.agg ⟨[.string s, .int .i64 x1, .int .i64 x2, .int .i64 x3, .int .i64 x4]⟩, .pointer (some ⟨b, 0, none⟩)]⟩ h [] (fun r : Bool => .bool r) (fun _ => True) (fun _ => []) := by
  refine Ct.go Try.func41 rfl rfl co41 (Hp.start (hr := fun _ => none) (by simp)) ?_
  refine GW.toSeq rfl ?_
  refine GW.toReg rfl ?_
  refine GL.opN rfl .no (SN.bx (u := .agg ⟨_⟩) rfl .agg) (fun a1 => ?_)
  refine GL.one rfl .no (S1.as (v := (.bool _)) rfl) ?_
  refine GL.done rfl ?_
  refine GQ.on ?_
  refine GW.toSeq rfl ?_
  refine GW.toReg rfl ?_
  refine GL.one rfl .no (S1.fa fa75_0 rfl) ?_
  refine GL.one rfl .no (S1.ld sc9 rfl (.at .z) rfl) ?_
  refine GL.one rfl .no (S1.fa fa75_0 rfl) ?_
  refine GL.one rfl .no (S1.ld sc9 rfl (.old0 hb) rfl) ?_
  refine GL.one rfl .no (S1.seq rfl rfl) ?_
  refine GL.one rfl .no (S1.as (v := (.bool _)) rfl) ?_
  refine GL.done rfl ?_
  refine GQ.on ?_
  refine GW.toRet rfl ?_
  refine GQ.ret _ (.tmp (v := (.bool _)) rfl rfl .nil) .one rfl ?_ .nil
  exact trivial
theorem ct43 {h : EH} {b : Nat} {s t : ByteArray} {x1 x2 y1 y2 : Int} (hb : h[b]? = some (.cells [.string t, .int .i64 y1, .int .i64 y2] none true)) :
    Ct Try.prog 43 ⟨[.agg ⟨[.string s, .int .i64 x1, .int .i64 x2]⟩, .pointer (some ⟨b, 0, none⟩)]⟩ h [] (fun r : Bool => .bool r) (fun _ => True) (fun _ => []) := by
  refine Ct.go Try.func43 rfl rfl co43 (Hp.start (hr := fun _ => none) (by simp)) ?_
  refine GW.toSeq rfl ?_
  refine GW.toReg rfl ?_
  refine GL.opN rfl .no (SN.bx (u := .agg ⟨_⟩) rfl .agg) (fun a1 => ?_)
  refine GL.one rfl .no (S1.as (v := (.bool _)) rfl) ?_
  refine GL.done rfl ?_
  refine GQ.on ?_
  refine GW.toSeq rfl ?_
  refine GW.toReg rfl ?_
  refine GL.one rfl .no (S1.fa fa80_0 rfl) ?_
  refine GL.one rfl .no (S1.ld sc9 rfl (.at .z) rfl) ?_
  refine GL.one rfl .no (S1.fa fa80_0 rfl) ?_
  refine GL.one rfl .no (S1.ld sc9 rfl (.old0 hb) rfl) ?_
  refine GL.one rfl .no (S1.seq rfl rfl) ?_
  refine GL.one rfl .no (S1.as (v := (.bool _)) rfl) ?_
  refine GL.done rfl ?_
  refine GQ.on ?_
  refine GW.toRet rfl ?_
  refine GQ.ret _ (.tmp (v := (.bool _)) rfl rfl .nil) .one rfl ?_ .nil
  exact trivial

theorem ct44 {h : EH} {lo hi x y : Int} : Ct Try.prog 44 ⟨[.agg ⟨[.int .i64 x, .int .i64 y]⟩, .int .i64 lo, .int .i64 hi]⟩ h [] (fun e : Int => .int .i64 e) (fun e => e = 0 → lo ≤ x ∧ x ≤ y ∧ y ≤ hi) (fun _ => []) := by
  refine Ct.go Try.func44 rfl rfl co44 (Hp.start (hr := fun _ => none) (by simp)) ?_
  refine GW.toSeq rfl ?_
  refine GW.toReg rfl ?_
  refine GL.opN rfl .no (SN.bx (u := .agg ⟨_⟩) rfl .agg) (fun a1 => ?_)
  refine GL.one rfl .no (S1.as (v := (.int _ _)) rfl) ?_
  refine GL.done rfl ?_
  refine GQ.on ?_
  refine GW.toSeq rfl ?_
  refine GW.toBlock rfl ?_
  refine GW.toSeq rfl ?_
  refine GW.toReg rfl ?_
  refine GL.one rfl .no (S1.mv (v := (.int _ _)) rfl) ?_
  refine GL.one rfl .no (S1.mv (v := (.int _ _)) rfl) ?_
  refine GL.one rfl .no (S1.fa fa47_0 rfl) ?_
  refine GL.one rfl .no (S1.ld sc3 rfl (.at .z) rfl) ?_
  refine GL.one rfl .no (S1.fa fa47_1 rfl) ?_
  refine GL.one rfl .no (S1.ld sc3 rfl (.at .z) rfl) ?_
  refine GL.opN rfl .no (SN.bs el31 ez31 (.c (v := (.int _ _)) rfl rfl (.c (v := (.int _ _)) rfl rfl .n)) rfl rfl) (fun a2 => ?_)
  refine GL.call rfl .no fo38 .nil (fun h H => ct38_2 (H.get .z)) (.d (.c (v := (.int _ _)) rfl (.c (v := (.int _ _)) rfl (.c (v := (.slice _ _ _)) rfl .n)))) (fun _ _ => ?_)
  refine GL.one rfl .no (S1.as (v := (.bool _)) rfl) ?_
  refine GL.done rfl ?_
  refine GQ.on ?_
  refine GW.toC rfl rfl (fun w5 => ?_) (fun w5 => ?_)
  refine GW.toSeq rfl ?_
  refine GW.toReg rfl ?_
  refine GL.one rfl .no (S1.as (v := (.int _ _)) rfl) ?_
  refine GL.done rfl ?_
  refine GQ.on ?_
  refine GW.toRet rfl ?_
  refine GQ.outR ?_
  refine GQ.onR ?_
  refine GQ.ret _ (.tmp (v := (.int _ _)) rfl rfl .nil) .one rfl ?_ .nil
  omega
  refine GW.toSeq rfl ?_
  refine GW.toReg rfl ?_
  refine GL.one rfl .no (S1.fa fa47_0 rfl) ?_
  refine GL.one rfl .no (S1.ld sc3 rfl (.at (.s .z)) rfl) ?_
  refine GL.one rfl .no (S1.fa fa47_1 rfl) ?_
  refine GL.one rfl .no (S1.ld sc3 rfl (.at (.s .z)) rfl) ?_
  refine GL.one rfl .no (S1.gtr rfl rfl) ?_
  refine GL.one rfl .no (S1.as (v := (.bool _)) rfl) ?_
  refine GL.done rfl ?_
  refine GQ.on ?_
  refine GW.toD rfl rfl (fun w6 => ?_) (fun w6 => ?_)
  refine GW.toSeq rfl ?_
  refine GW.toReg rfl ?_
  refine GL.one rfl .no (S1.as (v := (.int _ _)) rfl) ?_
  refine GL.done rfl ?_
  refine GQ.on ?_
  refine GW.toRet rfl ?_
  refine GQ.outR ?_
  refine GQ.onR ?_
  refine GQ.ret _ (.tmp (v := (.int _ _)) rfl rfl .nil) .one rfl ?_ .nil
  omega
  refine GW.toSkip rfl ?_
  refine GQ.outN ?_
  refine GQ.on ?_
  refine GW.toSeq rfl ?_
  refine GW.toReg rfl ?_
  refine GL.one rfl .no (S1.as (v := (.int _ _)) rfl) ?_
  refine GL.done rfl ?_
  refine GQ.on ?_
  refine GW.toRet rfl ?_
  refine GQ.ret _ (.tmp (v := (.int _ _)) rfl rfl .nil) .one rfl ?_ .nil
  exact fun _ => by simp only [Bool.or_eq_false_iff, outB_e] at *; omega

theorem ct83 {h : EH} {lo hi x : Int} : Ct Try.prog 83 ⟨[.int .i64 lo, .int .i64 x, .int .i64 hi]⟩ h [] (fun e : Int => .int .i64 e) (fun e => lo ≤ hi → lo ≤ e ∧ e ≤ hi) (fun _ => []) := by
  refine Ct.go Try.func83 rfl rfl co83 (Hp.start (hr := fun _ => none) (by simp)) ?_
  refine GW.toSeq rfl ?_
  refine GW.toReg rfl ?_
  refine GL.one rfl .no (S1.as (v := (.int _ _)) rfl) ?_
  refine GL.done rfl ?_
  refine GQ.on ?_
  refine GW.toSeq rfl ?_
  refine GW.toReg rfl ?_
  refine GL.one rfl .no (S1.mv (v := (.int _ _)) rfl) ?_
  refine GL.one rfl .no (S1.mv (v := (.int _ _)) rfl) ?_
  refine GL.one rfl .no (S1.mv (v := (.int _ _)) rfl) ?_
  refine GL.one rfl .no (S1.mn2 rfl rfl) ?_
  refine GL.one rfl .no (S1.mx2 rfl rfl) ?_
  refine GL.one rfl .no (S1.as (v := (.int _ _)) rfl) ?_
  refine GL.done rfl ?_
  refine GQ.on ?_
  refine GW.toRet rfl ?_
  refine GQ.ret _ (.tmp (v := (.int _ _)) rfl rfl .nil) .one rfl ?_ .nil
  omega

theorem ct46 {h : EH} {x : Int} : Ct Try.prog 46 ⟨[.int .i64 x]⟩ h [] (fun e : Int => .int .i64 e) (fun e => 0 ≤ e ∧ e ≤ 1000) (fun _ => []) := by
  refine Ct.go Try.func46 rfl rfl co46 (Hp.start (hr := fun _ => none) (by simp)) ?_
  refine GW.toSeq rfl ?_
  refine GW.toReg rfl ?_
  refine GL.one rfl .no (S1.as (v := (.int _ _)) rfl) ?_
  refine GL.done rfl ?_
  refine GQ.on ?_
  refine GW.toSeq rfl ?_
  refine GW.toReg rfl ?_
  refine GL.one rfl .no (S1.mv (v := (.int _ _)) rfl) ?_
  refine GL.call rfl .no fo83 .nil (fun h H => ct83) (.d (.c (v := (.int _ _)) rfl (.c (v := (.int _ _)) rfl (.c (v := (.int _ _)) rfl .n)))) (fun e1 q1 => ?_)
  refine GL.one rfl .no (S1.as (v := (.int _ _)) rfl) ?_
  refine GL.done rfl ?_
  refine GQ.on ?_
  refine GW.toRet rfl ?_
  refine GQ.ret _ (.tmp (v := (.int _ _)) rfl rfl .nil) .one rfl ?_ .nil
  omega

theorem ct47 {h : EH} {x y m : Int} : Ct Try.prog 47 ⟨[.agg ⟨[.int .i64 x, .int .i64 y]⟩, .int .i64 m]⟩ h [] (fun e : Int × Int => .agg ⟨[.int .i64 e.1, .int .i64 e.2]⟩) (fun _ => True) (fun _ => []) := by
  refine Ct.go Try.func47 rfl rfl co47 (Hp.start (hr := fun _ => none) (by simp)) ?_
  refine GW.toSeq rfl ?_
  refine GW.toReg rfl ?_
  refine GL.opN rfl .no (SN.bx (u := .agg ⟨_⟩) rfl .agg) (fun a1 => ?_)
  refine GL.opN rfl .no (SN.al zc47) (fun a2 => ?_)
  refine GL.done rfl ?_
  refine GQ.on ?_
  refine GW.toSeq rfl ?_
  refine GW.toReg rfl ?_
  refine GL.one rfl .no (S1.mv (v := (.int _ _)) rfl) ?_
  refine GL.one rfl .no (S1.fa fa47_1 rfl) ?_
  refine GL.one rfl .no (S1.ld sc3 rfl (.at (.s .z)) rfl) ?_
  refine GL.one rfl .no (S1.sub rfl rfl) ?_
  refine GL.one rfl .no (S1.mx2 rfl rfl) ?_
  refine GL.one rfl .no (S1.mv (v := (.int _ _)) rfl) ?_
  refine GL.one rfl .no (S1.fa fa47_0 rfl) ?_
  refine GL.one rfl .no (S1.ld sc3 rfl (.at (.s .z)) rfl) ?_
  refine GL.one rfl .no (S1.sub rfl rfl) ?_
  refine GL.one rfl .no (S1.mn2 rfl rfl) ?_
  refine GL.one rfl .no (S1.bu zc47 bo47 (.c (v := (.int _ _)) rfl (.one rfl) fz47_0 rfl (by repeat constructor) (.c (v := (.int _ _)) rfl (.one rfl) fz47_1 rfl (by repeat constructor) .n))) ?_
  refine GL.opN rfl .no (SN.al zc47) (fun a3 => ?_)
  refine GL.one rfl .no (S1.stA ag47 rfl rfl rfl rfl (by repeat constructor) .z) ?_
  refine GL.done rfl ?_
  refine GQ.on ?_
  refine GW.toSeq rfl ?_
  refine GW.toSeq rfl ?_
  refine GW.toReg rfl ?_
  refine GL.one rfl .no (S1.mv (v := (.int _ _)) rfl) ?_
  refine GL.one rfl .no (S1.eql rfl rfl) ?_
  refine GL.done rfl ?_
  refine GQ.on ?_
  refine GW.toD rfl rfl (fun w4 => ?_) (fun w4 => ?_)
  refine GW.toReg rfl ?_
  refine GL.one rfl .no (S1.fa fa47_0 rfl) ?_
  refine GL.one rfl .no (S1.st (u := (.int _ _)) sc3 rfl rfl rfl (by repeat constructor) .z) ?_
  refine GL.done rfl ?_
  refine GQ.on ?_
  refine GW.toSeq rfl ?_
  refine GW.toSeq rfl ?_
  refine GW.toReg rfl ?_
  refine GL.one rfl .no (S1.mv (v := (.int _ _)) rfl) ?_
  refine GL.one rfl .no (S1.eql rfl rfl) ?_
  refine GL.done rfl ?_
  refine GQ.on ?_
  refine GW.toD rfl rfl (fun w5 => ?_) (fun w5 => ?_)
  refine GW.toReg rfl ?_
  refine GL.one rfl .no (S1.fa fa47_1 rfl) ?_
  refine GL.one rfl .no (S1.st (u := (.int _ _)) sc3 rfl rfl rfl (by repeat constructor) .z) ?_
  refine GL.done rfl ?_
  refine GQ.on ?_
  refine GW.toSeq rfl ?_
  refine GW.toReg rfl ?_
  refine GL.one rfl .no (S1.ldW ag47 rfl (.at .z) rfl) ?_
  refine GL.one rfl .no (S1.stA ag47 rfl rfl rfl rfl (by repeat constructor) (.s .z)) ?_
  refine GL.done rfl ?_
  refine GQ.on ?_
  refine GW.toRet rfl ?_
  refine GQ.ret (_, _) (.cell rfl rfl (.s .z) (loadV_W ag47 rfl) .nil) .one rfl ?_ .nil
  exact trivial
  refine GW.toSkip rfl ?_
  refine GQ.on ?_
  refine GW.toSeq rfl ?_
  refine GW.toReg rfl ?_
  refine GL.one rfl .no (S1.ldW ag47 rfl (.at .z) rfl) ?_
  refine GL.one rfl .no (S1.stA ag47 rfl rfl rfl rfl (by repeat constructor) (.s .z)) ?_
  refine GL.done rfl ?_
  refine GQ.on ?_
  refine GW.toRet rfl ?_
  refine GQ.ret (_, _) (.cell rfl rfl (.s .z) (loadV_W ag47 rfl) .nil) .one rfl ?_ .nil
  exact trivial
  refine GW.toSkip rfl ?_
  refine GQ.on ?_
  refine GW.toSeq rfl ?_
  refine GW.toSeq rfl ?_
  refine GW.toReg rfl ?_
  refine GL.one rfl .no (S1.mv (v := (.int _ _)) rfl) ?_
  refine GL.one rfl .no (S1.eql rfl rfl) ?_
  refine GL.done rfl ?_
  refine GQ.on ?_
  refine GW.toD rfl rfl (fun w6 => ?_) (fun w6 => ?_)
  refine GW.toReg rfl ?_
  refine GL.one rfl .no (S1.fa fa47_1 rfl) ?_
  refine GL.one rfl .no (S1.st (u := (.int _ _)) sc3 rfl rfl rfl (by repeat constructor) .z) ?_
  refine GL.done rfl ?_
  refine GQ.on ?_
  refine GW.toSeq rfl ?_
  refine GW.toReg rfl ?_
  refine GL.one rfl .no (S1.ldW ag47 rfl (.at .z) rfl) ?_
  refine GL.one rfl .no (S1.stA ag47 rfl rfl rfl rfl (by repeat constructor) (.s .z)) ?_
  refine GL.done rfl ?_
  refine GQ.on ?_
  refine GW.toRet rfl ?_
  refine GQ.ret (_, _) (.cell rfl rfl (.s .z) (loadV_W ag47 rfl) .nil) .one rfl ?_ .nil
  exact trivial
  refine GW.toSkip rfl ?_
  refine GQ.on ?_
  refine GW.toSeq rfl ?_
  refine GW.toReg rfl ?_
  refine GL.one rfl .no (S1.ldW ag47 rfl (.at .z) rfl) ?_
  refine GL.one rfl .no (S1.stA ag47 rfl rfl rfl rfl (by repeat constructor) (.s .z)) ?_
  refine GL.done rfl ?_
  refine GQ.on ?_
  refine GW.toRet rfl ?_
  refine GQ.ret (_, _) (.cell rfl rfl (.s .z) (loadV_W ag47 rfl) .nil) .one rfl ?_ .nil
  exact trivial
end Go.Proofs.Ytmlknglgijeepaa
namespace Go.Proofs.Ytmlknglgijeepaa
open Go Go.E
set_option maxRecDepth 100000

/-- What a school that passes is like. -/
structure SkOk (hr : RO) (ln : Nat) (ca : Option Addr) (cn : Nat) : Prop where
  l1 : 1 ≤ ln
  l5 : ln ≤ 5
  c6 : cn ≤ 6
  bi : ∀ k, k < cn → -300 ≤ ie hr ca (k * 3 + 1) ∧ ie hr ca (k * 3 + 1) ≤ ie hr ca (k * 3 + 2) ∧ ie hr ca (k * 3 + 2) ≤ 300


set_option maxHeartbeats 4000000 in
theorem ct7 {h : EH} {hr : RO} {la ca : Option Addr} {ln lc cn cc : Nat} (hR : ∀ b o, hr b = some o → h[b]? = some o) (h1 : Cell hr (.sl ly75) (.slice la ln lc)) (h2 : Cell hr (.sl ly80) (.slice ca cn cc)) :
    Ct Try.prog 7 ⟨[.agg ⟨[.slice la ln lc, .slice ca cn cc]⟩]⟩ h [] (fun x : Int × Int × Int => .tuple ⟨[.int .i64 x.1, .int .i64 x.2.1, .int .i64 x.2.2]⟩) (fun x => x.2.2 = 0 → SkOk hr ln ca cn) (fun _ => []) := by
  have hl1 := h1.le
  have hl2 := h2.le
  refine Ct.go Try.func7 rfl rfl co7 (Hp.start hR) ?_
  refine GW.toSeq rfl ?_
  refine GW.toReg rfl ?_
  refine GL.opN rfl .no (SN.bx (u := .agg ⟨_⟩) rfl .agg) (fun a1 => ?_)
  refine GL.one rfl .no (S1.as (v := (.int _ _)) rfl) ?_
  refine GL.one rfl .no (S1.as (v := (.int _ _)) rfl) ?_
  refine GL.one rfl .no (S1.as (v := (.int _ _)) rfl) ?_
  refine GL.done rfl ?_
  refine GQ.on ?_
  refine GW.toSeq rfl ?_
  refine GW.toSeq rfl ?_
  refine GW.toReg rfl ?_
  refine GL.one rfl .no (S1.fa fa25_0 rfl) ?_
  refine GL.one rfl .no (S1.ld sc22 rfl (.at .z) rfl) ?_
  refine GL.one rfl .no (S1.len el22 rfl) ?_
  refine GL.opN rfl .no (SN.bs el31 ez31 (.c (v := (.int _ _)) rfl rfl .n) rfl rfl) (fun a2 => ?_)
  refine GL.call rfl .no fo38 .nil (fun h H => ct38_1 (H.get .z)) (.d (.c (v := (.int _ _)) rfl (.c (v := (.int _ _)) rfl (.c (v := (.slice _ _ _)) rfl .n)))) (fun _ _ => ?_)
  refine GL.one rfl .no (S1.mv (v := (.bool _)) rfl) ?_
  refine GL.split 14 rfl (fun w5 => ?_) (fun w5 => ?_)
  refine GL.skip rfl (.not rfl rfl rfl) ?_
  refine GL.skip rfl (.not rfl rfl rfl) ?_
  refine GL.skip rfl (.not rfl rfl rfl) ?_
  refine GL.skip rfl (.not rfl rfl rfl) ?_
  refine GL.one rfl .no (S1.pickT (v := (.bool _)) rfl rfl) ?_
  refine GL.done rfl ?_
  refine GQ.on ?_
  refine GW.toT rfl rfl ?_
  refine GW.toSeq rfl ?_
  refine GW.toReg rfl ?_
  refine GL.one rfl .no (S1.as (v := (.int _ _)) rfl) ?_
  refine GL.one rfl .no (S1.as (v := (.int _ _)) rfl) ?_
  refine GL.one rfl .no (S1.as (v := (.int _ _)) rfl) ?_
  refine GL.done rfl ?_
  refine GQ.on ?_
  refine GW.toRet rfl ?_
  refine GQ.onR ?_
  refine GQ.ret (_, _, _) (.tmp (v := (.int _ _)) rfl rfl (.tmp (v := (.int _ _)) rfl rfl (.tmp (v := (.int _ _)) rfl rfl .nil))) .more rfl ?_ .nil
  exact fun h => absurd h (by decide)
  refine GL.one rfl (.yes rfl rfl rfl) (S1.fa fa25_1 rfl) ?_
  refine GL.one rfl (.yes rfl rfl rfl) (S1.ld sc23 rfl (.at (.s .z)) rfl) ?_
  refine GL.one rfl (.yes rfl rfl rfl) (S1.len el23 rfl) ?_
  refine GL.one rfl (.yes rfl rfl rfl) (S1.gtr rfl rfl) ?_
  refine GL.one rfl .no (S1.pickF (v := (.bool _)) rfl rfl) ?_
  refine GL.done rfl ?_
  refine GQ.on ?_
  refine GW.toD rfl rfl (fun w6 => ?_) (fun w6 => ?_)
  refine GW.toSeq rfl ?_
  refine GW.toReg rfl ?_
  refine GL.one rfl .no (S1.as (v := (.int _ _)) rfl) ?_
  refine GL.one rfl .no (S1.as (v := (.int _ _)) rfl) ?_
  refine GL.one rfl .no (S1.as (v := (.int _ _)) rfl) ?_
  refine GL.done rfl ?_
  refine GQ.on ?_
  refine GW.toRet rfl ?_
  refine GQ.onR ?_
  refine GQ.ret (_, _, _) (.tmp (v := (.int _ _)) rfl rfl (.tmp (v := (.int _ _)) rfl rfl (.tmp (v := (.int _ _)) rfl rfl .nil))) .more rfl ?_ .nil
  exact fun h => absurd h (by decide)
  refine GW.toSkip rfl ?_
  refine GQ.on ?_
  refine GW.toSeq rfl ?_
  refine GW.toSeq rfl ?_
  refine GW.toReg rfl ?_
  refine GL.one rfl .no (S1.fa fa25_0 rfl) ?_
  refine GL.one rfl .no (S1.ld sc22 rfl (.at (.s .z)) rfl) ?_
  refine GL.one rfl .no (S1.len el22 rfl) ?_
  refine GL.one rfl .no (S1.mv (v := (.int _ _)) rfl) ?_
  refine GL.done rfl ?_
  refine GQ.on ?_
  refine GW.toBlock rfl ?_
  refine GW.toLoop (fun x : Nat => [(1, .pointer (some ⟨a1, 0, none⟩)), (21, .slice la ln lc), (22, .int .i64 ln), (23, .int .i64 x)]) (fun _ => [(a1, .cells [.slice la ln lc, .slice ca cn cc] none true)]) (fun x => x ≤ ln) (fun x => ln - x) rfl 0 (Nat.zero_le _) (.c rfl (.c rfl (.c rfl (.c rfl .n)))) (.cons (.s .z) .nil) ?_
  rintro x f hx
  refine GW.toSeq rfl ?_
  refine GW.toReg rfl ?_
  refine GL.one rfl .no (S1.lss rfl rfl) ?_
  refine GL.done rfl ?_
  refine GQ.on ?_
  refine GW.toSeq rfl ?_
  refine GW.toD rfl rfl (fun w7 => ?_) (fun w7 => ?_)
  refine GW.toSkip rfl ?_
  refine GQ.on ?_
  refine GW.toSeq rfl ?_
  refine GW.toBlock rfl ?_
  refine GW.toSeq rfl ?_
  refine GW.toReg rfl ?_
  refine GL.one rfl .no (S1.mv (v := (.int _ _)) rfl) ?_
  refine GL.one rfl .no (S1.ixR el22 h1 rfl rfl (by omega)) ?_
  refine GL.one rfl .no (S1.ldE ag75 h1 rfl (m := x) (by omega) rfl le75) ?_
  refine GL.opN rfl .no (SN.al zc75) (fun a8 => ?_)
  refine GL.one rfl .no (S1.as (v := (.int _ _)) rfl) ?_
  refine GL.one rfl .no (S1.stA ag75 rfl rfl rfl rfl (by repeat constructor) .z) ?_
  refine GL.done rfl ?_
  refine GQ.on ?_
  refine GW.toBlock rfl ?_
  refine GW.toSeq rfl ?_
  refine GW.toReg rfl ?_
  refine GL.one rfl .no (S1.fa fa75_0 rfl) ?_
  refine GL.one rfl .no (S1.ld sc9 rfl (.at .z) rfl) ?_
  refine GL.call rfl .no fo39 .nil (fun h H => ct39 (Cell.strLe (by first | exact (h1.at (m := x) (by omega) (d := 0) (l := .str) rfl) | exact (h2.at (m := x) (by omega) (d := 0) (l := .str) rfl)))) (.d (.c (v := (.string _)) rfl .n)) (fun r9 _ => ?_)
  refine GL.one rfl .no (S1.not rfl) ?_
  refine GL.one rfl .no (S1.as (v := (.bool _)) rfl) ?_
  refine GL.done rfl ?_
  refine GQ.on ?_
  refine GW.toC rfl rfl (fun w10 => ?_) (fun w10 => ?_)
  refine GW.toSeq rfl ?_
  refine GW.toReg rfl ?_
  refine GL.one rfl .no (S1.mv (v := (.int _ _)) rfl) ?_
  refine GL.one rfl .no (S1.as (v := (.int _ _)) rfl) ?_
  refine GL.one rfl .no (S1.as (v := (.int _ _)) rfl) ?_
  refine GL.one rfl .no (S1.as (v := (.int _ _)) rfl) ?_
  refine GL.done rfl ?_
  refine GQ.on ?_
  refine GW.toRet rfl ?_
  refine GQ.outR ?_
  refine GQ.outR ?_
  refine GQ.onR ?_
  refine GQ.onR ?_
  refine GQ.outR ?_
  refine GQ.onR ?_
  refine GQ.ret (_, _, _) (.tmp (v := (.int _ _)) rfl rfl (.tmp (v := (.int _ _)) rfl rfl (.tmp (v := (.int _ _)) rfl rfl .nil))) .more rfl ?_ .nil
  exact fun h => absurd h (by dsimp only; omega)
  refine GW.toSeq rfl ?_
  refine GW.toReg rfl ?_
  refine GL.one rfl .no (S1.fa fa25_0 rfl) ?_
  refine GL.one rfl .no (S1.ld sc22 rfl (.at (.s .z)) rfl) ?_
  refine GL.one rfl .no (S1.mv (v := (.int _ _)) rfl) ?_
  refine GL.opX rfl .no (SX.cut el22 h1 rfl rfl .no (.at rfl) (by omega) (by omega)) (fun a11 r11 => ?_)
  refine GL.one rfl .no (S1.mf .n (.c (v := (.pointer _)) rfl .n)) ?_
  refine GL.call rfl .no fo40 .nil (fun h H => ct40 (R := fun _ _ => True) H.rom (And.left (by assumption)) fo41 (fun h'' k hk e => ct41 (e _ _ (H.get .z)))) (.d (.c (v := (.slice _ _ _)) rfl (.c (v := (.func _ _ _)) rfl .n))) (fun r12 _ => ?_)
  refine GL.one rfl .no (S1.as (v := (.bool _)) rfl) ?_
  refine GL.done rfl ?_
  refine GQ.on ?_
  refine GW.toC rfl rfl (fun w13 => ?_) (fun w13 => ?_)
  refine GW.toSeq rfl ?_
  refine GW.toReg rfl ?_
  refine GL.one rfl .no (S1.mv (v := (.int _ _)) rfl) ?_
  refine GL.one rfl .no (S1.as (v := (.int _ _)) rfl) ?_
  refine GL.one rfl .no (S1.as (v := (.int _ _)) rfl) ?_
  refine GL.one rfl .no (S1.as (v := (.int _ _)) rfl) ?_
  refine GL.done rfl ?_
  refine GQ.on ?_
  refine GW.toRet rfl ?_
  refine GQ.outR ?_
  refine GQ.outR ?_
  refine GQ.onR ?_
  refine GQ.onR ?_
  refine GQ.outR ?_
  refine GQ.onR ?_
  refine GQ.ret (_, _, _) (.tmp (v := (.int _ _)) rfl rfl (.tmp (v := (.int _ _)) rfl rfl (.tmp (v := (.int _ _)) rfl rfl .nil))) .more rfl ?_ .nil
  exact fun h => absurd h (by dsimp only; omega)
  refine GW.toSeq rfl ?_
  refine GW.toReg rfl ?_
  refine GL.one rfl .no (S1.fa fa75_1 rfl) ?_
  refine GL.one rfl .no (S1.fa fa47_0 rfl) ?_
  refine GL.one rfl .no (S1.ld sc3 rfl (.at .z) rfl) ?_
  refine GL.one rfl .no (S1.fa fa75_1 rfl) ?_
  refine GL.one rfl .no (S1.fa fa47_1 rfl) ?_
  refine GL.one rfl .no (S1.ld sc3 rfl (.at .z) rfl) ?_
  refine GL.one rfl .no (S1.fa fa75_2 rfl) ?_
  refine GL.one rfl .no (S1.fa fa47_0 rfl) ?_
  refine GL.one rfl .no (S1.ld sc3 rfl (.at .z) rfl) ?_
  refine GL.one rfl .no (S1.fa fa75_2 rfl) ?_
  refine GL.one rfl .no (S1.fa fa47_1 rfl) ?_
  refine GL.one rfl .no (S1.ld sc3 rfl (.at .z) rfl) ?_
  refine GL.opN rfl .no (SN.bs el31 ez31 (.c (v := (.int _ _)) rfl rfl (.c (v := (.int _ _)) rfl rfl (.c (v := (.int _ _)) rfl rfl (.c (v := (.int _ _)) rfl rfl .n)))) rfl rfl) (fun a14 => ?_)
  refine GL.call rfl .no fo38 .nil (fun h H => ct38_4 (H.get .z)) (.d (.c (v := (.int _ _)) rfl (.c (v := (.int _ _)) rfl (.c (v := (.slice _ _ _)) rfl .n)))) (fun r16 _ => ?_)
  refine GL.one rfl .no (S1.as (v := (.bool _)) rfl) ?_
  refine GL.done rfl ?_
  refine GQ.on ?_
  refine GW.toC rfl rfl (fun w17 => ?_) (fun w17 => ?_)
  refine GW.toSeq rfl ?_
  refine GW.toReg rfl ?_
  refine GL.one rfl .no (S1.mv (v := (.int _ _)) rfl) ?_
  refine GL.one rfl .no (S1.as (v := (.int _ _)) rfl) ?_
  refine GL.one rfl .no (S1.as (v := (.int _ _)) rfl) ?_
  refine GL.one rfl .no (S1.as (v := (.int _ _)) rfl) ?_
  refine GL.done rfl ?_
  refine GQ.on ?_
  refine GW.toRet rfl ?_
  refine GQ.outR ?_
  refine GQ.outR ?_
  refine GQ.onR ?_
  refine GQ.onR ?_
  refine GQ.outR ?_
  refine GQ.onR ?_
  refine GQ.ret (_, _, _) (.tmp (v := (.int _ _)) rfl rfl (.tmp (v := (.int _ _)) rfl rfl (.tmp (v := (.int _ _)) rfl rfl .nil))) .more rfl ?_ .nil
  exact fun h => absurd h (by dsimp only; omega)
  refine GW.toSeq rfl ?_
  refine GW.toReg rfl ?_
  refine GL.one rfl .no (S1.fa fa75_1 rfl) ?_
  refine GL.one rfl .no (S1.fa fa47_0 rfl) ?_
  refine GL.one rfl .no (S1.ld sc3 rfl (.at (.s .z)) rfl) ?_
  refine GL.one rfl .no (S1.fa fa75_1 rfl) ?_
  refine GL.one rfl .no (S1.fa fa47_1 rfl) ?_
  refine GL.one rfl .no (S1.ld sc3 rfl (.at (.s .z)) rfl) ?_
  refine GL.one rfl .no (S1.gtr rfl rfl) ?_
  refine GL.one rfl .no (S1.mv (v := (.bool _)) rfl) ?_
  refine GL.splitD 66 rfl (fun w18 => ?_) (fun w18 => ?_)
  refine GL.skip rfl (.not rfl rfl rfl) ?_
  refine GL.skip rfl (.not rfl rfl rfl) ?_
  refine GL.skip rfl (.not rfl rfl rfl) ?_
  refine GL.skip rfl (.not rfl rfl rfl) ?_
  refine GL.skip rfl (.not rfl rfl rfl) ?_
  refine GL.skip rfl (.not rfl rfl rfl) ?_
  refine GL.skip rfl (.not rfl rfl rfl) ?_
  refine GL.one rfl .no (S1.pickT (v := (.bool _)) rfl rfl) ?_
  refine GL.one rfl .no (S1.as (v := (.bool _)) rfl) ?_
  refine GL.done rfl ?_
  refine GQ.on ?_
  refine GW.toT rfl rfl ?_
  refine GW.toSeq rfl ?_
  refine GW.toReg rfl ?_
  refine GL.one rfl .no (S1.mv (v := (.int _ _)) rfl) ?_
  refine GL.one rfl .no (S1.as (v := (.int _ _)) rfl) ?_
  refine GL.one rfl .no (S1.as (v := (.int _ _)) rfl) ?_
  refine GL.one rfl .no (S1.as (v := (.int _ _)) rfl) ?_
  refine GL.done rfl ?_
  refine GQ.on ?_
  refine GW.toRet rfl ?_
  refine GQ.outR ?_
  refine GQ.outR ?_
  refine GQ.onR ?_
  refine GQ.onR ?_
  refine GQ.outR ?_
  refine GQ.onR ?_
  refine GQ.ret (_, _, _) (.tmp (v := (.int _ _)) rfl rfl (.tmp (v := (.int _ _)) rfl rfl (.tmp (v := (.int _ _)) rfl rfl .nil))) .more rfl ?_ .nil
  exact fun h => absurd h (by dsimp only; omega)
  refine GL.one rfl (.yes rfl rfl rfl) (S1.fa fa75_2 rfl) ?_
  refine GL.one rfl (.yes rfl rfl rfl) (S1.fa fa47_0 rfl) ?_
  refine GL.one rfl (.yes rfl rfl rfl) (S1.ld sc3 rfl (.at (.s .z)) rfl) ?_
  refine GL.one rfl (.yes rfl rfl rfl) (S1.fa fa75_2 rfl) ?_
  refine GL.one rfl (.yes rfl rfl rfl) (S1.fa fa47_1 rfl) ?_
  refine GL.one rfl (.yes rfl rfl rfl) (S1.ld sc3 rfl (.at (.s .z)) rfl) ?_
  refine GL.one rfl (.yes rfl rfl rfl) (S1.gtr rfl rfl) ?_
  refine GL.one rfl .no (S1.pickF (v := (.bool _)) rfl rfl) ?_
  refine GL.one rfl .no (S1.as (v := (.bool _)) rfl) ?_
  refine GL.done rfl ?_
  refine GQ.on ?_
  refine GW.toD rfl rfl (fun w19 => ?_) (fun w19 => ?_)
  refine GW.toSeq rfl ?_
  refine GW.toReg rfl ?_
  refine GL.one rfl .no (S1.mv (v := (.int _ _)) rfl) ?_
  refine GL.one rfl .no (S1.as (v := (.int _ _)) rfl) ?_
  refine GL.one rfl .no (S1.as (v := (.int _ _)) rfl) ?_
  refine GL.one rfl .no (S1.as (v := (.int _ _)) rfl) ?_
  refine GL.done rfl ?_
  refine GQ.on ?_
  refine GW.toRet rfl ?_
  refine GQ.outR ?_
  refine GQ.outR ?_
  refine GQ.onR ?_
  refine GQ.onR ?_
  refine GQ.outR ?_
  refine GQ.onR ?_
  refine GQ.ret (_, _, _) (.tmp (v := (.int _ _)) rfl rfl (.tmp (v := (.int _ _)) rfl rfl (.tmp (v := (.int _ _)) rfl rfl .nil))) .more rfl ?_ .nil
  exact fun h => absurd h (by dsimp only; omega)
  refine GW.toSkip rfl ?_
  refine GQ.outN ?_
  refine GQ.outN ?_
  refine GQ.on ?_
  refine GW.toReg rfl ?_
  refine GL.one rfl .no (S1.inc rfl rfl (by omega)) ?_
  refine GL.one rfl .no (S1.mv (v := (.int _ _)) rfl) ?_
  refine GL.done rfl ?_
  refine GQ.next (x + 1) (by omega) (by omega) (.c rfl (.c rfl (.c rfl (.c rfl .n)))) (.cons (.s (.s .z)) .nil)
  refine GW.toExit rfl ?_
  refine GQ.onE ?_
  refine GQ.onE ?_
  refine GQ.outH ?_
  refine GQ.on ?_
  refine GW.toSeq rfl ?_
  refine GW.toSeq rfl ?_
  refine GW.toReg rfl ?_
  refine GL.one rfl .no (S1.fa fa25_1 rfl) ?_
  refine GL.one rfl .no (S1.ld sc23 rfl (.at .z) rfl) ?_
  refine GL.one rfl .no (S1.len el23 rfl) ?_
  refine GL.one rfl .no (S1.mv (v := (.int _ _)) rfl) ?_
  refine GL.done rfl ?_
  refine GQ.on ?_
  refine GW.toBlock rfl ?_
  refine GW.toLoop (fun x : Nat => [(1, .pointer (some ⟨a1, 0, none⟩)), (78, .slice ca cn cc), (79, .int .i64 cn), (80, .int .i64 x)]) (fun _ => [(a1, .cells [.slice la ln lc, .slice ca cn cc] none true)]) (fun x => x ≤ cn ∧ ∀ k, k < x → -300 ≤ ie hr ca (k * 3 + 1) ∧ ie hr ca (k * 3 + 1) ≤ ie hr ca (k * 3 + 2) ∧ ie hr ca (k * 3 + 2) ≤ 300) (fun x => cn - x) rfl 0 ⟨Nat.zero_le _, fun k hk => absurd hk (by omega)⟩ (.c rfl (.c rfl (.c rfl (.c rfl .n)))) .tz ?_
  rintro x f ⟨hx, hp⟩
  refine GW.toSeq rfl ?_
  refine GW.toReg rfl ?_
  refine GL.one rfl .no (S1.lss rfl rfl) ?_
  refine GL.done rfl ?_
  refine GQ.on ?_
  refine GW.toSeq rfl ?_
  refine GW.toD rfl rfl (fun w20 => ?_) (fun w20 => ?_)
  refine GW.toSkip rfl ?_
  refine GQ.on ?_
  refine GW.toSeq rfl ?_
  refine GW.toBlock rfl ?_
  refine GW.toSeq rfl ?_
  refine GW.toReg rfl ?_
  refine GL.one rfl .no (S1.mv (v := (.int _ _)) rfl) ?_
  refine GL.one rfl .no (S1.ixR el23 h2 rfl rfl (by omega)) ?_
  refine GL.one rfl .no (S1.ldE ag80 h2 rfl (m := x) (by omega) rfl le80) ?_
  refine GL.opN rfl .no (SN.al zc80) (fun a21 => ?_)
  refine GL.one rfl .no (S1.as (v := (.int _ _)) rfl) ?_
  refine GL.one rfl .no (S1.stA ag80 rfl rfl rfl rfl (by repeat constructor) .z) ?_
  refine GL.done rfl ?_
  refine GQ.on ?_
  refine GW.toSeq rfl ?_
  refine GW.toBlock rfl ?_
  refine GW.toSeq rfl ?_
  refine GW.toReg rfl ?_
  refine GL.one rfl .no (S1.fa fa80_0 rfl) ?_
  refine GL.one rfl .no (S1.ld sc9 rfl (.at .z) rfl) ?_
  refine GL.call rfl .no fo39 .nil (fun h H => ct39 (Cell.strLe (by first | exact (h1.at (m := x) (by omega) (d := 0) (l := .str) rfl) | exact (h2.at (m := x) (by omega) (d := 0) (l := .str) rfl)))) (.d (.c (v := (.string _)) rfl .n)) (fun r22 _ => ?_)
  refine GL.one rfl .no (S1.not rfl) ?_
  refine GL.one rfl .no (S1.as (v := (.bool _)) rfl) ?_
  refine GL.done rfl ?_
  refine GQ.on ?_
  refine GW.toC rfl rfl (fun w23 => ?_) (fun w23 => ?_)
  refine GW.toSeq rfl ?_
  refine GW.toReg rfl ?_
  refine GL.one rfl .no (S1.mv (v := (.int _ _)) rfl) ?_
  refine GL.one rfl .no (S1.as (v := (.int _ _)) rfl) ?_
  refine GL.one rfl .no (S1.as (v := (.int _ _)) rfl) ?_
  refine GL.one rfl .no (S1.as (v := (.int _ _)) rfl) ?_
  refine GL.done rfl ?_
  refine GQ.on ?_
  refine GW.toRet rfl ?_
  refine GQ.outR ?_
  refine GQ.onR ?_
  refine GQ.outR ?_
  refine GQ.onR ?_
  refine GQ.onR ?_
  refine GQ.outR ?_
  refine GQ.onR ?_
  refine GQ.ret (_, _, _) (.tmp (v := (.int _ _)) rfl rfl (.tmp (v := (.int _ _)) rfl rfl (.tmp (v := (.int _ _)) rfl rfl .nil))) .more rfl ?_ .nil
  exact fun h => absurd h (by dsimp only; omega)
  refine GW.toSeq rfl ?_
  refine GW.toReg rfl ?_
  refine GL.one rfl .no (S1.fa fa25_1 rfl) ?_
  refine GL.one rfl .no (S1.ld sc23 rfl (.at (.s .z)) rfl) ?_
  refine GL.one rfl .no (S1.mv (v := (.int _ _)) rfl) ?_
  refine GL.opX rfl .no (SX.cut el23 h2 rfl rfl .no (.at rfl) (by omega) (by omega)) (fun a24 r24 => ?_)
  refine GL.one rfl .no (S1.mf .n (.c (v := (.pointer _)) rfl .n)) ?_
  refine GL.call rfl .no fo42 .nil (fun h H => ct42 (R := fun _ _ => True) H.rom (And.left (by assumption)) fo43 (fun h'' k hk e => ct43 (e _ _ (H.get .z)))) (.d (.c (v := (.slice _ _ _)) rfl (.c (v := (.func _ _ _)) rfl .n))) (fun r25 _ => ?_)
  refine GL.one rfl .no (S1.as (v := (.bool _)) rfl) ?_
  refine GL.done rfl ?_
  refine GQ.on ?_
  refine GW.toC rfl rfl (fun w26 => ?_) (fun w26 => ?_)
  refine GW.toSeq rfl ?_
  refine GW.toReg rfl ?_
  refine GL.one rfl .no (S1.mv (v := (.int _ _)) rfl) ?_
  refine GL.one rfl .no (S1.as (v := (.int _ _)) rfl) ?_
  refine GL.one rfl .no (S1.as (v := (.int _ _)) rfl) ?_
  refine GL.one rfl .no (S1.as (v := (.int _ _)) rfl) ?_
  refine GL.done rfl ?_
  refine GQ.on ?_
  refine GW.toRet rfl ?_
  refine GQ.outR ?_
  refine GQ.onR ?_
  refine GQ.outR ?_
  refine GQ.onR ?_
  refine GQ.onR ?_
  refine GQ.outR ?_
  refine GQ.onR ?_
  refine GQ.ret (_, _, _) (.tmp (v := (.int _ _)) rfl rfl (.tmp (v := (.int _ _)) rfl rfl (.tmp (v := (.int _ _)) rfl rfl .nil))) .more rfl ?_ .nil
  exact fun h => absurd h (by dsimp only; omega)
  refine GW.toSkip rfl ?_
  refine GQ.outN ?_
  refine GQ.on ?_
  refine GW.toSeq rfl ?_
  refine GW.toReg rfl ?_
  refine GL.one rfl .no (S1.fa fa80_1 rfl) ?_
  refine GL.one rfl .no (S1.ldA ag47 rfl (.at .z) (by repeat constructor)) ?_
  refine GL.call rfl .no fo44 .nil (fun h H => ct44) (.d (.c (v := (.agg _)) rfl (.c (v := (.int _ _)) rfl (.c (v := (.int _ _)) rfl .n)))) (fun e44 q44 => ?_)
  refine GL.one rfl .no (S1.as (v := (.int _ _)) rfl) ?_
  refine GL.done rfl ?_
  refine GQ.on ?_
  refine GW.toSeq rfl ?_
  refine GW.toReg rfl ?_
  refine GL.one rfl .no (S1.mv (v := (.int _ _)) rfl) ?_
  refine GL.one rfl .no (S1.neq rfl rfl) ?_
  refine GL.done rfl ?_
  refine GQ.on ?_
  refine GW.toD rfl rfl (fun w28 => ?_) (fun w28 => ?_)
  refine GW.toSeq rfl ?_
  refine GW.toReg rfl ?_
  refine GL.one rfl .no (S1.mv (v := (.int _ _)) rfl) ?_
  refine GL.one rfl .no (S1.mv (v := (.int _ _)) rfl) ?_
  refine GL.one rfl .no (S1.as (v := (.int _ _)) rfl) ?_
  refine GL.one rfl .no (S1.as (v := (.int _ _)) rfl) ?_
  refine GL.one rfl .no (S1.as (v := (.int _ _)) rfl) ?_
  refine GL.done rfl ?_
  refine GQ.on ?_
  refine GW.toRet rfl ?_
  refine GQ.outR ?_
  refine GQ.onR ?_
  refine GQ.onR ?_
  refine GQ.outR ?_
  refine GQ.onR ?_
  refine GQ.ret (_, _, _) (.tmp (v := (.int _ _)) rfl rfl (.tmp (v := (.int _ _)) rfl rfl (.tmp (v := (.int _ _)) rfl rfl .nil))) .more rfl ?_ .nil
  exact fun h => absurd h (by dsimp only; omega)
  refine GW.toSkip rfl ?_
  refine GQ.outN ?_
  refine GQ.on ?_
  refine GW.toReg rfl ?_
  refine GL.one rfl .no (S1.inc rfl rfl (by omega)) ?_
  refine GL.one rfl .no (S1.mv (v := (.int _ _)) rfl) ?_
  refine GL.done rfl ?_
  rotate_left
  refine GW.toExit rfl ?_
  refine GQ.onE ?_
  refine GQ.onE ?_
  refine GQ.outH ?_
  refine GQ.on ?_
  refine GW.toSeq rfl ?_
  refine GW.toReg rfl ?_
  refine GL.one rfl .no (S1.as (v := (.int _ _)) rfl) ?_
  refine GL.one rfl .no (S1.as (v := (.int _ _)) rfl) ?_
  refine GL.one rfl .no (S1.as (v := (.int _ _)) rfl) ?_
  refine GL.done rfl ?_
  refine GQ.on ?_
  refine GW.toRet rfl ?_
  refine GQ.ret (_, _, _) (.tmp (v := (.int _ _)) rfl rfl (.tmp (v := (.int _ _)) rfl rfl (.tmp (v := (.int _ _)) rfl rfl .nil))) .more rfl ?_ .nil
  rotate_left
  · refine GQ.next (x + 1) ⟨by omega, fun k hk => ?_⟩ (by omega) (.c rfl (.c rfl (.c rfl (.c rfl .n)))) (.cons (.s .z) .nil)
    rcases Nat.lt_succ_iff_lt_or_eq.1 hk with hk | rfl
    · exact hp k hk
    · exact q44 (by omega)
  · have b1 := outB_f w5
    exact fun _ => ⟨by omega, by omega, by omega, fun k hk => hp k (by omega)⟩

theorem ct45 {h : EH} {hr : RO} {la ca : Option Addr} {ln lc cn cc : Nat} {ins n : Int} (hR : ∀ b o, hr b = some o → h[b]? = some o) (h1 : Cell hr (.sl ly75) (.slice la ln lc)) (h2 : Cell hr (.sl ly80) (.slice ca cn cc)) :
    Ct Try.prog 45 ⟨[.agg ⟨[.slice la ln lc, .slice ca cn cc]⟩, .int .i64 ins, .int .i64 n]⟩ h [] (fun e : Int => .int .i64 e) (fun e => e = 0 → SkOk hr ln ca cn ∧ 0 ≤ ins ∧ ins < cn ∧ 0 ≤ n ∧ n ≤ 1000) (fun _ => []) := by
  have hl2 := h2.le
  refine Ct.go Try.func45 rfl rfl co45 (Hp.start hR) ?_
  refine GW.toSeq rfl ?_
  refine GW.toReg rfl ?_
  refine GL.opN rfl .no (SN.bx (u := .agg ⟨_⟩) rfl .agg) (fun a1 => ?_)
  refine GL.one rfl .no (S1.as (v := (.int _ _)) rfl) ?_
  refine GL.done rfl ?_
  refine GQ.on ?_
  refine GW.toSeq rfl ?_
  refine GW.toSeq rfl ?_
  refine GW.toReg rfl ?_
  refine GL.one rfl .no (S1.ldW ag25 rfl (.at .z) rfl) ?_
  refine GL.call rfl .no fo7 .nil (fun h H => ct7 H.rom h1 h2) (.d (.c (v := (.agg _)) rfl .n)) (fun e7 q7 => ?_)
  refine GL.one rfl .no (S1.mv (v := (.tuple _)) rfl) ?_
  refine GL.one rfl .no (S1.ext (v := (.int _ _)) rfl rfl) ?_
  refine GL.one rfl .no (S1.ext (v := (.int _ _)) rfl rfl) ?_
  refine GL.one rfl .no (S1.ext (v := (.int _ _)) rfl rfl) ?_
  refine GL.one rfl .no (S1.as (v := (.int _ _)) rfl) ?_
  refine GL.one rfl .no (S1.as (v := (.int _ _)) rfl) ?_
  refine GL.one rfl .no (S1.as (v := (.int _ _)) rfl) ?_
  refine GL.done rfl ?_
  refine GQ.on ?_
  refine GW.toSeq rfl ?_
  refine GW.toReg rfl ?_
  refine GL.one rfl .no (S1.mv (v := (.int _ _)) rfl) ?_
  refine GL.one rfl .no (S1.neq rfl rfl) ?_
  refine GL.done rfl ?_
  refine GQ.on ?_
  refine GW.toD rfl rfl (fun w3 => ?_) (fun w3 => ?_)
  refine GW.toSeq rfl ?_
  refine GW.toReg rfl ?_
  refine GL.one rfl .no (S1.mv (v := (.int _ _)) rfl) ?_
  refine GL.one rfl .no (S1.as (v := (.int _ _)) rfl) ?_
  refine GL.done rfl ?_
  refine GQ.on ?_
  refine GW.toRet rfl ?_
  refine GQ.onR ?_
  refine GQ.ret _ (.tmp (v := (.int _ _)) rfl rfl .nil) .one rfl ?_ .nil
  omega
  refine GW.toSkip rfl ?_
  refine GQ.on ?_
  refine GW.toSeq rfl ?_
  refine GW.toBlock rfl ?_
  refine GW.toSeq rfl ?_
  refine GW.toReg rfl ?_
  refine GL.one rfl .no (S1.fa fa25_1 rfl) ?_
  refine GL.one rfl .no (S1.ld sc23 rfl (.at .z) rfl) ?_
  refine GL.one rfl .no (S1.len el23 rfl) ?_
  refine GL.one rfl .no (S1.subI rfl rfl (by omega) (by omega)) ?_
  refine GL.one rfl .no (S1.mv (v := (.int _ _)) rfl) ?_
  refine GL.opN rfl .no (SN.bs el31 ez31 (.c (v := (.int _ _)) rfl rfl .n) rfl rfl) (fun a4 => ?_)
  refine GL.call rfl .no fo38 .nil (fun h H => ct38_1 (H.get .z)) (.d (.c (v := (.int _ _)) rfl (.c (v := (.int _ _)) rfl (.c (v := (.slice _ _ _)) rfl .n)))) (fun _ _ => ?_)
  refine GL.one rfl .no (S1.as (v := (.bool _)) rfl) ?_
  refine GL.done rfl ?_
  refine GQ.on ?_
  refine GW.toC rfl rfl (fun w7 => ?_) (fun w7 => ?_)
  refine GW.toSeq rfl ?_
  refine GW.toReg rfl ?_
  refine GL.one rfl .no (S1.as (v := (.int _ _)) rfl) ?_
  refine GL.done rfl ?_
  refine GQ.on ?_
  refine GW.toRet rfl ?_
  refine GQ.outR ?_
  refine GQ.onR ?_
  refine GQ.ret _ (.tmp (v := (.int _ _)) rfl rfl .nil) .one rfl ?_ .nil
  omega
  refine GW.toSeq rfl ?_
  refine GW.toReg rfl ?_
  refine GL.one rfl .no (S1.mv (v := (.int _ _)) rfl) ?_
  refine GL.opN rfl .no (SN.bs el31 ez31 (.c (v := (.int _ _)) rfl rfl .n) rfl rfl) (fun a8 => ?_)
  refine GL.call rfl .no fo38 .nil (fun h H => ct38_1 (H.get .z)) (.d (.c (v := (.int _ _)) rfl (.c (v := (.int _ _)) rfl (.c (v := (.slice _ _ _)) rfl .n)))) (fun _ _ => ?_)
  refine GL.one rfl .no (S1.as (v := (.bool _)) rfl) ?_
  refine GL.done rfl ?_
  refine GQ.on ?_
  refine GW.toC rfl rfl (fun w11 => ?_) (fun w11 => ?_)
  refine GW.toSeq rfl ?_
  refine GW.toReg rfl ?_
  refine GL.one rfl .no (S1.as (v := (.int _ _)) rfl) ?_
  refine GL.done rfl ?_
  refine GQ.on ?_
  refine GW.toRet rfl ?_
  refine GQ.outR ?_
  refine GQ.onR ?_
  refine GQ.ret _ (.tmp (v := (.int _ _)) rfl rfl .nil) .one rfl ?_ .nil
  omega
  refine GW.toSkip rfl ?_
  refine GQ.outN ?_
  refine GQ.on ?_
  refine GW.toSeq rfl ?_
  refine GW.toReg rfl ?_
  refine GL.one rfl .no (S1.as (v := (.int _ _)) rfl) ?_
  refine GL.done rfl ?_
  refine GQ.on ?_
  refine GW.toRet rfl ?_
  refine GQ.ret _ (.tmp (v := (.int _ _)) rfl rfl .nil) .one rfl ?_ .nil
  simp only [outB_e] at *
  exact fun _ => ⟨q7 (by omega), by omega, by omega, by omega, by omega⟩

theorem ct12 {h : EH} {hr : RO} {la ca : Option Addr} {ln lc cn cc : Nat} {ins n : Int} (hR : ∀ b o, hr b = some o → h[b]? = some o) (h1 : Cell hr (.sl ly75) (.slice la ln lc)) (h2 : Cell hr (.sl ly80) (.slice ca cn cc)) :
    Ct Try.prog 12 ⟨[.agg ⟨[.slice la ln lc, .slice ca cn cc]⟩, .int .i64 ins, .int .i64 n]⟩ h [] (fun x : Int × Int × Int => .tuple ⟨[.agg ⟨[.int .i64 x.1, .int .i64 x.2.1]⟩, .int .i64 x.2.2]⟩) (fun _ => True) (fun _ => []) := by
  have hl2 := h2.le
  refine Ct.go Try.func12 rfl rfl co12 (Hp.start hR) ?_
  refine GW.toSeq rfl ?_
  refine GW.toReg rfl ?_
  refine GL.opN rfl .no (SN.bx (u := .agg ⟨_⟩) rfl .agg) (fun a1 => ?_)
  refine GL.opN rfl .no (SN.al zc47) (fun a2 => ?_)
  refine GL.one rfl .no (S1.as (v := (.int _ _)) rfl) ?_
  refine GL.done rfl ?_
  refine GQ.on ?_
  refine GW.toSeq rfl ?_
  refine GW.toSeq rfl ?_
  refine GW.toReg rfl ?_
  refine GL.one rfl .no (S1.ldW ag25 rfl (.at (.s .z)) rfl) ?_
  refine GL.one rfl .no (S1.mv (v := (.int _ _)) rfl) ?_
  refine GL.one rfl .no (S1.mv (v := (.int _ _)) rfl) ?_
  refine GL.call rfl .no fo45 .nil (fun h H => ct45 H.rom h1 h2) (.d (.c (v := (.agg _)) rfl (.c (v := (.int _ _)) rfl (.c (v := (.int _ _)) rfl .n)))) (fun e45 q45 => ?_)
  refine GL.one rfl .no (S1.as (v := (.int _ _)) rfl) ?_
  refine GL.done rfl ?_
  refine GQ.on ?_
  refine GW.toSeq rfl ?_
  refine GW.toReg rfl ?_
  refine GL.one rfl .no (S1.mv (v := (.int _ _)) rfl) ?_
  refine GL.one rfl .no (S1.neq rfl rfl) ?_
  refine GL.done rfl ?_
  refine GQ.on ?_
  refine GW.toD rfl rfl (fun w4 => ?_) (fun w4 => ?_)
  refine GW.toSeq rfl ?_
  refine GW.toReg rfl ?_
  refine GL.one rfl .no (S1.ldW ag47 rfl (.at .z) rfl) ?_
  refine GL.one rfl .no (S1.mv (v := (.int _ _)) rfl) ?_
  refine GL.one rfl .no (S1.stA ag47 rfl rfl rfl rfl (by repeat constructor) .z) ?_
  refine GL.one rfl .no (S1.as (v := (.int _ _)) rfl) ?_
  refine GL.done rfl ?_
  refine GQ.on ?_
  refine GW.toRet rfl ?_
  refine GQ.onR ?_
  refine GQ.ret (_, _, _) (.cell rfl rfl .z (loadV_W ag47 rfl) (.tmp (v := (.int _ _)) rfl rfl .nil)) .more rfl ?_ .nil
  exact trivial
  refine GW.toSkip rfl ?_
  refine GQ.on ?_
  refine GW.toSeq rfl ?_
  refine GW.toReg rfl ?_
  refine GL.one rfl .no (S1.fa fa25_1 rfl) ?_
  refine GL.one rfl .no (S1.ld sc23 rfl (.at (.s .z)) rfl) ?_
  refine GL.one rfl .no (S1.mv (v := (.int _ _)) rfl) ?_
  refine GL.one rfl .no (S1.ixRI el23 h2 rfl rfl (by omega)) ?_
  refine GL.one rfl .no (S1.fa fa80_1 rfl) ?_
  refine GL.one rfl .no (S1.ldEs ag47 (z := 3) h2 rfl (m := ins.toNat) (by omega) rfl (d := 1) (by decide) rfl rfl) ?_
  refine GL.opN rfl .no (SN.al zc47) (fun a5 => ?_)
  refine GL.one rfl .no (S1.stA ag47 rfl rfl rfl rfl (by repeat constructor) .z) ?_
  refine GL.done rfl ?_
  refine GQ.on ?_
  refine GW.toSeq rfl ?_
  refine GW.toDrw mx rfl ?_
  refine GD.one rfl .no (S1.mv (v := (.int _ _)) rfl) rfl ?_
  refine GD.one rfl .no (S1.fa fa47_0 rfl) rfl ?_
  refine GD.one rfl .no (S1.ld sc3 rfl (.at .z) rfl) rfl ?_
  refine GD.one rfl .no (S1.add rfl rfl) rfl ?_
  refine GD.call rfl .no fo46 .nil (fun h H => ct46) (.d (.c (v := (.int _ _)) rfl .n)) (fun e6 q6 => ?_)
  refine GD.one rfl .no (S1.mv (v := (.int _ _)) rfl) rfl ?_
  refine GD.one rfl .no (S1.fa fa47_1 rfl) rfl ?_
  refine GD.one rfl .no (S1.ld sc3 rfl (.at .z) rfl) rfl ?_
  refine GD.one rfl .no (S1.add rfl rfl) rfl ?_
  refine GD.call rfl .no fo46 .nil (fun h H => ct46) (.d (.c (v := (.int _ _)) rfl .n)) (fun e7 q7 => ?_)
  refine GD.one rfl .no (S1.bu zc47 bo47 (.c (v := (.int _ _)) rfl (.one rfl) fz47_0 rfl (by repeat constructor) (.c (v := (.int _ _)) rfl (.one rfl) fz47_1 rfl (by repeat constructor) .n))) rfl ?_
  refine GD.loud rfl .no (S1.stA ag47 rfl rfl rfl rfl (by repeat constructor) (.s .z)) rfl rfl (by kernel_rfl) ?_
  refine GD.one rfl .no (S1.as (v := (.int _ _)) rfl) rfl ?_
  refine GD.done rfl ?_
  refine GQ.on ?_
  refine GW.toRet rfl ?_
  refine GQ.ret (_, _, _) (.cell rfl rfl (.s .z) (loadV_W ag47 rfl) (.tmp (v := (.int _ _)) rfl rfl .nil)) .more rfl ?_ .nil
  exact trivial

theorem ct15 {h : EH} {hr : RO} {la ca : Option Addr} {ln lc cn cc : Nat} {ins n : Int} (hR : ∀ b o, hr b = some o → h[b]? = some o) (h1 : Cell hr (.sl ly75) (.slice la ln lc)) (h2 : Cell hr (.sl ly80) (.slice ca cn cc)) :
    Ct Try.prog 15 ⟨[.agg ⟨[.slice la ln lc, .slice ca cn cc]⟩, .int .i64 ins, .int .i64 n]⟩ h [] (fun x : Int × Int × Int => .tuple ⟨[.agg ⟨[.int .i64 x.1, .int .i64 x.2.1]⟩, .int .i64 x.2.2]⟩) (fun _ => True) (fun _ => []) := by
  have hl2 := h2.le
  refine Ct.go Try.func15 rfl rfl co15 (Hp.start hR) ?_
  refine GW.toSeq rfl ?_
  refine GW.toReg rfl ?_
  refine GL.opN rfl .no (SN.bx (u := .agg ⟨_⟩) rfl .agg) (fun a1 => ?_)
  refine GL.opN rfl .no (SN.al zc47) (fun a2 => ?_)
  refine GL.one rfl .no (S1.as (v := (.int _ _)) rfl) ?_
  refine GL.done rfl ?_
  refine GQ.on ?_
  refine GW.toSeq rfl ?_
  refine GW.toSeq rfl ?_
  refine GW.toReg rfl ?_
  refine GL.one rfl .no (S1.ldW ag25 rfl (.at (.s .z)) rfl) ?_
  refine GL.one rfl .no (S1.mv (v := (.int _ _)) rfl) ?_
  refine GL.one rfl .no (S1.mv (v := (.int _ _)) rfl) ?_
  refine GL.call rfl .no fo45 .nil (fun h H => ct45 H.rom h1 h2) (.d (.c (v := (.agg _)) rfl (.c (v := (.int _ _)) rfl (.c (v := (.int _ _)) rfl .n)))) (fun e45 q45 => ?_)
  refine GL.one rfl .no (S1.as (v := (.int _ _)) rfl) ?_
  refine GL.done rfl ?_
  refine GQ.on ?_
  refine GW.toSeq rfl ?_
  refine GW.toReg rfl ?_
  refine GL.one rfl .no (S1.mv (v := (.int _ _)) rfl) ?_
  refine GL.one rfl .no (S1.neq rfl rfl) ?_
  refine GL.done rfl ?_
  refine GQ.on ?_
  refine GW.toD rfl rfl (fun w4 => ?_) (fun w4 => ?_)
  refine GW.toSeq rfl ?_
  refine GW.toReg rfl ?_
  refine GL.one rfl .no (S1.ldW ag47 rfl (.at .z) rfl) ?_
  refine GL.one rfl .no (S1.mv (v := (.int _ _)) rfl) ?_
  refine GL.one rfl .no (S1.stA ag47 rfl rfl rfl rfl (by repeat constructor) .z) ?_
  refine GL.one rfl .no (S1.as (v := (.int _ _)) rfl) ?_
  refine GL.done rfl ?_
  refine GQ.on ?_
  refine GW.toRet rfl ?_
  refine GQ.onR ?_
  refine GQ.ret (_, _, _) (.cell rfl rfl .z (loadV_W ag47 rfl) (.tmp (v := (.int _ _)) rfl rfl .nil)) .more rfl ?_ .nil
  exact trivial
  refine GW.toSkip rfl ?_
  refine GQ.on ?_
  refine GW.toSeq rfl ?_
  refine GW.toSeq rfl ?_
  refine GW.toReg rfl ?_
  refine GL.one rfl .no (S1.fa fa25_1 rfl) ?_
  refine GL.one rfl .no (S1.ld sc23 rfl (.at (.s .z)) rfl) ?_
  refine GL.one rfl .no (S1.mv (v := (.int _ _)) rfl) ?_
  refine GL.one rfl .no (S1.ixRI el23 h2 rfl rfl (by omega)) ?_
  refine GL.one rfl .no (S1.fa fa80_1 rfl) ?_
  refine GL.one rfl .no (S1.ldEs ag47 (z := 3) h2 rfl (m := ins.toNat) (by omega) rfl (d := 1) (by decide) rfl rfl) ?_
  refine GL.one rfl .no (S1.mv (v := (.int _ _)) rfl) ?_
  refine GL.call rfl .no fo47 .nil (fun h H => ct47) (.d (.c (v := (.agg _)) rfl (.c (v := (.int _ _)) rfl .n))) (fun e5 q5 => ?_)
  refine GL.one rfl .no (S1.stA ag47 rfl rfl rfl rfl (by repeat constructor) .z) ?_
  refine GL.done rfl ?_
  refine GQ.on ?_
  refine GW.toSeq rfl ?_
  refine GW.toReg rfl ?_
  refine GL.one rfl .no (S1.fa fa47_0 rfl) ?_
  refine GL.one rfl .no (S1.ld sc3 rfl (.at .z) rfl) ?_
  refine GL.one rfl .no (S1.fa fa47_1 rfl) ?_
  refine GL.one rfl .no (S1.ld sc3 rfl (.at .z) rfl) ?_
  refine GL.one rfl .no (S1.gtr rfl rfl) ?_
  refine GL.done rfl ?_
  refine GQ.on ?_
  refine GW.toD rfl rfl (fun w6 => ?_) (fun w6 => ?_)
  refine GW.toSeq rfl ?_
  refine GW.toReg rfl ?_
  refine GL.one rfl .no (S1.bu zc47 bo47 .n) ?_
  refine GL.one rfl .no (S1.stA ag47 rfl rfl rfl rfl (by repeat constructor) .z) ?_
  refine GL.one rfl .no (S1.as (v := (.int _ _)) rfl) ?_
  refine GL.done rfl ?_
  refine GQ.on ?_
  refine GW.toRet rfl ?_
  refine GQ.onR ?_
  refine GQ.ret (_, _, _) (.cell rfl rfl .z (loadV_W ag47 rfl) (.tmp (v := (.int _ _)) rfl rfl .nil)) .more rfl ?_ .nil
  exact trivial
  refine GW.toSkip rfl ?_
  refine GQ.on ?_
  refine GW.toSeq rfl ?_
  refine GW.toReg rfl ?_
  refine GL.one rfl .no (S1.ldW ag47 rfl (.at .z) rfl) ?_
  refine GL.one rfl .no (S1.stA ag47 rfl rfl rfl rfl (by repeat constructor) .z) ?_
  refine GL.one rfl .no (S1.as (v := (.int _ _)) rfl) ?_
  refine GL.done rfl ?_
  refine GQ.on ?_
  refine GW.toRet rfl ?_
  refine GQ.ret (_, _, _) (.cell rfl rfl .z (loadV_W ag47 rfl) (.tmp (v := (.int _ _)) rfl rfl .nil)) .more rfl ?_ .nil
  exact trivial

/-- Spans that fit the school. -/
theorem ct84 {h : EH} {hr : RO} {la ca ra : Option Addr} {ln lc cn cc rn rc : Nat} (hR : ∀ b o, hr b = some o → h[b]? = some o) (h1 : Cell hr (.sl ly75) (.slice la ln lc)) (h2 : Cell hr (.sl ly80) (.slice ca cn cc)) (h3 : Cell hr (.sl ly47) (.slice ra rn rc)) :
    Ct Try.prog 84 ⟨[.agg ⟨[.slice la ln lc, .slice ca cn cc]⟩, .slice ra rn rc]⟩ h [] (fun e : Int => .int .i64 e) (fun e => e = 0 → rn = ln) (fun _ => []) := by
  have hl1 := h1.le
  have hl3 := h3.le
  refine Ct.go Try.func84 rfl rfl co84 (Hp.start hR) ?_
  refine GW.toSeq rfl ?_
  refine GW.toReg rfl ?_
  refine GL.opN rfl .no (SN.bx (u := .agg ⟨_⟩) rfl .agg) (fun a1 => ?_)
  refine GL.one rfl .no (S1.as (v := (.int _ _)) rfl) ?_
  refine GL.done rfl ?_
  refine GQ.on ?_
  refine GW.toSeq rfl ?_
  refine GW.toSeq rfl ?_
  refine GW.toReg rfl ?_
  refine GL.one rfl .no (S1.mv (v := (.slice _ _ _)) rfl) ?_
  refine GL.one rfl .no (S1.len el26 rfl) ?_
  refine GL.one rfl .no (S1.fa fa25_0 rfl) ?_
  refine GL.one rfl .no (S1.ld sc22 rfl (.at .z) rfl) ?_
  refine GL.one rfl .no (S1.len el22 rfl) ?_
  refine GL.one rfl .no (S1.neq rfl rfl) ?_
  refine GL.done rfl ?_
  refine GQ.on ?_
  refine GW.toD rfl rfl (fun w2 => ?_) (fun w2 => ?_)
  refine GW.toSeq rfl ?_
  refine GW.toReg rfl ?_
  refine GL.one rfl .no (S1.as (v := (.int _ _)) rfl) ?_
  refine GL.done rfl ?_
  refine GQ.on ?_
  refine GW.toRet rfl ?_
  refine GQ.onR ?_
  refine GQ.ret _ (.tmp (v := (.int _ _)) rfl rfl .nil) .one rfl ?_ .nil
  omega
  refine GW.toSkip rfl ?_
  refine GQ.on ?_
  refine GW.toSeq rfl ?_
  refine GW.toSeq rfl ?_
  refine GW.toReg rfl ?_
  refine GL.one rfl .no (S1.mv (v := (.slice _ _ _)) rfl) ?_
  refine GL.one rfl .no (S1.len el26 rfl) ?_
  refine GL.one rfl .no (S1.mv (v := (.int _ _)) rfl) ?_
  refine GL.done rfl ?_
  refine GQ.on ?_
  refine GW.toBlock rfl ?_
  refine GW.toLoop (fun x : Nat => [(14, .slice ra rn rc), (15, .int .i64 rn), (16, .int .i64 x)]) (fun _ => []) (fun x => x ≤ rn) (fun x => rn - x) rfl 0 (Nat.zero_le _) (.c rfl (.c rfl (.c rfl .n))) .nil ?_
  rintro x f hx
  refine GW.toSeq rfl ?_
  refine GW.toReg rfl ?_
  refine GL.one rfl .no (S1.lss rfl rfl) ?_
  refine GL.done rfl ?_
  refine GQ.on ?_
  refine GW.toSeq rfl ?_
  refine GW.toD rfl rfl (fun w3 => ?_) (fun w3 => ?_)
  refine GW.toSkip rfl ?_
  refine GQ.on ?_
  refine GW.toSeq rfl ?_
  refine GW.toBlock rfl ?_
  refine GW.toSeq rfl ?_
  refine GW.toReg rfl ?_
  refine GL.one rfl .no (S1.ixR el26 h3 rfl rfl (by omega)) ?_
  refine GL.one rfl .no (S1.ldE ag47 h3 rfl (m := x) (by omega) rfl le47) ?_
  refine GL.opN rfl .no (SN.al zc47) (fun a4 => ?_)
  refine GL.one rfl .no (S1.stA ag47 rfl rfl rfl rfl (by repeat constructor) .z) ?_
  refine GL.done rfl ?_
  refine GQ.on ?_
  refine GW.toSeq rfl ?_
  refine GW.toReg rfl ?_
  refine GL.one rfl .no (S1.ldW ag47 rfl (.at .z) rfl) ?_
  refine GL.call rfl .no fo44 .nil (fun h H => ct44) (.d (.c (v := (.agg _)) rfl (.c (v := (.int _ _)) rfl (.c (v := (.int _ _)) rfl .n)))) (fun e44 q44 => ?_)
  refine GL.one rfl .no (S1.as (v := (.int _ _)) rfl) ?_
  refine GL.done rfl ?_
  refine GQ.on ?_
  refine GW.toSeq rfl ?_
  refine GW.toReg rfl ?_
  refine GL.one rfl .no (S1.mv (v := (.int _ _)) rfl) ?_
  refine GL.one rfl .no (S1.neq rfl rfl) ?_
  refine GL.done rfl ?_
  refine GQ.on ?_
  refine GW.toD rfl rfl (fun w6 => ?_) (fun w6 => ?_)
  refine GW.toSeq rfl ?_
  refine GW.toReg rfl ?_
  refine GL.one rfl .no (S1.mv (v := (.int _ _)) rfl) ?_
  refine GL.one rfl .no (S1.as (v := (.int _ _)) rfl) ?_
  refine GL.done rfl ?_
  refine GQ.on ?_
  refine GW.toRet rfl ?_
  refine GQ.outR ?_
  refine GQ.onR ?_
  refine GQ.onR ?_
  refine GQ.outR ?_
  refine GQ.onR ?_
  refine GQ.ret _ (.tmp (v := (.int _ _)) rfl rfl .nil) .one rfl ?_ .nil
  omega
  refine GW.toSkip rfl ?_
  refine GQ.outN ?_
  refine GQ.on ?_
  refine GW.toReg rfl ?_
  refine GL.one rfl .no (S1.inc rfl rfl (by omega)) ?_
  refine GL.one rfl .no (S1.mv (v := (.int _ _)) rfl) ?_
  refine GL.done rfl ?_
  refine GQ.next (x + 1) (by omega) (by omega) (.c rfl (.c rfl (.c rfl .n))) .nil
  refine GW.toExit rfl ?_
  refine GQ.onE ?_
  refine GQ.onE ?_
  refine GQ.outH ?_
  refine GQ.on ?_
  refine GW.toSeq rfl ?_
  refine GW.toReg rfl ?_
  refine GL.one rfl .no (S1.as (v := (.int _ _)) rfl) ?_
  refine GL.done rfl ?_
  refine GQ.on ?_
  refine GW.toRet rfl ?_
  refine GQ.ret _ (.tmp (v := (.int _ _)) rfl rfl .nil) .one rfl ?_ .nil
  omega
end Go.Proofs.Ytmlknglgijeepaa
namespace Go.Proofs.Ytmlknglgijeepaa
open Go Go.E
set_option maxRecDepth 100000

/-- An event that passes. -/
def EvOk (hr : RO) (ln : Nat) (cn : Nat) (ea : Option Addr) (k : Nat) : Prop :=
  (ie hr ea (k * 5 + 1) = 0 ∨ ie hr ea (k * 5 + 1) = 1) ∧ 0 ≤ ie hr ea (k * 5 + 2) ∧ ie hr ea (k * 5 + 2) < ln ∧ (ie hr ea (k * 5 + 1) = 1 → 0 ≤ ie hr ea (k * 5 + 3) ∧ ie hr ea (k * 5 + 3) < cn)

/-- A history that passes. -/
structure HiOk (hr : RO) (ln : Nat) (ca : Option Addr) (cn : Nat) (rn : Nat) (ea : Option Addr) (en : Nat) : Prop where
  sk : SkOk hr ln ca cn
  rl : rn = ln
  e60 : en ≤ 60
  ev : ∀ k, k < en → EvOk hr ln cn ea k

theorem allNext {p : Nat → Prop} {x : Nat} (h : ∀ k, k < x → p k) (q : p x) : ∀ k, k < x + 1 → p k := fun k hk => by
  rcases Nat.lt_succ_iff_lt_or_eq.1 hk with hk | rfl
  · exact h k hk
  · exact q


set_option maxHeartbeats 4000000 in
theorem ct48 {h : EH} {hr : RO} {la ca ra ea : Option Addr} {ln lc cn cc rn rc en ec : Nat} (hR : ∀ b o, hr b = some o → h[b]? = some o) (h1 : Cell hr (.sl ly75) (.slice la ln lc)) (h2 : Cell hr (.sl ly80) (.slice ca cn cc)) (h3 : Cell hr (.sl ly47) (.slice ra rn rc)) (h4 : Cell hr (.sl ly89) (.slice ea en ec)) :
    Ct Try.prog 48 ⟨[.agg ⟨[.slice la ln lc, .slice ca cn cc]⟩, .slice ra rn rc, .slice ea en ec]⟩ h [] (fun e : Int => .int .i64 e) (fun e => e = 0 → HiOk hr ln ca cn rn ea en) (fun _ => []) := by
  have hl1 := h1.le
  have hl2 := h2.le
  have hl4 := h4.le
  refine Ct.go Try.func48 rfl rfl co48 (Hp.start hR) ?_
  refine GW.toSeq rfl ?_
  refine GW.toReg rfl ?_
  refine GL.opN rfl .no (SN.bx (u := .agg ⟨_⟩) rfl .agg) (fun a1 => ?_)
  refine GL.one rfl .no (S1.as (v := (.int _ _)) rfl) ?_
  refine GL.done rfl ?_
  refine GQ.on ?_
  refine GW.toSeq rfl ?_
  refine GW.toSeq rfl ?_
  refine GW.toReg rfl ?_
  refine GL.one rfl .no (S1.ldW ag25 rfl (.at .z) rfl) ?_
  refine GL.call rfl .no fo7 .nil (fun h H => ct7 H.rom h1 h2) (.d (.c (v := (.agg _)) rfl .n)) (fun e7 q7 => ?_)
  refine GL.one rfl .no (S1.mv (v := (.tuple _)) rfl) ?_
  refine GL.one rfl .no (S1.ext (v := (.int _ _)) rfl rfl) ?_
  refine GL.one rfl .no (S1.ext (v := (.int _ _)) rfl rfl) ?_
  refine GL.one rfl .no (S1.ext (v := (.int _ _)) rfl rfl) ?_
  refine GL.one rfl .no (S1.as (v := (.int _ _)) rfl) ?_
  refine GL.one rfl .no (S1.as (v := (.int _ _)) rfl) ?_
  refine GL.one rfl .no (S1.as (v := (.int _ _)) rfl) ?_
  refine GL.done rfl ?_
  refine GQ.on ?_
  refine GW.toSeq rfl ?_
  refine GW.toReg rfl ?_
  refine GL.one rfl .no (S1.mv (v := (.int _ _)) rfl) ?_
  refine GL.one rfl .no (S1.neq rfl rfl) ?_
  refine GL.done rfl ?_
  refine GQ.on ?_
  refine GW.toD rfl rfl (fun w3 => ?_) (fun w3 => ?_)
  refine GW.toSeq rfl ?_
  refine GW.toReg rfl ?_
  refine GL.one rfl .no (S1.mv (v := (.int _ _)) rfl) ?_
  refine GL.one rfl .no (S1.as (v := (.int _ _)) rfl) ?_
  refine GL.done rfl ?_
  refine GQ.on ?_
  refine GW.toRet rfl ?_
  refine GQ.onR ?_
  refine GQ.ret _ (.tmp (v := (.int _ _)) rfl rfl .nil) .one rfl ?_ .nil
  omega
  refine GW.toSkip rfl ?_
  refine GQ.on ?_
  refine GW.toSeq rfl ?_
  refine GW.toSeq rfl ?_
  refine GW.toReg rfl ?_
  refine GL.one rfl .no (S1.ldW ag25 rfl (.at .z) rfl) ?_
  refine GL.one rfl .no (S1.mv (v := (.slice _ _ _)) rfl) ?_
  refine GL.call rfl .no fo84 .nil (fun h H => ct84 H.rom h1 h2 h3) (.d (.c (v := (.agg _)) rfl (.c (v := (.slice _ _ _)) rfl .n))) (fun e84 q84 => ?_)
  refine GL.one rfl .no (S1.as (v := (.int _ _)) rfl) ?_
  refine GL.done rfl ?_
  refine GQ.on ?_
  refine GW.toSeq rfl ?_
  refine GW.toReg rfl ?_
  refine GL.one rfl .no (S1.mv (v := (.int _ _)) rfl) ?_
  refine GL.one rfl .no (S1.neq rfl rfl) ?_
  refine GL.done rfl ?_
  refine GQ.on ?_
  refine GW.toD rfl rfl (fun w5 => ?_) (fun w5 => ?_)
  refine GW.toSeq rfl ?_
  refine GW.toReg rfl ?_
  refine GL.one rfl .no (S1.mv (v := (.int _ _)) rfl) ?_
  refine GL.one rfl .no (S1.as (v := (.int _ _)) rfl) ?_
  refine GL.done rfl ?_
  refine GQ.on ?_
  refine GW.toRet rfl ?_
  refine GQ.onR ?_
  refine GQ.ret _ (.tmp (v := (.int _ _)) rfl rfl .nil) .one rfl ?_ .nil
  omega
  refine GW.toSkip rfl ?_
  refine GQ.on ?_
  refine GW.toSeq rfl ?_
  refine GW.toSeq rfl ?_
  refine GW.toReg rfl ?_
  refine GL.one rfl .no (S1.mv (v := (.slice _ _ _)) rfl) ?_
  refine GL.one rfl .no (S1.len el27 rfl) ?_
  refine GL.one rfl .no (S1.gtr rfl rfl) ?_
  refine GL.done rfl ?_
  refine GQ.on ?_
  refine GW.toD rfl rfl (fun w6 => ?_) (fun w6 => ?_)
  refine GW.toSeq rfl ?_
  refine GW.toReg rfl ?_
  refine GL.one rfl .no (S1.as (v := (.int _ _)) rfl) ?_
  refine GL.done rfl ?_
  refine GQ.on ?_
  refine GW.toRet rfl ?_
  refine GQ.onR ?_
  refine GQ.ret _ (.tmp (v := (.int _ _)) rfl rfl .nil) .one rfl ?_ .nil
  omega
  refine GW.toSkip rfl ?_
  refine GQ.on ?_
  refine GW.toSeq rfl ?_
  refine GW.toReg rfl ?_
  refine GL.one rfl .no (S1.as (v := (.int _ _)) rfl) ?_
  refine GL.done rfl ?_
  refine GQ.on ?_
  refine GW.toSeq rfl ?_
  refine GW.toSeq rfl ?_
  refine GW.toReg rfl ?_
  refine GL.one rfl .no (S1.mv (v := (.slice _ _ _)) rfl) ?_
  refine GL.one rfl .no (S1.len el27 rfl) ?_
  refine GL.one rfl .no (S1.mv (v := (.int _ _)) rfl) ?_
  refine GL.done rfl ?_
  refine GQ.on ?_
  refine GW.toBlock rfl ?_
  refine GW.toLoop (X := Nat × Int) (fun x => [(3, .pointer (some ⟨a1, 0, none⟩)), (11, .int .i64 x.2), (33, .slice ea en ec), (34, .int .i64 en), (35, .int .i64 x.1)]) (fun _ => [(a1, .cells [.slice la ln lc, .slice ca cn cc] none true)]) (fun x => x.1 ≤ en ∧ ∀ k, k < x.1 → EvOk hr ln cn ea k) (fun x => en - x.1) rfl (0, 0) ⟨Nat.zero_le _, fun k hk => absurd hk (by simp)⟩ (.c rfl (.c rfl (.c rfl (.c rfl (.c rfl .n))))) (.cons .z .nil) ?_
  rintro ⟨x, wk⟩ f ⟨hx, hp⟩
  dsimp only at hx hp
  refine GW.toSeq rfl ?_
  refine GW.toReg rfl ?_
  refine GL.one rfl .no (S1.lss rfl rfl) ?_
  refine GL.done rfl ?_
  refine GQ.on ?_
  refine GW.toSeq rfl ?_
  refine GW.toD rfl rfl (fun w7 => ?_) (fun w7 => ?_)
  refine GW.toSkip rfl ?_
  refine GQ.on ?_
  refine GW.toSeq rfl ?_
  refine GW.toBlock rfl ?_
  refine GW.toSeq rfl ?_
  refine GW.toReg rfl ?_
  refine GL.one rfl .no (S1.ixR el27 h4 rfl rfl (by omega)) ?_
  refine GL.one rfl .no (S1.ldE ag89 h4 rfl (m := (x, wk).fst) (by omega) rfl le89) ?_
  refine GL.opN rfl .no (SN.al zc89) (fun a8 => ?_)
  refine GL.one rfl .no (S1.stA ag89 rfl rfl rfl rfl (by repeat constructor) .z) ?_
  refine GL.done rfl ?_
  refine GQ.on ?_
  refine GW.toSeq rfl ?_
  refine GW.toReg rfl ?_
  refine GL.one rfl .no (S1.fa fa89_1 rfl) ?_
  refine GL.one rfl .no (S1.ld sc3 rfl (.at .z) rfl) ?_
  refine GL.one rfl .no (S1.eql rfl rfl) ?_
  refine GL.one rfl .no (S1.as (v := (.bool _)) rfl) ?_
  refine GL.done rfl ?_
  refine GQ.on ?_
  refine GW.toSeq rfl ?_
  refine GW.toBlock rfl ?_
  refine GW.toSeq rfl ?_
  refine GW.toReg rfl ?_
  refine GL.one rfl .no (S1.fa fa89_0 rfl) ?_
  refine GL.one rfl .no (S1.ld sc3 rfl (.at .z) rfl) ?_
  refine GL.opN rfl .no (SN.bs el31 ez31 (.c (v := (.int _ _)) rfl rfl .n) rfl rfl) (fun a9 => ?_)
  refine GL.call rfl .no fo38 .nil (fun h H => ct38_1 (H.get .z)) (.d (.c (v := (.int _ _)) rfl (.c (v := (.int _ _)) rfl (.c (v := (.slice _ _ _)) rfl .n)))) (fun _ _ => ?_)
  refine GL.one rfl .no (S1.as (v := (.bool _)) rfl) ?_
  refine GL.done rfl ?_
  refine GQ.on ?_
  refine GW.toC rfl rfl (fun w12 => ?_) (fun w12 => ?_)
  refine GW.toSeq rfl ?_
  refine GW.toReg rfl ?_
  refine GL.one rfl .no (S1.as (v := (.int _ _)) rfl) ?_
  refine GL.done rfl ?_
  refine GQ.on ?_
  refine GW.toRet rfl ?_
  refine GQ.outR ?_
  refine GQ.onR ?_
  refine GQ.outR ?_
  refine GQ.onR ?_
  refine GQ.onR ?_
  refine GQ.outR ?_
  refine GQ.onR ?_
  refine GQ.ret _ (.tmp (v := (.int _ _)) rfl rfl .nil) .one rfl ?_ .nil
  omega
  refine GW.toSeq rfl ?_
  refine GW.toReg rfl ?_
  refine GL.one rfl .no (S1.fa fa89_0 rfl) ?_
  refine GL.one rfl .no (S1.ld sc3 rfl (.at (.s .z)) rfl) ?_
  refine GL.one rfl .no (S1.mv (v := (.int _ _)) rfl) ?_
  refine GL.one rfl .no (S1.lss rfl rfl) ?_
  refine GL.one rfl .no (S1.mv (v := (.bool _)) rfl) ?_
  refine GL.splitD 52 rfl (fun w13 => ?_) (fun w13 => ?_)
  refine GL.skip rfl (.not rfl rfl rfl) ?_
  refine GL.skip rfl (.not rfl rfl rfl) ?_
  refine GL.skip rfl (.not rfl rfl rfl) ?_
  refine GL.skip rfl (.not rfl rfl rfl) ?_
  refine GL.one rfl .no (S1.pickT (v := (.bool _)) rfl rfl) ?_
  refine GL.one rfl .no (S1.as (v := (.bool _)) rfl) ?_
  refine GL.done rfl ?_
  refine GQ.on ?_
  refine GW.toT rfl rfl ?_
  refine GW.toSeq rfl ?_
  refine GW.toReg rfl ?_
  refine GL.one rfl .no (S1.as (v := (.int _ _)) rfl) ?_
  refine GL.done rfl ?_
  refine GQ.on ?_
  refine GW.toRet rfl ?_
  refine GQ.outR ?_
  refine GQ.onR ?_
  refine GQ.outR ?_
  refine GQ.onR ?_
  refine GQ.onR ?_
  refine GQ.outR ?_
  refine GQ.onR ?_
  refine GQ.ret _ (.tmp (v := (.int _ _)) rfl rfl .nil) .one rfl ?_ .nil
  omega
  refine GL.one rfl (.yes rfl rfl rfl) (S1.fa fa89_1 rfl) ?_
  refine GL.one rfl (.yes rfl rfl rfl) (S1.ld sc3 rfl (.at (.s .z)) rfl) ?_
  refine GL.opN rfl (.yes rfl rfl rfl) (SN.bs el31 ez31 (.c (v := (.int _ _)) rfl rfl .n) rfl rfl) (fun a14 => ?_)
  refine GL.call rfl (.yes rfl rfl rfl) fo38 .nil (fun h H => ct38_1 (H.get .z)) (.d (.c (v := (.int _ _)) rfl (.c (v := (.int _ _)) rfl (.c (v := (.slice _ _ _)) rfl .n)))) (fun _ _ => ?_)
  refine GL.one rfl .no (S1.pickF (v := (.bool _)) rfl rfl) ?_
  refine GL.one rfl .no (S1.as (v := (.bool _)) rfl) ?_
  refine GL.done rfl ?_
  refine GQ.on ?_
  refine GW.toC rfl rfl (fun w17 => ?_) (fun w17 => ?_)
  refine GW.toSeq rfl ?_
  refine GW.toReg rfl ?_
  refine GL.one rfl .no (S1.as (v := (.int _ _)) rfl) ?_
  refine GL.done rfl ?_
  refine GQ.on ?_
  refine GW.toRet rfl ?_
  refine GQ.outR ?_
  refine GQ.onR ?_
  refine GQ.outR ?_
  refine GQ.onR ?_
  refine GQ.onR ?_
  refine GQ.outR ?_
  refine GQ.onR ?_
  refine GQ.ret _ (.tmp (v := (.int _ _)) rfl rfl .nil) .one rfl ?_ .nil
  omega
  refine GW.toSeq rfl ?_
  refine GW.toReg rfl ?_
  refine GL.one rfl .no (S1.fa fa25_0 rfl) ?_
  refine GL.one rfl .no (S1.ld sc22 rfl (.at (.s (.s (.s .z)))) rfl) ?_
  refine GL.one rfl .no (S1.len el22 rfl) ?_
  refine GL.one rfl .no (S1.subI rfl rfl (by omega) (by omega)) ?_
  refine GL.one rfl .no (S1.fa fa89_2 rfl) ?_
  refine GL.one rfl .no (S1.ld sc3 rfl (.at (.s (.s .z))) rfl) ?_
  refine GL.opN rfl .no (SN.bs el31 ez31 (.c (v := (.int _ _)) rfl rfl .n) rfl rfl) (fun a18 => ?_)
  refine GL.call rfl .no fo38 .nil (fun h H => ct38_1 (H.get .z)) (.d (.c (v := (.int _ _)) rfl (.c (v := (.int _ _)) rfl (.c (v := (.slice _ _ _)) rfl .n)))) (fun _ _ => ?_)
  refine GL.one rfl .no (S1.mv (v := (.bool _)) rfl) ?_
  refine GL.split 67 rfl (fun w21 => ?_) (fun w21 => ?_)
  refine GL.skip rfl (.not rfl rfl rfl) ?_
  refine GL.skip rfl (.not rfl rfl rfl) ?_
  refine GL.skip rfl (.und rfl rfl rfl) ?_
  refine GL.skip rfl (.und rfl rfl rfl) ?_
  refine GL.skip rfl (.und rfl rfl rfl) ?_
  refine GL.skip rfl (.und rfl rfl rfl) ?_
  refine GL.skip rfl (.und rfl rfl rfl) ?_
  refine GL.skip rfl (.und rfl rfl rfl) ?_
  refine GL.skip rfl (.und rfl rfl rfl) ?_
  refine GL.skip rfl (.und rfl rfl rfl) ?_
  refine GL.skip rfl (.not rfl rfl rfl) ?_
  refine GL.one rfl .no (S1.pickT (v := (.bool _)) rfl rfl) ?_
  refine GL.one rfl .no (S1.as (v := (.bool _)) rfl) ?_
  refine GL.done rfl ?_
  refine GQ.on ?_
  refine GW.toT rfl rfl ?_
  refine GW.toSeq rfl ?_
  refine GW.toReg rfl ?_
  refine GL.one rfl .no (S1.as (v := (.int _ _)) rfl) ?_
  refine GL.done rfl ?_
  refine GQ.on ?_
  refine GW.toRet rfl ?_
  refine GQ.outR ?_
  refine GQ.onR ?_
  refine GQ.outR ?_
  refine GQ.onR ?_
  refine GQ.onR ?_
  refine GQ.outR ?_
  refine GQ.onR ?_
  refine GQ.ret _ (.tmp (v := (.int _ _)) rfl rfl .nil) .one rfl ?_ .nil
  omega
  refine GL.one rfl (.yes rfl rfl rfl) (S1.mv (v := (.bool _)) rfl) ?_
  refine GL.one rfl (.yes rfl rfl rfl) (S1.mv (v := (.bool _)) rfl) ?_
  refine GL.splitD 69 rfl (fun w22 => ?_) (fun w22 => ?_)
  refine GL.one rfl (.yes rfl rfl rfl) (S1.fa fa25_1 rfl) ?_
  refine GL.one rfl (.yes rfl rfl rfl) (S1.ld sc23 rfl (.at (.s (.s (.s (.s .z))))) rfl) ?_
  refine GL.one rfl (.yes rfl rfl rfl) (S1.len el23 rfl) ?_
  refine GL.one rfl (.yes rfl rfl rfl) (S1.subI rfl rfl (by omega) (by omega)) ?_
  refine GL.one rfl (.yes rfl rfl rfl) (S1.fa fa89_3 rfl) ?_
  refine GL.one rfl (.yes rfl rfl rfl) (S1.ld sc3 rfl (.at (.s (.s (.s .z)))) rfl) ?_
  refine GL.opN rfl (.yes rfl rfl rfl) (SN.bs el31 ez31 (.c (v := (.int _ _)) rfl rfl .n) rfl rfl) (fun a23 => ?_)
  refine GL.call rfl (.yes rfl rfl rfl) fo38 .nil (fun h H => ct38_1 (H.get .z)) (.d (.c (v := (.int _ _)) rfl (.c (v := (.int _ _)) rfl (.c (v := (.slice _ _ _)) rfl .n)))) (fun _ _ => ?_)
  refine GL.one rfl (.yes rfl rfl rfl) (S1.pickT (v := (.bool _)) rfl rfl) ?_
  refine GL.one rfl .no (S1.pickF (v := (.bool _)) rfl rfl) ?_
  refine GL.one rfl .no (S1.as (v := (.bool _)) rfl) ?_
  refine GL.done rfl ?_
  refine GQ.on ?_
  refine GW.toC rfl rfl (fun w26 => ?_) (fun w26 => ?_)
  refine GW.toSeq rfl ?_
  refine GW.toReg rfl ?_
  refine GL.one rfl .no (S1.as (v := (.int _ _)) rfl) ?_
  refine GL.done rfl ?_
  refine GQ.on ?_
  refine GW.toRet rfl ?_
  refine GQ.outR ?_
  refine GQ.onR ?_
  refine GQ.outR ?_
  refine GQ.onR ?_
  refine GQ.onR ?_
  refine GQ.outR ?_
  refine GQ.onR ?_
  refine GQ.ret _ (.tmp (v := (.int _ _)) rfl rfl .nil) .one rfl ?_ .nil
  omega
  refine GW.toSeq rfl ?_
  refine GW.toReg rfl ?_
  refine GL.one rfl .no (S1.mv (v := (.bool _)) rfl) ?_
  refine GL.one rfl .no (S1.mv (v := (.bool _)) rfl) ?_
  refine GL.splitD 82 rfl (fun w27 => ?_) (fun w27 => ?_)
  refine GL.one rfl (.yes rfl rfl rfl) (S1.fa fa89_4 rfl) ?_
  refine GL.one rfl (.yes rfl rfl rfl) (S1.ld sc3 rfl (.at (.s (.s (.s (.s .z))))) rfl) ?_
  refine GL.opN rfl (.yes rfl rfl rfl) (SN.bs el31 ez31 (.c (v := (.int _ _)) rfl rfl .n) rfl rfl) (fun a28 => ?_)
  refine GL.call rfl (.yes rfl rfl rfl) fo38 .nil (fun h H => ct38_1 (H.get .z)) (.d (.c (v := (.int _ _)) rfl (.c (v := (.int _ _)) rfl (.c (v := (.slice _ _ _)) rfl .n)))) (fun _ _ => ?_)
  refine GL.one rfl .no (S1.pickT (v := (.bool _)) rfl rfl) ?_
  refine GL.one rfl .no (S1.as (v := (.bool _)) rfl) ?_
  refine GL.done rfl ?_
  refine GQ.on ?_
  refine GW.toC rfl rfl (fun w31 => ?_) (fun w31 => ?_)
  refine GW.toSeq rfl ?_
  refine GW.toReg rfl ?_
  refine GL.one rfl .no (S1.as (v := (.int _ _)) rfl) ?_
  refine GL.done rfl ?_
  refine GQ.on ?_
  refine GW.toRet rfl ?_
  refine GQ.outR ?_
  refine GQ.onR ?_
  refine GQ.outR ?_
  refine GQ.onR ?_
  refine GQ.onR ?_
  refine GQ.outR ?_
  refine GQ.onR ?_
  refine GQ.ret _ (.tmp (v := (.int _ _)) rfl rfl .nil) .one rfl ?_ .nil
  omega
  refine GW.toSkip rfl ?_
  refine GQ.outN ?_
  refine GQ.on ?_
  refine GW.toReg rfl ?_
  refine GL.one rfl .no (S1.fa fa89_0 rfl) ?_
  refine GL.one rfl .no (S1.ld sc3 rfl (.at (.s (.s (.s (.s (.s .z)))))) rfl) ?_
  refine GL.one rfl .no (S1.as (v := (.int _ _)) rfl) ?_
  refine GL.done rfl ?_
  refine GQ.outN ?_
  refine GQ.on ?_
  refine GW.toReg rfl ?_
  refine GL.one rfl .no (S1.inc rfl rfl (by omega)) ?_
  refine GL.one rfl .no (S1.mv (v := (.int _ _)) rfl) ?_
  refine GL.done rfl ?_
  refine GQ.next (x + 1, _) ⟨by dsimp only; omega, allNext hp (by simp only [outB_e] at *; unfold EvOk; simp only [ie]; omega)⟩ (by dsimp only; omega) (.c rfl (.c rfl (.c rfl (.c rfl (.c rfl .n))))) (.cons (.s (.s (.s (.s (.s (.s .z)))))) .nil)
  refine GL.skip rfl (.not rfl rfl rfl) ?_
  refine GL.skip rfl (.not rfl rfl rfl) ?_
  refine GL.skip rfl (.not rfl rfl rfl) ?_
  refine GL.skip rfl (.not rfl rfl rfl) ?_
  refine GL.one rfl .no (S1.pickF (v := (.bool _)) rfl rfl) ?_
  refine GL.one rfl .no (S1.as (v := (.bool _)) rfl) ?_
  refine GL.done rfl ?_
  refine GQ.on ?_
  refine GW.toF rfl rfl ?_
  refine GW.toSkip rfl ?_
  refine GQ.outN ?_
  refine GQ.on ?_
  refine GW.toReg rfl ?_
  refine GL.one rfl .no (S1.fa fa89_0 rfl) ?_
  refine GL.one rfl .no (S1.ld sc3 rfl (.at (.s (.s (.s (.s .z))))) rfl) ?_
  refine GL.one rfl .no (S1.as (v := (.int _ _)) rfl) ?_
  refine GL.done rfl ?_
  refine GQ.outN ?_
  refine GQ.on ?_
  refine GW.toReg rfl ?_
  refine GL.one rfl .no (S1.inc rfl rfl (by omega)) ?_
  refine GL.one rfl .no (S1.mv (v := (.int _ _)) rfl) ?_
  refine GL.done rfl ?_
  refine GQ.next (x + 1, _) ⟨by dsimp only; omega, allNext hp (by simp only [outB_e] at *; unfold EvOk; simp only [ie]; omega)⟩ (by dsimp only; omega) (.c rfl (.c rfl (.c rfl (.c rfl (.c rfl .n))))) (.cons (.s (.s (.s (.s (.s .z))))) .nil)
  refine GL.skip rfl (.not rfl rfl rfl) ?_
  refine GL.skip rfl (.not rfl rfl rfl) ?_
  refine GL.skip rfl (.not rfl rfl rfl) ?_
  refine GL.skip rfl (.not rfl rfl rfl) ?_
  refine GL.skip rfl (.not rfl rfl rfl) ?_
  refine GL.skip rfl (.not rfl rfl rfl) ?_
  refine GL.skip rfl (.not rfl rfl rfl) ?_
  refine GL.skip rfl (.not rfl rfl rfl) ?_
  refine GL.one rfl (.yes rfl rfl rfl) (S1.pickF (v := (.bool _)) rfl rfl) ?_
  refine GL.one rfl .no (S1.pickF (v := (.bool _)) rfl rfl) ?_
  refine GL.one rfl .no (S1.as (v := (.bool _)) rfl) ?_
  refine GL.done rfl ?_
  refine GQ.on ?_
  refine GW.toF rfl rfl ?_
  refine GW.toSeq rfl ?_
  refine GW.toReg rfl ?_
  refine GL.one rfl .no (S1.mv (v := (.bool _)) rfl) ?_
  refine GL.one rfl .no (S1.mv (v := (.bool _)) rfl) ?_
  refine GL.splitD 82 rfl (fun w32 => ?_) (fun w32 => ?_)
  refine GL.one rfl (.yes rfl rfl rfl) (S1.fa fa89_4 rfl) ?_
  refine GL.one rfl (.yes rfl rfl rfl) (S1.ld sc3 rfl (.at (.s (.s (.s .z)))) rfl) ?_
  refine GL.opN rfl (.yes rfl rfl rfl) (SN.bs el31 ez31 (.c (v := (.int _ _)) rfl rfl .n) rfl rfl) (fun a33 => ?_)
  refine GL.call rfl (.yes rfl rfl rfl) fo38 .nil (fun h H => ct38_1 (H.get .z)) (.d (.c (v := (.int _ _)) rfl (.c (v := (.int _ _)) rfl (.c (v := (.slice _ _ _)) rfl .n)))) (fun _ _ => ?_)
  refine GL.one rfl .no (S1.pickT (v := (.bool _)) rfl rfl) ?_
  refine GL.one rfl .no (S1.as (v := (.bool _)) rfl) ?_
  refine GL.done rfl ?_
  refine GQ.on ?_
  refine GW.toC rfl rfl (fun w36 => ?_) (fun w36 => ?_)
  refine GW.toSeq rfl ?_
  refine GW.toReg rfl ?_
  refine GL.one rfl .no (S1.as (v := (.int _ _)) rfl) ?_
  refine GL.done rfl ?_
  refine GQ.on ?_
  refine GW.toRet rfl ?_
  refine GQ.outR ?_
  refine GQ.onR ?_
  refine GQ.outR ?_
  refine GQ.onR ?_
  refine GQ.onR ?_
  refine GQ.outR ?_
  refine GQ.onR ?_
  refine GQ.ret _ (.tmp (v := (.int _ _)) rfl rfl .nil) .one rfl ?_ .nil
  omega
  refine GW.toSkip rfl ?_
  refine GQ.outN ?_
  refine GQ.on ?_
  refine GW.toReg rfl ?_
  refine GL.one rfl .no (S1.fa fa89_0 rfl) ?_
  refine GL.one rfl .no (S1.ld sc3 rfl (.at (.s (.s (.s (.s .z))))) rfl) ?_
  refine GL.one rfl .no (S1.as (v := (.int _ _)) rfl) ?_
  refine GL.done rfl ?_
  refine GQ.outN ?_
  refine GQ.on ?_
  refine GW.toReg rfl ?_
  refine GL.one rfl .no (S1.inc rfl rfl (by omega)) ?_
  refine GL.one rfl .no (S1.mv (v := (.int _ _)) rfl) ?_
  refine GL.done rfl ?_
  refine GQ.next (x + 1, _) ⟨by dsimp only; omega, allNext hp (by simp only [outB_e] at *; unfold EvOk; simp only [ie]; omega)⟩ (by dsimp only; omega) (.c rfl (.c rfl (.c rfl (.c rfl (.c rfl .n))))) (.cons (.s (.s (.s (.s (.s .z))))) .nil)
  refine GL.skip rfl (.not rfl rfl rfl) ?_
  refine GL.skip rfl (.not rfl rfl rfl) ?_
  refine GL.skip rfl (.not rfl rfl rfl) ?_
  refine GL.skip rfl (.not rfl rfl rfl) ?_
  refine GL.one rfl .no (S1.pickF (v := (.bool _)) rfl rfl) ?_
  refine GL.one rfl .no (S1.as (v := (.bool _)) rfl) ?_
  refine GL.done rfl ?_
  refine GQ.on ?_
  refine GW.toF rfl rfl ?_
  refine GW.toSkip rfl ?_
  refine GQ.outN ?_
  refine GQ.on ?_
  refine GW.toReg rfl ?_
  refine GL.one rfl .no (S1.fa fa89_0 rfl) ?_
  refine GL.one rfl .no (S1.ld sc3 rfl (.at (.s (.s (.s .z)))) rfl) ?_
  refine GL.one rfl .no (S1.as (v := (.int _ _)) rfl) ?_
  refine GL.done rfl ?_
  refine GQ.outN ?_
  refine GQ.on ?_
  refine GW.toReg rfl ?_
  refine GL.one rfl .no (S1.inc rfl rfl (by omega)) ?_
  refine GL.one rfl .no (S1.mv (v := (.int _ _)) rfl) ?_
  refine GL.done rfl ?_
  refine GQ.next (x + 1, _) ⟨by dsimp only; omega, allNext hp (by simp only [outB_e] at *; unfold EvOk; simp only [ie]; omega)⟩ (by dsimp only; omega) (.c rfl (.c rfl (.c rfl (.c rfl (.c rfl .n))))) (.cons (.s (.s (.s (.s .z)))) .nil)
  refine GW.toExit rfl ?_
  refine GQ.onE ?_
  refine GQ.onE ?_
  refine GQ.outH ?_
  refine GQ.on ?_
  refine GW.toSeq rfl ?_
  refine GW.toReg rfl ?_
  refine GL.one rfl .no (S1.as (v := (.int _ _)) rfl) ?_
  refine GL.done rfl ?_
  refine GQ.on ?_
  refine GW.toRet rfl ?_
  refine GQ.ret _ (.tmp (v := (.int _ _)) rfl rfl .nil) .one rfl ?_ .nil
  exact fun _ => ⟨q7 (by omega), q84 (by omega), by omega, fun k hk => hp k (by omega)⟩

/-- A clone of spans. -/
theorem ct85 {h : EH} {hr : RO} {ra : Option Addr} {rn rc : Nat} (hR : ∀ b o, hr b = some o → h[b]? = some o) (h3 : Cell hr (.sl ly47) (.slice ra rn rc)) (hn : 0 < rn) :
    Ct Try.prog 85 ⟨[.slice ra rn rc]⟩ h [] (fun x : Nat × List Int => rowS x.1 rn) (fun x => x.2.length = rn * 2) (fun x => [(x.1, opRow (ints x.2) 2)]) := by
  have hl3 := h3.le
  refine Ct.go Try.func85 rfl rfl co85 (Hp.start hR) ?_
  obtain ⟨q1, q2, q3⟩ := h3.romV rfl rfl (by decide)
  obtain ⟨l, hl, hll⟩ := q2.toInts (by simp [ly47]) q1 (by decide)
  obtain ⟨ad, rfl⟩ : ∃ ad, ra = some ad := ⟨_, (h3.hit hn).1⟩
  refine GW.toSeq rfl ?_
  refine GW.toReg rfl ?_
  refine GL.one rfl .no (S1.as (v := (.slice _ _ _)) rfl) ?_
  refine GL.done rfl ?_
  refine GQ.on ?_
  refine GW.toSeq rfl ?_
  refine GW.toSeq rfl ?_
  refine GW.toReg rfl ?_
  refine GL.one rfl .no (S1.mv (v := (.slice _ _ _)) rfl) ?_
  refine GL.one rfl .no (S1.bin (v := .bool false) (by kernel_rfl)) ?_
  refine GL.done rfl ?_
  refine GQ.on ?_
  refine GW.toF rfl rfl ?_
  refine GW.toSkip rfl ?_
  refine GQ.on ?_
  refine GW.toSeq rfl ?_
  refine GW.toReg rfl ?_
  refine GL.opN rfl .no (SN.bs0 el26 ez26) (fun a1 => ?_)
  refine GL.one rfl .no (S1.mv (v := (.slice _ _ _)) rfl) ?_
  refine GL.opN rfl .no (SN.apC ap26_26 rfl (Src.cell rfl h3 rfl hl) (by omega) (by omega) (.at .z) rfl) (fun a9 => ?_)
  simp only [Nat.zero_add, List.nil_append]
  refine GL.one rfl .no (S1.as (v := (.slice _ _ _)) rfl) ?_
  refine GL.done rfl ?_
  refine GQ.on ?_
  refine GW.toRet rfl ?_
  refine GQ.ret (a9, l) (.tmp (v := (.slice _ _ _)) rfl rfl .nil) .one ?_ ?_ (.cons .z .nil)
  rfl
  assumption

/-- A clone of instructors. -/
theorem ct54 {h : EH} {hr : RO} {ra : Option Addr} {rn rc : Nat} (hR : ∀ b o, hr b = some o → h[b]? = some o) (h3 : Cell hr (.sl ly80) (.slice ra rn rc)) (hn : 0 < rn) :
    Ct Try.prog 54 ⟨[.slice ra rn rc]⟩ h [] (fun x : Nat × List Value => rowS x.1 rn) (fun x => x.2.length = rn * 3 ∧ RowT ly80 x.2) (fun x => [(x.1, opRow x.2 3)]) := by
  have hl3 := h3.le
  refine Ct.go Try.func54 rfl rfl co54 (Hp.start hR) ?_
  obtain ⟨q1, q2, q3⟩ := h3.romV rfl rfl (by decide)
  obtain ⟨ad, rfl⟩ : ∃ ad, ra = some ad := ⟨_, (h3.hit hn).1⟩
  refine GW.toSeq rfl ?_
  refine GW.toReg rfl ?_
  refine GL.one rfl .no (S1.as (v := (.slice _ _ _)) rfl) ?_
  refine GL.done rfl ?_
  refine GQ.on ?_
  refine GW.toSeq rfl ?_
  refine GW.toSeq rfl ?_
  refine GW.toReg rfl ?_
  refine GL.one rfl .no (S1.mv (v := (.slice _ _ _)) rfl) ?_
  refine GL.one rfl .no (S1.bin (v := .bool false) (by kernel_rfl)) ?_
  refine GL.done rfl ?_
  refine GQ.on ?_
  refine GW.toF rfl rfl ?_
  refine GW.toSkip rfl ?_
  refine GQ.on ?_
  refine GW.toSeq rfl ?_
  refine GW.toReg rfl ?_
  refine GL.opN rfl .no (SN.bs0 el23 ez23) (fun a1 => ?_)
  refine GL.one rfl .no (S1.mv (v := (.slice _ _ _)) rfl) ?_
  refine GL.opN rfl .no (SN.apC ap23_23 rfl (Src.cell rfl h3 rfl rfl) (by omega) (by omega) (.at .z) rfl) (fun a9 => ?_)
  simp only [Nat.zero_add, List.nil_append]
  refine GL.one rfl .no (S1.as (v := (.slice _ _ _)) rfl) ?_
  refine GL.done rfl ?_
  refine GQ.on ?_
  refine GW.toRet rfl ?_
  refine GQ.ret (a9, _) (.tmp (v := (.slice _ _ _)) rfl rfl .nil) .one ?_ ?_ (.cons .z .nil)
  rfl
  exact ⟨q1, q2⟩
end Go.Proofs.Ytmlknglgijeepaa
