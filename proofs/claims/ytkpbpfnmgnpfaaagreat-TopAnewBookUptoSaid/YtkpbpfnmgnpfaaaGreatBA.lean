/- B1: contracts: out, IndexFunc, ContainsFunc over integers. -/
import Derived.Test.YtkpbpfnmgnpfaaaGreatFA
set_option linter.all false
set_option linter.constructorNameAsVariable false
set_option linter.unusedSimpArgs false
set_option linter.unusedVariables false
set_option linter.unusedSectionVars false
set_option linter.unnecessarySimpa false
namespace Go.Proofs.YtkpbpfnmgnpfaaaGreat
open Go Go.E
set_option maxRecDepth 100000

theorem ct67 {h : EH} {lo hi n : Int} {b1 b2 : Nat} (h1 : h[b1]? = some (.cells [.int .i64 lo] none true)) (h2 : h[b2]? = some (.cells [.int .i64 hi] none true)) :
    Ct Tryz.prog 67 ⟨[.int .i64 n, .pointer (some ⟨b1, 0, none⟩), .pointer (some ⟨b2, 0, none⟩)]⟩ h [] (fun _ : Unit => .bool (decide (n < lo) || decide (hi < n))) (fun _ => True) (fun _ => []) := by
  refine Ct.go Tryz.func67 rfl rfl co67 (Hp.start (hr := fun _ => none) (by simp)) ?_
  refine GW.toSeq rfl ?_
  refine GW.toReg rfl ?_
  refine GL.one rfl .no (S1.as (v := (.bool _)) rfl) ?_
  refine GL.done rfl ?_
  refine GQ.on ?_
  refine GW.toSeq rfl ?_
  refine GW.toReg rfl ?_
  refine GL.one rfl .no (S1.mv (v := (.int _ _)) rfl) ?_
  refine GL.one rfl .no (S1.ld sc3 rfl (.old0 h1) rfl) ?_
  refine GL.one rfl .no (S1.lss rfl rfl) ?_
  refine GL.one rfl .no (S1.mv (v := (.bool _)) rfl) ?_
  refine GL.splitD 8 rfl (fun w1 => ?_) (fun w1 => ?_)
  refine GL.skip rfl (.not rfl rfl rfl) ?_
  refine GL.skip rfl (.not rfl rfl rfl) ?_
  refine GL.skip rfl (.not rfl rfl rfl) ?_
  refine GL.one rfl .no (S1.pickT (v := (.bool _)) rfl rfl) ?_
  refine GL.one rfl .no (S1.as (v := (.bool _)) rfl) ?_
  refine GL.done rfl ?_
  refine GQ.on ?_
  refine GW.toRet rfl ?_
  refine GQ.ret () (.tmp (v := (.bool _)) rfl rfl .nil) .one ?_ ?_ .nil
  rotate_left
  exact trivial
  refine GL.one rfl (.yes rfl rfl rfl) (S1.mv (v := (.int _ _)) rfl) ?_
  refine GL.one rfl (.yes rfl rfl rfl) (S1.ld sc3 rfl (.old0 h2) rfl) ?_
  refine GL.one rfl (.yes rfl rfl rfl) (S1.gtr rfl rfl) ?_
  refine GL.one rfl .no (S1.pickF (v := (.bool _)) rfl rfl) ?_
  refine GL.one rfl .no (S1.as (v := (.bool _)) rfl) ?_
  refine GL.done rfl ?_
  refine GQ.on ?_
  refine GW.toRet rfl ?_
  refine GQ.ret () (.tmp (v := (.bool _)) rfl rfl .nil) .one ?_ ?_ .nil
  rotate_left
  exact trivial
  all_goals simp [*]

end Go.Proofs.YtkpbpfnmgnpfaaaGreat
namespace Go.Proofs.YtkpbpfnmgnpfaaaGreat
open Go Go.E
set_option maxRecDepth 100000


/-- IndexFunc over integers: what its function may say of each place. -/
theorem ct95 {h : EH} {a : Option Addr} {n c b o g : Nat} {vs : List Value} {opn : Option Nat} {wr : Bool} {x : Nat → Int} {R : Nat → Bool → Prop} {fs cs : List Value} (hn : n ≤ 1073741824) (hf : fnOk Tryz.prog g = true)
    (ha : 0 < n → a = some ⟨b, o, none⟩ ∧ h[b]? = some (.cells vs opn wr) ∧ ∀ k, k < n → vs[o + k * 1]? = some (.int .i64 (x k)))
    (hg : ∀ (h' : EH) (k : Nat), k < n → Ext h h' → Ct Tryz.prog g ⟨fs ++ ([.int .i64 (x k)] ++ cs)⟩ h' [] (fun r : Bool => .bool r) (R k) (fun _ => [])) :
    Ct Tryz.prog 95 ⟨[.slice a n c, .func (.func g) ⟨fs⟩ ⟨cs⟩]⟩ h [] (fun r : Int => .int .i64 r) (fun r => (r = -1 ∧ ∀ k, k < n → R k false) ∨ ∃ k, k < n ∧ r = (k : Int) ∧ R k true) (fun _ => []) := by
  refine Ct.go Tryz.func95 rfl rfl co95 (Hp.start (hr := fun _ => none) (by simp)) ?_
  refine GW.toSeq rfl ?_
  refine GW.toReg rfl ?_
  refine GL.one rfl .no (S1.as (v := (.int _ _)) rfl) ?_
  refine GL.done rfl ?_
  refine GQ.on ?_
  refine GW.toSeq rfl ?_
  refine GW.toSeq rfl ?_
  refine GW.toReg rfl ?_
  refine GL.one rfl .no (S1.mv (v := (.slice _ _ _)) rfl) ?_
  refine GL.one rfl .no (S1.len el32 rfl) ?_
  refine GL.one rfl .no (S1.mv (v := (.int _ _)) rfl) ?_
  refine GL.done rfl ?_
  refine GQ.on ?_
  refine GW.toBlock rfl ?_
  refine GW.toLoop (fun k : Nat => [(0, .slice a n c), (1, .func (.func g) ⟨fs⟩ ⟨cs⟩), (7, .int .i64 n), (8, .int .i64 k)]) (fun _ => []) (fun k => k ≤ n ∧ ∀ j, j < k → R j false) (fun k => n - k) rfl 0 ⟨Nat.zero_le _, fun j hj => by omega⟩ (.c rfl (.c rfl (.c rfl (.c rfl .n)))) .nil ?_
  rintro k f ⟨hk, hp⟩
  refine GW.toSeq rfl ?_
  refine GW.toReg rfl ?_
  refine GL.one rfl .no (S1.lss rfl rfl) ?_
  refine GL.done rfl ?_
  refine GQ.on ?_
  refine GW.toSeq rfl ?_
  refine GW.toD rfl rfl (fun w1 => ?_) (fun w1 => ?_)
  refine GW.toSkip rfl ?_
  refine GQ.on ?_
  refine GW.toSeq rfl ?_
  refine GW.toBlock rfl ?_
  refine GW.toSeq rfl ?_
  refine GW.toReg rfl ?_
  refine GL.one rfl .no (S1.mv (v := (.int _ _)) rfl) ?_
  refine GL.one rfl .no (S1.as (v := (.int _ _)) rfl) ?_
  refine GL.done rfl ?_
  refine GQ.on ?_
  refine GW.toSeq rfl ?_
  refine GW.toReg rfl ?_
  refine GL.one rfl .no (S1.mv (v := (.func _ _ _)) rfl) ?_
  refine GL.one rfl .no (S1.mv (v := (.slice _ _ _)) rfl) ?_
  refine GL.one rfl .no (S1.mv (v := (.int _ _)) rfl) ?_
  rotate_left
  refine GW.toExit rfl ?_
  refine GQ.onE ?_
  refine GQ.onE ?_
  refine GQ.outH ?_
  refine GQ.on ?_
  refine GW.toSeq rfl ?_
  refine GW.toReg rfl ?_
  refine GL.one rfl .no (S1.as (v := (.int _ _)) rfl) ?_
  refine GL.done rfl ?_
  refine GQ.on ?_
  refine GW.toRet rfl ?_
  refine GQ.ret (-1) (.tmp (v := (.int _ _)) rfl rfl .nil) .one ?_ ?_ (by repeat first | exact .nil | apply Take.cons (by repeat first | exact .z | apply Rem.s))
  rfl
  rotate_left
  · obtain ⟨rfl, hb, hx⟩ := ha (by omega)
    refine GL.one rfl .no (S1.ixN el32 rfl rfl (by omega)) ?_
    refine GL.one rfl .no (S1.ld sc3 rfl (.old0 hb) (hx _ (by omega))) ?_
    refine GL.call rfl .no hf .nil (fun h H => hg _ k (by omega) H.ext) (.v rfl (.c (v := (.int _ _)) rfl .n)) ((fun v r => ?_))
    refine GL.done rfl ?_
    refine GQ.on ?_
    refine GW.toC rfl rfl (fun w3 => ?_) (fun w3 => ?_)
    refine GW.toSeq rfl ?_
    refine GW.toReg rfl ?_
    refine GL.one rfl .no (S1.mv (v := (.int _ _)) rfl) ?_
    refine GL.one rfl .no (S1.as (v := (.int _ _)) rfl) ?_
    refine GL.done rfl ?_
    refine GQ.on ?_
    refine GW.toRet rfl ?_
    refine GQ.outR ?_
    refine GQ.onR ?_
    refine GQ.onR ?_
    refine GQ.outR ?_
    refine GQ.onR ?_
    refine GQ.ret (k : Int) (.tmp (v := (.int _ _)) rfl rfl .nil) .one ?_ ?_ (by repeat first | exact .nil | apply Take.cons (by repeat first | exact .z | apply Rem.s))
    rfl
    rotate_left
    refine GW.toSkip rfl ?_
    refine GQ.outN ?_
    refine GQ.on ?_
    refine GW.toReg rfl ?_
    refine GL.one rfl .no (S1.inc rfl rfl (by omega)) ?_
    refine GL.one rfl .no (S1.mv (v := (.int _ _)) rfl) ?_
    refine GL.done rfl ?_
    rotate_left
    · exact .inr ⟨k, by omega, rfl, by simp_all⟩
    · refine GQ.next (k + 1) ⟨by omega, fun j hj => ?_⟩ (by omega) (.c rfl (.c rfl (.c rfl (.c rfl .n)))) .nil
      by_cases e : j = k
      · simp_all
      · exact hp j (by omega)
  · exact .inl ⟨rfl, fun j hj => hp j (by omega)⟩


theorem ct66 {h : EH} {a : Option Addr} {n c b o g : Nat} {vs : List Value} {opn : Option Nat} {wr : Bool} {x : Nat → Int} {R : Nat → Bool → Prop} {fs cs : List Value} (hn : n ≤ 1073741824) (hf : fnOk Tryz.prog g = true)
    (ha : 0 < n → a = some ⟨b, o, none⟩ ∧ h[b]? = some (.cells vs opn wr) ∧ ∀ k, k < n → vs[o + k * 1]? = some (.int .i64 (x k)))
    (hg : ∀ (h' : EH) (k : Nat), k < n → Ext h h' → Ct Tryz.prog g ⟨fs ++ ([.int .i64 (x k)] ++ cs)⟩ h' [] (fun r : Bool => .bool r) (R k) (fun _ => [])) :
    Ct Tryz.prog 66 ⟨[.slice a n c, .func (.func g) ⟨fs⟩ ⟨cs⟩]⟩ h [] (fun r : Bool => .bool r) (fun r => (r = false → ∀ k, k < n → R k false) ∧ (r = true → ∃ k, k < n ∧ R k true)) (fun _ => []) := by
  refine Ct.go Tryz.func66 rfl rfl co66 (Hp.start (hr := fun _ => none) (by simp)) ?_
  refine GW.toSeq rfl ?_
  refine GW.toReg rfl ?_
  refine GL.one rfl .no (S1.as (v := (.bool _)) rfl) ?_
  refine GL.done rfl ?_
  refine GQ.on ?_
  refine GW.toSeq rfl ?_
  refine GW.toReg rfl ?_
  refine GL.one rfl .no (S1.mv (v := (.slice _ _ _)) rfl) ?_
  refine GL.one rfl .no (S1.mv (v := (.func _ _ _)) rfl) ?_
  refine GL.call rfl .no fo95 .nil (fun h H => ct95 hn hf (fun q => ⟨(ha q).1, H.ext _ _ (ha q).2.1, (ha q).2.2⟩) (fun h'' k hk e => hg h'' k hk (H.ext.trans e))) (.d (.c (v := (.slice _ _ _)) rfl (.c (v := (.func _ _ _)) rfl .n))) (fun r1 q1 => ?_)
  refine GL.one rfl .no (S1.geq rfl rfl) ?_
  refine GL.one rfl .no (S1.as (v := (.bool _)) rfl) ?_
  refine GL.done rfl ?_
  refine GQ.on ?_
  refine GW.toRet rfl ?_
  refine GQ.ret (decide (0 ≤ r1)) (.tmp (v := (.bool _)) rfl rfl .nil) .one ?_ ?_ (by repeat first | exact .nil | apply Take.cons (by repeat first | exact .z | apply Rem.s))
  rfl
  rcases q1 with ⟨rfl, q⟩ | ⟨k, hk, rfl, q⟩
  · exact ⟨fun _ => q, by simp⟩
  · exact ⟨by simp, fun _ => ⟨k, hk, q⟩⟩

theorem ct31 {h : EH} {lo hi : Int} {a : Option Addr} {n c b o : Nat} {vs : List Value} {opn : Option Nat} {wr : Bool} {x : Nat → Int} (hn : n ≤ 1073741824)
    (ha : 0 < n → a = some ⟨b, o, none⟩ ∧ h[b]? = some (.cells vs opn wr) ∧ ∀ k, k < n → vs[o + k * 1]? = some (.int .i64 (x k))) :
    Ct Tryz.prog 31 ⟨[.int .i64 lo, .int .i64 hi, .slice a n c]⟩ h [] (fun r : Bool => .bool r) (fun r => (r = false → ∀ k, k < n → outB lo hi (x k) = false) ∧ (r = true → ∃ k, k < n ∧ outB lo hi (x k) = true)) (fun _ => []) := by
  refine Ct.go Tryz.func31 rfl rfl co31 (Hp.start (hr := fun _ => none) (by simp)) ?_
  refine GW.toSeq rfl ?_
  refine GW.toReg rfl ?_
  refine GL.opN rfl .no (SN.bx (u := (.int _ _)) rfl (.one rfl)) (fun a1 => ?_)
  refine GL.opN rfl .no (SN.bx (u := (.int _ _)) rfl (.one rfl)) (fun a2 => ?_)
  refine GL.one rfl .no (S1.as (v := (.bool _)) rfl) ?_
  refine GL.done rfl ?_
  refine GQ.on ?_
  refine GW.toSeq rfl ?_
  refine GW.toReg rfl ?_
  refine GL.one rfl .no (S1.mv (v := (.slice _ _ _)) rfl) ?_
  refine GL.one rfl .no (S1.mf .n (.c (v := (.pointer _)) rfl (.c (v := (.pointer _)) rfl .n))) ?_
  refine GL.call rfl .no fo66 .nil (fun h H => ct66 (R := fun k r => outB lo hi (x k) = r) hn fo67 (fun q => ⟨(ha q).1, H.ext _ _ (ha q).2.1, (ha q).2.2⟩) (fun h'' k hk e => (ct67 (e _ _ (H.get (.s .z))) (e _ _ (H.get .z))).toBool rfl)) (.d (.c rfl (.c (v := .func _ ⟨[]⟩ ⟨[_, _]⟩) rfl .n))) (fun r q => ?_)
  refine GL.one rfl .no (S1.as (v := (.bool _)) rfl) ?_
  refine GL.done rfl ?_
  refine GQ.on ?_
  refine GW.toRet rfl ?_
  refine GQ.ret r (.tmp (v := (.bool _)) rfl rfl .nil) .one ?_ ?_ (by repeat first | exact .nil | apply Take.cons (by repeat first | exact .z | apply Rem.s))
  rfl
  assumption

/-- .. of one number; of two. -/
theorem ct31_1 {h : EH} {lo hi p : Int} {b : Nat} (hb : h[b]? = some (.cells [.int .i64 p] none true)) : Ct Tryz.prog 31 ⟨[.int .i64 lo, .int .i64 hi, .slice (some ⟨b, 0, none⟩) 1 1]⟩ h [] (fun _ : Unit => .bool (outB lo hi p)) (fun _ => True) (fun _ => []) := by
  refine (ct31 (lo := lo) (hi := hi) (n := 1) (c := 1) (x := fun _ => p) (by omega) fun _ => ⟨rfl, hb, fun k hk => ?_⟩).mono fun r q => ⟨(), ?_, trivial, rfl⟩
  · have : k = 0 := by omega
    subst this; rfl
  · cases r with
    | false => rw [q.1 rfl 0 (by omega)]
    | true =>
      obtain ⟨k, _, e⟩ := q.2 rfl
      rw [e]
theorem ct31_2 {h : EH} {lo hi p q : Int} {b : Nat} (hb : h[b]? = some (.cells [.int .i64 p, .int .i64 q] none true)) : Ct Tryz.prog 31 ⟨[.int .i64 lo, .int .i64 hi, .slice (some ⟨b, 0, none⟩) 2 2]⟩ h [] (fun _ : Unit => .bool (outB lo hi p || outB lo hi q)) (fun _ => True) (fun _ => []) := by
  refine (ct31 (lo := lo) (hi := hi) (n := 2) (c := 2) (x := fun k => if k = 0 then p else q) (by omega) fun _ => ⟨rfl, hb, fun k hk => ?_⟩).mono fun r w => ⟨(), ?_, trivial, rfl⟩
  · rcases (by omega : k = 0 ∨ k = 1) with rfl | rfl <;> rfl
  · cases r with
    | false =>
      have h0 := w.1 rfl 0 (by omega)
      have h1 := w.1 rfl 1 (by omega)
      simp at h0 h1
      simp [h0, h1]
    | true =>
      obtain ⟨k, hk, e⟩ := w.2 rfl
      rcases (by omega : k = 0 ∨ k = 1) with rfl | rfl <;> simp at e <;> simp [e]
end Go.Proofs.YtkpbpfnmgnpfaaaGreat
namespace Go.Proofs.YtkpbpfnmgnpfaaaGreat
open Go Go.E
set_option maxRecDepth 100000

theorem ct103 {h : EH} {lo hi n : Int} {b1 b2 : Nat} (h1 : h[b1]? = some (.cells [.int .i64 lo] none true)) (h2 : h[b2]? = some (.cells [.int .i64 hi] none true)) :
    Ct Tryz.prog 103 ⟨[.int .i64 n, .pointer (some ⟨b1, 0, none⟩), .pointer (some ⟨b2, 0, none⟩)]⟩ h [] (fun _ : Unit => .bool (decide (n < lo) || decide (hi < n))) (fun _ => True) (fun _ => []) := by
  refine Ct.go Tryz.func103 rfl rfl co103 (Hp.start (hr := fun _ => none) (by simp)) ?_
  refine GW.toSeq rfl ?_
  refine GW.toReg rfl ?_
  refine GL.one rfl .no (S1.as (v := (.bool _)) rfl) ?_
  refine GL.done rfl ?_
  refine GQ.on ?_
  refine GW.toSeq rfl ?_
  refine GW.toReg rfl ?_
  refine GL.one rfl .no (S1.mv (v := (.int _ _)) rfl) ?_
  refine GL.one rfl .no (S1.ld sc3 rfl (.old0 h1) rfl) ?_
  refine GL.one rfl .no (S1.lss rfl rfl) ?_
  refine GL.one rfl .no (S1.mv (v := (.bool _)) rfl) ?_
  refine GL.splitD 8 rfl (fun w1 => ?_) (fun w1 => ?_)
  refine GL.skip rfl (.not rfl rfl rfl) ?_
  refine GL.skip rfl (.not rfl rfl rfl) ?_
  refine GL.skip rfl (.not rfl rfl rfl) ?_
  refine GL.one rfl .no (S1.pickT (v := (.bool _)) rfl rfl) ?_
  refine GL.one rfl .no (S1.as (v := (.bool _)) rfl) ?_
  refine GL.done rfl ?_
  refine GQ.on ?_
  refine GW.toRet rfl ?_
  refine GQ.ret () (.tmp (v := (.bool _)) rfl rfl .nil) .one ?_ ?_ .nil
  rotate_left
  exact trivial
  refine GL.one rfl (.yes rfl rfl rfl) (S1.mv (v := (.int _ _)) rfl) ?_
  refine GL.one rfl (.yes rfl rfl rfl) (S1.ld sc3 rfl (.old0 h2) rfl) ?_
  refine GL.one rfl (.yes rfl rfl rfl) (S1.gtr rfl rfl) ?_
  refine GL.one rfl .no (S1.pickF (v := (.bool _)) rfl rfl) ?_
  refine GL.one rfl .no (S1.as (v := (.bool _)) rfl) ?_
  refine GL.done rfl ?_
  refine GQ.on ?_
  refine GW.toRet rfl ?_
  refine GQ.ret () (.tmp (v := (.bool _)) rfl rfl .nil) .one ?_ ?_ .nil
  rotate_left
  exact trivial
  all_goals simp [*]

theorem ct96 {h : EH} {lo hi : Int} {a : Option Addr} {n c b o : Nat} {vs : List Value} {opn : Option Nat} {wr : Bool} {x : Nat → Int} (hn : n ≤ 1073741824)
    (ha : 0 < n → a = some ⟨b, o, none⟩ ∧ h[b]? = some (.cells vs opn wr) ∧ ∀ k, k < n → vs[o + k * 1]? = some (.int .i64 (x k))) :
    Ct Tryz.prog 96 ⟨[.int .i64 lo, .int .i64 hi, .slice a n c]⟩ h [] (fun r : Bool => .bool r) (fun r => (r = false → ∀ k, k < n → outB lo hi (x k) = false) ∧ (r = true → ∃ k, k < n ∧ outB lo hi (x k) = true)) (fun _ => []) := by
  refine Ct.go Tryz.func96 rfl rfl co96 (Hp.start (hr := fun _ => none) (by simp)) ?_
  refine GW.toSeq rfl ?_
  refine GW.toReg rfl ?_
  refine GL.opN rfl .no (SN.bx (u := (.int _ _)) rfl (.one rfl)) (fun a1 => ?_)
  refine GL.opN rfl .no (SN.bx (u := (.int _ _)) rfl (.one rfl)) (fun a2 => ?_)
  refine GL.one rfl .no (S1.as (v := (.bool _)) rfl) ?_
  refine GL.done rfl ?_
  refine GQ.on ?_
  refine GW.toSeq rfl ?_
  refine GW.toReg rfl ?_
  refine GL.one rfl .no (S1.mv (v := (.slice _ _ _)) rfl) ?_
  refine GL.one rfl .no (S1.mf .n (.c (v := (.pointer _)) rfl (.c (v := (.pointer _)) rfl .n))) ?_
  refine GL.call rfl .no fo66 .nil (fun h H => ct66 (R := fun k r => outB lo hi (x k) = r) hn fo103 (fun q => ⟨(ha q).1, H.ext _ _ (ha q).2.1, (ha q).2.2⟩) (fun h'' k hk e => (ct103 (e _ _ (H.get (.s .z))) (e _ _ (H.get .z))).toBool rfl)) (.d (.c rfl (.c (v := .func _ ⟨[]⟩ ⟨[_, _]⟩) rfl .n))) (fun r q => ?_)
  refine GL.one rfl .no (S1.as (v := (.bool _)) rfl) ?_
  refine GL.done rfl ?_
  refine GQ.on ?_
  refine GW.toRet rfl ?_
  refine GQ.ret r (.tmp (v := (.bool _)) rfl rfl .nil) .one ?_ ?_ (by repeat first | exact .nil | apply Take.cons (by repeat first | exact .z | apply Rem.s))
  rfl
  assumption

theorem dec_pos (s : ByteArray) (p : Nat) : 0 < (Utf8.decode s p).2 := by
  unfold Utf8.decode
  simp only
  repeat' split
  all_goals simp

theorem ct96_1 {h : EH} {lo hi p : Int} {b : Nat} (hb : h[b]? = some (.cells [.int .i64 p] none true)) : Ct Tryz.prog 96 ⟨[.int .i64 lo, .int .i64 hi, .slice (some ⟨b, 0, none⟩) 1 1]⟩ h [] (fun _ : Unit => .bool (outB lo hi p)) (fun _ => True) (fun _ => []) := by
  refine (ct96 (lo := lo) (hi := hi) (n := 1) (c := 1) (x := fun _ => p) (by omega) fun _ => ⟨rfl, hb, fun k hk => ?_⟩).mono fun r q => ⟨(), ?_, trivial, rfl⟩
  · have : k = 0 := by omega
    subst this; rfl
  · cases r with
    | false => rw [q.1 rfl 0 (by omega)]
    | true =>
      obtain ⟨k, _, e⟩ := q.2 rfl
      rw [e]


theorem ct68 {h : EH} {s : ByteArray} (hs : s.size ≤ 1073741824) : Ct Tryz.prog 68 ⟨[.string s]⟩ h [] (fun r : Bool => .bool r) (fun _ => True) (fun _ => []) := by
  refine Ct.go Tryz.func68 rfl rfl co68 (Hp.start (hr := fun _ => none) (by simp)) ?_
  refine GW.toSeq rfl ?_
  refine GW.toReg rfl ?_
  refine GL.one rfl .no (S1.as (v := (.bool _)) rfl) ?_
  refine GL.done rfl ?_
  refine GQ.on ?_
  refine GW.toSeq rfl ?_
  refine GW.toSeq rfl ?_
  refine GW.toReg rfl ?_
  refine GL.one rfl .no (S1.mv (v := (.string _)) rfl) ?_
  refine GL.opN rfl .no (SN.rng st9 rfl) (fun a1 => ?_)
  refine GL.done rfl ?_
  refine GQ.on ?_
  refine GW.toBlock rfl ?_
  refine GW.toLoop (fun p : Nat => [(0, .string s), (6, .pointer (some ⟨a1, 0, none⟩))]) (fun p => [(a1, .str s p)]) (fun _ => True) (fun p => s.size - p) rfl 0 trivial (.c rfl (.c rfl .n)) (.cons .z .nil) ?_
  rintro p f -
  refine GW.toSeq rfl ?_
  refine GW.toReg rfl ?_
  refine GL.nxt rfl .no rfl .z (fun w2 => ?_) (fun w2 => ?_)
  refine GL.one rfl .no (S1.ext (v := (.bool _)) rfl rfl) ?_
  refine GL.done rfl ?_
  refine GQ.on ?_
  refine GW.toSeq rfl ?_
  refine GW.toT rfl rfl ?_
  refine GW.toSkip rfl ?_
  refine GQ.on ?_
  refine GW.toBlock rfl ?_
  refine GW.toSeq rfl ?_
  refine GW.toReg rfl ?_
  refine GL.one rfl .no (S1.ext (v := (.int _ _)) rfl rfl) ?_
  refine GL.one rfl .no (S1.ext (v := (.int _ _)) rfl rfl) ?_
  refine GL.one rfl .no (S1.as (v := (.int _ _)) rfl) ?_
  refine GL.one rfl .no (S1.as (v := (.int _ _)) rfl) ?_
  refine GL.done rfl ?_
  refine GQ.on ?_
  refine GW.toSeq rfl ?_
  refine GW.toReg rfl ?_
  refine GL.one rfl .no (S1.mv (v := (.int _ _)) rfl) ?_
  refine GL.one rfl .no (S1.lss rfl rfl) ?_
  refine GL.one rfl .no (S1.mv (v := (.bool _)) rfl) ?_
  refine GL.splitD 13 rfl (fun w3 => ?_) (fun w3 => ?_)
  refine GL.skip rfl (.not rfl rfl rfl) ?_
  refine GL.skip rfl (.not rfl rfl rfl) ?_
  refine GL.one rfl .no (S1.pickT (v := (.bool _)) rfl rfl) ?_
  refine GL.one rfl .no (S1.mv (v := (.bool _)) rfl) ?_
  refine GL.one rfl (.yes rfl rfl rfl) (S1.mv (v := (.int _ _)) rfl) ?_
  refine GL.one rfl (.yes rfl rfl rfl) (S1.eql rfl rfl) ?_
  refine GL.one rfl (.yes rfl rfl rfl) (S1.mv (v := (.bool _)) rfl) ?_
  refine GL.splitD 20 rfl (fun w4 => ?_) (fun w4 => ?_)
  refine GL.skip rfl (.not rfl rfl rfl) ?_
  refine GL.skip rfl (.not rfl rfl rfl) ?_
  refine GL.one rfl (.yes rfl rfl rfl) (S1.pickT (v := (.bool _)) rfl rfl) ?_
  refine GL.one rfl (.yes rfl rfl rfl) (S1.mv (v := (.bool _)) rfl) ?_
  refine GL.skip rfl (.not rfl rfl rfl) ?_
  refine GL.skip rfl (.not rfl rfl rfl) ?_
  refine GL.one rfl (.yes rfl rfl rfl) (S1.pickT (v := (.bool _)) rfl rfl) ?_
  refine GL.one rfl .no (S1.pickT (v := (.bool _)) rfl rfl) ?_
  refine GL.done rfl ?_
  refine GQ.on ?_
  refine GW.toT rfl rfl ?_
  refine GW.toSeq rfl ?_
  refine GW.toReg rfl ?_
  refine GL.one rfl .no (S1.as (v := (.bool _)) rfl) ?_
  refine GL.done rfl ?_
  refine GQ.on ?_
  refine GW.toRet rfl ?_
  refine GQ.outR ?_
  refine GQ.onR ?_
  refine GQ.outR ?_
  refine GQ.onR ?_
  refine GQ.ret _ (.tmp (v := (.bool _)) rfl rfl .nil) .one rfl ?_ .nil
  exact trivial
  refine GL.one rfl (.yes rfl rfl rfl) (S1.mv (v := (.int _ _)) rfl) ?_
  refine GL.one rfl (.yes rfl rfl rfl) (S1.lss rfl rfl) ?_
  refine GL.one rfl (.yes rfl rfl rfl) (S1.pickF (v := (.bool _)) rfl rfl) ?_
  refine GL.one rfl (.yes rfl rfl rfl) (S1.mv (v := (.bool _)) rfl) ?_
  refine GL.splitD 24 rfl (fun w5 => ?_) (fun w5 => ?_)
  refine GL.skip rfl (.not rfl rfl rfl) ?_
  refine GL.skip rfl (.not rfl rfl rfl) ?_
  refine GL.one rfl (.yes rfl rfl rfl) (S1.pickT (v := (.bool _)) rfl rfl) ?_
  refine GL.one rfl .no (S1.pickT (v := (.bool _)) rfl rfl) ?_
  refine GL.done rfl ?_
  refine GQ.on ?_
  refine GW.toT rfl rfl ?_
  refine GW.toSeq rfl ?_
  refine GW.toReg rfl ?_
  refine GL.one rfl .no (S1.as (v := (.bool _)) rfl) ?_
  refine GL.done rfl ?_
  refine GQ.on ?_
  refine GW.toRet rfl ?_
  refine GQ.outR ?_
  refine GQ.onR ?_
  refine GQ.outR ?_
  refine GQ.onR ?_
  refine GQ.ret _ (.tmp (v := (.bool _)) rfl rfl .nil) .one rfl ?_ .nil
  exact trivial
  refine GL.one rfl (.yes rfl rfl rfl) (S1.mv (v := (.int _ _)) rfl) ?_
  refine GL.one rfl (.yes rfl rfl rfl) (S1.gtr rfl rfl) ?_
  refine GL.one rfl (.yes rfl rfl rfl) (S1.pickF (v := (.bool _)) rfl rfl) ?_
  refine GL.one rfl .no (S1.pickT (v := (.bool _)) rfl rfl) ?_
  refine GL.done rfl ?_
  refine GQ.on ?_
  refine GW.toD rfl rfl (fun w6 => ?_) (fun w6 => ?_)
  refine GW.toSeq rfl ?_
  refine GW.toReg rfl ?_
  refine GL.one rfl .no (S1.as (v := (.bool _)) rfl) ?_
  refine GL.done rfl ?_
  refine GQ.on ?_
  refine GW.toRet rfl ?_
  refine GQ.outR ?_
  refine GQ.onR ?_
  refine GQ.outR ?_
  refine GQ.onR ?_
  refine GQ.ret _ (.tmp (v := (.bool _)) rfl rfl .nil) .one rfl ?_ .nil
  exact trivial
  refine GW.toSkip rfl ?_
  refine GQ.outN ?_
  refine GQ.next (p + (Utf8.decode s p).2) trivial (by have := dec_pos s p; omega) (.c rfl (.c rfl .n)) (.cons .z .nil)
  refine GL.one rfl (.yes rfl rfl rfl) (S1.mv (v := (.int _ _)) rfl) ?_
  refine GL.one rfl (.yes rfl rfl rfl) (S1.gtr rfl rfl) ?_
  refine GL.one rfl .no (S1.pickF (v := (.bool _)) rfl rfl) ?_
  refine GL.one rfl .no (S1.mv (v := (.bool _)) rfl) ?_
  refine GL.splitD 17 rfl (fun w7 => ?_) (fun w7 => ?_)
  refine GL.one rfl (.yes rfl rfl rfl) (S1.mv (v := (.int _ _)) rfl) ?_
  refine GL.one rfl (.yes rfl rfl rfl) (S1.eql rfl rfl) ?_
  refine GL.one rfl (.yes rfl rfl rfl) (S1.mv (v := (.bool _)) rfl) ?_
  refine GL.splitD 20 rfl (fun w8 => ?_) (fun w8 => ?_)
  refine GL.skip rfl (.not rfl rfl rfl) ?_
  refine GL.skip rfl (.not rfl rfl rfl) ?_
  refine GL.one rfl (.yes rfl rfl rfl) (S1.pickT (v := (.bool _)) rfl rfl) ?_
  refine GL.one rfl (.yes rfl rfl rfl) (S1.mv (v := (.bool _)) rfl) ?_
  refine GL.skip rfl (.not rfl rfl rfl) ?_
  refine GL.skip rfl (.not rfl rfl rfl) ?_
  refine GL.one rfl (.yes rfl rfl rfl) (S1.pickT (v := (.bool _)) rfl rfl) ?_
  refine GL.one rfl .no (S1.pickT (v := (.bool _)) rfl rfl) ?_
  refine GL.done rfl ?_
  refine GQ.on ?_
  refine GW.toT rfl rfl ?_
  refine GW.toSeq rfl ?_
  refine GW.toReg rfl ?_
  refine GL.one rfl .no (S1.as (v := (.bool _)) rfl) ?_
  refine GL.done rfl ?_
  refine GQ.on ?_
  refine GW.toRet rfl ?_
  refine GQ.outR ?_
  refine GQ.onR ?_
  refine GQ.outR ?_
  refine GQ.onR ?_
  refine GQ.ret _ (.tmp (v := (.bool _)) rfl rfl .nil) .one rfl ?_ .nil
  exact trivial
  refine GL.one rfl (.yes rfl rfl rfl) (S1.mv (v := (.int _ _)) rfl) ?_
  refine GL.one rfl (.yes rfl rfl rfl) (S1.lss rfl rfl) ?_
  refine GL.one rfl (.yes rfl rfl rfl) (S1.pickF (v := (.bool _)) rfl rfl) ?_
  refine GL.one rfl (.yes rfl rfl rfl) (S1.mv (v := (.bool _)) rfl) ?_
  refine GL.splitD 24 rfl (fun w9 => ?_) (fun w9 => ?_)
  refine GL.skip rfl (.not rfl rfl rfl) ?_
  refine GL.skip rfl (.not rfl rfl rfl) ?_
  refine GL.one rfl (.yes rfl rfl rfl) (S1.pickT (v := (.bool _)) rfl rfl) ?_
  refine GL.one rfl .no (S1.pickT (v := (.bool _)) rfl rfl) ?_
  refine GL.done rfl ?_
  refine GQ.on ?_
  refine GW.toT rfl rfl ?_
  refine GW.toSeq rfl ?_
  refine GW.toReg rfl ?_
  refine GL.one rfl .no (S1.as (v := (.bool _)) rfl) ?_
  refine GL.done rfl ?_
  refine GQ.on ?_
  refine GW.toRet rfl ?_
  refine GQ.outR ?_
  refine GQ.onR ?_
  refine GQ.outR ?_
  refine GQ.onR ?_
  refine GQ.ret _ (.tmp (v := (.bool _)) rfl rfl .nil) .one rfl ?_ .nil
  exact trivial
  refine GL.one rfl (.yes rfl rfl rfl) (S1.mv (v := (.int _ _)) rfl) ?_
  refine GL.one rfl (.yes rfl rfl rfl) (S1.gtr rfl rfl) ?_
  refine GL.one rfl (.yes rfl rfl rfl) (S1.pickF (v := (.bool _)) rfl rfl) ?_
  refine GL.one rfl .no (S1.pickT (v := (.bool _)) rfl rfl) ?_
  refine GL.done rfl ?_
  refine GQ.on ?_
  refine GW.toD rfl rfl (fun w10 => ?_) (fun w10 => ?_)
  refine GW.toSeq rfl ?_
  refine GW.toReg rfl ?_
  refine GL.one rfl .no (S1.as (v := (.bool _)) rfl) ?_
  refine GL.done rfl ?_
  refine GQ.on ?_
  refine GW.toRet rfl ?_
  refine GQ.outR ?_
  refine GQ.onR ?_
  refine GQ.outR ?_
  refine GQ.onR ?_
  refine GQ.ret _ (.tmp (v := (.bool _)) rfl rfl .nil) .one rfl ?_ .nil
  exact trivial
  refine GW.toSkip rfl ?_
  refine GQ.outN ?_
  refine GQ.next (p + (Utf8.decode s p).2) trivial (by have := dec_pos s p; omega) (.c rfl (.c rfl .n)) (.cons .z .nil)
  refine GL.skip rfl (.not rfl rfl rfl) ?_
  refine GL.skip rfl (.not rfl rfl rfl) ?_
  refine GL.skip rfl (.not rfl rfl rfl) ?_
  refine GL.skip rfl (.und rfl rfl rfl) ?_
  refine GL.skip rfl (.und rfl rfl rfl) ?_
  refine GL.skip rfl (.not rfl rfl rfl) ?_
  refine GL.skip rfl (.not rfl rfl rfl) ?_
  refine GL.skip rfl (.und rfl rfl rfl) ?_
  refine GL.skip rfl (.und rfl rfl rfl) ?_
  refine GL.skip rfl (.not rfl rfl rfl) ?_
  refine GL.one rfl .no (S1.pickF (v := (.bool _)) rfl rfl) ?_
  refine GL.done rfl ?_
  refine GQ.on ?_
  refine GW.toF rfl rfl ?_
  refine GW.toSkip rfl ?_
  refine GQ.outN ?_
  refine GQ.next (p + (Utf8.decode s p).2) trivial (by have := dec_pos s p; omega) (.c rfl (.c rfl .n)) (.cons .z .nil)
  refine GL.one rfl .no (S1.ext (v := (.bool _)) rfl rfl) ?_
  refine GL.done rfl ?_
  refine GQ.on ?_
  refine GW.toSeq rfl ?_
  refine GW.toF rfl rfl ?_
  refine GW.toExit rfl ?_
  refine GQ.onE ?_
  refine GQ.onE ?_
  refine GQ.outH ?_
  refine GQ.on ?_
  refine GW.toSeq rfl ?_
  refine GW.toReg rfl ?_
  refine GL.one rfl .no (S1.mv (v := (.string _)) rfl) ?_
  refine GL.one rfl .no (S1.lenS st9 rfl) ?_
  refine GL.opN rfl .no (SN.bs el32 ez32 (.c (v := (.int _ _)) rfl rfl .n) rfl rfl) (fun a11 => ?_)
  refine GL.call rfl .no fo96 .nil (fun h H => ct96_1 (H.get (by repeat first | exact .z | apply At.s))) (.d (.c (v := (.int _ _)) rfl (.c (v := (.int _ _)) rfl (.c (v := (.slice _ _ _)) rfl .n)))) (fun _ _ => ?_)
  refine GL.one rfl .no (S1.not rfl) ?_
  refine GL.one rfl .no (S1.as (v := (.bool _)) rfl) ?_
  refine GL.done rfl ?_
  refine GQ.on ?_
  refine GW.toRet rfl ?_
  refine GQ.ret _ (.tmp (v := (.bool _)) rfl rfl .nil) .one rfl ?_ .nil
  exact trivial
end Go.Proofs.YtkpbpfnmgnpfaaaGreat
namespace Go.Proofs.YtkpbpfnmgnpfaaaGreat
open Go Go.E
set_option maxRecDepth 100000

/-- IndexFunc over a typed list. -/
theorem ct97 {h : EH} {hr : RO} {a : Option Addr} {n c g : Nat} {R : Nat → Bool → Prop} {fs cs : List Value} (hR : ∀ b o, hr b = some o → h[b]? = some o) (hc : Cell hr (.sl ly9) (.slice a n c)) (hf : fnOk Tryz.prog g = true)
    (hg : ∀ (h' : EH) (k : Nat), k < n → Ext h h' → Ct Tryz.prog g ⟨fs ++ ([.string (sv (el hr a (k * 1 + 0)))] ++ cs)⟩ h' [] (fun r : Bool => .bool r) (R k) (fun _ => [])) :
    Ct Tryz.prog 97 ⟨[.slice a n c, .func (.func g) ⟨fs⟩ ⟨cs⟩]⟩ h [] (fun r : Int => .int .i64 r) (fun r => (r = -1 ∧ ∀ k, k < n → R k false) ∨ ∃ k, k < n ∧ r = (k : Int) ∧ R k true) (fun _ => []) := by
  have hl := hc.le
  refine Ct.go Tryz.func97 rfl rfl co97 (Hp.start hR) ?_
  refine GW.toSeq rfl ?_
  refine GW.toReg rfl ?_
  refine GL.one rfl .no (S1.as (v := (.int _ _)) rfl) ?_
  refine GL.done rfl ?_
  refine GQ.on ?_
  refine GW.toSeq rfl ?_
  refine GW.toSeq rfl ?_
  refine GW.toReg rfl ?_
  refine GL.one rfl .no (S1.mv (v := (.slice _ _ _)) rfl) ?_
  refine GL.one rfl .no (S1.len el22 rfl) ?_
  refine GL.one rfl .no (S1.mv (v := (.int _ _)) rfl) ?_
  refine GL.done rfl ?_
  refine GQ.on ?_
  refine GW.toBlock rfl ?_
  refine GW.toLoop (fun k : Nat => [(0, .slice a n c), (1, .func (.func g) ⟨fs⟩ ⟨cs⟩), (7, .int .i64 n), (8, .int .i64 k)]) (fun _ => []) (fun k => k ≤ n ∧ ∀ j, j < k → R j false) (fun k => n - k) rfl 0 ⟨Nat.zero_le _, fun j hj => by omega⟩ (.c rfl (.c rfl (.c rfl (.c rfl .n)))) .nil ?_
  rintro k f ⟨hk, hp⟩
  refine GW.toSeq rfl ?_
  refine GW.toReg rfl ?_
  refine GL.one rfl .no (S1.lss rfl rfl) ?_
  refine GL.done rfl ?_
  refine GQ.on ?_
  refine GW.toSeq rfl ?_
  refine GW.toD rfl rfl (fun w1 => ?_) (fun w1 => ?_)
  refine GW.toSkip rfl ?_
  refine GQ.on ?_
  refine GW.toSeq rfl ?_
  refine GW.toBlock rfl ?_
  refine GW.toSeq rfl ?_
  refine GW.toReg rfl ?_
  refine GL.one rfl .no (S1.mv (v := (.int _ _)) rfl) ?_
  refine GL.one rfl .no (S1.as (v := (.int _ _)) rfl) ?_
  refine GL.done rfl ?_
  refine GQ.on ?_
  refine GW.toSeq rfl ?_
  refine GW.toReg rfl ?_
  refine GL.one rfl .no (S1.mv (v := (.func _ _ _)) rfl) ?_
  refine GL.one rfl .no (S1.mv (v := (.slice _ _ _)) rfl) ?_
  refine GL.one rfl .no (S1.mv (v := (.int _ _)) rfl) ?_
  refine GL.one rfl .no (S1.ixR el22 hc rfl rfl (by omega)) ?_
  refine GL.one rfl .no (S1.ldCS sc9 (z := 1) hc rfl (m := k) (by omega) rfl (d := 0) rfl rfl) ?_
  refine GL.call rfl .no hf .nil (fun h H => hg _ k (by omega) H.ext) (.v rfl (.c (v := (.string _)) rfl .n)) ((fun v r => ?_))
  refine GL.done rfl ?_
  refine GQ.on ?_
  refine GW.toC rfl rfl (fun w3 => ?_) (fun w3 => ?_)
  refine GW.toSeq rfl ?_
  refine GW.toReg rfl ?_
  refine GL.one rfl .no (S1.mv (v := (.int _ _)) rfl) ?_
  refine GL.one rfl .no (S1.as (v := (.int _ _)) rfl) ?_
  refine GL.done rfl ?_
  refine GQ.on ?_
  refine GW.toRet rfl ?_
  refine GQ.outR ?_
  refine GQ.onR ?_
  refine GQ.onR ?_
  refine GQ.outR ?_
  refine GQ.onR ?_
  refine GQ.ret _ (.tmp (v := (.int _ _)) rfl rfl .nil) .one rfl ?_ .nil
  rotate_left
  refine GW.toSkip rfl ?_
  refine GQ.outN ?_
  refine GQ.on ?_
  refine GW.toReg rfl ?_
  refine GL.one rfl .no (S1.inc rfl rfl (by omega)) ?_
  refine GL.one rfl .no (S1.mv (v := (.int _ _)) rfl) ?_
  refine GL.done rfl ?_
  rotate_left
  refine GW.toExit rfl ?_
  refine GQ.onE ?_
  refine GQ.onE ?_
  refine GQ.outH ?_
  refine GQ.on ?_
  refine GW.toSeq rfl ?_
  refine GW.toReg rfl ?_
  refine GL.one rfl .no (S1.as (v := (.int _ _)) rfl) ?_
  refine GL.done rfl ?_
  refine GQ.on ?_
  refine GW.toRet rfl ?_
  refine GQ.ret _ (.tmp (v := (.int _ _)) rfl rfl .nil) .one rfl ?_ .nil
  rotate_left
  · exact .inr ⟨k, by omega, rfl, by simp_all⟩
  · refine GQ.next (k + 1) ⟨by omega, fun j hj => ?_⟩ (by omega) (.c rfl (.c rfl (.c rfl (.c rfl .n)))) .nil
    by_cases e : j = k
    · simp_all
    · exact hp j (by omega)
  · exact .inl ⟨rfl, fun j hj => hp j (by omega)⟩

theorem ct69 {h : EH} {hr : RO} {a : Option Addr} {n c g : Nat} {R : Nat → Bool → Prop} {fs cs : List Value} (hR : ∀ b o, hr b = some o → h[b]? = some o) (hc : Cell hr (.sl ly9) (.slice a n c)) (hf : fnOk Tryz.prog g = true)
    (hg : ∀ (h' : EH) (k : Nat), k < n → Ext h h' → Ct Tryz.prog g ⟨fs ++ ([.string (sv (el hr a (k * 1 + 0)))] ++ cs)⟩ h' [] (fun r : Bool => .bool r) (R k) (fun _ => [])) :
    Ct Tryz.prog 69 ⟨[.slice a n c, .func (.func g) ⟨fs⟩ ⟨cs⟩]⟩ h [] (fun r : Bool => .bool r) (fun r => (r = false → ∀ k, k < n → R k false) ∧ (r = true → ∃ k, k < n ∧ R k true)) (fun _ => []) := by
  refine Ct.go Tryz.func69 rfl rfl co69 (Hp.start hR) ?_
  refine GW.toSeq rfl ?_
  refine GW.toReg rfl ?_
  refine GL.one rfl .no (S1.as (v := (.bool _)) rfl) ?_
  refine GL.done rfl ?_
  refine GQ.on ?_
  refine GW.toSeq rfl ?_
  refine GW.toReg rfl ?_
  refine GL.one rfl .no (S1.mv (v := (.slice _ _ _)) rfl) ?_
  refine GL.one rfl .no (S1.mv (v := (.func _ _ _)) rfl) ?_
  refine GL.call rfl .no fo97 .nil (fun h H => ct97 H.rom hc hf (fun h'' k hk e => hg h'' k hk (H.ext.trans e))) (.d (.c (v := (.slice _ _ _)) rfl (.c (v := (.func _ _ _)) rfl .n))) (fun r1 q1 => ?_)
  refine GL.one rfl .no (S1.geq rfl rfl) ?_
  refine GL.one rfl .no (S1.as (v := (.bool _)) rfl) ?_
  refine GL.done rfl ?_
  refine GQ.on ?_
  refine GW.toRet rfl ?_
  refine GQ.ret (decide (0 ≤ r1)) (.tmp (v := (.bool _)) rfl rfl .nil) .one ?_ ?_ (by repeat first | exact .nil | apply Take.cons (by repeat first | exact .z | apply Rem.s))
  rfl
  rcases q1 with ⟨rfl, q⟩ | ⟨k, hk, rfl, q⟩
  · exact ⟨fun _ => q, by simp⟩
  · exact ⟨by simp, fun _ => ⟨k, hk, q⟩⟩

/-- IndexFunc over a typed list. -/
theorem ct98 {h : EH} {hr : RO} {a : Option Addr} {n c g : Nat} {R : Nat → Bool → Prop} {fs cs : List Value} (hR : ∀ b o, hr b = some o → h[b]? = some o) (hc : Cell hr (.sl ly74) (.slice a n c)) (hf : fnOk Tryz.prog g = true)
    (hg : ∀ (h' : EH) (k : Nat), k < n → Ext h h' → Ct Tryz.prog g ⟨fs ++ ([.agg ⟨[.string (sv (el hr a (k * 4))), .int .i64 (iv (el hr a (k * 4 + 1))), .int .i64 (iv (el hr a (k * 4 + 2))), .int .i64 (iv (el hr a (k * 4 + 3)))]⟩] ++ cs)⟩ h' [] (fun r : Bool => .bool r) (R k) (fun _ => [])) :
    Ct Tryz.prog 98 ⟨[.slice a n c, .func (.func g) ⟨fs⟩ ⟨cs⟩]⟩ h [] (fun r : Int => .int .i64 r) (fun r => (r = -1 ∧ ∀ k, k < n → R k false) ∨ ∃ k, k < n ∧ r = (k : Int) ∧ R k true) (fun _ => []) := by
  have hl := hc.le
  refine Ct.go Tryz.func98 rfl rfl co98 (Hp.start hR) ?_
  refine GW.toSeq rfl ?_
  refine GW.toReg rfl ?_
  refine GL.one rfl .no (S1.as (v := (.int _ _)) rfl) ?_
  refine GL.done rfl ?_
  refine GQ.on ?_
  refine GW.toSeq rfl ?_
  refine GW.toSeq rfl ?_
  refine GW.toReg rfl ?_
  refine GL.one rfl .no (S1.mv (v := (.slice _ _ _)) rfl) ?_
  refine GL.one rfl .no (S1.len el23 rfl) ?_
  refine GL.one rfl .no (S1.mv (v := (.int _ _)) rfl) ?_
  refine GL.done rfl ?_
  refine GQ.on ?_
  refine GW.toBlock rfl ?_
  refine GW.toLoop (fun k : Nat => [(0, .slice a n c), (1, .func (.func g) ⟨fs⟩ ⟨cs⟩), (7, .int .i64 n), (8, .int .i64 k)]) (fun _ => []) (fun k => k ≤ n ∧ ∀ j, j < k → R j false) (fun k => n - k) rfl 0 ⟨Nat.zero_le _, fun j hj => by omega⟩ (.c rfl (.c rfl (.c rfl (.c rfl .n)))) .nil ?_
  rintro k f ⟨hk, hp⟩
  refine GW.toSeq rfl ?_
  refine GW.toReg rfl ?_
  refine GL.one rfl .no (S1.lss rfl rfl) ?_
  refine GL.done rfl ?_
  refine GQ.on ?_
  refine GW.toSeq rfl ?_
  refine GW.toD rfl rfl (fun w1 => ?_) (fun w1 => ?_)
  refine GW.toSkip rfl ?_
  refine GQ.on ?_
  refine GW.toSeq rfl ?_
  refine GW.toBlock rfl ?_
  refine GW.toSeq rfl ?_
  refine GW.toReg rfl ?_
  refine GL.one rfl .no (S1.mv (v := (.int _ _)) rfl) ?_
  refine GL.one rfl .no (S1.as (v := (.int _ _)) rfl) ?_
  refine GL.done rfl ?_
  refine GQ.on ?_
  refine GW.toSeq rfl ?_
  refine GW.toReg rfl ?_
  refine GL.one rfl .no (S1.mv (v := (.func _ _ _)) rfl) ?_
  refine GL.one rfl .no (S1.mv (v := (.slice _ _ _)) rfl) ?_
  refine GL.one rfl .no (S1.mv (v := (.int _ _)) rfl) ?_
  refine GL.one rfl .no (S1.ixR el23 hc rfl rfl (by omega)) ?_
  refine GL.one rfl .no (S1.ldE ag74 hc rfl (m := k) (by omega) rfl le74) ?_
  refine GL.call rfl .no hf .nil (fun h H => hg _ k (by omega) H.ext) (.v rfl (.c (v := (.agg _)) rfl .n)) ((fun v r => ?_))
  refine GL.done rfl ?_
  refine GQ.on ?_
  refine GW.toC rfl rfl (fun w3 => ?_) (fun w3 => ?_)
  refine GW.toSeq rfl ?_
  refine GW.toReg rfl ?_
  refine GL.one rfl .no (S1.mv (v := (.int _ _)) rfl) ?_
  refine GL.one rfl .no (S1.as (v := (.int _ _)) rfl) ?_
  refine GL.done rfl ?_
  refine GQ.on ?_
  refine GW.toRet rfl ?_
  refine GQ.outR ?_
  refine GQ.onR ?_
  refine GQ.onR ?_
  refine GQ.outR ?_
  refine GQ.onR ?_
  refine GQ.ret _ (.tmp (v := (.int _ _)) rfl rfl .nil) .one rfl ?_ .nil
  rotate_left
  refine GW.toSkip rfl ?_
  refine GQ.outN ?_
  refine GQ.on ?_
  refine GW.toReg rfl ?_
  refine GL.one rfl .no (S1.inc rfl rfl (by omega)) ?_
  refine GL.one rfl .no (S1.mv (v := (.int _ _)) rfl) ?_
  refine GL.done rfl ?_
  rotate_left
  refine GW.toExit rfl ?_
  refine GQ.onE ?_
  refine GQ.onE ?_
  refine GQ.outH ?_
  refine GQ.on ?_
  refine GW.toSeq rfl ?_
  refine GW.toReg rfl ?_
  refine GL.one rfl .no (S1.as (v := (.int _ _)) rfl) ?_
  refine GL.done rfl ?_
  refine GQ.on ?_
  refine GW.toRet rfl ?_
  refine GQ.ret _ (.tmp (v := (.int _ _)) rfl rfl .nil) .one rfl ?_ .nil
  rotate_left
  · exact .inr ⟨k, by omega, rfl, by simp_all⟩
  · refine GQ.next (k + 1) ⟨by omega, fun j hj => ?_⟩ (by omega) (.c rfl (.c rfl (.c rfl (.c rfl .n)))) .nil
    by_cases e : j = k
    · simp_all
    · exact hp j (by omega)
  · exact .inl ⟨rfl, fun j hj => hp j (by omega)⟩

theorem ct71 {h : EH} {hr : RO} {a : Option Addr} {n c g : Nat} {R : Nat → Bool → Prop} {fs cs : List Value} (hR : ∀ b o, hr b = some o → h[b]? = some o) (hc : Cell hr (.sl ly74) (.slice a n c)) (hf : fnOk Tryz.prog g = true)
    (hg : ∀ (h' : EH) (k : Nat), k < n → Ext h h' → Ct Tryz.prog g ⟨fs ++ ([.agg ⟨[.string (sv (el hr a (k * 4))), .int .i64 (iv (el hr a (k * 4 + 1))), .int .i64 (iv (el hr a (k * 4 + 2))), .int .i64 (iv (el hr a (k * 4 + 3)))]⟩] ++ cs)⟩ h' [] (fun r : Bool => .bool r) (R k) (fun _ => [])) :
    Ct Tryz.prog 71 ⟨[.slice a n c, .func (.func g) ⟨fs⟩ ⟨cs⟩]⟩ h [] (fun r : Bool => .bool r) (fun r => (r = false → ∀ k, k < n → R k false) ∧ (r = true → ∃ k, k < n ∧ R k true)) (fun _ => []) := by
  refine Ct.go Tryz.func71 rfl rfl co71 (Hp.start hR) ?_
  refine GW.toSeq rfl ?_
  refine GW.toReg rfl ?_
  refine GL.one rfl .no (S1.as (v := (.bool _)) rfl) ?_
  refine GL.done rfl ?_
  refine GQ.on ?_
  refine GW.toSeq rfl ?_
  refine GW.toReg rfl ?_
  refine GL.one rfl .no (S1.mv (v := (.slice _ _ _)) rfl) ?_
  refine GL.one rfl .no (S1.mv (v := (.func _ _ _)) rfl) ?_
  refine GL.call rfl .no fo98 .nil (fun h H => ct98 H.rom hc hf (fun h'' k hk e => hg h'' k hk (H.ext.trans e))) (.d (.c (v := (.slice _ _ _)) rfl (.c (v := (.func _ _ _)) rfl .n))) (fun r1 q1 => ?_)
  refine GL.one rfl .no (S1.geq rfl rfl) ?_
  refine GL.one rfl .no (S1.as (v := (.bool _)) rfl) ?_
  refine GL.done rfl ?_
  refine GQ.on ?_
  refine GW.toRet rfl ?_
  refine GQ.ret (decide (0 ≤ r1)) (.tmp (v := (.bool _)) rfl rfl .nil) .one ?_ ?_ (by repeat first | exact .nil | apply Take.cons (by repeat first | exact .z | apply Rem.s))
  rfl
  rcases q1 with ⟨rfl, q⟩ | ⟨k, hk, rfl, q⟩
  · exact ⟨fun _ => q, by simp⟩
  · exact ⟨by simp, fun _ => ⟨k, hk, q⟩⟩

/-- IndexFunc over a typed list. -/
theorem ct73 {h : EH} {hr : RO} {a : Option Addr} {n c g : Nat} {R : Nat → Bool → Prop} {fs cs : List Value} (hR : ∀ b o, hr b = some o → h[b]? = some o) (hc : Cell hr (.sl ly78) (.slice a n c)) (hf : fnOk Tryz.prog g = true)
    (hg : ∀ (h' : EH) (k : Nat), k < n → Ext h h' → Ct Tryz.prog g ⟨fs ++ ([.agg ⟨[.int .i64 (iv (el hr a (k * 2))), .int .i64 (iv (el hr a (k * 2 + 1)))]⟩] ++ cs)⟩ h' [] (fun r : Bool => .bool r) (R k) (fun _ => [])) :
    Ct Tryz.prog 73 ⟨[.slice a n c, .func (.func g) ⟨fs⟩ ⟨cs⟩]⟩ h [] (fun r : Int => .int .i64 r) (fun r => (r = -1 ∧ ∀ k, k < n → R k false) ∨ ∃ k, k < n ∧ r = (k : Int) ∧ R k true) (fun _ => []) := by
  have hl := hc.le
  refine Ct.go Tryz.func73 rfl rfl co73 (Hp.start hR) ?_
  refine GW.toSeq rfl ?_
  refine GW.toReg rfl ?_
  refine GL.one rfl .no (S1.as (v := (.int _ _)) rfl) ?_
  refine GL.done rfl ?_
  refine GQ.on ?_
  refine GW.toSeq rfl ?_
  refine GW.toSeq rfl ?_
  refine GW.toReg rfl ?_
  refine GL.one rfl .no (S1.mv (v := (.slice _ _ _)) rfl) ?_
  refine GL.one rfl .no (S1.len el26 rfl) ?_
  refine GL.one rfl .no (S1.mv (v := (.int _ _)) rfl) ?_
  refine GL.done rfl ?_
  refine GQ.on ?_
  refine GW.toBlock rfl ?_
  refine GW.toLoop (fun k : Nat => [(0, .slice a n c), (1, .func (.func g) ⟨fs⟩ ⟨cs⟩), (7, .int .i64 n), (8, .int .i64 k)]) (fun _ => []) (fun k => k ≤ n ∧ ∀ j, j < k → R j false) (fun k => n - k) rfl 0 ⟨Nat.zero_le _, fun j hj => by omega⟩ (.c rfl (.c rfl (.c rfl (.c rfl .n)))) .nil ?_
  rintro k f ⟨hk, hp⟩
  refine GW.toSeq rfl ?_
  refine GW.toReg rfl ?_
  refine GL.one rfl .no (S1.lss rfl rfl) ?_
  refine GL.done rfl ?_
  refine GQ.on ?_
  refine GW.toSeq rfl ?_
  refine GW.toD rfl rfl (fun w1 => ?_) (fun w1 => ?_)
  refine GW.toSkip rfl ?_
  refine GQ.on ?_
  refine GW.toSeq rfl ?_
  refine GW.toBlock rfl ?_
  refine GW.toSeq rfl ?_
  refine GW.toReg rfl ?_
  refine GL.one rfl .no (S1.mv (v := (.int _ _)) rfl) ?_
  refine GL.one rfl .no (S1.as (v := (.int _ _)) rfl) ?_
  refine GL.done rfl ?_
  refine GQ.on ?_
  refine GW.toSeq rfl ?_
  refine GW.toReg rfl ?_
  refine GL.one rfl .no (S1.mv (v := (.func _ _ _)) rfl) ?_
  refine GL.one rfl .no (S1.mv (v := (.slice _ _ _)) rfl) ?_
  refine GL.one rfl .no (S1.mv (v := (.int _ _)) rfl) ?_
  refine GL.one rfl .no (S1.ixR el26 hc rfl rfl (by omega)) ?_
  refine GL.one rfl .no (S1.ldE ag78 hc rfl (m := k) (by omega) rfl le78) ?_
  refine GL.call rfl .no hf .nil (fun h H => hg _ k (by omega) H.ext) (.v rfl (.c (v := (.agg _)) rfl .n)) ((fun v r => ?_))
  refine GL.done rfl ?_
  refine GQ.on ?_
  refine GW.toC rfl rfl (fun w3 => ?_) (fun w3 => ?_)
  refine GW.toSeq rfl ?_
  refine GW.toReg rfl ?_
  refine GL.one rfl .no (S1.mv (v := (.int _ _)) rfl) ?_
  refine GL.one rfl .no (S1.as (v := (.int _ _)) rfl) ?_
  refine GL.done rfl ?_
  refine GQ.on ?_
  refine GW.toRet rfl ?_
  refine GQ.outR ?_
  refine GQ.onR ?_
  refine GQ.onR ?_
  refine GQ.outR ?_
  refine GQ.onR ?_
  refine GQ.ret _ (.tmp (v := (.int _ _)) rfl rfl .nil) .one rfl ?_ .nil
  rotate_left
  refine GW.toSkip rfl ?_
  refine GQ.outN ?_
  refine GQ.on ?_
  refine GW.toReg rfl ?_
  refine GL.one rfl .no (S1.inc rfl rfl (by omega)) ?_
  refine GL.one rfl .no (S1.mv (v := (.int _ _)) rfl) ?_
  refine GL.done rfl ?_
  rotate_left
  refine GW.toExit rfl ?_
  refine GQ.onE ?_
  refine GQ.onE ?_
  refine GQ.outH ?_
  refine GQ.on ?_
  refine GW.toSeq rfl ?_
  refine GW.toReg rfl ?_
  refine GL.one rfl .no (S1.as (v := (.int _ _)) rfl) ?_
  refine GL.done rfl ?_
  refine GQ.on ?_
  refine GW.toRet rfl ?_
  refine GQ.ret _ (.tmp (v := (.int _ _)) rfl rfl .nil) .one rfl ?_ .nil
  rotate_left
  · exact .inr ⟨k, by omega, rfl, by simp_all⟩
  · refine GQ.next (k + 1) ⟨by omega, fun j hj => ?_⟩ (by omega) (.c rfl (.c rfl (.c rfl (.c rfl .n)))) .nil
    by_cases e : j = k
    · simp_all
    · exact hp j (by omega)
  · exact .inl ⟨rfl, fun j hj => hp j (by omega)⟩

end Go.Proofs.YtkpbpfnmgnpfaaaGreat
namespace Go.Proofs.YtkpbpfnmgnpfaaaGreat
open Go Go.E
set_option maxRecDepth 100000

theorem ct33 {h : EH} {s : ByteArray} : Ct Tryz.prog 33 ⟨[.string s]⟩ h [] (fun _ : Unit => .string s) (fun _ => True) (fun _ => []) := by
  refine Ct.go Tryz.func33 rfl rfl co33 (Hp.start (hr := fun _ => none) (by simp)) ?_
  refine GW.toSeq rfl ?_
  refine GW.toReg rfl ?_
  refine GL.one rfl .no (S1.as (v := (.string _)) rfl) ?_
  refine GL.done rfl ?_
  refine GQ.on ?_
  refine GW.toSeq rfl ?_
  refine GW.toReg rfl ?_
  refine GL.one rfl .no (S1.mv (v := (.string _)) rfl) ?_
  refine GL.one rfl .no (S1.as (v := (.string _)) rfl) ?_
  refine GL.done rfl ?_
  refine GQ.on ?_
  refine GW.toRet rfl ?_
  refine GQ.ret () (.tmp (v := (.string _)) rfl rfl .nil) .one ?_ ?_ .nil
  rfl
  exact trivial
theorem ct35 {h : EH} {s : ByteArray} {x y z : Int} : Ct Tryz.prog 35 ⟨[.agg ⟨[.string s, .int .i64 x, .int .i64 y, .int .i64 z]⟩]⟩ h [] (fun _ : Unit => .string s) (fun _ => True) (fun _ => []) := by
  refine Ct.go Tryz.func35 rfl rfl co35 (Hp.start (hr := fun _ => none) (by simp)) ?_
  refine GW.toSeq rfl ?_
  refine GW.toReg rfl ?_
  refine GL.opN rfl .no (SN.bx (u := .agg ⟨_⟩) rfl .agg) (fun a1 => ?_)
  refine GL.one rfl .no (S1.as (v := (.string _)) rfl) ?_
  refine GL.done rfl ?_
  refine GQ.on ?_
  refine GW.toSeq rfl ?_
  refine GW.toReg rfl ?_
  refine GL.one rfl .no (S1.fa fa74_0 rfl) ?_
  refine GL.one rfl .no (S1.ld sc9 rfl (.at .z) rfl) ?_
  refine GL.one rfl .no (S1.as (v := (.string _)) rfl) ?_
  refine GL.done rfl ?_
  refine GQ.on ?_
  refine GW.toRet rfl ?_
  refine GQ.ret () (.tmp (v := (.string _)) rfl rfl .nil) .one ?_ ?_ .nil
  rfl
  exact trivial

theorem ct70 {h : EH} {x last S : ByteArray} {b1 b2 g0 : Nat} {fs0 cs0 : List Value} (h1 : h[b1]? = some (.cells [.func (.func g0) ⟨fs0⟩ ⟨cs0⟩] none true)) (h2 : h[b2]? = some (.cells [.string last] none true)) (hf : fnOk Tryz.prog g0 = true)
    (hg : ∀ h', Ext h h' → Ct Tryz.prog g0 ⟨fs0 ++ ([.string x] ++ cs0)⟩ h' [] (fun _ : Unit => .string S) (fun _ => True) (fun _ => [])) :
    Ct Tryz.prog 70 ⟨[.string x, .pointer (some ⟨b1, 0, none⟩), .pointer (some ⟨b2, 0, none⟩)]⟩ h [] (fun r : Bool => .bool r) (fun _ => True) (fun _ => []) := by
  refine Ct.go Tryz.func70 rfl rfl co70 (Hp.start (hr := fun _ => none) (by simp)) ?_
  refine GW.toSeq rfl ?_
  refine GW.toReg rfl ?_
  refine GL.one rfl .no (S1.as (v := (.bool _)) rfl) ?_
  refine GL.done rfl ?_
  refine GQ.on ?_
  refine GW.toSeq rfl ?_
  refine GW.toDrw mx rfl ?_
  refine GD.one rfl .no (S1.ld sc72 rfl (.old0 h1) rfl) rfl ?_
  refine GD.one rfl .no (S1.mv (v := (.string _)) rfl) rfl ?_
  refine GD.call rfl .no hf .nil (fun h H => hg _ H.ext) (.v rfl (.c (v := (.string _)) rfl .n)) ((fun _ _ => ?_))
  refine GD.one rfl .no (S1.ld sc9 rfl (.old0 h2) rfl) rfl ?_
  refine GD.one rfl .no (S1.seq rfl rfl) rfl ?_
  refine GD.one rfl .no (S1.as (v := (.bool _)) rfl) rfl ?_
  refine GD.done rfl ?_
  refine GQ.on ?_
  refine GW.toRet rfl ?_
  refine GQ.ret _ (.tmp (v := (.bool _)) rfl rfl .nil) .one rfl ?_ .nil
  exact trivial
theorem ct72 {h : EH} {x last S : ByteArray} {p q r : Int} {b1 b2 g0 : Nat} {fs0 cs0 : List Value} (h1 : h[b1]? = some (.cells [.func (.func g0) ⟨fs0⟩ ⟨cs0⟩] none true)) (h2 : h[b2]? = some (.cells [.string last] none true)) (hf : fnOk Tryz.prog g0 = true)
    (hg : ∀ h', Ext h h' → Ct Tryz.prog g0 ⟨fs0 ++ ([.agg ⟨[.string x, .int .i64 p, .int .i64 q, .int .i64 r]⟩] ++ cs0)⟩ h' [] (fun _ : Unit => .string S) (fun _ => True) (fun _ => [])) :
    Ct Tryz.prog 72 ⟨[.agg ⟨[.string x, .int .i64 p, .int .i64 q, .int .i64 r]⟩, .pointer (some ⟨b1, 0, none⟩), .pointer (some ⟨b2, 0, none⟩)]⟩ h [] (fun r : Bool => .bool r) (fun _ => True) (fun _ => []) := by
  refine Ct.go Tryz.func72 rfl rfl co72 (Hp.start (hr := fun _ => none) (by simp)) ?_
  refine GW.toSeq rfl ?_
  refine GW.toReg rfl ?_
  refine GL.opN rfl .no (SN.bx (u := .agg ⟨_⟩) rfl .agg) (fun a1 => ?_)
  refine GL.one rfl .no (S1.as (v := (.bool _)) rfl) ?_
  refine GL.done rfl ?_
  refine GQ.on ?_
  refine GW.toSeq rfl ?_
  refine GW.toDrw mx rfl ?_
  refine GD.one rfl .no (S1.ld sc76 rfl (.old0 h1) rfl) rfl ?_
  refine GD.one rfl .no (S1.ldW ag74 rfl (.at .z) rfl) rfl ?_
  refine GD.call rfl .no hf .nil (fun h H => hg _ H.ext) (.v rfl (.c (v := (.agg _)) rfl .n)) ((fun _ _ => ?_))
  refine GD.one rfl .no (S1.ld sc9 rfl (.old0 h2) rfl) rfl ?_
  refine GD.one rfl .no (S1.seq rfl rfl) rfl ?_
  refine GD.one rfl .no (S1.as (v := (.bool _)) rfl) rfl ?_
  refine GD.done rfl ?_
  refine GQ.on ?_
  refine GW.toRet rfl ?_
  refine GQ.ret _ (.tmp (v := (.bool _)) rfl rfl .nil) .one rfl ?_ .nil
  exact trivial


/-- The error of the last name. -/
theorem ct32 {h : EH} {hr : RO} {a : Option Addr} {n c g0 : Nat} {S : Nat → ByteArray} {fs0 cs0 : List Value} (hR : ∀ b o, hr b = some o → h[b]? = some o) (hc : Cell hr (.sl ly9) (.slice a n c)) (hn : 0 < n) (hf : fnOk Tryz.prog g0 = true)
    (hS : ∀ k, k < n → (S k).size ≤ 1073741824)
    (hg : ∀ (h' : EH) (k : Nat), k < n → Ext h h' → Ct Tryz.prog g0 ⟨fs0 ++ ([.string (sv (el hr a (k * 1 + 0)))] ++ cs0)⟩ h' [] (fun _ : Unit => .string (S k)) (fun _ => True) (fun _ => [])) :
    Ct Tryz.prog 32 ⟨[.slice a n c, .func (.func g0) ⟨fs0⟩ ⟨cs0⟩]⟩ h [] (fun e : Int => .int .i64 e) (fun _ => True) (fun _ => []) := by
  have hl := hc.le
  refine Ct.go Tryz.func32 rfl rfl co32 (Hp.start hR) ?_
  refine GW.toSeq rfl ?_
  refine GW.toReg rfl ?_
  refine GL.opN rfl .no (SN.bx (u := (.func _ _ _)) rfl (.one rfl)) (fun a1 => ?_)
  refine GL.one rfl .no (S1.as (v := (.int _ _)) rfl) ?_
  refine GL.done rfl ?_
  refine GQ.on ?_
  refine GW.toSeq rfl ?_
  refine GW.toDrw mx rfl ?_
  refine GD.one rfl .no (S1.ld sc72 rfl (.at .z) rfl) rfl ?_
  refine GD.one rfl .no (S1.mv (v := (.slice _ _ _)) rfl) rfl ?_
  refine GD.one rfl .no (S1.mv (v := (.slice _ _ _)) rfl) rfl ?_
  refine GD.one rfl .no (S1.len el22 rfl) rfl ?_
  refine GD.one rfl .no (S1.dec1 rfl rfl (by omega) (by omega)) rfl ?_
  refine GD.one rfl .no (S1.ixR el22 hc rfl rfl (by omega)) rfl ?_
  refine GD.one rfl .no (S1.ldCS sc9 (z := 1) hc rfl (m := n - 1) (by omega) rfl (d := 0) rfl rfl) rfl ?_
  refine GD.call rfl .no hf .nil (fun h H => hg _ (n - 1) (by omega) H.ext) (.v rfl (.c (v := (.string _)) rfl .n)) ((fun _ _ => ?_))
  refine GD.opN rfl .no (SN.al zc9) rfl (fun a3 => ?_)
  refine GD.loud rfl .no (S1.st (u := (.string _)) sc9 rfl rfl rfl (by repeat constructor) .z) rfl rfl (by kernel_rfl) ?_
  refine GD.done rfl ?_
  refine GQ.on ?_
  refine GW.toSeq rfl ?_
  refine GW.toBlock rfl ?_
  refine GW.toSeq rfl ?_
  refine GW.toReg rfl ?_
  refine GL.one rfl .no (S1.ld sc9 rfl (.at .z) rfl) ?_
  refine GL.call rfl .no fo68 .nil (fun h H => ct68 (hS _ (by omega))) (.d (.c (v := (.string _)) rfl .n)) (fun x4 _ => ?_)
  refine GL.one rfl .no (S1.not rfl) ?_
  refine GL.one rfl .no (S1.as (v := (.bool _)) rfl) ?_
  refine GL.done rfl ?_
  refine GQ.on ?_
  refine GW.toC rfl rfl (fun w5 => ?_) (fun w5 => ?_)
  refine GW.toSeq rfl ?_
  refine GW.toReg rfl ?_
  refine GL.one rfl .no (S1.as (v := (.int _ _)) rfl) ?_
  refine GL.done rfl ?_
  refine GQ.on ?_
  refine GW.toRet rfl ?_
  refine GQ.outR ?_
  refine GQ.onR ?_
  refine GQ.ret _ (.tmp (v := (.int _ _)) rfl rfl .nil) .one rfl ?_ .nil
  exact trivial
  refine GW.toSeq rfl ?_
  refine GW.toReg rfl ?_
  refine GL.one rfl .no (S1.mv (v := (.slice _ _ _)) rfl) ?_
  refine GL.one rfl .no (S1.mv (v := (.slice _ _ _)) rfl) ?_
  refine GL.one rfl .no (S1.len el22 rfl) ?_
  refine GL.one rfl .no (S1.dec1 rfl rfl (by omega) (by omega)) ?_
  refine GL.opX rfl .no (SX.cut el22 hc rfl rfl .no (.at rfl) (by omega) (by omega)) (fun a6 r6 => ?_)
  refine GL.one rfl .no (S1.mf .n (.c (v := (.pointer _)) rfl (.c (v := (.pointer _)) rfl .n))) ?_
  have hel : ∀ j, j < (n - 1) * 1 → el hr a6 j = el hr a j := fun j hj => by have := r6.2 j (by omega); simpa using this
  refine GL.call rfl .no fo69 .nil (fun h H => ct69 (R := fun _ _ => True) H.rom r6.1 fo70 (fun h'' k hk e => ?_)) (.d (.c rfl (.c (v := .func _ ⟨[]⟩ ⟨[_, _]⟩) rfl .n))) (fun r q => ?_)
  · rw [hel _ (by omega)]
    exact ct70 (e _ _ (H.get (.s .z))) (e _ _ (H.get .z)) hf (fun h2 e2 => hg h2 k (by omega) (H.ext.trans (e.trans e2)))
  refine GL.one rfl .no (S1.as (v := (.bool _)) rfl) ?_
  refine GL.done rfl ?_
  refine GQ.on ?_
  refine GW.toC rfl rfl (fun w8 => ?_) (fun w8 => ?_)
  refine GW.toSeq rfl ?_
  refine GW.toReg rfl ?_
  refine GL.one rfl .no (S1.as (v := (.int _ _)) rfl) ?_
  refine GL.done rfl ?_
  refine GQ.on ?_
  refine GW.toRet rfl ?_
  refine GQ.outR ?_
  refine GQ.onR ?_
  refine GQ.ret _ (.tmp (v := (.int _ _)) rfl rfl .nil) .one rfl ?_ .nil
  exact trivial
  refine GW.toSkip rfl ?_
  refine GQ.outN ?_
  refine GQ.on ?_
  refine GW.toSeq rfl ?_
  refine GW.toReg rfl ?_
  refine GL.one rfl .no (S1.as (v := (.int _ _)) rfl) ?_
  refine GL.done rfl ?_
  refine GQ.on ?_
  refine GW.toRet rfl ?_
  refine GQ.ret _ (.tmp (v := (.int _ _)) rfl rfl .nil) .one rfl ?_ .nil
  exact trivial

/-- The error of the last name. -/
theorem ct34 {h : EH} {hr : RO} {a : Option Addr} {n c g0 : Nat} {S : Nat → ByteArray} {fs0 cs0 : List Value} (hR : ∀ b o, hr b = some o → h[b]? = some o) (hc : Cell hr (.sl ly74) (.slice a n c)) (hn : 0 < n) (hf : fnOk Tryz.prog g0 = true)
    (hS : ∀ k, k < n → (S k).size ≤ 1073741824)
    (hg : ∀ (h' : EH) (k : Nat), k < n → Ext h h' → Ct Tryz.prog g0 ⟨fs0 ++ ([.agg ⟨[.string (sv (el hr a (k * 4))), .int .i64 (iv (el hr a (k * 4 + 1))), .int .i64 (iv (el hr a (k * 4 + 2))), .int .i64 (iv (el hr a (k * 4 + 3)))]⟩] ++ cs0)⟩ h' [] (fun _ : Unit => .string (S k)) (fun _ => True) (fun _ => [])) :
    Ct Tryz.prog 34 ⟨[.slice a n c, .func (.func g0) ⟨fs0⟩ ⟨cs0⟩]⟩ h [] (fun e : Int => .int .i64 e) (fun _ => True) (fun _ => []) := by
  have hl := hc.le
  refine Ct.go Tryz.func34 rfl rfl co34 (Hp.start hR) ?_
  refine GW.toSeq rfl ?_
  refine GW.toReg rfl ?_
  refine GL.opN rfl .no (SN.bx (u := (.func _ _ _)) rfl (.one rfl)) (fun a1 => ?_)
  refine GL.one rfl .no (S1.as (v := (.int _ _)) rfl) ?_
  refine GL.done rfl ?_
  refine GQ.on ?_
  refine GW.toSeq rfl ?_
  refine GW.toDrw mx rfl ?_
  refine GD.one rfl .no (S1.ld sc76 rfl (.at .z) rfl) rfl ?_
  refine GD.one rfl .no (S1.mv (v := (.slice _ _ _)) rfl) rfl ?_
  refine GD.one rfl .no (S1.mv (v := (.slice _ _ _)) rfl) rfl ?_
  refine GD.one rfl .no (S1.len el23 rfl) rfl ?_
  refine GD.one rfl .no (S1.dec1 rfl rfl (by omega) (by omega)) rfl ?_
  refine GD.one rfl .no (S1.ixR el23 hc rfl rfl (by omega)) rfl ?_
  refine GD.one rfl .no (S1.ldE ag74 hc rfl (m := n - 1) (by omega) rfl le74) rfl ?_
  refine GD.call rfl .no hf .nil (fun h H => hg _ (n - 1) (by omega) H.ext) (.v rfl (.c (v := (.agg _)) rfl .n)) ((fun _ _ => ?_))
  refine GD.opN rfl .no (SN.al zc9) rfl (fun a3 => ?_)
  refine GD.loud rfl .no (S1.st (u := (.string _)) sc9 rfl rfl rfl (by repeat constructor) .z) rfl rfl (by kernel_rfl) ?_
  refine GD.done rfl ?_
  refine GQ.on ?_
  refine GW.toSeq rfl ?_
  refine GW.toBlock rfl ?_
  refine GW.toSeq rfl ?_
  refine GW.toReg rfl ?_
  refine GL.one rfl .no (S1.ld sc9 rfl (.at .z) rfl) ?_
  refine GL.call rfl .no fo68 .nil (fun h H => ct68 (hS _ (by omega))) (.d (.c (v := (.string _)) rfl .n)) (fun x4 _ => ?_)
  refine GL.one rfl .no (S1.not rfl) ?_
  refine GL.one rfl .no (S1.as (v := (.bool _)) rfl) ?_
  refine GL.done rfl ?_
  refine GQ.on ?_
  refine GW.toC rfl rfl (fun w5 => ?_) (fun w5 => ?_)
  refine GW.toSeq rfl ?_
  refine GW.toReg rfl ?_
  refine GL.one rfl .no (S1.as (v := (.int _ _)) rfl) ?_
  refine GL.done rfl ?_
  refine GQ.on ?_
  refine GW.toRet rfl ?_
  refine GQ.outR ?_
  refine GQ.onR ?_
  refine GQ.ret _ (.tmp (v := (.int _ _)) rfl rfl .nil) .one rfl ?_ .nil
  exact trivial
  refine GW.toSeq rfl ?_
  refine GW.toReg rfl ?_
  refine GL.one rfl .no (S1.mv (v := (.slice _ _ _)) rfl) ?_
  refine GL.one rfl .no (S1.mv (v := (.slice _ _ _)) rfl) ?_
  refine GL.one rfl .no (S1.len el23 rfl) ?_
  refine GL.one rfl .no (S1.dec1 rfl rfl (by omega) (by omega)) ?_
  refine GL.opX rfl .no (SX.cut el23 hc rfl rfl .no (.at rfl) (by omega) (by omega)) (fun a6 r6 => ?_)
  refine GL.one rfl .no (S1.mf .n (.c (v := (.pointer _)) rfl (.c (v := (.pointer _)) rfl .n))) ?_
  have hel : ∀ j, j < (n - 1) * 4 → el hr a6 j = el hr a j := fun j hj => by have := r6.2 j (by omega); simpa using this
  refine GL.call rfl .no fo71 .nil (fun h H => ct71 (R := fun _ _ => True) H.rom r6.1 fo72 (fun h'' k hk e => ?_)) (.d (.c rfl (.c (v := .func _ ⟨[]⟩ ⟨[_, _]⟩) rfl .n))) (fun r q => ?_)
  · rw [hel _ (by omega), hel _ (by omega), hel _ (by omega), hel _ (by omega)]
    exact ct72 (e _ _ (H.get (.s .z))) (e _ _ (H.get .z)) hf (fun h2 e2 => hg h2 k (by omega) (H.ext.trans (e.trans e2)))
  refine GL.one rfl .no (S1.as (v := (.bool _)) rfl) ?_
  refine GL.done rfl ?_
  refine GQ.on ?_
  refine GW.toC rfl rfl (fun w8 => ?_) (fun w8 => ?_)
  refine GW.toSeq rfl ?_
  refine GW.toReg rfl ?_
  refine GL.one rfl .no (S1.as (v := (.int _ _)) rfl) ?_
  refine GL.done rfl ?_
  refine GQ.on ?_
  refine GW.toRet rfl ?_
  refine GQ.outR ?_
  refine GQ.onR ?_
  refine GQ.ret _ (.tmp (v := (.int _ _)) rfl rfl .nil) .one rfl ?_ .nil
  exact trivial
  refine GW.toSkip rfl ?_
  refine GQ.outN ?_
  refine GQ.on ?_
  refine GW.toSeq rfl ?_
  refine GW.toReg rfl ?_
  refine GL.one rfl .no (S1.as (v := (.int _ _)) rfl) ?_
  refine GL.done rfl ?_
  refine GQ.on ?_
  refine GW.toRet rfl ?_
  refine GQ.ret _ (.tmp (v := (.int _ _)) rfl rfl .nil) .one rfl ?_ .nil
  exact trivial

end Go.Proofs.YtkpbpfnmgnpfaaaGreat
namespace Go.Proofs.YtkpbpfnmgnpfaaaGreat
open Go Go.E
set_option maxRecDepth 100000


set_option maxHeartbeats 4000000 in
theorem ct7 {h : EH} {hr : RO} {la ca ta : Option Addr} {ln lc cn cc tn tc : Nat} {price excess lo hi : Int} (hR : ∀ b o, hr b = some o → h[b]? = some o) (h1 : Cell hr (.sl ly9) (.slice la ln lc)) (h2 : Cell hr (.sl ly74) (.slice ca cn cc)) (h3 : Cell hr (.sl ly78) (.slice ta tn tc)) :
    Ct Tryz.prog 7 ⟨[.agg ⟨[.slice la ln lc, .slice ca cn cc, .int .i64 price, .int .i64 excess, .int .i64 lo, .int .i64 hi, .slice ta tn tc]⟩]⟩ h [] (fun x : Int × Int × Int => .tuple ⟨[.int .i64 x.1, .int .i64 x.2.1, .int .i64 x.2.2]⟩) (fun x => x.2.2 = 0 → ln ≤ 8 ∧ cn ≤ 5 ∧ tn ≤ 4) (fun _ => []) := by
  have hl1 := h1.le
  have hl2 := h2.le
  have hl3 := h3.le
  refine Ct.go Tryz.func7 rfl rfl co7 (Hp.start hR) ?_
  refine GW.toSeq rfl ?_
  refine GW.toReg rfl ?_
  refine GL.opN rfl .no (SN.bx (u := .agg ⟨_⟩) rfl .agg) (fun a1 => ?_)
  refine GL.one rfl .no (S1.as (v := (.int _ _)) rfl) ?_
  refine GL.one rfl .no (S1.as (v := (.int _ _)) rfl) ?_
  refine GL.one rfl .no (S1.as (v := (.int _ _)) rfl) ?_
  refine GL.done rfl ?_
  refine GQ.on ?_
  refine GW.toSeq rfl ?_
  refine GW.toBlock rfl ?_
  refine GW.toSeq rfl ?_
  refine GW.toReg rfl ?_
  refine GL.one rfl .no (S1.fa fa28_0 rfl) ?_
  refine GL.one rfl .no (S1.ld sc22 rfl (.at .z) rfl) ?_
  refine GL.one rfl .no (S1.len el22 rfl) ?_
  refine GL.opN rfl .no (SN.bs el32 ez32 (.c (v := (.int _ _)) rfl rfl .n) rfl rfl) (fun a2 => ?_)
  refine GL.call rfl .no fo31 .nil (fun h H => ct31_1 (H.get (by repeat first | exact .z | apply At.s))) (.d (.c (v := (.int _ _)) rfl (.c (v := (.int _ _)) rfl (.c (v := (.slice _ _ _)) rfl .n)))) (fun _ _ => ?_)
  refine GL.one rfl .no (S1.mv (v := (.bool _)) rfl) ?_
  refine GL.split 16 rfl (fun w5 => ?_) (fun w5 => ?_)
  refine GL.skip rfl (.not rfl rfl rfl) ?_
  refine GL.skip rfl (.not rfl rfl rfl) ?_
  refine GL.skip rfl (.not rfl rfl rfl) ?_
  refine GL.skip rfl (.not rfl rfl rfl) ?_
  refine GL.skip rfl (.not rfl rfl rfl) ?_
  refine GL.one rfl .no (S1.pickT (v := (.bool _)) rfl rfl) ?_
  refine GL.one rfl .no (S1.mv (v := (.bool _)) rfl) ?_
  refine GL.skip rfl (.not rfl rfl rfl) ?_
  refine GL.skip rfl (.not rfl rfl rfl) ?_
  refine GL.skip rfl (.not rfl rfl rfl) ?_
  refine GL.skip rfl (.not rfl rfl rfl) ?_
  refine GL.one rfl .no (S1.pickT (v := (.bool _)) rfl rfl) ?_
  refine GL.one rfl .no (S1.as (v := (.bool _)) rfl) ?_
  refine GL.done rfl ?_
  refine GQ.on ?_
  refine GW.toT rfl rfl ?_
  refine GW.toSeq rfl ?_
  refine GW.toReg rfl ?_
  refine GL.one rfl .no (S1.as (v := (.int _ _)) rfl) ?_
  refine GL.one rfl .no (S1.as (v := (.int _ _)) rfl) ?_
  refine GL.one rfl .no (S1.as (v := (.int _ _)) rfl) ?_
  refine GL.done rfl ?_
  refine GQ.on ?_
  refine GW.toRet rfl ?_
  refine GQ.outR ?_
  refine GQ.onR ?_
  refine GQ.ret (_, _, _) (.tmp (v := (.int _ _)) rfl rfl (.tmp (v := (.int _ _)) rfl rfl (.tmp (v := (.int _ _)) rfl rfl .nil))) .more rfl ?_ (by repeat first | exact .nil | apply Take.cons (by repeat first | exact .z | apply Rem.s))
  exact fun h => absurd h (by decide)
  refine GL.one rfl (.yes rfl rfl rfl) (S1.fa fa28_1 rfl) ?_
  refine GL.one rfl (.yes rfl rfl rfl) (S1.ld sc23 rfl (.at (.s .z)) rfl) ?_
  refine GL.one rfl (.yes rfl rfl rfl) (S1.len el23 rfl) ?_
  refine GL.opN rfl (.yes rfl rfl rfl) (SN.bs el32 ez32 (.c (v := (.int _ _)) rfl rfl .n) rfl rfl) (fun a6 => ?_)
  refine GL.call rfl (.yes rfl rfl rfl) fo31 .nil (fun h H => ct31_1 (H.get (by repeat first | exact .z | apply At.s))) (.d (.c (v := (.int _ _)) rfl (.c (v := (.int _ _)) rfl (.c (v := (.slice _ _ _)) rfl .n)))) (fun _ _ => ?_)
  refine GL.one rfl .no (S1.pickF (v := (.bool _)) rfl rfl) ?_
  refine GL.one rfl .no (S1.mv (v := (.bool _)) rfl) ?_
  refine GL.split 23 rfl (fun w9 => ?_) (fun w9 => ?_)
  refine GL.skip rfl (.not rfl rfl rfl) ?_
  refine GL.skip rfl (.not rfl rfl rfl) ?_
  refine GL.skip rfl (.not rfl rfl rfl) ?_
  refine GL.skip rfl (.not rfl rfl rfl) ?_
  refine GL.one rfl .no (S1.pickT (v := (.bool _)) rfl rfl) ?_
  refine GL.one rfl .no (S1.as (v := (.bool _)) rfl) ?_
  refine GL.done rfl ?_
  refine GQ.on ?_
  refine GW.toT rfl rfl ?_
  refine GW.toSeq rfl ?_
  refine GW.toReg rfl ?_
  refine GL.one rfl .no (S1.as (v := (.int _ _)) rfl) ?_
  refine GL.one rfl .no (S1.as (v := (.int _ _)) rfl) ?_
  refine GL.one rfl .no (S1.as (v := (.int _ _)) rfl) ?_
  refine GL.done rfl ?_
  refine GQ.on ?_
  refine GW.toRet rfl ?_
  refine GQ.outR ?_
  refine GQ.onR ?_
  refine GQ.ret (_, _, _) (.tmp (v := (.int _ _)) rfl rfl (.tmp (v := (.int _ _)) rfl rfl (.tmp (v := (.int _ _)) rfl rfl .nil))) .more rfl ?_ (by repeat first | exact .nil | apply Take.cons (by repeat first | exact .z | apply Rem.s))
  exact fun h => absurd h (by decide)
  refine GL.one rfl (.yes rfl rfl rfl) (S1.fa fa28_5 rfl) ?_
  refine GL.one rfl (.yes rfl rfl rfl) (S1.ld sc26 rfl (.at (.s (.s .z))) rfl) ?_
  refine GL.one rfl (.yes rfl rfl rfl) (S1.len el26 rfl) ?_
  refine GL.one rfl (.yes rfl rfl rfl) (S1.gtr rfl rfl) ?_
  refine GL.one rfl .no (S1.pickF (v := (.bool _)) rfl rfl) ?_
  refine GL.one rfl .no (S1.as (v := (.bool _)) rfl) ?_
  refine GL.done rfl ?_
  refine GQ.on ?_
  refine GW.toD rfl rfl (fun w10 => ?_) (fun w10 => ?_)
  refine GW.toSeq rfl ?_
  refine GW.toReg rfl ?_
  refine GL.one rfl .no (S1.as (v := (.int _ _)) rfl) ?_
  refine GL.one rfl .no (S1.as (v := (.int _ _)) rfl) ?_
  refine GL.one rfl .no (S1.as (v := (.int _ _)) rfl) ?_
  refine GL.done rfl ?_
  refine GQ.on ?_
  refine GW.toRet rfl ?_
  refine GQ.outR ?_
  refine GQ.onR ?_
  refine GQ.ret (_, _, _) (.tmp (v := (.int _ _)) rfl rfl (.tmp (v := (.int _ _)) rfl rfl (.tmp (v := (.int _ _)) rfl rfl .nil))) .more rfl ?_ (by repeat first | exact .nil | apply Take.cons (by repeat first | exact .z | apply Rem.s))
  exact fun h => absurd h (by decide)
  refine GW.toSeq rfl ?_
  refine GW.toReg rfl ?_
  refine GL.one rfl .no (S1.fa fa28_2 rfl) ?_
  refine GL.one rfl .no (S1.ld sc3 rfl (.at (.s (.s .z))) rfl) ?_
  refine GL.opN rfl .no (SN.bs el32 ez32 (.c (v := (.int _ _)) rfl rfl .n) rfl rfl) (fun a11 => ?_)
  refine GL.call rfl .no fo31 .nil (fun h H => ct31_1 (H.get (by repeat first | exact .z | apply At.s))) (.d (.c (v := (.int _ _)) rfl (.c (v := (.int _ _)) rfl (.c (v := (.slice _ _ _)) rfl .n)))) (fun _ _ => ?_)
  refine GL.one rfl .no (S1.mv (v := (.bool _)) rfl) ?_
  refine GL.split 34 rfl (fun w14 => ?_) (fun w14 => ?_)
  refine GL.skip rfl (.not rfl rfl rfl) ?_
  refine GL.skip rfl (.not rfl rfl rfl) ?_
  refine GL.skip rfl (.not rfl rfl rfl) ?_
  refine GL.skip rfl (.not rfl rfl rfl) ?_
  refine GL.one rfl .no (S1.pickT (v := (.bool _)) rfl rfl) ?_
  refine GL.one rfl .no (S1.mv (v := (.bool _)) rfl) ?_
  refine GL.skip rfl (.not rfl rfl rfl) ?_
  refine GL.skip rfl (.not rfl rfl rfl) ?_
  refine GL.skip rfl (.not rfl rfl rfl) ?_
  refine GL.skip rfl (.not rfl rfl rfl) ?_
  refine GL.skip rfl (.not rfl rfl rfl) ?_
  refine GL.skip rfl (.not rfl rfl rfl) ?_
  refine GL.skip rfl (.not rfl rfl rfl) ?_
  refine GL.skip rfl (.not rfl rfl rfl) ?_
  refine GL.one rfl .no (S1.pickT (v := (.bool _)) rfl rfl) ?_
  refine GL.one rfl .no (S1.as (v := (.bool _)) rfl) ?_
  refine GL.done rfl ?_
  refine GQ.on ?_
  refine GW.toT rfl rfl ?_
  refine GW.toSeq rfl ?_
  refine GW.toReg rfl ?_
  refine GL.one rfl .no (S1.as (v := (.int _ _)) rfl) ?_
  refine GL.one rfl .no (S1.as (v := (.int _ _)) rfl) ?_
  refine GL.one rfl .no (S1.as (v := (.int _ _)) rfl) ?_
  refine GL.done rfl ?_
  refine GQ.on ?_
  refine GW.toRet rfl ?_
  refine GQ.outR ?_
  refine GQ.onR ?_
  refine GQ.ret (_, _, _) (.tmp (v := (.int _ _)) rfl rfl (.tmp (v := (.int _ _)) rfl rfl (.tmp (v := (.int _ _)) rfl rfl .nil))) .more rfl ?_ (by repeat first | exact .nil | apply Take.cons (by repeat first | exact .z | apply Rem.s))
  exact fun h => absurd h (by decide)
  refine GL.one rfl (.yes rfl rfl rfl) (S1.fa fa28_3 rfl) ?_
  refine GL.one rfl (.yes rfl rfl rfl) (S1.ld sc3 rfl (.at (.s (.s (.s .z)))) rfl) ?_
  refine GL.opN rfl (.yes rfl rfl rfl) (SN.bs el32 ez32 (.c (v := (.int _ _)) rfl rfl .n) rfl rfl) (fun a15 => ?_)
  refine GL.call rfl (.yes rfl rfl rfl) fo31 .nil (fun h H => ct31_1 (H.get (by repeat first | exact .z | apply At.s))) (.d (.c (v := (.int _ _)) rfl (.c (v := (.int _ _)) rfl (.c (v := (.slice _ _ _)) rfl .n)))) (fun _ _ => ?_)
  refine GL.one rfl .no (S1.pickF (v := (.bool _)) rfl rfl) ?_
  refine GL.one rfl .no (S1.mv (v := (.bool _)) rfl) ?_
  refine GL.split 40 rfl (fun w18 => ?_) (fun w18 => ?_)
  refine GL.skip rfl (.not rfl rfl rfl) ?_
  refine GL.skip rfl (.not rfl rfl rfl) ?_
  refine GL.skip rfl (.not rfl rfl rfl) ?_
  refine GL.skip rfl (.not rfl rfl rfl) ?_
  refine GL.skip rfl (.not rfl rfl rfl) ?_
  refine GL.skip rfl (.not rfl rfl rfl) ?_
  refine GL.skip rfl (.not rfl rfl rfl) ?_
  refine GL.skip rfl (.not rfl rfl rfl) ?_
  refine GL.one rfl .no (S1.pickT (v := (.bool _)) rfl rfl) ?_
  refine GL.one rfl .no (S1.as (v := (.bool _)) rfl) ?_
  refine GL.done rfl ?_
  refine GQ.on ?_
  refine GW.toT rfl rfl ?_
  refine GW.toSeq rfl ?_
  refine GW.toReg rfl ?_
  refine GL.one rfl .no (S1.as (v := (.int _ _)) rfl) ?_
  refine GL.one rfl .no (S1.as (v := (.int _ _)) rfl) ?_
  refine GL.one rfl .no (S1.as (v := (.int _ _)) rfl) ?_
  refine GL.done rfl ?_
  refine GQ.on ?_
  refine GW.toRet rfl ?_
  refine GQ.outR ?_
  refine GQ.onR ?_
  refine GQ.ret (_, _, _) (.tmp (v := (.int _ _)) rfl rfl (.tmp (v := (.int _ _)) rfl rfl (.tmp (v := (.int _ _)) rfl rfl .nil))) .more rfl ?_ (by repeat first | exact .nil | apply Take.cons (by repeat first | exact .z | apply Rem.s))
  exact fun h => absurd h (by decide)
  refine GL.one rfl (.yes rfl rfl rfl) (S1.fa fa28_4 rfl) ?_
  refine GL.one rfl (.yes rfl rfl rfl) (S1.fa fa25_0 rfl) ?_
  refine GL.one rfl (.yes rfl rfl rfl) (S1.ld sc3 rfl (.at (.s (.s (.s (.s .z))))) rfl) ?_
  refine GL.one rfl (.yes rfl rfl rfl) (S1.fa fa28_4 rfl) ?_
  refine GL.one rfl (.yes rfl rfl rfl) (S1.fa fa25_1 rfl) ?_
  refine GL.one rfl (.yes rfl rfl rfl) (S1.ld sc3 rfl (.at (.s (.s (.s (.s .z))))) rfl) ?_
  refine GL.opN rfl (.yes rfl rfl rfl) (SN.bs el32 ez32 (.c (v := (.int _ _)) rfl rfl (.c (v := (.int _ _)) rfl rfl .n)) rfl rfl) (fun a19 => ?_)
  refine GL.call rfl (.yes rfl rfl rfl) fo31 .nil (fun h H => ct31_2 (H.get (by repeat first | exact .z | apply At.s))) (.d (.c (v := (.int _ _)) rfl (.c (v := (.int _ _)) rfl (.c (v := (.slice _ _ _)) rfl .n)))) (fun _ _ => ?_)
  refine GL.one rfl .no (S1.pickF (v := (.bool _)) rfl rfl) ?_
  refine GL.one rfl .no (S1.as (v := (.bool _)) rfl) ?_
  refine GL.done rfl ?_
  refine GQ.on ?_
  refine GW.toC rfl rfl (fun w22 => ?_) (fun w22 => ?_)
  refine GW.toSeq rfl ?_
  refine GW.toReg rfl ?_
  refine GL.one rfl .no (S1.as (v := (.int _ _)) rfl) ?_
  refine GL.one rfl .no (S1.as (v := (.int _ _)) rfl) ?_
  refine GL.one rfl .no (S1.as (v := (.int _ _)) rfl) ?_
  refine GL.done rfl ?_
  refine GQ.on ?_
  refine GW.toRet rfl ?_
  refine GQ.outR ?_
  refine GQ.onR ?_
  refine GQ.ret (_, _, _) (.tmp (v := (.int _ _)) rfl rfl (.tmp (v := (.int _ _)) rfl rfl (.tmp (v := (.int _ _)) rfl rfl .nil))) .more rfl ?_ (by repeat first | exact .nil | apply Take.cons (by repeat first | exact .z | apply Rem.s))
  exact fun h => absurd h (by decide)
  refine GW.toSeq rfl ?_
  refine GW.toReg rfl ?_
  refine GL.one rfl .no (S1.fa fa28_4 rfl) ?_
  refine GL.one rfl .no (S1.fa fa25_0 rfl) ?_
  refine GL.one rfl .no (S1.ld sc3 rfl (.at (.s (.s (.s (.s (.s .z)))))) rfl) ?_
  refine GL.one rfl .no (S1.fa fa28_4 rfl) ?_
  refine GL.one rfl .no (S1.fa fa25_1 rfl) ?_
  refine GL.one rfl .no (S1.ld sc3 rfl (.at (.s (.s (.s (.s (.s .z)))))) rfl) ?_
  refine GL.one rfl .no (S1.geq rfl rfl) ?_
  refine GL.one rfl .no (S1.as (v := (.bool _)) rfl) ?_
  refine GL.done rfl ?_
  refine GQ.on ?_
  refine GW.toD rfl rfl (fun w23 => ?_) (fun w23 => ?_)
  refine GW.toSeq rfl ?_
  refine GW.toReg rfl ?_
  refine GL.one rfl .no (S1.as (v := (.int _ _)) rfl) ?_
  refine GL.one rfl .no (S1.as (v := (.int _ _)) rfl) ?_
  refine GL.one rfl .no (S1.as (v := (.int _ _)) rfl) ?_
  refine GL.done rfl ?_
  refine GQ.on ?_
  refine GW.toRet rfl ?_
  refine GQ.outR ?_
  refine GQ.onR ?_
  refine GQ.ret (_, _, _) (.tmp (v := (.int _ _)) rfl rfl (.tmp (v := (.int _ _)) rfl rfl (.tmp (v := (.int _ _)) rfl rfl .nil))) .more rfl ?_ (by repeat first | exact .nil | apply Take.cons (by repeat first | exact .z | apply Rem.s))
  exact fun h => absurd h (by decide)
  refine GW.toSkip rfl ?_
  refine GQ.outN ?_
  refine GQ.on ?_
  refine GW.toSeq rfl ?_
  refine GW.toSeq rfl ?_
  refine GW.toReg rfl ?_
  refine GL.one rfl .no (S1.fa fa28_0 rfl) ?_
  refine GL.one rfl .no (S1.ld sc22 rfl (.at (.s (.s (.s (.s (.s .z)))))) rfl) ?_
  refine GL.one rfl .no (S1.len el22 rfl) ?_
  refine GL.one rfl .no (S1.mv (v := (.int _ _)) rfl) ?_
  refine GL.done rfl ?_
  refine GQ.on ?_
  refine GW.toBlock rfl ?_
  have b1 := outB_f w5
  have b2 := outB_f w9
  refine GW.toLoop (fun i : Nat => [(1, .pointer (some ⟨a1, 0, none⟩)), (60, .int .i64 ln), (61, .int .i64 i)]) (fun _ => [(a1, .cells [.slice la ln lc, .slice ca cn cc, .int .i64 price, .int .i64 excess, .int .i64 lo, .int .i64 hi, .slice ta tn tc] none true)]) (fun i => i ≤ ln) (fun i => ln - i) rfl 0 (Nat.zero_le _) (.c rfl (.c rfl (.c rfl .n))) (by repeat first | exact .nil | apply Take.cons (by repeat first | exact .z | apply Rem.s)) ?_
  rintro i f hi0
  refine GW.toSeq rfl ?_
  refine GW.toReg rfl ?_
  refine GL.one rfl .no (S1.lss rfl rfl) ?_
  refine GL.done rfl ?_
  refine GQ.on ?_
  refine GW.toSeq rfl ?_
  refine GW.toD rfl rfl (fun w24 => ?_) (fun w24 => ?_)
  refine GW.toSkip rfl ?_
  refine GQ.on ?_
  refine GW.toSeq rfl ?_
  refine GW.toBlock rfl ?_
  refine GW.toSeq rfl ?_
  refine GW.toReg rfl ?_
  refine GL.one rfl .no (S1.mv (v := (.int _ _)) rfl) ?_
  refine GL.one rfl .no (S1.as (v := (.int _ _)) rfl) ?_
  refine GL.done rfl ?_
  refine GQ.on ?_
  refine GW.toSeq rfl ?_
  refine GW.toReg rfl ?_
  refine GL.one rfl .no (S1.fa fa28_0 rfl) ?_
  refine GL.one rfl .no (S1.ld sc22 rfl (.at .z) rfl) ?_
  refine GL.one rfl .no (S1.mv (v := (.int _ _)) rfl) ?_
  refine GL.one rfl .no (S1.inc rfl rfl (by omega)) ?_
  refine GL.opX rfl .no (SX.cut el22 h1 rfl rfl .no (.at rfl) (by omega) (by omega)) (fun a25 r25 => ?_)
  rotate_left
  refine GW.toExit rfl ?_
  refine GQ.onE ?_
  refine GQ.onE ?_
  refine GQ.outH ?_
  refine GQ.on ?_
  refine GW.toSeq rfl ?_
  refine GW.toSeq rfl ?_
  refine GW.toReg rfl ?_
  refine GL.one rfl .no (S1.fa fa28_1 rfl) ?_
  refine GL.one rfl .no (S1.ld sc23 rfl (.at .z) rfl) ?_
  refine GL.one rfl .no (S1.len el23 rfl) ?_
  refine GL.one rfl .no (S1.mv (v := (.int _ _)) rfl) ?_
  refine GL.done rfl ?_
  refine GQ.on ?_
  refine GW.toBlock rfl ?_
  rotate_left
  · refine GL.call rfl .no fo32 .nil (fun h H => ct32 (S := fun k => sv (el hr a25 (k * 1 + 0))) H.rom r25.1 (by omega) fo33 (fun k hk => (r25.1.at hk (d := 0) (l := .str) rfl).strLe) (fun h' k hk e => ct33)) (.d (.c (v := .slice _ _ _) rfl (.c (v := .func _ ⟨[]⟩ ⟨[]⟩) rfl .n))) (fun e _ => ?_)
    refine GL.one rfl .no (S1.as (v := (.int _ _)) rfl) ?_
    refine GL.done rfl ?_
    refine GQ.on ?_
    refine GW.toSeq rfl ?_
    refine GW.toReg rfl ?_
    refine GL.one rfl .no (S1.mv (v := (.int _ _)) rfl) ?_
    refine GL.one rfl .no (S1.neq rfl rfl) ?_
    refine GL.done rfl ?_
    refine GQ.on ?_
    refine GW.toD rfl rfl (fun w27 => ?_) (fun w27 => ?_)
    refine GW.toSeq rfl ?_
    refine GW.toReg rfl ?_
    refine GL.one rfl .no (S1.mv (v := (.int _ _)) rfl) ?_
    refine GL.one rfl .no (S1.mv (v := (.int _ _)) rfl) ?_
    refine GL.one rfl .no (S1.as (v := (.int _ _)) rfl) ?_
    refine GL.one rfl .no (S1.as (v := (.int _ _)) rfl) ?_
    refine GL.one rfl .no (S1.as (v := (.int _ _)) rfl) ?_
    refine GL.done rfl ?_
    refine GQ.on ?_
    refine GW.toRet rfl ?_
    refine GQ.outR ?_
    refine GQ.onR ?_
    refine GQ.onR ?_
    refine GQ.outR ?_
    refine GQ.onR ?_
    refine GQ.ret (_, _, _) (.tmp (v := (.int _ _)) rfl rfl (.tmp (v := (.int _ _)) rfl rfl (.tmp (v := (.int _ _)) rfl rfl .nil))) .more rfl ?_ (by repeat first | exact .nil | apply Take.cons (by repeat first | exact .z | apply Rem.s))
    omega
    refine GW.toSkip rfl ?_
    refine GQ.outN ?_
    refine GQ.on ?_
    refine GW.toReg rfl ?_
    refine GL.one rfl .no (S1.inc rfl rfl (by omega)) ?_
    refine GL.one rfl .no (S1.mv (v := (.int _ _)) rfl) ?_
    refine GL.done rfl ?_
    refine GQ.next (i + 1) (by omega) (by omega) (.c rfl (.c rfl (.c rfl .n))) (by repeat first | exact .nil | apply Take.cons (by repeat first | exact .z | apply Rem.s))
  refine GW.toLoop (fun i : Nat => [(1, .pointer (some ⟨a1, 0, none⟩)), (76, .slice ca cn cc), (77, .int .i64 cn), (78, .int .i64 i)]) (fun _ => [(a1, .cells [.slice la ln lc, .slice ca cn cc, .int .i64 price, .int .i64 excess, .int .i64 lo, .int .i64 hi, .slice ta tn tc] none true)]) (fun i => i ≤ cn) (fun i => cn - i) rfl 0 (Nat.zero_le _) (.c rfl (.c rfl (.c rfl (.c rfl .n)))) (by repeat first | exact .nil | apply Take.cons (by repeat first | exact .z | apply Rem.s)) ?_
  rintro i f hi0
  refine GW.toSeq rfl ?_
  refine GW.toReg rfl ?_
  refine GL.one rfl .no (S1.lss rfl rfl) ?_
  refine GL.done rfl ?_
  refine GQ.on ?_
  refine GW.toSeq rfl ?_
  refine GW.toD rfl rfl (fun w28 => ?_) (fun w28 => ?_)
  refine GW.toSkip rfl ?_
  refine GQ.on ?_
  refine GW.toSeq rfl ?_
  refine GW.toBlock rfl ?_
  refine GW.toSeq rfl ?_
  refine GW.toReg rfl ?_
  refine GL.one rfl .no (S1.mv (v := (.int _ _)) rfl) ?_
  refine GL.one rfl .no (S1.ixR el23 h2 rfl rfl (by omega)) ?_
  refine GL.one rfl .no (S1.ldE ag74 h2 rfl (m := i) (by omega) rfl le74) ?_
  refine GL.opN rfl .no (SN.al zc74) (fun a29 => ?_)
  refine GL.one rfl .no (S1.as (v := (.int _ _)) rfl) ?_
  refine GL.one rfl .no (S1.stA ag74 rfl rfl rfl rfl (by repeat constructor) .z) ?_
  refine GL.done rfl ?_
  refine GQ.on ?_
  refine GW.toSeq rfl ?_
  refine GW.toSeq rfl ?_
  refine GW.toReg rfl ?_
  refine GL.one rfl .no (S1.fa fa28_1 rfl) ?_
  refine GL.one rfl .no (S1.ld sc23 rfl (.at (.s .z)) rfl) ?_
  refine GL.one rfl .no (S1.mv (v := (.int _ _)) rfl) ?_
  refine GL.one rfl .no (S1.inc rfl rfl (by omega)) ?_
  refine GL.opX rfl .no (SX.cut el23 h2 rfl rfl .no (.at rfl) (by omega) (by omega)) (fun a30 r30 => ?_)
  rotate_left
  refine GW.toExit rfl ?_
  refine GQ.onE ?_
  refine GQ.onE ?_
  refine GQ.outH ?_
  refine GQ.on ?_
  refine GW.toSeq rfl ?_
  refine GW.toSeq rfl ?_
  refine GW.toReg rfl ?_
  refine GL.one rfl .no (S1.fa fa28_5 rfl) ?_
  refine GL.one rfl .no (S1.ld sc26 rfl (.at .z) rfl) ?_
  refine GL.one rfl .no (S1.len el26 rfl) ?_
  refine GL.one rfl .no (S1.mv (v := (.int _ _)) rfl) ?_
  refine GL.done rfl ?_
  refine GQ.on ?_
  refine GW.toBlock rfl ?_
  rotate_left
  · refine GL.call rfl .no fo34 .nil (fun h H => ct34 (S := fun k => sv (el hr a30 (k * 4))) H.rom r30.1 (by omega) fo35 (fun k hk => (r30.1.at hk (d := 0) (l := .str) rfl).strLe) (fun h' k hk e => ct35)) (.d (.c (v := .slice _ _ _) rfl (.c (v := .func _ ⟨[]⟩ ⟨[]⟩) rfl .n))) (fun e _ => ?_)
    refine GL.one rfl .no (S1.as (v := (.int _ _)) rfl) ?_
    refine GL.done rfl ?_
    refine GQ.on ?_
    refine GW.toSeq rfl ?_
    refine GW.toReg rfl ?_
    refine GL.one rfl .no (S1.mv (v := (.int _ _)) rfl) ?_
    refine GL.one rfl .no (S1.neq rfl rfl) ?_
    refine GL.done rfl ?_
    refine GQ.on ?_
    refine GW.toD rfl rfl (fun w32 => ?_) (fun w32 => ?_)
    refine GW.toSeq rfl ?_
    refine GW.toReg rfl ?_
    refine GL.one rfl .no (S1.mv (v := (.int _ _)) rfl) ?_
    refine GL.one rfl .no (S1.mv (v := (.int _ _)) rfl) ?_
    refine GL.one rfl .no (S1.as (v := (.int _ _)) rfl) ?_
    refine GL.one rfl .no (S1.as (v := (.int _ _)) rfl) ?_
    refine GL.one rfl .no (S1.as (v := (.int _ _)) rfl) ?_
    refine GL.done rfl ?_
    refine GQ.on ?_
    refine GW.toRet rfl ?_
    refine GQ.onR ?_
    refine GQ.outR ?_
    refine GQ.onR ?_
    refine GQ.onR ?_
    refine GQ.outR ?_
    refine GQ.onR ?_
    refine GQ.ret (_, _, _) (.tmp (v := (.int _ _)) rfl rfl (.tmp (v := (.int _ _)) rfl rfl (.tmp (v := (.int _ _)) rfl rfl .nil))) .more rfl ?_ (by repeat first | exact .nil | apply Take.cons (by repeat first | exact .z | apply Rem.s))
    omega
    refine GW.toSkip rfl ?_
    refine GQ.on ?_
    refine GW.toSeq rfl ?_
    refine GW.toReg rfl ?_
    refine GL.one rfl .no (S1.fa fa74_1 rfl) ?_
    refine GL.one rfl .no (S1.ld sc3 rfl (.at .z) rfl) ?_
    refine GL.opN rfl .no (SN.bs el32 ez32 (.c (v := (.int _ _)) rfl rfl .n) rfl rfl) (fun a33 => ?_)
    refine GL.call rfl .no fo31 .nil (fun h H => ct31_1 (H.get (by repeat first | exact .z | apply At.s))) (.d (.c (v := (.int _ _)) rfl (.c (v := (.int _ _)) rfl (.c (v := (.slice _ _ _)) rfl .n)))) (fun _ _ => ?_)
    refine GL.one rfl .no (S1.mv (v := (.bool _)) rfl) ?_
    refine GL.split 97 rfl (fun w36 => ?_) (fun w36 => ?_)
    refine GL.skip rfl (.not rfl rfl rfl) ?_
    refine GL.skip rfl (.not rfl rfl rfl) ?_
    refine GL.skip rfl (.not rfl rfl rfl) ?_
    refine GL.skip rfl (.not rfl rfl rfl) ?_
    refine GL.one rfl .no (S1.pickT (v := (.bool _)) rfl rfl) ?_
    refine GL.one rfl .no (S1.mv (v := (.bool _)) rfl) ?_
    refine GL.skip rfl (.not rfl rfl rfl) ?_
    refine GL.skip rfl (.not rfl rfl rfl) ?_
    refine GL.skip rfl (.not rfl rfl rfl) ?_
    refine GL.skip rfl (.not rfl rfl rfl) ?_
    refine GL.one rfl .no (S1.pickT (v := (.bool _)) rfl rfl) ?_
    refine GL.done rfl ?_
    refine GQ.on ?_
    refine GW.toT rfl rfl ?_
    refine GW.toSeq rfl ?_
    refine GW.toReg rfl ?_
    refine GL.one rfl .no (S1.mv (v := (.int _ _)) rfl) ?_
    refine GL.one rfl .no (S1.as (v := (.int _ _)) rfl) ?_
    refine GL.one rfl .no (S1.as (v := (.int _ _)) rfl) ?_
    refine GL.one rfl .no (S1.as (v := (.int _ _)) rfl) ?_
    refine GL.done rfl ?_
    refine GQ.on ?_
    refine GW.toRet rfl ?_
    refine GQ.outR ?_
    refine GQ.onR ?_
    refine GQ.onR ?_
    refine GQ.outR ?_
    refine GQ.onR ?_
    refine GQ.ret (_, _, _) (.tmp (v := (.int _ _)) rfl rfl (.tmp (v := (.int _ _)) rfl rfl (.tmp (v := (.int _ _)) rfl rfl .nil))) .more rfl ?_ (by repeat first | exact .nil | apply Take.cons (by repeat first | exact .z | apply Rem.s))
    omega
    refine GL.one rfl (.yes rfl rfl rfl) (S1.fa fa74_2 rfl) ?_
    refine GL.one rfl (.yes rfl rfl rfl) (S1.ld sc3 rfl (.at (.s .z)) rfl) ?_
    refine GL.opN rfl (.yes rfl rfl rfl) (SN.bs el32 ez32 (.c (v := (.int _ _)) rfl rfl .n) rfl rfl) (fun a37 => ?_)
    refine GL.call rfl (.yes rfl rfl rfl) fo31 .nil (fun h H => ct31_1 (H.get (by repeat first | exact .z | apply At.s))) (.d (.c (v := (.int _ _)) rfl (.c (v := (.int _ _)) rfl (.c (v := (.slice _ _ _)) rfl .n)))) (fun _ _ => ?_)
    refine GL.one rfl .no (S1.pickF (v := (.bool _)) rfl rfl) ?_
    refine GL.one rfl .no (S1.mv (v := (.bool _)) rfl) ?_
    refine GL.split 103 rfl (fun w40 => ?_) (fun w40 => ?_)
    refine GL.skip rfl (.not rfl rfl rfl) ?_
    refine GL.skip rfl (.not rfl rfl rfl) ?_
    refine GL.skip rfl (.not rfl rfl rfl) ?_
    refine GL.skip rfl (.not rfl rfl rfl) ?_
    refine GL.one rfl .no (S1.pickT (v := (.bool _)) rfl rfl) ?_
    refine GL.done rfl ?_
    refine GQ.on ?_
    refine GW.toT rfl rfl ?_
    refine GW.toSeq rfl ?_
    refine GW.toReg rfl ?_
    refine GL.one rfl .no (S1.mv (v := (.int _ _)) rfl) ?_
    refine GL.one rfl .no (S1.as (v := (.int _ _)) rfl) ?_
    refine GL.one rfl .no (S1.as (v := (.int _ _)) rfl) ?_
    refine GL.one rfl .no (S1.as (v := (.int _ _)) rfl) ?_
    refine GL.done rfl ?_
    refine GQ.on ?_
    refine GW.toRet rfl ?_
    refine GQ.outR ?_
    refine GQ.onR ?_
    refine GQ.onR ?_
    refine GQ.outR ?_
    refine GQ.onR ?_
    refine GQ.ret (_, _, _) (.tmp (v := (.int _ _)) rfl rfl (.tmp (v := (.int _ _)) rfl rfl (.tmp (v := (.int _ _)) rfl rfl .nil))) .more rfl ?_ (by repeat first | exact .nil | apply Take.cons (by repeat first | exact .z | apply Rem.s))
    omega
    refine GL.one rfl (.yes rfl rfl rfl) (S1.fa fa74_3 rfl) ?_
    refine GL.one rfl (.yes rfl rfl rfl) (S1.ld sc3 rfl (.at (.s (.s .z))) rfl) ?_
    refine GL.opN rfl (.yes rfl rfl rfl) (SN.bs el32 ez32 (.c (v := (.int _ _)) rfl rfl .n) rfl rfl) (fun a41 => ?_)
    refine GL.call rfl (.yes rfl rfl rfl) fo31 .nil (fun h H => ct31_1 (H.get (by repeat first | exact .z | apply At.s))) (.d (.c (v := (.int _ _)) rfl (.c (v := (.int _ _)) rfl (.c (v := (.slice _ _ _)) rfl .n)))) (fun _ _ => ?_)
    refine GL.one rfl .no (S1.pickF (v := (.bool _)) rfl rfl) ?_
    refine GL.done rfl ?_
    refine GQ.on ?_
    refine GW.toC rfl rfl (fun w44 => ?_) (fun w44 => ?_)
    refine GW.toSeq rfl ?_
    refine GW.toReg rfl ?_
    refine GL.one rfl .no (S1.mv (v := (.int _ _)) rfl) ?_
    refine GL.one rfl .no (S1.as (v := (.int _ _)) rfl) ?_
    refine GL.one rfl .no (S1.as (v := (.int _ _)) rfl) ?_
    refine GL.one rfl .no (S1.as (v := (.int _ _)) rfl) ?_
    refine GL.done rfl ?_
    refine GQ.on ?_
    refine GW.toRet rfl ?_
    refine GQ.outR ?_
    refine GQ.onR ?_
    refine GQ.onR ?_
    refine GQ.outR ?_
    refine GQ.onR ?_
    refine GQ.ret (_, _, _) (.tmp (v := (.int _ _)) rfl rfl (.tmp (v := (.int _ _)) rfl rfl (.tmp (v := (.int _ _)) rfl rfl .nil))) .more rfl ?_ (by repeat first | exact .nil | apply Take.cons (by repeat first | exact .z | apply Rem.s))
    omega
    refine GW.toSkip rfl ?_
    refine GQ.outN ?_
    refine GQ.on ?_
    refine GW.toReg rfl ?_
    refine GL.one rfl .no (S1.inc rfl rfl (by omega)) ?_
    refine GL.one rfl .no (S1.mv (v := (.int _ _)) rfl) ?_
    refine GL.done rfl ?_
    refine GQ.next (i + 1) (by omega) (by omega) (.c rfl (.c rfl (.c rfl (.c rfl .n)))) (by repeat first | exact .nil | apply Take.cons (by repeat first | exact .z | apply Rem.s))
  refine GW.toLoop (fun i : Nat => [(1, .pointer (some ⟨a1, 0, none⟩)), (112, .slice ta tn tc), (113, .int .i64 tn), (114, .int .i64 i)]) (fun _ => [(a1, .cells [.slice la ln lc, .slice ca cn cc, .int .i64 price, .int .i64 excess, .int .i64 lo, .int .i64 hi, .slice ta tn tc] none true)]) (fun i => i ≤ tn) (fun i => tn - i) rfl 0 (Nat.zero_le _) (.c rfl (.c rfl (.c rfl (.c rfl .n)))) (by repeat first | exact .nil | apply Take.cons (by repeat first | exact .z | apply Rem.s)) ?_
  rintro i f hi0
  refine GW.toSeq rfl ?_
  refine GW.toReg rfl ?_
  refine GL.one rfl .no (S1.lss rfl rfl) ?_
  refine GL.done rfl ?_
  refine GQ.on ?_
  refine GW.toSeq rfl ?_
  refine GW.toD rfl rfl (fun w45 => ?_) (fun w45 => ?_)
  refine GW.toSkip rfl ?_
  refine GQ.on ?_
  refine GW.toSeq rfl ?_
  refine GW.toBlock rfl ?_
  refine GW.toSeq rfl ?_
  refine GW.toReg rfl ?_
  refine GL.one rfl .no (S1.mv (v := (.int _ _)) rfl) ?_
  refine GL.one rfl .no (S1.ixR el26 h3 rfl rfl (by omega)) ?_
  refine GL.one rfl .no (S1.ldE ag78 h3 rfl (m := i) (by omega) rfl le78) ?_
  refine GL.opN rfl .no (SN.al zc78) (fun a46 => ?_)
  refine GL.one rfl .no (S1.as (v := (.int _ _)) rfl) ?_
  refine GL.one rfl .no (S1.stA ag78 rfl rfl rfl rfl (by repeat constructor) .z) ?_
  refine GL.done rfl ?_
  refine GQ.on ?_
  refine GW.toBlock rfl ?_
  refine GW.toSeq rfl ?_
  refine GW.toReg rfl ?_
  refine GL.one rfl .no (S1.fa fa78_0 rfl) ?_
  refine GL.one rfl .no (S1.ld sc3 rfl (.at .z) rfl) ?_
  refine GL.opN rfl .no (SN.bs el32 ez32 (.c (v := (.int _ _)) rfl rfl .n) rfl rfl) (fun a47 => ?_)
  refine GL.call rfl .no fo31 .nil (fun h H => ct31_1 (H.get (by repeat first | exact .z | apply At.s))) (.d (.c (v := (.int _ _)) rfl (.c (v := (.int _ _)) rfl (.c (v := (.slice _ _ _)) rfl .n)))) (fun _ _ => ?_)
  refine GL.one rfl .no (S1.mv (v := (.bool _)) rfl) ?_
  refine GL.split 124 rfl (fun w50 => ?_) (fun w50 => ?_)
  refine GL.skip rfl (.not rfl rfl rfl) ?_
  refine GL.skip rfl (.not rfl rfl rfl) ?_
  refine GL.skip rfl (.not rfl rfl rfl) ?_
  refine GL.skip rfl (.not rfl rfl rfl) ?_
  refine GL.one rfl .no (S1.pickT (v := (.bool _)) rfl rfl) ?_
  refine GL.one rfl .no (S1.as (v := (.bool _)) rfl) ?_
  refine GL.done rfl ?_
  refine GQ.on ?_
  refine GW.toT rfl rfl ?_
  refine GW.toSeq rfl ?_
  refine GW.toReg rfl ?_
  refine GL.one rfl .no (S1.mv (v := (.int _ _)) rfl) ?_
  refine GL.one rfl .no (S1.as (v := (.int _ _)) rfl) ?_
  refine GL.one rfl .no (S1.as (v := (.int _ _)) rfl) ?_
  refine GL.one rfl .no (S1.as (v := (.int _ _)) rfl) ?_
  refine GL.done rfl ?_
  refine GQ.on ?_
  refine GW.toRet rfl ?_
  refine GQ.outR ?_
  refine GQ.outR ?_
  refine GQ.onR ?_
  refine GQ.onR ?_
  refine GQ.outR ?_
  refine GQ.onR ?_
  refine GQ.ret (_, _, _) (.tmp (v := (.int _ _)) rfl rfl (.tmp (v := (.int _ _)) rfl rfl (.tmp (v := (.int _ _)) rfl rfl .nil))) .more rfl ?_ (by repeat first | exact .nil | apply Take.cons (by repeat first | exact .z | apply Rem.s))
  omega
  refine GL.one rfl (.yes rfl rfl rfl) (S1.fa fa78_1 rfl) ?_
  refine GL.one rfl (.yes rfl rfl rfl) (S1.ld sc3 rfl (.at (.s .z)) rfl) ?_
  refine GL.opN rfl (.yes rfl rfl rfl) (SN.bs el32 ez32 (.c (v := (.int _ _)) rfl rfl .n) rfl rfl) (fun a51 => ?_)
  refine GL.call rfl (.yes rfl rfl rfl) fo31 .nil (fun h H => ct31_1 (H.get (by repeat first | exact .z | apply At.s))) (.d (.c (v := (.int _ _)) rfl (.c (v := (.int _ _)) rfl (.c (v := (.slice _ _ _)) rfl .n)))) (fun _ _ => ?_)
  refine GL.one rfl .no (S1.pickF (v := (.bool _)) rfl rfl) ?_
  refine GL.one rfl .no (S1.as (v := (.bool _)) rfl) ?_
  refine GL.done rfl ?_
  refine GQ.on ?_
  refine GW.toC rfl rfl (fun w54 => ?_) (fun w54 => ?_)
  refine GW.toSeq rfl ?_
  refine GW.toReg rfl ?_
  refine GL.one rfl .no (S1.mv (v := (.int _ _)) rfl) ?_
  refine GL.one rfl .no (S1.as (v := (.int _ _)) rfl) ?_
  refine GL.one rfl .no (S1.as (v := (.int _ _)) rfl) ?_
  refine GL.one rfl .no (S1.as (v := (.int _ _)) rfl) ?_
  refine GL.done rfl ?_
  refine GQ.on ?_
  refine GW.toRet rfl ?_
  refine GQ.outR ?_
  refine GQ.outR ?_
  refine GQ.onR ?_
  refine GQ.onR ?_
  refine GQ.outR ?_
  refine GQ.onR ?_
  refine GQ.ret (_, _, _) (.tmp (v := (.int _ _)) rfl rfl (.tmp (v := (.int _ _)) rfl rfl (.tmp (v := (.int _ _)) rfl rfl .nil))) .more rfl ?_ (by repeat first | exact .nil | apply Take.cons (by repeat first | exact .z | apply Rem.s))
  omega
  refine GW.toSeq rfl ?_
  refine GW.toDrw mx rfl ?_
  refine GD.one rfl .no (S1.mv (v := (.int _ _)) rfl) rfl ?_
  refine GD.one rfl .no (S1.gtr rfl rfl) rfl ?_
  refine GD.one rfl .no (S1.mv (v := (.bool _)) rfl) rfl ?_
  refine GD.splitD 134 rfl (fun w55 => ?_) (fun w55 => ?_)
  refine GD.one rfl (.yes rfl rfl rfl) (S1.fa fa78_0 rfl) rfl ?_
  refine GD.one rfl (.yes rfl rfl rfl) (S1.ld sc3 rfl (.at (.s (.s .z))) rfl) rfl ?_
  refine GD.one rfl (.yes rfl rfl rfl) (S1.fa fa28_5 rfl) rfl ?_
  refine GD.one rfl (.yes rfl rfl rfl) (S1.ld sc26 rfl (.at (.s (.s (.s .z)))) rfl) rfl ?_
  refine GD.one rfl (.yes rfl rfl rfl) (S1.mv (v := (.int _ _)) rfl) rfl ?_
  refine GD.one rfl (.yes rfl rfl rfl) (S1.dec1 rfl rfl (by omega) (by omega)) rfl ?_
  refine GD.one rfl (.yes rfl rfl rfl) (S1.ixR el26 h3 rfl rfl (by omega)) rfl ?_
  refine GD.one rfl (.yes rfl rfl rfl) (S1.fa fa78_0 rfl) rfl ?_
  refine GD.one rfl (.yes rfl rfl rfl) (S1.ldCI sc3 (z := 2) h3 rfl (m := i - 1) (by omega) rfl (d := 0) rfl rfl) rfl ?_
  refine GD.one rfl (.yes rfl rfl rfl) (S1.geq rfl rfl) rfl ?_
  refine GD.one rfl (.yes rfl rfl rfl) (S1.mv (v := (.bool _)) rfl) rfl ?_
  refine GD.splitD 145 rfl (fun w56 => ?_) (fun w56 => ?_)
  refine GD.skip rfl (.not rfl rfl rfl) ?_
  refine GD.skip rfl (.not rfl rfl rfl) ?_
  refine GD.skip rfl (.not rfl rfl rfl) ?_
  refine GD.skip rfl (.not rfl rfl rfl) ?_
  refine GD.skip rfl (.not rfl rfl rfl) ?_
  refine GD.skip rfl (.not rfl rfl rfl) ?_
  refine GD.skip rfl (.not rfl rfl rfl) ?_
  refine GD.skip rfl (.not rfl rfl rfl) ?_
  refine GD.skip rfl (.not rfl rfl rfl) ?_
  refine GD.skip rfl (.not rfl rfl rfl) ?_
  refine GD.one rfl (.yes rfl rfl rfl) (S1.pickT (v := (.bool _)) rfl rfl) rfl ?_
  refine GD.one rfl .no (S1.pickT (v := (.bool _)) rfl rfl) rfl ?_
  refine GD.one rfl .no (S1.as (v := (.bool _)) rfl) rfl ?_
  refine GD.done rfl ?_
  refine GQ.on ?_
  refine GW.toT rfl rfl ?_
  refine GW.toSeq rfl ?_
  refine GW.toReg rfl ?_
  refine GL.one rfl .no (S1.mv (v := (.int _ _)) rfl) ?_
  refine GL.one rfl .no (S1.as (v := (.int _ _)) rfl) ?_
  refine GL.one rfl .no (S1.as (v := (.int _ _)) rfl) ?_
  refine GL.one rfl .no (S1.as (v := (.int _ _)) rfl) ?_
  refine GL.done rfl ?_
  refine GQ.on ?_
  refine GW.toRet rfl ?_
  refine GQ.outR ?_
  refine GQ.outR ?_
  refine GQ.onR ?_
  refine GQ.onR ?_
  refine GQ.outR ?_
  refine GQ.onR ?_
  refine GQ.ret (_, _, _) (.tmp (v := (.int _ _)) rfl rfl (.tmp (v := (.int _ _)) rfl rfl (.tmp (v := (.int _ _)) rfl rfl .nil))) .more rfl ?_ (by repeat first | exact .nil | apply Take.cons (by repeat first | exact .z | apply Rem.s))
  omega
  refine GD.one rfl (.yes rfl rfl rfl) (S1.fa fa78_1 rfl) rfl ?_
  refine GD.one rfl (.yes rfl rfl rfl) (S1.ld sc3 rfl (.at (.s (.s .z))) rfl) rfl ?_
  refine GD.one rfl (.yes rfl rfl rfl) (S1.fa fa28_5 rfl) rfl ?_
  refine GD.one rfl (.yes rfl rfl rfl) (S1.ld sc26 rfl (.at (.s (.s (.s .z)))) rfl) rfl ?_
  refine GD.one rfl (.yes rfl rfl rfl) (S1.mv (v := (.int _ _)) rfl) rfl ?_
  refine GD.one rfl (.yes rfl rfl rfl) (S1.dec1 rfl rfl (by omega) (by omega)) rfl ?_
  refine GD.one rfl (.yes rfl rfl rfl) (S1.ixR el26 h3 rfl rfl (by omega)) rfl ?_
  refine GD.one rfl (.yes rfl rfl rfl) (S1.fa fa78_1 rfl) rfl ?_
  refine GD.one rfl (.yes rfl rfl rfl) (S1.ldCI sc3 (z := 2) h3 rfl (m := i - 1) (by omega) rfl (d := 1) rfl rfl) rfl ?_
  refine GD.one rfl (.yes rfl rfl rfl) (S1.lss rfl rfl) rfl ?_
  refine GD.one rfl (.yes rfl rfl rfl) (S1.pickF (v := (.bool _)) rfl rfl) rfl ?_
  refine GD.one rfl .no (S1.pickT (v := (.bool _)) rfl rfl) rfl ?_
  refine GD.one rfl .no (S1.as (v := (.bool _)) rfl) rfl ?_
  refine GD.done rfl ?_
  refine GQ.on ?_
  refine GW.toD rfl rfl (fun w57 => ?_) (fun w57 => ?_)
  refine GW.toSeq rfl ?_
  refine GW.toReg rfl ?_
  refine GL.one rfl .no (S1.mv (v := (.int _ _)) rfl) ?_
  refine GL.one rfl .no (S1.as (v := (.int _ _)) rfl) ?_
  refine GL.one rfl .no (S1.as (v := (.int _ _)) rfl) ?_
  refine GL.one rfl .no (S1.as (v := (.int _ _)) rfl) ?_
  refine GL.done rfl ?_
  refine GQ.on ?_
  refine GW.toRet rfl ?_
  refine GQ.outR ?_
  refine GQ.outR ?_
  refine GQ.onR ?_
  refine GQ.onR ?_
  refine GQ.outR ?_
  refine GQ.onR ?_
  refine GQ.ret (_, _, _) (.tmp (v := (.int _ _)) rfl rfl (.tmp (v := (.int _ _)) rfl rfl (.tmp (v := (.int _ _)) rfl rfl .nil))) .more rfl ?_ (by repeat first | exact .nil | apply Take.cons (by repeat first | exact .z | apply Rem.s))
  omega
  refine GW.toSkip rfl ?_
  refine GQ.outN ?_
  refine GQ.outN ?_
  refine GQ.on ?_
  refine GW.toReg rfl ?_
  refine GL.one rfl .no (S1.inc rfl rfl (by omega)) ?_
  refine GL.one rfl .no (S1.mv (v := (.int _ _)) rfl) ?_
  refine GL.done rfl ?_
  refine GQ.next (i + 1) (by omega) (by omega) (.c rfl (.c rfl (.c rfl (.c rfl .n)))) (by repeat first | exact .nil | apply Take.cons (by repeat first | exact .z | apply Rem.s))
  refine GD.skip rfl (.not rfl rfl rfl) ?_
  refine GD.skip rfl (.not rfl rfl rfl) ?_
  refine GD.skip rfl (.not rfl rfl rfl) ?_
  refine GD.skip rfl (.not rfl rfl rfl) ?_
  refine GD.skip rfl (.not rfl rfl rfl) ?_
  refine GD.skip rfl (.not rfl rfl rfl) ?_
  refine GD.skip rfl (.not rfl rfl rfl) ?_
  refine GD.skip rfl (.not rfl rfl rfl) ?_
  refine GD.skip rfl (.not rfl rfl rfl) ?_
  refine GD.skip rfl (.not rfl rfl rfl) ?_
  refine GD.skip rfl (.not rfl rfl rfl) ?_
  refine GD.skip rfl (.und rfl rfl rfl) ?_
  refine GD.skip rfl (.und rfl rfl rfl) ?_
  refine GD.skip rfl (.und rfl rfl rfl) ?_
  refine GD.skip rfl (.und rfl rfl rfl) ?_
  refine GD.skip rfl (.und rfl rfl rfl) ?_
  refine GD.skip rfl (.und rfl rfl rfl) ?_
  refine GD.skip rfl (.und rfl rfl rfl) ?_
  refine GD.skip rfl (.und rfl rfl rfl) ?_
  refine GD.skip rfl (.und rfl rfl rfl) ?_
  refine GD.skip rfl (.und rfl rfl rfl) ?_
  refine GD.skip rfl (.not rfl rfl rfl) ?_
  refine GD.one rfl .no (S1.pickF (v := (.bool _)) rfl rfl) rfl ?_
  refine GD.one rfl .no (S1.as (v := (.bool _)) rfl) rfl ?_
  refine GD.done rfl ?_
  refine GQ.on ?_
  refine GW.toF rfl rfl ?_
  refine GW.toSkip rfl ?_
  refine GQ.outN ?_
  refine GQ.outN ?_
  refine GQ.on ?_
  refine GW.toReg rfl ?_
  refine GL.one rfl .no (S1.inc rfl rfl (by omega)) ?_
  refine GL.one rfl .no (S1.mv (v := (.int _ _)) rfl) ?_
  refine GL.done rfl ?_
  refine GQ.next (i + 1) (by omega) (by omega) (.c rfl (.c rfl (.c rfl (.c rfl .n)))) (by repeat first | exact .nil | apply Take.cons (by repeat first | exact .z | apply Rem.s))
  refine GW.toExit rfl ?_
  refine GQ.onE ?_
  refine GQ.onE ?_
  refine GQ.outH ?_
  refine GQ.on ?_
  refine GW.toSeq rfl ?_
  refine GW.toReg rfl ?_
  refine GL.one rfl .no (S1.as (v := (.int _ _)) rfl) ?_
  refine GL.one rfl .no (S1.as (v := (.int _ _)) rfl) ?_
  refine GL.one rfl .no (S1.as (v := (.int _ _)) rfl) ?_
  refine GL.done rfl ?_
  refine GQ.on ?_
  refine GW.toRet rfl ?_
  refine GQ.ret (_, _, _) (.tmp (v := (.int _ _)) rfl rfl (.tmp (v := (.int _ _)) rfl rfl (.tmp (v := (.int _ _)) rfl rfl .nil))) .more rfl ?_ (by repeat first | exact .nil | apply Take.cons (by repeat first | exact .z | apply Rem.s))
  omega
end Go.Proofs.YtkpbpfnmgnpfaaaGreat
namespace Go.Proofs.YtkpbpfnmgnpfaaaGreat
open Go Go.E
set_option maxRecDepth 100000

theorem ct27 {h : EH} {p1 p2 p3 p4 : Option Addr} {n m : Nat} {ns : List Int} {ss : List ByteArray} (hn : n = ns.length) (hm : m = ss.length) (hn3 : n ≤ 1073741824) (hm3 : m ≤ 1073741824) (q1 : Qrow h p1 (ints ns)) (q2 : Qrow h p2 (strs ss)) (q3 : Qrow h p3 (ints ns)) (q4 : Qrow h p4 (strs ss)) :
    Ct Tryz.prog 27 ⟨[.agg ⟨[.slice p1 n n, .slice p2 m m]⟩, .agg ⟨[.slice p3 n n, .slice p4 m m]⟩]⟩ h [] (fun _ : Unit => .bool true) (fun _ => True) (fun _ => []) := by
  refine Ct.go Tryz.func27 rfl rfl co27 (Hp.start (hr := fun _ => none) (by simp)) ?_
  refine GW.toSeq rfl ?_
  refine GW.toReg rfl ?_
  refine GL.opN rfl .no (SN.bx (u := .agg ⟨_⟩) rfl .agg) (fun a1 => ?_)
  refine GL.opN rfl .no (SN.bx (u := .agg ⟨_⟩) rfl .agg) (fun a2 => ?_)
  refine GL.one rfl .no (S1.as (v := (.bool _)) rfl) ?_
  refine GL.done rfl ?_
  refine GQ.on ?_
  refine GW.toSeq rfl ?_
  refine GW.toSeq rfl ?_
  refine GW.toReg rfl ?_
  refine GL.one rfl .no (S1.fa fa34_0 rfl) ?_
  refine GL.one rfl .no (S1.ld sc32 rfl (.at (.s .z)) rfl) ?_
  refine GL.one rfl .no (S1.len el32 rfl) ?_
  refine GL.one rfl .no (S1.fa fa34_0 rfl) ?_
  refine GL.one rfl .no (S1.ld sc32 rfl (.at .z) rfl) ?_
  refine GL.one rfl .no (S1.len el32 rfl) ?_
  refine GL.one rfl .no (S1.neq rfl rfl) ?_
  refine GL.one rfl .no (S1.mv (v := (.bool _)) rfl) ?_
  refine GL.splitD 14 rfl (fun w3 => ?_) (fun w3 => ?_)
  refine GL.skip rfl (.not rfl rfl rfl) ?_
  refine GL.skip rfl (.not rfl rfl rfl) ?_
  refine GL.skip rfl (.not rfl rfl rfl) ?_
  refine GL.skip rfl (.not rfl rfl rfl) ?_
  refine GL.skip rfl (.not rfl rfl rfl) ?_
  refine GL.skip rfl (.not rfl rfl rfl) ?_
  refine GL.skip rfl (.not rfl rfl rfl) ?_
  refine GL.one rfl .no (S1.pickT (v := (.bool _)) rfl rfl) ?_
  refine GL.done rfl ?_
  refine GQ.on ?_
  refine GW.toT rfl rfl ?_
  refine GW.toSeq rfl ?_
  refine GW.toReg rfl ?_
  refine GL.one rfl .no (S1.as (v := (.bool _)) rfl) ?_
  refine GL.done rfl ?_
  refine GQ.on ?_
  refine GW.toRet rfl ?_
  refine GQ.onR ?_
  refine GQ.ret () (.tmp (v := (.bool _)) rfl rfl .nil) .one ?_ ?_ .nil
  omega
  exact trivial
  refine GL.one rfl (.yes rfl rfl rfl) (S1.fa fa34_1 rfl) ?_
  refine GL.one rfl (.yes rfl rfl rfl) (S1.ld sc22 rfl (.at (.s .z)) rfl) ?_
  refine GL.one rfl (.yes rfl rfl rfl) (S1.len el22 rfl) ?_
  refine GL.one rfl (.yes rfl rfl rfl) (S1.fa fa34_1 rfl) ?_
  refine GL.one rfl (.yes rfl rfl rfl) (S1.ld sc22 rfl (.at .z) rfl) ?_
  refine GL.one rfl (.yes rfl rfl rfl) (S1.len el22 rfl) ?_
  refine GL.one rfl (.yes rfl rfl rfl) (S1.neq rfl rfl) ?_
  refine GL.one rfl .no (S1.pickF (v := (.bool _)) rfl rfl) ?_
  refine GL.done rfl ?_
  refine GQ.on ?_
  refine GW.toD rfl rfl (fun w4 => ?_) (fun w4 => ?_)
  refine GW.toSeq rfl ?_
  refine GW.toReg rfl ?_
  refine GL.one rfl .no (S1.as (v := (.bool _)) rfl) ?_
  refine GL.done rfl ?_
  refine GQ.on ?_
  refine GW.toRet rfl ?_
  refine GQ.onR ?_
  refine GQ.ret () (.tmp (v := (.bool _)) rfl rfl .nil) .one ?_ ?_ .nil
  omega
  exact trivial
  refine GW.toSkip rfl ?_
  refine GQ.on ?_
  refine GW.toSeq rfl ?_
  refine GW.toSeq rfl ?_
  refine GW.toReg rfl ?_
  refine GL.one rfl .no (S1.as (v := (.int _ _)) rfl) ?_
  refine GL.done rfl ?_
  refine GQ.on ?_
  refine GW.toBlock rfl ?_
  refine GW.toLoop (fun i : Nat => [(2, .pointer (some ⟨a1, 0, none⟩)), (3, .pointer (some ⟨a2, 0, none⟩)), (5, .int .i64 i)]) (fun _ => [(a1, .cells [.slice p1 n n, .slice p2 m m] none true), (a2, .cells [.slice p3 n n, .slice p4 m m] none true)]) (fun i => i ≤ n) (fun i => n - i) rfl 0 (Nat.zero_le _) (.c rfl (.c rfl (.c rfl .n))) (by repeat first | exact .nil | apply Take.cons (by repeat first | exact .z | apply Rem.s)) ?_
  rintro i f hi0
  refine GW.toSeq rfl ?_
  refine GW.toSeq rfl ?_
  refine GW.toReg rfl ?_
  refine GL.one rfl .no (S1.mv (v := (.int _ _)) rfl) ?_
  refine GL.one rfl .no (S1.fa fa34_0 rfl) ?_
  refine GL.one rfl .no (S1.ld sc32 rfl (.at .z) rfl) ?_
  refine GL.one rfl .no (S1.len el32 rfl) ?_
  refine GL.one rfl .no (S1.lss rfl rfl) ?_
  refine GL.done rfl ?_
  refine GQ.on ?_
  refine GW.toD rfl rfl (fun w5 => ?_) (fun w5 => ?_)
  refine GW.toSkip rfl ?_
  refine GQ.on ?_
  refine GW.toSeq rfl ?_
  refine GW.toBlock rfl ?_
  refine GW.toSeq rfl ?_
  refine GW.toDrw mx rfl ?_
  refine GD.one rfl .no (S1.fa fa34_0 rfl) rfl ?_
  refine GD.one rfl .no (S1.ld sc32 rfl (.at .z) rfl) rfl ?_
  refine GD.one rfl .no (S1.mv (v := (.int _ _)) rfl) rfl ?_
  rotate_left
  refine GW.toExit rfl ?_
  refine GQ.onE ?_
  refine GQ.onE ?_
  refine GQ.outH ?_
  refine GQ.on ?_
  refine GW.toSeq rfl ?_
  refine GW.toSeq rfl ?_
  refine GW.toReg rfl ?_
  refine GL.one rfl .no (S1.as (v := (.int _ _)) rfl) ?_
  refine GL.done rfl ?_
  refine GQ.on ?_
  refine GW.toBlock rfl ?_
  rotate_left
  · obtain ⟨b1, rfl, hb1⟩ := q1 (by rw [ints_len]; omega)
    obtain ⟨b3, rfl, hb3⟩ := q3 (by rw [ints_len]; omega)
    refine GD.one rfl .no (S1.ixN el32 rfl rfl (by omega)) rfl ?_
    refine GD.one rfl .no (S1.ld sc3 rfl (.old0 hb1) (ints_get (by omega))) rfl ?_
    refine GD.one rfl .no (S1.fa fa34_0 rfl) rfl ?_
    refine GD.one rfl .no (S1.ld sc32 rfl (.at (.s .z)) rfl) rfl ?_
    refine GD.one rfl .no (S1.mv (v := (.int _ _)) rfl) rfl ?_
    refine GD.one rfl .no (S1.ixN el32 rfl rfl (by omega)) rfl ?_
    refine GD.one rfl .no (S1.ld sc3 rfl (.old0 hb3) (ints_get (by omega))) rfl ?_
    refine GD.one rfl .no (S1.neq rfl rfl) rfl ?_
    refine GD.done rfl ?_
    refine GQ.on ?_
    refine GW.toD rfl rfl (fun w6 => ?_) (fun w6 => ?_)
    refine GW.toSeq rfl ?_
    refine GW.toReg rfl ?_
    refine GL.one rfl .no (S1.as (v := (.bool _)) rfl) ?_
    refine GL.done rfl ?_
    refine GQ.on ?_
    refine GW.toRet rfl ?_
    refine GQ.outR ?_
    refine GQ.onR ?_
    refine GQ.onR ?_
    refine GQ.outR ?_
    refine GQ.onR ?_
    refine GQ.ret () (.tmp (v := (.bool _)) rfl rfl .nil) .one ?_ ?_ .nil
    omega
    exact trivial
    refine GW.toSkip rfl ?_
    refine GQ.outN ?_
    refine GQ.on ?_
    refine GW.toReg rfl ?_
    refine GL.one rfl .no (S1.mv (v := (.int _ _)) rfl) ?_
    refine GL.one rfl .no (S1.inc rfl rfl (by omega)) ?_
    refine GL.one rfl .no (S1.as (v := (.int _ _)) rfl) ?_
    refine GL.done rfl ?_
    refine GQ.next (i + 1) (by omega) (by omega) (.c rfl (.c rfl (.c rfl .n))) (by repeat first | exact .nil | apply Take.cons (by repeat first | exact .z | apply Rem.s))
  refine GW.toLoop (fun i : Nat => [(2, .pointer (some ⟨a1, 0, none⟩)), (3, .pointer (some ⟨a2, 0, none⟩)), (6, .int .i64 i)]) (fun _ => [(a1, .cells [.slice p1 n n, .slice p2 m m] none true), (a2, .cells [.slice p3 n n, .slice p4 m m] none true)]) (fun i => i ≤ m) (fun i => m - i) rfl 0 (Nat.zero_le _) (.c rfl (.c rfl (.c rfl .n))) (by repeat first | exact .nil | apply Take.cons (by repeat first | exact .z | apply Rem.s)) ?_
  rintro j f2 hi1
  refine GW.toSeq rfl ?_
  refine GW.toSeq rfl ?_
  refine GW.toReg rfl ?_
  refine GL.one rfl .no (S1.mv (v := (.int _ _)) rfl) ?_
  refine GL.one rfl .no (S1.fa fa34_1 rfl) ?_
  refine GL.one rfl .no (S1.ld sc22 rfl (.at .z) rfl) ?_
  refine GL.one rfl .no (S1.len el22 rfl) ?_
  refine GL.one rfl .no (S1.lss rfl rfl) ?_
  refine GL.done rfl ?_
  refine GQ.on ?_
  refine GW.toD rfl rfl (fun w7 => ?_) (fun w7 => ?_)
  refine GW.toSkip rfl ?_
  refine GQ.on ?_
  refine GW.toSeq rfl ?_
  refine GW.toBlock rfl ?_
  refine GW.toSeq rfl ?_
  refine GW.toDrw mx rfl ?_
  refine GD.one rfl .no (S1.fa fa34_1 rfl) rfl ?_
  refine GD.one rfl .no (S1.ld sc22 rfl (.at .z) rfl) rfl ?_
  refine GD.one rfl .no (S1.mv (v := (.int _ _)) rfl) rfl ?_
  rotate_left
  refine GW.toExit rfl ?_
  refine GQ.onE ?_
  refine GQ.onE ?_
  refine GQ.outH ?_
  refine GQ.on ?_
  refine GW.toSeq rfl ?_
  refine GW.toReg rfl ?_
  refine GL.one rfl .no (S1.as (v := (.bool _)) rfl) ?_
  refine GL.done rfl ?_
  refine GQ.on ?_
  refine GW.toRet rfl ?_
  refine GQ.ret () (.tmp (v := (.bool _)) rfl rfl .nil) .one ?_ ?_ .nil
  rfl
  exact trivial
  · obtain ⟨b1, rfl, hb1⟩ := q2 (by rw [strs_len]; omega)
    obtain ⟨b3, rfl, hb3⟩ := q4 (by rw [strs_len]; omega)
    refine GD.one rfl .no (S1.ixN el22 rfl rfl (by omega)) rfl ?_
    refine GD.one rfl .no (S1.ld sc9 rfl (.old0 hb1) (strs_get (by omega))) rfl ?_
    refine GD.one rfl .no (S1.fa fa34_1 rfl) rfl ?_
    refine GD.one rfl .no (S1.ld sc22 rfl (.at (.s .z)) rfl) rfl ?_
    refine GD.one rfl .no (S1.mv (v := (.int _ _)) rfl) rfl ?_
    refine GD.one rfl .no (S1.ixN el22 rfl rfl (by omega)) rfl ?_
    refine GD.one rfl .no (S1.ld sc9 rfl (.old0 hb3) (strs_get (by omega))) rfl ?_
    refine GD.one rfl .no (S1.sne rfl rfl) rfl ?_
    refine GD.done rfl ?_
    refine GQ.on ?_
    refine GW.toC rfl rfl (fun w8 => ?_) (fun w8 => ?_)
    refine GW.toSeq rfl ?_
    refine GW.toReg rfl ?_
    refine GL.one rfl .no (S1.as (v := (.bool _)) rfl) ?_
    refine GL.done rfl ?_
    refine GQ.on ?_
    refine GW.toRet rfl ?_
    refine GQ.outR ?_
    refine GQ.onR ?_
    refine GQ.onR ?_
    refine GQ.outR ?_
    refine GQ.onR ?_
    refine GQ.ret () (.tmp (v := (.bool _)) rfl rfl .nil) .one ?_ ?_ .nil
    rotate_left
    exact trivial
    refine GW.toSkip rfl ?_
    refine GQ.outN ?_
    refine GQ.on ?_
    refine GW.toReg rfl ?_
    refine GL.one rfl .no (S1.mv (v := (.int _ _)) rfl) ?_
    refine GL.one rfl .no (S1.inc rfl rfl (by omega)) ?_
    refine GL.one rfl .no (S1.as (v := (.int _ _)) rfl) ?_
    refine GL.done rfl ?_
    refine GQ.next (j + 1) (by omega) (by omega) (.c rfl (.c rfl (.c rfl .n))) (by repeat first | exact .nil | apply Take.cons (by repeat first | exact .z | apply Rem.s))
    all_goals simp_all

theorem ct5 {h : EH} {hr : RO} {xs : List Value} {xb g : Nat} {ns : List Int} {ss : List ByteArray} (hR : ∀ b o, hr b = some o → h[b]? = some o) (hx : h[xb]? = some (.cells xs none true)) (hxo : hr xb = none) (hf : fnOk Tryz.prog g = true)
    (hn : ns.length ≤ 1073741824) (hs : ss.length ≤ 1073741824) (D : ∀ xb hb h, GoodA hr xs zero2 xb hb h → Twice Tryz.prog g xb hb h ns ss) :
    Ct Tryz.prog 5 ⟨[.func (.func g) ⟨[]⟩ ⟨[.pointer (some ⟨xb, 0, none⟩)]⟩]⟩ h [] (fun _ : Unit => .bool true) (fun _ => True) (fun _ => []) := by
  refine Ct.go Tryz.func5 rfl rfl co5 (Hp.start hR) ?_
  refine GW.toSeq rfl ?_
  refine GW.toReg rfl ?_
  refine GL.one rfl .no (S1.as (v := (.bool _)) rfl) ?_
  refine GL.done rfl ?_
  refine GQ.on ?_
  refine GW.toSeq rfl ?_
  refine GW.toReg rfl ?_
  refine GL.opN rfl .no (SN.al zc34) (fun a1 => ?_)
  refine GL.opN rfl .no (SN.al zc34) (fun a2 => ?_)
  refine GL.done rfl ?_
  refine GQ.on ?_
  refine GW.toSeq rfl ?_
  refine GW.toReg rfl ?_
  refine GL.one rfl .no (S1.mv (v := (.func _ _ _)) rfl) ?_
  have good1 : ∀ H, Hp hr h [] [(a2, .cells zero2 none true), (a1, .cells zero2 none true)] H → GoodA hr xs zero2 xb a1 H := fun H K =>
    ⟨K.rom, K.old _ _ hx (by simp), K.get (.s .z), hxo, K.off _ (.tail _ (.head _)), by have := get_lt hx; have := K.own _ (.tail _ (.head _)); simp at this; omega⟩
  refine GL.callG (C' := fun (x : Nat × List Value) h1 => ∃ H v2 h2, Hp hr h [] [(a2, .cells zero2 none true), (a1, .cells zero2 none true)] H ∧ SndFn Tryz.prog x.1 ⟨x.2⟩ h1 (.ret v2) h2 ∧ H.length ≤ h2.length ∧ HS H.length h2 a1 ns ss ∧ Keep a1 H h2)
    (V := fun x => .func (.func x.1) ⟨[]⟩ ⟨x.2⟩) (R := fun x => fnOk Tryz.prog x.1 = true) rfl .no hf (fun H K => ?_) (.v rfl (.c (v := .pointer _) rfl .n)) (fun x hfw => ?_)
  · obtain ⟨fw, ⟨cs⟩, h1, v2, h2, k0, k1, k2, k3, k4, k5, k5', k6, k6'⟩ := D xb a1 H (good1 H K)
    exact ⟨_, _, k1, (fw, cs), rfl, k0, H, v2, h2, K, k2, Nat.le_trans k3 k4, k5', k6'⟩
  obtain ⟨fw, cs⟩ := x
  refine GL.one rfl .no (S1.as (v := (.func _ _ _)) rfl) ?_
  refine GL.done rfl ?_
  refine GQ.on ?_
  refine GW.toSeq rfl ?_
  refine GW.toReg rfl ?_
  refine GL.one rfl .no (S1.mv (v := (.func _ _ _)) rfl) ?_
  refine GL.callG (X := Value) (V := fun x => x) (R := fun _ => True) (C' := fun _ h2 => ∃ H, Hp hr h [] [(a2, .cells zero2 none true), (a1, .cells zero2 none true)] H ∧ H.length ≤ h2.length ∧ HS H.length h2 a1 ns ss ∧ Keep a1 H h2) rfl .no hfw (fun H K => ?_) (.v rfl .n) (fun x _ => ?_)
  · obtain ⟨H0, v2, h2, q1, q2, q3, q4, q5⟩ := K
    exact ⟨_, _, q2, v2, rfl, trivial, H0, q1, q3, q4, q5⟩
  refine GL.done rfl ?_
  refine GQ.on ?_
  refine GW.toSeq rfl ?_
  refine GW.toReg rfl ?_
  refine GL.one rfl .no (S1.mv (v := (.func _ _ _)) rfl) ?_
  refine GL.callG (X := Value × Option Addr × Option Addr × Option Addr × Option Addr) (V := fun x => x.1) (R := fun _ => True)
    (C' := fun x h3 => Post [] h h3 [] ∧ h3[a1]? = some (.cells [.slice x.2.1 ns.length ns.length, .slice x.2.2.1 ss.length ss.length] none true) ∧ h3[a2]? = some (.cells [.slice x.2.2.2.1 ns.length ns.length, .slice x.2.2.2.2 ss.length ss.length] none true) ∧
      Qrow h3 x.2.1 (ints ns) ∧ Qrow h3 x.2.2.1 (strs ss) ∧ Qrow h3 x.2.2.2.1 (ints ns) ∧ Qrow h3 x.2.2.2.2 (strs ss)) rfl .no hf (fun h2 K => ?_) (.v rfl (.c (v := .pointer _) rfl .n)) (fun x _ => ?_)
  · obtain ⟨H, K, hl, hs1, kp⟩ := K
    have l1 : a1 < H.length := K.lt (.tail _ (.head _))
    have l2 : a2 < H.length := K.lt (.head _)
    have o1 : h.length ≤ a1 := by have := K.own _ (.tail _ (.head _)); simpa using this
    have o2 : h.length ≤ a2 := by have := K.own _ (.head _); simpa using this
    have ne : a2 ≠ a1 := by have := K.nd; simp at this; exact this
    have n1 := K.off _ (.tail _ (.head _))
    have n2 := K.off _ (.head _)
    have hxl := get_lt hx
    have g2 : GoodA hr xs zero2 xb a2 h2 := by
      refine ⟨fun b o e => kp _ _ (K.rom _ _ e) ?_, kp _ _ (K.old _ _ hx (by simp)) (by omega), kp _ _ (K.get .z) ne, hxo, n2, by omega⟩
      rintro rfl
      simp only at n1
      rw [n1] at e; cases e
    obtain ⟨fw2, cs2, h3, v4, h4, k0, k1, k2, k3, k4, k5, _, k6, _⟩ := D xb a2 h2 g2
    have hs2 := hs1.keep k6 (Ne.symm ne) l2 (Nat.le_refl _)
    obtain ⟨vn, vs, e1, r1, r2⟩ := hs2
    obtain ⟨wn, ws, e2, r3, r4⟩ := k5
    obtain ⟨p1, rfl, u1⟩ := r1.slice
    obtain ⟨p2, rfl, u2⟩ := r2.slice
    obtain ⟨p3, rfl, u3⟩ := r3.slice
    obtain ⟨p4, rfl, u4⟩ := r4.slice
    rw [ints_len] at e1 e2
    rw [strs_len] at e1 e2
    refine ⟨_, _, k1, (_, p1, p2, p3, p4), rfl, trivial, ⟨fun b o e _ => ?_, ?_, by simp, by simp, by simp⟩, e1, e2, u1, u2, u3, u4⟩
    · have hb := get_lt e
      exact k6 _ _ (kp _ _ (K.old _ _ e (by simp)) (by omega)) (by omega)
    · have := K.len; omega
  obtain ⟨w, p1, p2, p3, p4⟩ := x
  refine GL.done rfl ?_
  refine GQ.on ?_
  refine GW.toSeq rfl ?_
  refine GW.toReg rfl ?_
  refine GL.one rfl .no (S1.ldW ag34 rfl (fun h3 K => K.2.1) rfl) ?_
  refine GL.one rfl .no (S1.ldW ag34 rfl (fun h3 K => K.2.2.1) rfl) ?_
  refine GL.callG (X := Unit) (V := fun _ => .bool true) (R := fun _ => True) (C' := fun _ h4 => Hp (fun _ => none) h [] [] h4) rfl .no fo27 (fun h3 K => ?_) (.d (.c rfl (.c rfl .n))) (fun _ _ => ?_)
  · refine WF.mono (ct27 rfl rfl hn hs K.2.2.2.1 K.2.2.2.2.1 K.2.2.2.2.2.1 K.2.2.2.2.2.2) fun o h4 q => ?_
    cases o with
    | pan v => exact q.elim
    | ret v =>
      obtain ⟨_, rfl, _, P2⟩ := q
      exact ⟨(), rfl, trivial, fun b o e _ => P2.old _ _ (K.1.old _ _ e (by simp)) (by simp), Nat.le_trans K.1.len P2.len, by simp, by simp, by simp, by simp, by simp⟩
  refine GL.one rfl .no (S1.as (v := (.bool _)) rfl) ?_
  refine GL.done rfl ?_
  refine GQ.on ?_
  refine GW.toRet rfl ?_
  refine GQ.ret () (.tmp (v := (.bool _)) rfl rfl .nil) .one ?_ ?_ .nil
  rfl
  exact trivial
end Go.Proofs.YtkpbpfnmgnpfaaaGreat
