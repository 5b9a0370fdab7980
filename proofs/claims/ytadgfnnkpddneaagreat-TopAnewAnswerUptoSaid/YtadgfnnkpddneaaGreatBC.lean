/- B14: contracts: Mark, Outcome. -/
import Derived.Test.YtadgfnnkpddneaaGreatBA
import Derived.Test.YtadgfnnkpddneaaGreatSB
set_option linter.all false
set_option linter.constructorNameAsVariable false
set_option linter.unusedSimpArgs false
set_option linter.unusedVariables false
set_option linter.unusedSectionVars false
set_option linter.unnecessarySimpa false
namespace Go.Proofs.YtadgfnnkpddneaaGreat
open Go Go.E
set_option maxRecDepth 100000
set_option maxHeartbeats 4000000

structure Su where
  lb : Nat
  av : Option Addr
  uE : Ents
  un : Nat
  ul : List Int

structure SuOk (hr : RO) (qa : Option Addr) (qn pn : Nat) (sh : Option Addr) (shn : Nat) (x : Su) : Prop where
  ok : AnOk hr qa qn pn
  qs : shn = qn
  u : NR 2 (.slice x.av x.un x.un) x.uE x.un x.ul
  u7 : x.un ≤ 7
  ul : UlOk hr sh shn x.un x.ul

section
variable {h h0 : EH} {hr : RO} {F : List Nat} {L L1 : Ents} {qa pa sh : Option Addr} {qn qc pn pc shn shc : Nat} {al : Int}

abbrev V45 : Su ⊕ Int → Value
  | .inl x => .tuple ⟨[.pointer (some ⟨x.lb, 0, none⟩), .int .i64 0]⟩
  | .inr e => .tuple ⟨[.pointer none, .int .i64 e]⟩
abbrev R45' (hr : RO) (qa : Option Addr) (qn pn : Nat) (sh : Option Addr) (shn : Nat) : Su ⊕ Int → Prop
  | .inl x => SuOk hr qa qn pn sh shn x
  | .inr e => e ≠ 0
abbrev N45 (qa : Option Addr) (qn qc : Nat) (pa : Option Addr) (pn pc : Nat) (al : Int) (sh : Option Addr) (shn shc : Nat) : Su ⊕ Int → Ents
  | .inl x => (x.lb, .cells (ShC qa qn qc pa pn pc al sh shn shc (.slice x.av x.un x.un)) none true) :: x.uE
  | .inr _ => []

theorem SuOk.of {x : Sh} (q : AnOk hr qa qn pn ∧ shn = qn ∧ NR 2 x.uv x.uE x.un x.ul ∧ x.un ≤ 7 ∧ UlOk hr sh shn x.un x.ul) : ∃ av, x.uv = .slice av x.un x.un ∧ SuOk hr qa qn pn sh shn ⟨x.lb, av, x.uE, x.un, x.ul⟩ := by
  obtain ⟨av, hav⟩ : ∃ a, x.uv = .slice a x.un x.un := by
    rcases q.2.2.1.two with ⟨e1, e2, _⟩ | ⟨_, r, e2, _⟩
    · exact ⟨none, by rw [e2, e1]⟩
    · exact ⟨some ⟨r, 0, none⟩, by rw [e2]⟩
  exact ⟨av, hav, q.1, q.2.1, hav ▸ q.2.2.1, q.2.2.2.1, q.2.2.2.2⟩

theorem ct45' (hR : ∀ b o, hr b = some o → h[b]? = some o) (h1 : Cell hr (.sl ly81) (.slice qa qn qc)) (h2 : Cell hr (.sl ly3) (.slice pa pn pc)) (h4 : Cell hr (.sl ly23) (.slice sh shn shc)) :
    Ct Tryz.prog 45 ⟨[.agg ⟨[.slice qa qn qc, .slice pa pn pc, .int .i64 al]⟩, .slice sh shn shc]⟩ h [] V45 (R45' hr qa qn pn sh shn) (N45 qa qn qc pa pn pc al sh shn shc) :=
  (ct45 hR h1 h2 h4).mono fun x q => match x, q with
    | .inl x, q => by
      obtain ⟨av, e, s⟩ := SuOk.of (x := x) q
      exact ⟨.inl ⟨x.lb, av, x.uE, x.un, x.ul⟩, rfl, s, by simp only [N70, N45, e]⟩
    | .inr e, q => ⟨.inr e, rfl, q, rfl⟩

theorem SuOk.mkSh {x : Su} (q : SuOk hr qa qn pn sh shn x) (h1 : Cell hr (.sl ly81) (.slice qa qn qc)) (h2 : Cell hr (.sl ly3) (.slice pa pn pc)) (h4 : Cell hr (.sl ly23) (.slice sh shn shc)) (hR : ∀ b o, hr b = some o → h[b]? = some o)
    (hb : h[x.lb]? = some (.cells (ShC qa qn qc pa pn pc al sh shn shc (.slice x.av x.un x.un)) none true)) (hE : ∀ e ∈ x.uE, h[e.1]? = some e.2) : ShOk hr h x.lb qa qn qc pa pn pc al sh shn shc x.un (.slice x.av x.un x.un) x.uE x.ul :=
  ⟨q.ok, q.qs, h1, h2, h4, q.u, q.u7, hR, hb, hE, q.ul⟩

theorem SuOk.mkH {x : Su} (q : SuOk hr qa qn pn sh shn x) (h1 : Cell hr (.sl ly81) (.slice qa qn qc)) (h2 : Cell hr (.sl ly3) (.slice pa pn pc)) (h4 : Cell hr (.sl ly23) (.slice sh shn shc)) (H : Hp hr h0 F L h)
    (a : At L x.lb (.cells (ShC qa qn qc pa pn pc al sh shn shc (.slice x.av x.un x.un)) none true)) (t : Take L x.uE L1) : ShOk hr h x.lb qa qn qc pa pn pc al sh shn shc x.un (.slice x.av x.un x.un) x.uE x.ul :=
  q.mkSh h1 h2 h4 H.rom (H.get a) fun e he => H.at_ e (t.memL e he)


theorem ct12 (hR : ∀ b o, hr b = some o → h[b]? = some o) (h1 : Cell hr (.sl ly81) (.slice qa qn qc)) (h2 : Cell hr (.sl ly3) (.slice pa pn pc)) (h4 : Cell hr (.sl ly23) (.slice sh shn shc)) :
    Ct Tryz.prog 12 ⟨[.agg ⟨[.slice qa qn qc, .slice pa pn pc, .int .i64 al]⟩, .slice sh shn shc]⟩ h [] (fun x : Value × Ents × Nat × Bool × Int => .tuple ⟨[x.1, .bool x.2.2.2.1, .int .i64 x.2.2.2.2]⟩) (fun x => OR wy3 x.1 x.2.1 x.2.2.1 ∧ x.2.2.1 ≤ 4) (fun x => x.2.1) := by
  refine Ct.go Tryz.func12 rfl rfl co12 (Hp.start hR) ?_
  refine GW.sr rfl rfl ?_
  refine GL.opN rfl .no (SN.bx (u := .agg ⟨_⟩) rfl .agg) (fun a1 => ?_)
  refine GL.o rfl (S1.asL rfl) ?_
  refine GL.o rfl (S1.asB rfl) ?_
  refine GL.o rfl (S1.asI rfl) ?_
  refine GL.dn rfl ?_
  refine GW.sr rfl rfl ?_
  refine GL.o rfl (S1.ldW ag25 rfl (.at .z) rfl) ?_
  refine GL.o rfl (S1.mvL rfl) ?_
  refine GL.call rfl .no fo45 .nil (fun h H => ct45' H.rom h1 h2 h4) (.d (.c (v := (.agg _)) rfl (.c (v := (.slice _ _ _)) rfl .n))) (fun x45 => match x45 with | .inl x45 => fun (q45 : SuOk hr qa qn pn sh shn x45) => ?_ | .inr e45 => fun (q45 : e45 ≠ 0) => ?_)
  refine GL.o rfl (S1.mvT rfl) ?_
  refine GL.o rfl (S1.ext (v := (.pointer _)) rfl rfl) ?_
  refine GL.o rfl (S1.ext (v := (.int _ _)) rfl rfl) ?_
  refine GL.o rfl (S1.asP rfl) ?_
  refine GL.o rfl (S1.asI rfl) ?_
  refine GL.dn rfl ?_
  refine GW.toSeq rfl ?_
  refine GW.toBlock rfl ?_
  refine GW.sr rfl rfl ?_
  refine GL.o rfl (S1.mvI rfl) ?_
  refine GL.o rfl (S1.neq rfl rfl) ?_
  refine GL.o rfl (S1.asB rfl) ?_
  refine GL.dn rfl ?_
  refine GW.toF rfl rfl ?_
  refine GW.sr rfl rfl ?_
  refine GL.o rfl (S1.mvP rfl) ?_
  refine GL.o rfl (S1.nc rfl) ?_
  refine GL.o rfl (S1.fa fa86_2 rfl) ?_
  refine GL.o rfl (S1.ld sc52 rfl (.at .z) rfl) ?_
  refine GL.o rfl (S1.len el52 rfl) ?_
  refine GL.o rfl (S1.gtr rfl rfl) ?_
  refine GL.o rfl (S1.asB rfl) ?_
  refine GL.dn rfl ?_
  refine GW.toD rfl rfl (fun w3 => ?_) (fun w3 => ?_)
  refine GW.sr rfl rfl ?_
  refine GL.o rfl (S1.asL rfl) ?_
  refine GL.o rfl (S1.asB rfl) ?_
  refine GL.o rfl (S1.asI rfl) ?_
  refine GL.dn rfl ?_
  refine GW.toRet rfl ?_
  refine GQ.outR ?_
  refine GQ.onR ?_
  refine GQ.ret (nilS, [], 0, false, 2) (.tmp rfl rfl (.tmp rfl rfl (.tmp rfl rfl .nil))) .more rfl ⟨.nil, Nat.zero_le _⟩ .nil
  refine GW.toSkip rfl ?_
  refine GQ.outN ?_
  refine GQ.on ?_
  refine GW.sr rfl rfl ?_
  refine GL.o rfl (S1.mvP rfl) ?_
  refine GL.call rfl .no fo46 .nil (fun h H => ct46 (q45.mkH h1 h2 h4 H .z (show Take _ x45.uE _ from (.ts .tzA)))) (.d (.c (v := (.pointer _)) rfl (.c (v := (.int _ _)) rfl .n))) (fun x46 q46 => ?_)
  refine GL.o rfl (S1.mvP rfl) ?_
  refine GL.call rfl .no fo47 .nil (fun h H => ct47 (q45.mkH h1 h2 h4 H (.s .z) (show Take _ x45.uE _ from (.ts (.ts .tzA))))) (.d (.c (v := (.pointer _)) rfl (.c (v := (.int _ _)) rfl .n))) (fun x47 _ => ?_)
  refine GL.o rfl (S1.asL rfl) ?_
  refine GL.o rfl (S1.asB rfl) ?_
  refine GL.o rfl (S1.asI rfl) ?_
  refine GL.dn rfl ?_
  refine GW.toRet rfl ?_
  refine GQ.ret (rowS x46.1 pn, [(x46.1, .cells (ints x46.2) none true)], pn, x47, 0) (.tmp rfl rfl (.tmp rfl rfl (.tmp rfl rfl .nil))) .more rfl ⟨OR.ints (by rw [q46]; simp [wy3]) (by have := q45.ok.p4; omega) (.inl rfl) (by simp [wy3]), q45.ok.p4⟩ (.cons .z .nil)
  refine GL.o rfl (S1.mvT rfl) ?_
  refine GL.o rfl (S1.ext (v := (.pointer _)) rfl rfl) ?_
  refine GL.o rfl (S1.ext (v := (.int _ _)) rfl rfl) ?_
  refine GL.o rfl (S1.asP rfl) ?_
  refine GL.o rfl (S1.asI rfl) ?_
  refine GL.dn rfl ?_
  refine GW.toSeq rfl ?_
  refine GW.toBlock rfl ?_
  refine GW.sr rfl rfl ?_
  refine GL.o rfl (S1.mvI rfl) ?_
  refine GL.o rfl (S1.neq rfl rfl) ?_
  refine GL.o rfl (S1.asB rfl) ?_
  refine GL.dn rfl ?_
  refine GW.toD rfl rfl (fun w6 => ?_) (fun w6 => ?_)
  refine GW.sr rfl rfl ?_
  refine GL.o rfl (S1.mvI rfl) ?_
  refine GL.o rfl (S1.asL rfl) ?_
  refine GL.o rfl (S1.asB rfl) ?_
  refine GL.o rfl (S1.asI rfl) ?_
  refine GL.dn rfl ?_
  refine GW.toRet rfl ?_
  refine GQ.outR ?_
  refine GQ.onR ?_
  refine GQ.ret (nilS, [], 0, false, e45) (.tmp rfl rfl (.tmp rfl rfl (.tmp rfl rfl .nil))) .more rfl ⟨.nil, Nat.zero_le _⟩ .nil
  refine GW.sr rfl rfl ?_
  refine GL.o rfl (S1.mvP rfl) ?_
  (exfalso; omega)

theorem ct18 (hR : ∀ b o, hr b = some o → h[b]? = some o) (h1 : Cell hr (.sl ly81) (.slice qa qn qc)) (h2 : Cell hr (.sl ly3) (.slice pa pn pc)) (h4 : Cell hr (.sl ly23) (.slice sh shn shc)) :
    Ct Tryz.prog 18 ⟨[.agg ⟨[.slice qa qn qc, .slice pa pn pc, .int .i64 al]⟩, .slice sh shn shc]⟩ h [] (fun x : Int × Int => .tuple ⟨[.int .i64 x.1, .int .i64 x.2]⟩) (fun _ => True) (fun _ => []) := by
  refine Ct.go Tryz.func18 rfl rfl co18 (Hp.start hR) ?_
  refine GW.sr rfl rfl ?_
  refine GL.opN rfl .no (SN.bx (u := .agg ⟨_⟩) rfl .agg) (fun a1 => ?_)
  refine GL.o rfl (S1.asI rfl) ?_
  refine GL.o rfl (S1.asI rfl) ?_
  refine GL.dn rfl ?_
  refine GW.sr rfl rfl ?_
  refine GL.o rfl (S1.ldW ag25 rfl (.at .z) rfl) ?_
  refine GL.o rfl (S1.mvL rfl) ?_
  refine GL.call rfl .no fo45 .nil (fun h H => ct45' H.rom h1 h2 h4) (.d (.c (v := (.agg _)) rfl (.c (v := (.slice _ _ _)) rfl .n))) (fun x45 => match x45 with | .inl x45 => fun (q45 : SuOk hr qa qn pn sh shn x45) => ?_ | .inr e45 => fun (q45 : e45 ≠ 0) => ?_)
  refine GL.o rfl (S1.mvT rfl) ?_
  refine GL.o rfl (S1.ext (v := (.pointer _)) rfl rfl) ?_
  refine GL.o rfl (S1.ext (v := (.int _ _)) rfl rfl) ?_
  refine GL.o rfl (S1.asP rfl) ?_
  refine GL.o rfl (S1.asI rfl) ?_
  refine GL.dn rfl ?_
  refine GW.toSeq rfl ?_
  refine GW.sr rfl rfl ?_
  refine GL.o rfl (S1.mvI rfl) ?_
  refine GL.o rfl (S1.neq rfl rfl) ?_
  refine GL.dn rfl ?_
  refine GW.toF rfl rfl ?_
  refine GW.toSkip rfl ?_
  refine GQ.on ?_
  refine GW.sr rfl rfl ?_
  refine GL.o rfl (S1.mvP rfl) ?_
  refine GL.call rfl .no fo53 .nil (fun h H => ct53) (.d (.c (v := (.pointer _)) rfl .n)) (fun x53 _ => ?_)
  refine GL.o rfl (S1.mvP rfl) ?_
  refine GL.o rfl (S1.mf (.c (v := (.pointer _)) rfl .n) .n) ?_
  refine GL.call rfl .no fo52 (show Take _ (M87 x53 x45.lb qa qn qc pa pn pc al sh shn shc x45.av x45.un x45.uE) _ from (.cons .z (.cons .z .tzA))) (fun h H => ct52 fo47 q45.u7 (fun n h' hr' hL => ct47 (q45.mkSh h1 h2 h4 hr' (hL _ (.tail _ (.head _))) (fun e he => hL e (.tail _ (.tail _ he))))) (H.give (show Take _ (M87 x53 x45.lb qa qn qc pa pn pc al sh shn shc x45.av x45.un x45.uE) _ from (.cons .z (.cons .z .tzA))))) (.d (.c (v := (.func _ _ _)) rfl (.c (v := (.func _ _ _)) rfl .n))) (fun x52 _ => ?_)
  refine GL.o rfl (S1.ext (v := (.bool _)) rfl rfl) ?_
  refine GL.o rfl (S1.ext (v := (.bool _)) rfl rfl) ?_
  refine GL.call rfl .no fo51 .nil (fun h H => ct51) (.d (.c (v := (.bool _)) rfl (.c (v := (.bool _)) rfl .n))) (fun x51 _ => ?_)
  refine GL.o rfl (S1.asI rfl) ?_
  refine GL.o rfl (S1.asI rfl) ?_
  refine GL.dn rfl ?_
  refine GW.toRet rfl ?_
  refine GQ.ret (_, _) (.tmp (v := (.int _ _)) rfl rfl (.tmp (v := (.int _ _)) rfl rfl .nil)) .more rfl ?_ .nil
  exact trivial
  refine GL.o rfl (S1.mvT rfl) ?_
  refine GL.o rfl (S1.ext (v := (.pointer _)) rfl rfl) ?_
  refine GL.o rfl (S1.ext (v := (.int _ _)) rfl rfl) ?_
  refine GL.o rfl (S1.asP rfl) ?_
  refine GL.o rfl (S1.asI rfl) ?_
  refine GL.dn rfl ?_
  refine GW.toSeq rfl ?_
  refine GW.sr rfl rfl ?_
  refine GL.o rfl (S1.mvI rfl) ?_
  refine GL.o rfl (S1.neq rfl rfl) ?_
  refine GL.dn rfl ?_
  refine GW.toD rfl rfl (fun w6 => ?_) (fun w6 => ?_)
  refine GW.sr rfl rfl ?_
  refine GL.o rfl (S1.mvI rfl) ?_
  refine GL.o rfl (S1.asI rfl) ?_
  refine GL.o rfl (S1.asI rfl) ?_
  refine GL.dn rfl ?_
  refine GW.toRet rfl ?_
  refine GQ.onR ?_
  refine GQ.ret (_, _) (.tmp (v := (.int _ _)) rfl rfl (.tmp (v := (.int _ _)) rfl rfl .nil)) .more rfl ?_ .nil
  exact trivial
  refine GW.toSkip rfl ?_
  refine GQ.on ?_
  refine GW.sr rfl rfl ?_
  refine GL.o rfl (S1.mvP rfl) ?_
  (exfalso; omega)
end
end Go.Proofs.YtadgfnnkpddneaaGreat
namespace Go.Proofs.YtadgfnnkpddneaaGreat
open Go Go.E
set_option maxRecDepth 100000
set_option maxHeartbeats 4000000

section
variable {h h0 : EH} {hr : RO} {F : List Nat} {L L1 : Ents} {qa pa sh : Option Addr} {qn qc pn pc shn shc : Nat} {al : Int}


abbrev R20 (a1 a2 a3 lb : Nat) (qa : Option Addr) (qn qc : Nat) (pa : Option Addr) (pn pc : Nat) (al : Int) (v : Value) (Z : Ents) : Ents :=
  (a3, .cells [.pointer (some ⟨lb, 0, none⟩)] none true) :: (a2, .cells [v] none true) :: (a1, .cells [.slice qa qn qc, .slice pa pn pc, .int .i64 al] none true) :: Z

structure Gr where
  v : Value
  E : Ents
  m : Nat
  l : List Int

theorem ct20 (hR : ∀ b o, hr b = some o → h[b]? = some o) (h1 : Cell hr (.sl ly81) (.slice qa qn qc)) (h2 : Cell hr (.sl ly3) (.slice pa pn pc)) (h4 : Cell hr (.sl ly23) (.slice sh shn shc)) :
    Ct Tryz.prog 20 ⟨[.agg ⟨[.slice qa qn qc, .slice pa pn pc, .int .i64 al]⟩, .slice sh shn shc]⟩ h [] (fun x : Value × Ents × Nat × Int => .tuple ⟨[x.1, .int .i64 x.2.2.2]⟩) (fun x => OR wy3 x.1 x.2.1 x.2.2.1 ∧ x.2.2.1 ≤ 128) (fun x => x.2.1) := by
  refine Ct.goC Tryz.func20 rfl rfl co20 (Hp.start hR) ?_
  refine GW.sr rfl rfl ?_
  refine GL.opN rfl .no (SN.bx (u := .agg ⟨_⟩) rfl .agg) (fun a1 => ?_)
  refine GL.opN rfl .no (SN.al zc23) (fun a2 => ?_)
  refine GL.o rfl (S1.asI rfl) ?_
  refine GL.dn rfl ?_
  refine GW.sr rfl rfl ?_
  refine GL.o rfl (S1.ldW ag25 rfl (.at (.s .z)) rfl) ?_
  refine GL.o rfl (S1.mvL rfl) ?_
  refine GL.call rfl .no fo45 .nil (fun h H => ct45' H.rom h1 h2 h4) (.d (.c (v := (.agg _)) rfl (.c (v := (.slice _ _ _)) rfl .n))) (fun x45 => match x45 with | .inl x45 => fun (q45 : SuOk hr qa qn pn sh shn x45) => ?_ | .inr e45 => fun (q45 : e45 ≠ 0) => ?_)
  refine GL.o rfl (S1.mvT rfl) ?_
  refine GL.o rfl (S1.ext (v := (.pointer _)) rfl rfl) ?_
  refine GL.o rfl (S1.ext (v := (.int _ _)) rfl rfl) ?_
  refine GL.opN rfl .no (SN.al zc82) (fun a4 => ?_)
  refine GL.o rfl (S1.st (u := (.pointer _)) sc82 rfl rfl rfl (by repeat constructor) .z) ?_
  refine GL.o rfl (S1.asI rfl) ?_
  refine GL.dn rfl ?_
  refine GW.toSeq rfl ?_
  refine GW.sr rfl rfl ?_
  refine GL.o rfl (S1.mvI rfl) ?_
  refine GL.o rfl (S1.neq rfl rfl) ?_
  refine GL.dn rfl ?_
  refine GW.toF rfl rfl ?_
  refine GW.toSkip rfl ?_
  refine GQ.on ?_
  refine GW.toSeq rfl ?_
  refine GW.sr rfl rfl ?_
  refine GL.o rfl (S1.ld sc82 rfl (.at .z) rfl) ?_
  refine GL.call rfl .no fo53 .nil (fun h H => ct53) (.d (.c (v := (.pointer _)) rfl .n)) (fun x53 _ => ?_)
  refine GL.dn rfl ?_
  refine GW.toBlock rfl ?_
  rotate_left
  refine GL.o rfl (S1.mvT rfl) ?_
  refine GL.o rfl (S1.ext (v := (.pointer _)) rfl rfl) ?_
  refine GL.o rfl (S1.ext (v := (.int _ _)) rfl rfl) ?_
  refine GL.opN rfl .no (SN.al zc82) (fun a6 => ?_)
  refine GL.o rfl (S1.st (u := (.pointer _)) sc82 rfl rfl rfl (by repeat constructor) .z) ?_
  refine GL.o rfl (S1.asI rfl) ?_
  refine GL.dn rfl ?_
  refine GW.toSeq rfl ?_
  refine GW.sr rfl rfl ?_
  refine GL.o rfl (S1.mvI rfl) ?_
  refine GL.o rfl (S1.neq rfl rfl) ?_
  refine GL.dn rfl ?_
  refine GW.toD rfl rfl (fun w7 => ?_) (fun w7 => ?_)
  refine GW.sr rfl rfl ?_
  refine GL.o rfl (S1.mvI rfl) ?_
  refine GL.o rfl (S1.st (u := (.slice _ _ _)) sc23 rfl rfl rfl (by repeat constructor) (.s .z)) ?_
  refine GL.o rfl (S1.asI rfl) ?_
  refine GL.dn rfl ?_
  refine GW.toRet rfl ?_
  refine GQ.onR ?_
  refine GQ.toB ?_
  refine GQ.ret (nilS, [], 0, e45) (.cell rfl rfl (.s .z) (loadV_sc sc23 rfl) (.tmp rfl rfl .nil)) .more rfl ⟨.nil, Nat.zero_le _⟩ .nil
  refine GW.toSkip rfl ?_
  refine GQ.on ?_
  refine GW.toSeq rfl ?_
  refine GW.sr rfl rfl ?_
  refine GL.o rfl (S1.ld sc82 rfl (.at .z) rfl) ?_
  (exfalso; omega)
  refine GW.toRange (Y := Gr) (M := fun y => M87 x53 x45.lb qa qn qc pa pn pc al sh shn shc x45.av x45.un (R20 a1 a2 a4 x45.lb qa qn qc pa pn pc al y.v (x45.uE ++ y.E))) (R := fun y ex => ex = .normal ∧ NR 1 y.v y.E y.m y.l ∧ y.m ≤ 128) rfl rfl fo87 (fun k2 k3 d l h1' H1 => ?_) (fun d y ex hR => ?_)
  · generalize hlp : newLoop _ _ _ _ _ _ = lp0 at H1
    have H1' := H1.give (ps := M87 x53 x45.lb qa qn qc pa pn pc al sh shn shc x45.av x45.un ((l, .loop lp0) :: R20 a1 a2 a4 x45.lb qa qn qc pa pn pc al nilS (x45.uE ++ []))) (.cons (.s (.s .z)) (.cons (.s (.s (.s .z))) (.cons .z (.cons (.s .z) (.cons (.s (.sA .z)) (.cons (.s (.sA .z)) (.app (.ts .tzA) .nil)))))))
    refine WF.mono (ct87i (bx := x53) (l := l) (Y := Loop × Gr) (fun y => (l, .loop y.1) :: R20 a1 a2 a4 x45.lb qa qn qc pa pn pc al y.2.v (x45.uE ++ y.2.E)) (fun k y => y.1 = lp0 ∧ NR 1 y.2.v y.2.E y.2.m y.2.l ∧ y.2.m ≤ k) (fun _ => False) q45.u7 (fun n y h hn hy H => ?_) (lp0, ⟨nilS, [], 0, []⟩) ⟨rfl, .nil, Nat.zero_le _⟩ H1') fun o h2' q => ?_
    · obtain ⟨yl, y⟩ := y
      obtain ⟨e, nr, hm⟩ := hy
      dsimp only at e nr hm
      subst e
      subst hlp
      have hn7 : 2 ^ x45.un ≤ 2 ^ 7 := Nat.pow_le_pow_right (by decide) q45.u7
      refine Rt.go H (r := (.s (.s .z))) (by simp only [newLoop, Array.size_ofFn]) rfl (newLoop_f rfl) k2 ?_
      clear H1 H1'
      refine GW.toReg rfl ?_
      refine GL.o rfl (S1.asI rfl) ?_
      refine GL.done rfl ?_
      refine GQ.body (.s (.s .z)) rfl k3 ?_
      have hp4 := q45.ok.p4
      refine GW.toBlock rfl ?_
      refine GW.toDrw mx rfl ?_
      refine GD.o rfl (S1.ld sc23 rfl (.at (.s (.s (.s (.s .z))))) rfl) rfl ?_
      refine GD.o rfl (S1.ld sc82 rfl (.at (.s (.s (.s .z)))) rfl) rfl ?_
      refine GD.o rfl (S1.mvI rfl) rfl ?_
      refine GD.call rfl .no fo46 .nil (fun h H => ct46 (q45.mkH h1 h2 h4 H (.s (.s .z)) (show Take _ x45.uE _ from (.ts (.ts (.ts (.ts (.ts (.ts .tzA))))))))) (.d (.c (v := (.pointer _)) rfl (.c (v := (.int _ _)) rfl .n))) (fun x46 q46 => ?_)
      refine GD.call rfl .no fo54 .nil (fun h H => ct54 (H.get .z) (by omega) (by omega)) (.d (.c (v := (.slice _ _ _)) rfl .n)) (fun r54 _ => ?_)
      refine GD.opN rfl .no (SN.bs el23 ez23 (.c (v := (.int _ _)) rfl rfl .n) rfl rfl) rfl (fun a11 => ?_)
      refine GD.loudN rfl .no (SN.apN (new := [r54]) ap23_23 nr rfl (.row rfl (.at .z) rfl) (by decide) (by omega) (.ts (.ts (.ts (.ts (.ts (.ts (.ts (.ts (.skA .tz)))))))))) rfl rfl (by kernel_rfl) (fun a13 => ?_)
      refine GD.loud rfl .no (S1.st (u := (.slice _ _ _)) sc23 rfl rfl rfl (by repeat constructor) (.s (.s (.s (.s (.s (.s (.s .z)))))))) rfl rfl (by kernel_rfl) ?_
      refine GD.done rfl ?_
      refine GQ.outN ?_
      refine GQ.rN (true, _, ⟨rowS a13 (y.m + 1), [(a13, opRow (ints (y.l ++ [r54])) 1)], y.m + 1, y.l ++ [r54]⟩) (.s (.s (.s .z))) rfl ⟨rfl, nr.app (by decide) rfl, (by first | omega | (dsimp only; omega))⟩ (.cons (.s (.s (.s (.s .z)))) (.cons (.s (.s (.s (.s .z)))) (.cons .z (.cons (.s (.s (.s .z))) (.cons (.s (.s (.s .z))) (.cons (.s (.s (.s .z))) (.app (.ts (.ts (.ts .tzA))) (.cons .z .nil))))))))
    · cases o with
      | pan v => exact q.elim
      | ret v =>
        obtain ⟨y, rfl, hR, hP⟩ := q
        have H2 := H1.callT (ps := M87 x53 x45.lb qa qn qc pa pn pc al sh shn shc x45.av x45.un ((l, .loop lp0) :: R20 a1 a2 a4 x45.lb qa qn qc pa pn pc al nilS (x45.uE ++ []))) (.cons (.s (.s .z)) (.cons (.s (.s (.s .z))) (.cons .z (.cons (.s .z) (.cons (.s (.sA .z)) (.cons (.s (.sA .z)) (.app (.ts .tzA) .nil))))))) hP
        obtain ⟨yl, y⟩ := y
        rcases hR with ⟨e, nr, hm⟩ | e
        · dsimp only at e nr hm
          subst e
          dsimp only at H2
          have hn7 : 2 ^ x45.un ≤ 2 ^ 7 := Nat.pow_le_pow_right (by decide) q45.u7
          exact ⟨y, yl, .normal, by subst hlp; rfl, by subst hlp; simp [newLoop], ⟨rfl, nr, by omega⟩, H2.sub (.cons (.s (.s (.s .z))) .tz)⟩
        · exact e.elim
  · obtain ⟨rfl, nr, hm⟩ := hR
    obtain ⟨v, E, m, li⟩ := y
    dsimp only at nr hm ⊢
    cases nr with
    | nil =>
      refine GQ.outN ?_
      refine GQ.on ?_
      refine GW.sr rfl rfl ?_
      refine GL.o rfl (S1.ld sc23 rfl (.at (.s (.s (.s (.s .z))))) rfl) ?_
      refine GL.call rfl .no fo55 .nil (fun h H => ct55n) (.d (.c (v := (.slice _ _ _)) rfl .n)) (fun _ _ => ?_)
      refine GL.dn rfl ?_
      refine GW.sr rfl rfl ?_
      refine GL.o rfl (S1.ld sc23 rfl (.at (.s (.s (.s (.s .z))))) rfl) ?_
      refine GL.call rfl .no fo56 .nil (fun h H => ct56n) (.d (.c (v := (.slice _ _ _)) rfl .n)) (fun _ _ => ?_)
      refine GL.o rfl (S1.st (u := (.slice _ _ _)) sc23 rfl rfl rfl (by repeat constructor) (.s (.s (.s (.s .z))))) ?_
      refine GL.o rfl (S1.asI rfl) ?_
      refine GL.dn rfl ?_
      refine GW.toRet rfl ?_
      refine GQ.toC .z ?_
      refine GQ.ret (nilS, [], 0, 0) (.cell rfl rfl (.s (.s (.s .z))) (loadV_sc sc23 rfl) (.tmp rfl rfl .nil)) .more rfl ⟨.nil, Nat.zero_le _⟩ .nil
    | @row rb m l hm0 hl =>
      refine GQ.outN ?_
      refine GQ.on ?_
      refine GW.sr rfl rfl ?_
      refine GL.o rfl (S1.ld sc23 rfl (.at (.s (.s (.s (.s .z))))) rfl) ?_
      refine GL.call rfl .no fo55 (show Take _ [(rb, _)] _ from (.cons (.s (.s (.s (.s (.s (.s (.sA .z))))))) .nil)) (fun h H => ct55 (H.give (show Take _ [(rb, _)] _ from (.cons (.s (.s (.s (.s (.s (.s (.sA .z))))))) .nil))) (by omega) (by omega)) (.d (.c (v := (.slice _ _ _)) rfl .n)) (fun l55 s55 => ?_)
      refine GL.dn rfl ?_
      refine GW.sr rfl rfl ?_
      refine GL.o rfl (S1.ld sc23 rfl (.at (.s (.s (.s (.s (.s .z)))))) rfl) ?_
      refine GL.call rfl .no fo56 (show Take _ [(rb, _)] _ from (.cons .z .nil)) (fun h H => ct56 (H.give (show Take _ [(rb, _)] _ from (.cons .z .nil))) (.inr rfl) (Nat.le_refl _) (by have := s55.1; omega) (by have := s55.1; omega)) (.d (.c (v := (.slice _ _ _)) rfl .n)) (fun x56 q56 => ?_)
      refine GL.o rfl (S1.st (u := (.slice _ _ _)) sc23 rfl rfl rfl (by repeat constructor) (.s (.s (.s (.s (.s .z)))))) ?_
      refine GL.o rfl (S1.asI rfl) ?_
      refine GL.dn rfl ?_
      refine GW.toRet rfl ?_
      refine GQ.toC (.s .z) ?_
      refine GQ.ret (.slice (some ⟨rb, 0, none⟩) x56.1 m, [(rb, .cells (ints x56.2) (some 1) true)], x56.1, 0) (.cell rfl rfl (.s (.s (.s (.s .z)))) (loadV_sc sc23 rfl) (.tmp rfl rfl .nil)) .more rfl ⟨.row (by rw [ints_len, q56.2, s55.1, hl]; rfl) (by omega) (.inr rfl) (.ints (by simp [wy3])) q56.1, by have := q56.1; dsimp only; omega⟩ (.cons .z .nil)
end
end Go.Proofs.YtadgfnnkpddneaaGreat
namespace Go.Proofs.YtadgfnnkpddneaaGreat
open Go Go.E
set_option maxRecDepth 100000
set_option maxHeartbeats 4000000

section
variable {h h0 : EH} {hr : RO} {F : List Nat} {L L1 : Ents} {qa pa sh : Option Addr} {qn qc pn pc shn shc lb un b6 b7 : Nat} {al i bits : Int} {uv : Value} {uE : Ents} {ul : List Int}

theorem ct57 (S : ShOk hr h lb qa qn qc pa pn pc al sh shn shc un uv uE ul) (hb6 : h[b6]? = some (.cells [.pointer (some ⟨lb, 0, none⟩)] none true)) (hb7 : h[b7]? = some (.cells [.int .i64 i] none true)) (hi : 0 ≤ i) :
    Ct Tryz.prog 57 ⟨[.int .i64 bits, .pointer (some ⟨b6, 0, none⟩), .pointer (some ⟨b7, 0, none⟩)]⟩ h [] (fun r : Bool => .bool r) (fun _ => True) (fun _ => []) := by
  refine Ct.go Tryz.func57 rfl rfl co57 (Hp.start S.hR) ?_
  refine GW.sr rfl rfl ?_
  refine GL.o rfl (S1.asB rfl) ?_
  refine GL.dn rfl ?_
  refine GW.toSeq rfl ?_
  refine GW.toDrw mx rfl ?_
  refine GD.o rfl (S1.ld sc82 rfl (.old0 hb6) rfl) rfl ?_
  refine GD.o rfl (S1.mvI rfl) rfl ?_
  refine GD.call rfl .no fo47 .nil (fun h H => ct47 (S.mono H.ext)) (.d (.c (v := (.pointer _)) rfl (.c (v := (.int _ _)) rfl .n))) (fun r1 _ => ?_)
  refine GD.o rfl (S1.ld sc82 rfl (.old0 hb6) rfl) rfl ?_
  refine GD.o rfl (S1.mvI rfl) rfl ?_
  refine GD.o rfl (S1.ld sc3 rfl (.old0 hb7) rfl) rfl ?_
  refine GD.o rfl (S1.shl rfl rfl (by omega)) rfl ?_
  refine GD.o rfl (S1.bits rfl rfl rfl) rfl ?_
  refine GD.call rfl .no fo47 .nil (fun h H => ct47 (S.mono H.ext)) (.d (.c (v := (.pointer _)) rfl (.c (v := (.int _ _)) rfl .n))) (fun r2 _ => ?_)
  refine GD.o rfl (S1.neB (by kernel_rfl) rfl rfl) rfl ?_
  refine GD.o rfl (S1.asB rfl) rfl ?_
  refine GD.done rfl ?_
  refine GQ.on ?_
  refine GW.toRet rfl ?_
  refine GQ.ret _ (.tmp (v := (.bool _)) rfl rfl .nil) .one rfl ?_ .nil
  exact trivial

theorem SuOk.two {x : Su} (q : SuOk hr qa qn pn sh shn x) : (∃ lb, x = ⟨lb, none, [], 0, x.ul⟩) ∨ (∃ lb r un ul, x = ⟨lb, some ⟨r, 0, none⟩, [(r, opRow (ints ul) 2)], un, ul⟩ ∧ 0 < un ∧ ul.length = un * 2) := by
  obtain ⟨lb, av, uE, un, ul⟩ := x
  rcases q.u.two with ⟨e1, e2, e3⟩ | ⟨hm0, r, e2, e3, hl⟩
  · simp only at e1 e2 e3
    cases e2
    subst e3
    exact .inl ⟨lb, rfl⟩
  · simp only at hm0 e2 e3 hl
    cases e2
    subst e3
    exact .inr ⟨lb, r, un, ul, rfl, hm0, hl⟩

theorem ct23 (hR : ∀ b o, hr b = some o → h[b]? = some o) (h1 : Cell hr (.sl ly81) (.slice qa qn qc)) (h2 : Cell hr (.sl ly3) (.slice pa pn pc)) (h4 : Cell hr (.sl ly23) (.slice sh shn shc)) :
    Ct Tryz.prog 23 ⟨[.agg ⟨[.slice qa qn qc, .slice pa pn pc, .int .i64 al]⟩, .slice sh shn shc]⟩ h [] (fun x : Value × Ents × Nat × Int => .tuple ⟨[x.1, .int .i64 x.2.2.2]⟩) (fun x => OR wy59 x.1 x.2.1 x.2.2.1 ∧ x.2.2.1 ≤ 7) (fun x => x.2.1) := by
  refine Ct.go Tryz.func23 rfl rfl co23 (Hp.start hR) ?_
  refine GW.sr rfl rfl ?_
  refine GL.opN rfl .no (SN.bx (u := .agg ⟨_⟩) rfl .agg) (fun a1 => ?_)
  refine GL.o rfl (S1.asL rfl) ?_
  refine GL.o rfl (S1.asI rfl) ?_
  refine GL.dn rfl ?_
  refine GW.sr rfl rfl ?_
  refine GL.o rfl (S1.ldW ag25 rfl (.at .z) rfl) ?_
  refine GL.o rfl (S1.mvL rfl) ?_
  refine GL.call rfl .no fo45 .nil (fun h H => ct45' H.rom h1 h2 h4) (.d (.c (v := (.agg _)) rfl (.c (v := (.slice _ _ _)) rfl .n))) (fun x45 => match x45 with | .inl x45 => fun (q45 : SuOk hr qa qn pn sh shn x45) => ?_ | .inr e45 => fun (q45 : e45 ≠ 0) => ?_)
  refine GL.o rfl (S1.mvT rfl) ?_
  refine GL.o rfl (S1.ext (v := (.pointer _)) rfl rfl) ?_
  refine GL.o rfl (S1.ext (v := (.int _ _)) rfl rfl) ?_
  refine GL.opN rfl .no (SN.al zc82) (fun a3 => ?_)
  refine GL.o rfl (S1.st (u := (.pointer _)) sc82 rfl rfl rfl (by repeat constructor) .z) ?_
  refine GL.o rfl (S1.asI rfl) ?_
  refine GL.dn rfl ?_
  refine GW.toSeq rfl ?_
  refine GW.sr rfl rfl ?_
  refine GL.o rfl (S1.mvI rfl) ?_
  refine GL.o rfl (S1.neq rfl rfl) ?_
  refine GL.dn rfl ?_
  refine GW.toF rfl rfl ?_
  refine GW.toSkip rfl ?_
  refine GQ.on ?_
  refine GW.toSeq rfl ?_
  refine GW.sr rfl rfl ?_
  refine GL.o rfl (S1.ld sc82 rfl (.at .z) rfl) ?_
  refine GL.o rfl (S1.nc rfl) ?_
  refine GL.o rfl (S1.fa fa86_2 rfl) ?_
  refine GL.o rfl (S1.ld sc52 rfl (.at (.s .z)) rfl) ?_
  refine GL.o rfl (S1.len el52 rfl) ?_
  refine GL.o rfl (S1.mvI rfl) ?_
  refine GL.dn rfl ?_
  refine GW.toBlock rfl ?_
  rotate_left
  refine GL.o rfl (S1.mvT rfl) ?_
  refine GL.o rfl (S1.ext (v := (.pointer _)) rfl rfl) ?_
  refine GL.o rfl (S1.ext (v := (.int _ _)) rfl rfl) ?_
  refine GL.opN rfl .no (SN.al zc82) (fun a4 => ?_)
  refine GL.o rfl (S1.st (u := (.pointer _)) sc82 rfl rfl rfl (by repeat constructor) .z) ?_
  refine GL.o rfl (S1.asI rfl) ?_
  refine GL.dn rfl ?_
  refine GW.toSeq rfl ?_
  refine GW.sr rfl rfl ?_
  refine GL.o rfl (S1.mvI rfl) ?_
  refine GL.o rfl (S1.neq rfl rfl) ?_
  refine GL.dn rfl ?_
  refine GW.toD rfl rfl (fun w5 => ?_) (fun w5 => ?_)
  refine GW.sr rfl rfl ?_
  refine GL.o rfl (S1.mvI rfl) ?_
  refine GL.o rfl (S1.asL rfl) ?_
  refine GL.o rfl (S1.asI rfl) ?_
  refine GL.dn rfl ?_
  refine GW.toRet rfl ?_
  refine GQ.onR ?_
  refine GQ.ret (nilS, [], 0, e45) (.tmp rfl rfl (.tmp rfl rfl .nil)) .more rfl ⟨.nil, Nat.zero_le _⟩ .nil
  refine GW.toSkip rfl ?_
  refine GQ.on ?_
  refine GW.toSeq rfl ?_
  refine GW.sr rfl rfl ?_
  refine GL.o rfl (S1.ld sc82 rfl (.at .z) rfl) ?_
  (exfalso; omega)
  rcases q45.two with ⟨lb, e⟩ | ⟨lb, r, un, ul, e, hun, hul⟩
  · generalize x45.ul = ul0 at e
    subst e
    refine GW.toLoop (X := Unit) (fun _ => [(4, nilS), (25, .int .i64 0), (26, .int .i64 0)]) (fun _ => []) (fun _ => True) (fun _ => 0) rfl () trivial (.c rfl (.c rfl (.c rfl .n))) .nil ?_
    rintro ⟨⟩ f _
    refine GW.sr rfl rfl ?_
    refine GL.o rfl (S1.lss rfl rfl) ?_
    refine GL.dn rfl ?_
    refine GW.toSeq rfl ?_
    refine GW.toF rfl rfl ?_
    refine GW.toExit rfl ?_
    refine GQ.onE ?_
    refine GQ.onE ?_
    refine GQ.outH ?_
    refine GQ.on ?_
    refine GW.sr rfl rfl ?_
    refine GL.o rfl (S1.mvL rfl) ?_
    refine GL.o rfl (S1.asL rfl) ?_
    refine GL.o rfl (S1.asI rfl) ?_
    refine GL.dn rfl ?_
    refine GW.toRet rfl ?_
    refine GQ.ret (nilS, [], 0, 0) (.tmp rfl rfl (.tmp rfl rfl .nil)) .more rfl ⟨.nil, Nat.zero_le _⟩ .nil
  · subst e
    refine GW.toLoop (X := Nat × Gr) (fun x => [(4, x.2.v), (6, .pointer (some ⟨a3, 0, none⟩)), (24, .slice (some ⟨r, 0, none⟩) un un), (25, .int .i64 un), (26, .int .i64 x.1)]) (fun x => (a3, .cells [.pointer (some ⟨lb, 0, none⟩)] none true) :: (lb, .cells (ShC qa qn qc pa pn pc al sh shn shc (.slice (some ⟨r, 0, none⟩) un un)) none true) :: (r, opRow (ints ul) 2) :: x.2.E) (fun x => x.1 ≤ un ∧ NR 2 x.2.v x.2.E x.2.m x.2.l ∧ x.2.m ≤ x.1) (fun x => un - x.1) rfl (0, ⟨nilS, [], 0, []⟩) ⟨Nat.zero_le _, .nil, Nat.zero_le _⟩ (.c rfl (.c rfl (.c rfl (.c rfl (.c rfl .n))))) (.cons .z (.cons .z (.cons .z .nil))) ?_
    rintro x f ⟨hx, nr, hm⟩
    have hu7 : un ≤ 7 := q45.u7
    refine GW.sr rfl rfl ?_
    refine GL.o rfl (S1.lss rfl rfl) ?_
    refine GL.dn rfl ?_
    refine GW.toSeq rfl ?_
    refine GW.toD rfl rfl (fun w6 => ?_) (fun w6 => ?_)
    refine GW.toSkip rfl ?_
    refine GQ.on ?_
    refine GW.toSeq rfl ?_
    refine GW.toBlock rfl ?_
    refine GW.sr rfl rfl ?_
    refine GL.o rfl (S1.mvI rfl) ?_
    refine GL.o rfl (S1.ixN el52 rfl rfl (by omega)) ?_
    refine GL.o rfl (S1.ldP2 ag59 rfl (.at (.s (.s .z))) (by omega)) ?_
    refine GL.opN rfl .no (SN.al zc3) (fun a7 => ?_)
    refine GL.opN rfl .no (SN.al zc59) (fun a8 => ?_)
    refine GL.o rfl (S1.st (u := (.int _ _)) sc3 rfl rfl rfl (by repeat constructor) (.s .z)) ?_
    refine GL.o rfl (S1.stA ag59 rfl rfl rfl rfl (by repeat constructor) .z) ?_
    refine GL.dn rfl ?_
    refine GW.sr rfl rfl ?_
    refine GL.o rfl (S1.mf .n (.c (v := (.pointer _)) rfl (.c (v := (.pointer _)) rfl .n))) ?_
    refine GL.o rfl (S1.asF rfl) ?_
    refine GL.dn rfl ?_
    refine GW.sr rfl rfl ?_
    refine GL.o rfl (S1.ld sc82 rfl (.at (.s (.s .z))) rfl) ?_
    refine GL.call rfl .no fo53 .nil (fun h H => ct53) (.d (.c (v := (.pointer _)) rfl .n)) (fun x53 _ => ?_)
    refine GL.o rfl (S1.mvF rfl) ?_
    refine GL.call rfl .no fo52 (show Take _ (M87 x53 lb qa qn qc pa pn pc al sh shn shc (some ⟨r, 0, none⟩) un ((a3, .cells [.pointer (some ⟨lb, 0, none⟩)] none true) :: (a7, .cells [.int .i64 (x.1 : Int)] none true) :: [(r, opRow (ints ul) 2)])) _ from (.cons .z (.cons (.s (.s (.s .z))) (.cons (.s (.s .z)) (.cons (.s .z) (.cons (.s .z) .nil)))))) (fun h H => ct52 (g := 57) (fs := []) (cs := [.pointer (some ⟨a3, 0, none⟩), .pointer (some ⟨a7, 0, none⟩)]) fo57 q45.u7 (fun n h' hr' hL => ct57 (q45.mkSh h1 h2 h4 hr' (hL _ (.tail _ (.head _))) (fun e he => hL e (.tail _ (.tail _ (.tail _ (.tail _ he)))))) (hL _ (.tail _ (.tail _ (.head _)))) (hL _ (.tail _ (.tail _ (.tail _ (.head _))))) (by omega)) (H.give (show Take _ (M87 x53 lb qa qn qc pa pn pc al sh shn shc (some ⟨r, 0, none⟩) un ((a3, .cells [.pointer (some ⟨lb, 0, none⟩)] none true) :: (a7, .cells [.int .i64 (x.1 : Int)] none true) :: [(r, opRow (ints ul) 2)])) _ from (.cons .z (.cons (.s (.s (.s .z))) (.cons (.s (.s .z)) (.cons (.s .z) (.cons (.s .z) .nil)))))))) (.d (.c (v := (.func _ _ _)) rfl (.c (v := (.func _ _ _)) rfl .n))) (fun x52 _ => ?_)
    refine GL.o rfl (S1.mvT rfl) ?_
    refine GL.o rfl (S1.ext (v := (.bool _)) rfl rfl) ?_
    refine GL.o rfl (S1.ext (v := (.bool _)) rfl rfl) ?_
    refine GL.o rfl (S1.asB rfl) ?_
    refine GL.o rfl (S1.asB rfl) ?_
    refine GL.dn rfl ?_
    refine GW.sr rfl rfl ?_
    refine GL.o rfl (S1.mvB rfl) ?_
    refine GL.dn rfl ?_
    refine GW.toC rfl rfl (fun w11 => ?_) (fun w11 => ?_)
    refine GW.toReg rfl ?_
    refine GL.o rfl (S1.mv (v := (x.snd.1)) rfl) ?_
    refine GL.o rfl (S1.ldW ag59 rfl (.at (.s (.s (.s (.s (.s .z)))))) rfl) ?_
    refine GL.opN rfl .no (SN.bs1 el52 ez52 rfl rfl rfl) (fun a13 => ?_)
    refine GL.opN rfl .no (SN.apN (new := [ul.getD (0 + x.fst * 2) 0, ul.getD (0 + x.fst * 2 + 1) 0]) ap52_52 nr rfl (.row rfl (.at .z) rfl) (by decide) (by omega) (.ts (.ts (.ts (.ts (.ts (.ts (.ts .tz)))))))) (fun a15 => ?_)
    refine GL.o rfl (S1.asL rfl) ?_
    refine GL.done rfl ?_
    refine GQ.outN ?_
    refine GQ.on ?_
    refine GW.toReg rfl ?_
    refine GL.o rfl (S1.inc rfl rfl (by omega)) ?_
    refine GL.o rfl (S1.mvI rfl) ?_
    refine GL.done rfl ?_
    refine GQ.nextT (x.1 + 1, ⟨rowS a15 (x.2.m + 1), [(a15, opRow (ints (x.2.l ++ [ul.getD (0 + x.1 * 2) 0, ul.getD (0 + x.1 * 2 + 1) 0])) 2)], x.2.m + 1, x.2.l ++ [ul.getD (0 + x.1 * 2) 0, ul.getD (0 + x.1 * 2 + 1) 0]⟩) (.c rfl (.c rfl (.c rfl (.c rfl (.c rfl .n))))) (.cons (.s (.s (.s (.s .z)))) (.cons (.s (.s (.s .z))) (.cons (.s (.s (.s (.s .z)))) (.cons .z .nil)))) ⟨(by first | omega | (dsimp only; omega)), nr.app (by decide) rfl, (by first | omega | (dsimp only; omega))⟩ (by first | omega | (dsimp only; omega))
    refine GW.toSkip rfl ?_
    refine GQ.outN ?_
    refine GQ.on ?_
    refine GW.toReg rfl ?_
    refine GL.o rfl (S1.inc rfl rfl (by omega)) ?_
    refine GL.o rfl (S1.mvI rfl) ?_
    refine GL.done rfl ?_
    refine GQ.nextT (x.1 + 1, x.2) (.c rfl (.c rfl (.c rfl (.c rfl (.c rfl .n))))) (.cons (.s (.s .z)) (.cons (.s .z) (.cons (.s (.s .z)) (.ts (.ts (.ts .tz)))))) ⟨(by first | omega | (dsimp only; omega)), nr, (by first | omega | (dsimp only; omega))⟩ (by first | omega | (dsimp only; omega))
    refine GW.toExit rfl ?_
    refine GQ.onE ?_
    refine GQ.onE ?_
    refine GQ.outH ?_
    refine GQ.on ?_
    refine GW.sr rfl rfl ?_
    refine GL.o rfl (S1.mv (v := (x.snd.1)) rfl) ?_
    refine GL.o rfl (S1.as (v := (x.snd.1)) rfl) ?_
    refine GL.o rfl (S1.asI rfl) ?_
    refine GL.dn rfl ?_
    refine GW.toRet rfl ?_
    refine GQ.ret (x.2.v, x.2.E, x.2.m, 0) (.tmp rfl rfl (.tmp rfl rfl .nil)) .more rfl ⟨nr.or rfl (by simp [wy59]) (by omega), by dsimp only; omega⟩ (.ts (.ts (.ts .tz)))
end
end Go.Proofs.YtadgfnnkpddneaaGreat
namespace Go.Proofs.YtadgfnnkpddneaaGreat
open Go Go.E
set_option maxRecDepth 100000
set_option maxHeartbeats 4000000

section
variable {h h0 : EH} {hr : RO} {qa pa : Option Addr} {qn qc pn pc rb n q : Nat} {al x : Int} {l : List Int}

theorem ct66 (hR : ∀ b o, hr b = some o → h[b]? = some o) (h1 : Cell hr (.sl ly81) (.slice qa qn qc)) (hn : 0 < qn) :
    Ct Tryz.prog 66 ⟨[.slice qa qn qc]⟩ h [] (fun x : Nat × List Int => rowS x.1 qn) (fun x => x.2.length = qn * 5) (fun x => [(x.1, opRow (ints x.2) 5)]) := by
  have hl1 := h1.le
  refine Ct.go Tryz.func66 rfl rfl co66 (Hp.start hR) ?_
  obtain ⟨q1, q2, q3⟩ := h1.romV rfl rfl (by decide)
  obtain ⟨l, hl, hll⟩ := q2.toInts (by simp [ly81]) q1 (by decide)
  obtain ⟨ad, rfl⟩ : ∃ ad, qa = some ad := ⟨_, (h1.hit hn).1⟩
  refine GW.sr rfl rfl ?_
  refine GL.o rfl (S1.asL rfl) ?_
  refine GL.dn rfl ?_
  refine GW.toSeq rfl ?_
  refine GW.sr rfl rfl ?_
  refine GL.o rfl (S1.mvL rfl) ?_
  refine GL.o rfl (S1.bin (v := .bool false) (by kernel_rfl)) ?_
  refine GL.dn rfl ?_
  refine GW.toF rfl rfl ?_
  refine GW.toSkip rfl ?_
  refine GQ.on ?_
  refine GW.sr rfl rfl ?_
  refine GL.opN rfl .no (SN.bs0 el22 ez22) (fun a1 => ?_)
  refine GL.o rfl (S1.mvL rfl) ?_
  refine GL.opN rfl .no (SN.apC ap22_22 rfl (Src.cell rfl h1 rfl hl) (by omega) (by omega) (.at .z) rfl) (fun a9 => ?_)
  simp only [Nat.zero_add, List.nil_append]
  refine GL.o rfl (S1.asL rfl) ?_
  refine GL.dn rfl ?_
  refine GW.toRet rfl ?_
  refine GQ.ret (a9, l) (.tmp (v := (.slice _ _ _)) rfl rfl .nil) .one ?_ ?_ (.cons .z .nil)
  rfl
  assumption

theorem ct67 (hR : ∀ b o, hr b = some o → h[b]? = some o) (h1 : Cell hr (.sl ly3) (.slice pa pn pc)) (hn : 0 < pn) :
    Ct Tryz.prog 67 ⟨[.slice pa pn pc]⟩ h [] (fun x : Nat × List Int => rowS x.1 pn) (fun x => x.2.length = pn * 1) (fun x => [(x.1, opRow (ints x.2) 1)]) := by
  have hl1 := h1.le
  refine Ct.go Tryz.func67 rfl rfl co67 (Hp.start hR) ?_
  obtain ⟨q1, q2, q3⟩ := h1.romV rfl rfl (by decide)
  obtain ⟨l, hl, hll⟩ := q2.toInts (by simp [ly3]) q1 (by decide)
  obtain ⟨ad, rfl⟩ : ∃ ad, pa = some ad := ⟨_, (h1.hit hn).1⟩
  refine GW.sr rfl rfl ?_
  refine GL.o rfl (S1.asL rfl) ?_
  refine GL.dn rfl ?_
  refine GW.toSeq rfl ?_
  refine GW.sr rfl rfl ?_
  refine GL.o rfl (S1.mvL rfl) ?_
  refine GL.o rfl (S1.bin (v := .bool false) (by kernel_rfl)) ?_
  refine GL.dn rfl ?_
  refine GW.toF rfl rfl ?_
  refine GW.toSkip rfl ?_
  refine GQ.on ?_
  refine GW.sr rfl rfl ?_
  refine GL.opN rfl .no (SN.bs0 el23 ez23) (fun a1 => ?_)
  refine GL.o rfl (S1.mvL rfl) ?_
  refine GL.opN rfl .no (SN.apC ap23_23 rfl (Src.cell rfl h1 rfl hl) (by omega) (by omega) (.at .z) rfl) (fun a9 => ?_)
  simp only [Nat.zero_add, List.nil_append]
  refine GL.o rfl (S1.asL rfl) ?_
  refine GL.dn rfl ?_
  refine GW.toRet rfl ?_
  refine GQ.ret (a9, l) (.tmp (v := (.slice _ _ _)) rfl rfl .nil) .one ?_ ?_ (.cons .z .nil)
  rfl
  assumption

theorem ct65 (H : Hp hr h [rb] [(rb, opRow (ints l) 5)] h) (hl : l.length = n * 5) (hn : n ≤ 1073741824) (hq : q < n) :
    Ct Tryz.prog 65 ⟨[rowS rb n, .int .i64 q, .int .i64 ((q + 1 : Nat) : Int)]⟩ h [rb] (fun _ : List Int => .slice (some ⟨rb, 0, none⟩) (n - 1) n) (fun l' => l'.length = n * 5) (fun l' => [(rb, opRow (ints l') 5)]) := by
  refine Ct.go Tryz.func65 rfl rfl co65 H ?_
  refine GW.sr rfl rfl ?_
  refine GL.o rfl (S1.asL rfl) ?_
  refine GL.dn rfl ?_
  refine GW.sr rfl rfl ?_
  refine GL.o rfl (S1.mvL rfl) ?_
  refine GL.o rfl (S1.mvI rfl) ?_
  refine GL.o rfl (S1.mvI rfl) ?_
  refine GL.o rfl (S1.mvL rfl) ?_
  refine GL.o rfl (S1.len el22 rfl) ?_
  refine GL.o rfl (S1.cut3 el22 (.at .z) (by first | assumption | exact .inl rfl | exact .inr rfl) rfl (.at rfl) (.at rfl) rfl (.at rfl) (by omega) (by omega) (by omega)) ?_
  refine GL.dn rfl ?_
  refine GW.toSeq rfl ?_
  refine GW.sr rfl rfl ?_
  refine GL.o rfl (S1.mvI rfl) ?_
  refine GL.o rfl (S1.mvI rfl) ?_
  refine GL.o rfl (S1.eql rfl rfl) ?_
  refine GL.dn rfl ?_
  refine GW.toD rfl rfl (fun w1 => ?_) (fun w1 => ?_)
  refine GW.sr rfl rfl ?_
  refine GL.o rfl (S1.mvL rfl) ?_
  refine GL.o rfl (S1.asL rfl) ?_
  refine GL.dn rfl ?_
  refine GW.toRet rfl ?_
  refine GQ.onR ?_
  (exfalso; omega)
  refine GW.toSkip rfl ?_
  refine GQ.on ?_
  refine GW.sr rfl rfl ?_
  refine GL.o rfl (S1.mvL rfl) ?_
  refine GL.o rfl (S1.len el22 rfl) ?_
  refine GL.o rfl (S1.asI rfl) ?_
  refine GL.dn rfl ?_
  refine GW.toSeq rfl ?_
  refine GW.toDrw mx rfl ?_
  refine GD.o rfl (S1.mvL rfl) rfl ?_
  refine GD.o rfl (S1.mvI rfl) rfl ?_
  refine GD.o rfl (S1.cutG el22 (.at .z) (by first | assumption | exact .inl rfl | exact .inr rfl) rfl .no (.at rfl) (by omega) (by omega) (by omega) (by omega)) rfl ?_
  refine GD.o rfl (S1.mvL rfl) rfl ?_
  refine GD.o rfl (S1.mvI rfl) rfl ?_
  refine GD.o rfl (S1.cutR el22 (.at .z) rfl (.at rfl) .no (by omega) (by omega) (by omega)) rfl ?_
  refine GD.loud rfl .no (S1.apI (k := n - (q + 1)) (new := (l.drop (0 + (q + 1) * 5)).take ((n - (q + 1)) * 5)) ap22_22 rfl (src_part rfl (.at .z) (by omega)) rfl (by simp only [List.length_take, List.length_drop]; omega) (by omega) (by omega) .z) rfl rfl (by kernel_rfl) ?_
  have hsl := splI_len (l := l) (o := 0 + (q - 0) * 5) (new := (l.drop (0 + (q + 1) * 5)).take ((n - (q + 1)) * 5)) (by simp only [List.length_take, List.length_drop]; omega)
  generalize splI l _ _ = l2 at hsl ⊢
  have hc : q - 0 + (n - (q + 1)) = n - 1 := by omega
  refine GD.o rfl (S1.asL rfl) rfl ?_
  refine GD.done rfl ?_
  refine GQ.on ?_
  refine GW.sr rfl rfl ?_
  refine GL.o rfl (S1.mvL rfl) ?_
  refine GL.o rfl (S1.mvL rfl) ?_
  refine GL.o rfl (S1.len el22 rfl) ?_
  refine GL.o rfl (S1.mvI rfl) ?_
  refine GL.o rfl (S1.cutG el22 (.at .z) (by first | assumption | exact .inl rfl | exact .inr rfl) rfl (.at rfl) (.at rfl) (by omega) (by omega) (by omega) (by omega)) ?_
  refine GL.o rfl (S1.clrI el22 (by kernel_rfl) (by decide) rfl (by omega) .z) ?_
  refine GL.dn rfl ?_
  refine GW.sr rfl rfl ?_
  refine GL.o rfl (S1.mvL rfl) ?_
  refine GL.o rfl (S1.asL rfl) ?_
  refine GL.dn rfl ?_
  refine GW.toRet rfl ?_
  refine GQ.retT (splI l2 (0 + 0 * 5 + (q - 0 + (n - (q + 1))) * 5) (List.replicate ((n - (q - 0 + (n - (q + 1)))) * 5) 0)) (.tmp (v := .slice (some ⟨rb, 0, none⟩) (q - 0 + (n - (q + 1))) n) rfl rfl .nil) .one (by rw [hc]) (.cons .z .nil) ((splI_len (by simp only [List.length_replicate]; omega)).trans (hsl.trans hl))

structure Sk where
  v1 : Value
  E1 : Ents
  m1 : Nat
  v2 : Value
  E2 : Ents
  m2 : Nat
  al : Int
  e : Int

theorem ct31 (hR : ∀ b o, hr b = some o → h[b]? = some o) (h1 : Cell hr (.sl ly81) (.slice qa qn qc)) (h2 : Cell hr (.sl ly3) (.slice pa pn pc)) :
    Ct Tryz.prog 31 ⟨[.agg ⟨[.slice qa qn qc, .slice pa pn pc, .int .i64 al]⟩, .int .i64 x]⟩ h [] (fun x : Sk => .tuple ⟨[.agg ⟨[x.v1, x.v2, .int .i64 x.al]⟩, .int .i64 x.e]⟩) (fun x => OR wy81 x.v1 x.E1 x.m1 ∧ OR wy3 x.v2 x.E2 x.m2 ∧ x.m1 ≤ 12 ∧ x.m2 ≤ 4) (fun x => x.E1 ++ x.E2) := by
  have hl1 := h1.le
  have hl2 := h2.le
  refine Ct.go Tryz.func31 rfl rfl co31 (Hp.start hR) ?_
  obtain ⟨q, hq⟩ : ∃ q : Nat, 0 ≤ x → x = (q : Int) := ⟨x.toNat, by omega⟩
  by_cases hx0 : 0 ≤ x ∧ x < qn
  · obtain rfl := hq hx0.1
    have hqn : q < qn := by omega
    refine GW.sr rfl rfl ?_
    refine GL.opN rfl .no (SN.bx (u := .agg ⟨_⟩) rfl .agg) (fun a1 => ?_)
    refine GL.opN rfl .no (SN.al zc25) (fun a2 => ?_)
    refine GL.o rfl (S1.asI rfl) ?_
    refine GL.dn rfl ?_
    refine GW.toSeq rfl ?_
    refine GW.sr rfl rfl ?_
    refine GL.o rfl (S1.ldW ag25 rfl (.at (.s .z)) rfl) ?_
    refine GL.call rfl .no fo7 .nil (fun h H => ct7 H.rom h1 h2) (.d (.c (v := (.agg _)) rfl .n)) (fun e7 q7 => (fun (hk : e7.2.2 = 0 → 1 ≤ qn ∧ qn ≤ 12 ∧ 1 ≤ pn ∧ pn ≤ 4 ∧ (q < qn → 0 ≤ iv (el hr qa (q * 5)) ∧ iv (el hr qa (q * 5)) < pn)) => ?_) (fun h0 => ⟨(q7 h0).q1, (q7 h0).q12, (q7 h0).p1, (q7 h0).p4, fun hq => ⟨((q7 h0).qs q hq).1, ((q7 h0).qs q hq).2.1⟩⟩))
    refine GL.o rfl (S1.mvT rfl) ?_
    refine GL.o rfl (S1.ext (v := (.int _ _)) rfl rfl) ?_
    refine GL.o rfl (S1.ext (v := (.int _ _)) rfl rfl) ?_
    refine GL.o rfl (S1.ext (v := (.int _ _)) rfl rfl) ?_
    refine GL.o rfl (S1.asI rfl) ?_
    refine GL.o rfl (S1.asI rfl) ?_
    refine GL.o rfl (S1.asI rfl) ?_
    refine GL.dn rfl ?_
    refine GW.sr rfl rfl ?_
    refine GL.o rfl (S1.mvI rfl) ?_
    refine GL.o rfl (S1.neq rfl rfl) ?_
    refine GL.dn rfl ?_
    refine GW.toD rfl rfl (fun w4 => ?_) (fun w4 => ?_)
    refine GW.sr rfl rfl ?_
    refine GL.o rfl (S1.bu zc25 bo25 .n) ?_
    refine GL.o rfl (S1.mvI rfl) ?_
    refine GL.o rfl (S1.stA ag25 rfl rfl rfl rfl (by repeat constructor) .z) ?_
    refine GL.o rfl (S1.asI rfl) ?_
    refine GL.dn rfl ?_
    refine GW.toRet rfl ?_
    refine GQ.onR ?_
    refine GQ.ret ⟨nilS, [], 0, nilS, [], 0, 0, _⟩ (.cell rfl rfl .z (loadV_W ag25 rfl) (.tmp rfl rfl .nil)) .more rfl ⟨.nil, .nil, Nat.zero_le _, Nat.zero_le _⟩ .nil
    refine GW.toSkip rfl ?_
    refine GQ.on ?_
    refine GW.toSeq rfl ?_
    refine GW.toBlock rfl ?_
    refine GW.sr rfl rfl ?_
    refine GL.o rfl (S1.fa fa25_0 rfl) ?_
    refine GL.o rfl (S1.ld sc22 rfl (.at (.s .z)) rfl) ?_
    refine GL.o rfl (S1.len el22 rfl) ?_
    refine GL.o rfl (S1.dec1 rfl rfl (by omega) (by omega)) ?_
    refine GL.o rfl (S1.mvI rfl) ?_
    refine GL.opN rfl .no (SN.bs el23 ez23 (.c (v := (.int _ _)) rfl rfl .n) rfl rfl) (fun a5 => ?_)
    refine GL.call rfl .no fo44 .nil (fun h H => ct44_1 (H.get .z)) (.d (.c (v := (.int _ _)) rfl (.c (v := (.int _ _)) rfl (.c (v := (.slice _ _ _)) rfl .n)))) (fun r44 _ => ?_)
    refine GL.o rfl (S1.asB rfl) ?_
    refine GL.dn rfl ?_
    refine GW.toC rfl rfl (fun w8 => ?_) (fun w8 => ?_)
    refine GW.sr rfl rfl ?_
    refine GL.o rfl (S1.bu zc25 bo25 .n) ?_
    refine GL.o rfl (S1.stA ag25 rfl rfl rfl rfl (by repeat constructor) (.s .z)) ?_
    refine GL.o rfl (S1.asI rfl) ?_
    refine GL.dn rfl ?_
    refine GW.toRet rfl ?_
    refine GQ.outR ?_
    refine GQ.onR ?_
    refine GQ.ret ⟨nilS, [], 0, nilS, [], 0, 0, _⟩ (.cell rfl rfl (.s .z) (loadV_W ag25 rfl) (.tmp rfl rfl .nil)) .more rfl ⟨.nil, .nil, Nat.zero_le _, Nat.zero_le _⟩ .nil
    refine GW.sr rfl rfl ?_
    refine GL.o rfl (S1.fa fa25_0 rfl) ?_
    refine GL.o rfl (S1.ld sc22 rfl (.at (.s (.s .z))) rfl) ?_
    refine GL.o rfl (S1.len el22 rfl) ?_
    refine GL.o rfl (S1.eql rfl rfl) ?_
    refine GL.o rfl (S1.asB rfl) ?_
    refine GL.dn rfl ?_
    refine GW.toD rfl rfl (fun w9 => ?_) (fun w9 => ?_)
    refine GW.sr rfl rfl ?_
    refine GL.o rfl (S1.bu zc25 bo25 .n) ?_
    refine GL.o rfl (S1.stA ag25 rfl rfl rfl rfl (by repeat constructor) (.s .z)) ?_
    refine GL.o rfl (S1.asI rfl) ?_
    refine GL.dn rfl ?_
    refine GW.toRet rfl ?_
    refine GQ.outR ?_
    refine GQ.onR ?_
    refine GQ.ret ⟨nilS, [], 0, nilS, [], 0, 0, _⟩ (.cell rfl rfl (.s .z) (loadV_W ag25 rfl) (.tmp rfl rfl .nil)) .more rfl ⟨.nil, .nil, Nat.zero_le _, Nat.zero_le _⟩ .nil
    refine GW.toSkip rfl ?_
    refine GQ.outN ?_
    refine GQ.on ?_
    refine GW.sr rfl rfl ?_
    refine GL.o rfl (S1.fa fa25_0 rfl) ?_
    refine GL.o rfl (S1.ld sc22 rfl (.at (.s (.s .z))) rfl) ?_
    refine GL.o rfl (S1.mvI rfl) ?_
    refine GL.o rfl (S1.ixR el22 h1 rfl rfl (by omega)) ?_
    refine GL.o rfl (S1.ldE ag81 h1 rfl (m := q) (by omega) rfl le81) ?_
    refine GL.opN rfl .no (SN.al zc81) (fun a10 => ?_)
    refine GL.o rfl (S1.stA ag81 rfl rfl rfl rfl (by repeat constructor) .z) ?_
    refine GL.dn rfl ?_
    refine GW.toSeq rfl ?_
    refine GW.toDrwK [a1] mx rfl (by kernel_rfl) ?_
    refine GE.one rfl .no (S1.fa fa25_0 rfl) rfl (.f (by kernel_rfl)) ?_
    refine GE.one rfl .no (S1.ld sc22 rfl (.at (.s (.s (.s .z)))) rfl) rfl (.f (by kernel_rfl)) ?_
    refine GE.call rfl .no fo66 (.inr (by simp)) .nil (fun h H => ct66 H.rom h1 (by omega)) (.d (.c (v := (.slice _ _ _)) rfl .n)) (fun x66 q66 => ?_)
    refine GE.one rfl .no (S1.mvI rfl) rfl (.f (by kernel_rfl)) ?_
    refine GE.one rfl .no (S1.mvI rfl) rfl (.f (by kernel_rfl)) ?_
    refine GE.one rfl .no (S1.inc rfl rfl (by omega)) rfl (.f (by kernel_rfl)) ?_
    refine GE.call rfl .no fo65 (.inr (fun _ H => H.wk (show Take _ [(x66.1, opRow (ints x66.2) 5)] _ from (.cons .z .nil)) (.c (.s (.s (.s .z))) .n))) (show Take _ [(x66.1, opRow (ints x66.2) 5)] _ from (.cons .z .nil)) (fun h H => ct65 (H.give (show Take _ [(x66.1, opRow (ints x66.2) 5)] _ from (.cons .z .nil))) q66 (by omega) (by omega)) (.d (.c (v := (.slice _ _ _)) rfl (.c (v := (.int _ _)) rfl (.c (v := (.int _ _)) rfl .n)))) (fun l65 q65 => ?_)
    refine GE.one rfl .no (S1.fa fa25_1 rfl) rfl (.f (by kernel_rfl)) ?_
    refine GE.one rfl .no (S1.ld sc23 rfl (.at (.s (.s (.s (.s .z))))) rfl) rfl (.b rfl (fun _ _ => by first | exact NoK.k (by simp))) ?_
    refine GE.call rfl .no fo67 (.inl (by kernel_rfl)) .nil (fun h H => ct67 H.rom h2 (by omega)) (.d (.c (v := (.slice _ _ _)) rfl .n)) (fun x67 q67 => ?_)
    refine GE.one rfl .no (S1.fa fa25_0 rfl) rfl (.f (by kernel_rfl)) ?_
    refine GE.loud rfl .no (S1.st (u := (.slice _ _ _)) sc22 rfl rfl rfl (by repeat constructor) (.s (.s (.s (.s (.s .z)))))) rfl rfl (.f (by kernel_rfl)) ?_
    refine GE.one rfl .no (S1.fa fa25_1 rfl) rfl (.f (by kernel_rfl)) ?_
    refine GE.loud rfl .no (S1.st (u := (.slice _ _ _)) sc23 rfl rfl rfl (by repeat constructor) (.s (.s (.s (.s (.s .z)))))) rfl rfl (.f (by kernel_rfl)) ?_
    refine GE.done rfl ?_
    refine GQ.on ?_
    refine GW.toSeq rfl ?_
    refine GW.toDrw mx rfl ?_
    refine GD.o rfl (S1.fa fa25_1 rfl) rfl ?_
    refine GD.o rfl (S1.ld sc23 rfl (.at (.s (.s (.s (.s (.s .z)))))) rfl) rfl ?_
    refine GD.o rfl (S1.fa fa81_0 rfl) rfl ?_
    refine GD.o rfl (S1.ld sc3 rfl (.at (.s (.s .z))) rfl) rfl ?_
    refine GD.o rfl (S1.ix el23 rfl rfl (by omega) (by omega)) rfl ?_
    refine GD.o rfl (S1.ldI sc3 rfl (.at .z) (by omega)) rfl ?_
    refine GD.o rfl (S1.fa fa81_3 rfl) rfl ?_
    refine GD.o rfl (S1.ld sc3 rfl (.at (.s (.s .z))) rfl) rfl ?_
    refine GD.o rfl (S1.sub rfl rfl) rfl ?_
    refine GD.o rfl (S1.ix el23 rfl rfl (by omega) (by omega)) rfl ?_
    refine GD.loud rfl .no (S1.stI sc3 rfl rfl (by omega) .z) rfl rfl (by kernel_rfl) ?_
    refine GD.done rfl ?_
    refine GQ.on ?_
    refine GW.sr rfl rfl ?_
    refine GL.o rfl (S1.fa fa25_2 rfl) ?_
    refine GL.o rfl (S1.ld sc3 rfl (.at (.s (.s (.s (.s (.s .z)))))) rfl) ?_
    refine GL.o rfl (S1.fa fa81_3 rfl) ?_
    refine GL.o rfl (S1.ld sc3 rfl (.at (.s (.s .z))) rfl) ?_
    refine GL.o rfl (S1.sub rfl rfl) ?_
    refine GL.o rfl (S1.fa fa25_2 rfl) ?_
    refine GL.o rfl (S1.st (u := (.int _ _)) sc3 rfl rfl rfl (by repeat constructor) (.s (.s (.s (.s (.s .z)))))) ?_
    refine GL.dn rfl ?_
    refine GW.toSeq rfl ?_
    refine GW.toSeq rfl ?_
    refine GW.toDrw mx rfl ?_
    refine GD.o rfl (S1.fa fa25_1 rfl) rfl ?_
    refine GD.o rfl (S1.ld sc23 rfl (.at (.s (.s (.s (.s (.s .z)))))) rfl) rfl ?_
    refine GD.o rfl (S1.fa fa81_0 rfl) rfl ?_
    refine GD.o rfl (S1.ld sc3 rfl (.at (.s (.s .z))) rfl) rfl ?_
    refine GD.o rfl (S1.ix el23 rfl rfl (by omega) (by omega)) rfl ?_
    refine GD.o rfl (S1.ldI sc3 rfl (.at .z) (by simp only [List.length_set]; omega)) rfl ?_
    refine GD.o rfl (S1.fa fa25_2 rfl) rfl ?_
    refine GD.o rfl (S1.ld sc3 rfl (.at (.s (.s (.s (.s (.s .z)))))) rfl) rfl ?_
    refine GD.o rfl (S1.mn2 rfl rfl) rfl ?_
    refine GD.o rfl (S1.lss rfl rfl) rfl ?_
    refine GD.done rfl ?_
    refine GQ.on ?_
    refine GW.toD rfl rfl (fun w14 => ?_) (fun w14 => ?_)
    refine GW.sr rfl rfl ?_
    refine GL.o rfl (S1.bu zc25 bo25 .n) ?_
    refine GL.o rfl (S1.stA ag25 rfl rfl rfl rfl (by repeat constructor) (.s (.s (.s (.s .z))))) ?_
    refine GL.o rfl (S1.asI rfl) ?_
    refine GL.dn rfl ?_
    refine GW.toRet rfl ?_
    refine GQ.onR ?_
    refine GQ.ret ⟨nilS, [], 0, nilS, [], 0, 0, _⟩ (.cell rfl rfl (.s (.s (.s (.s .z)))) (loadV_W ag25 rfl) (.tmp rfl rfl .nil)) .more rfl ⟨.nil, .nil, Nat.zero_le _, Nat.zero_le _⟩ .nil
    refine GW.toSkip rfl ?_
    refine GQ.on ?_
    refine GW.sr rfl rfl ?_
    refine GL.o rfl (S1.ldW ag25 rfl (.at (.s (.s (.s (.s (.s .z)))))) rfl) ?_
    refine GL.o rfl (S1.stA ag25 rfl rfl rfl rfl (by repeat constructor) (.s (.s (.s (.s .z))))) ?_
    refine GL.o rfl (S1.asI rfl) ?_
    refine GL.dn rfl ?_
    refine GW.toRet rfl ?_
    refine GQ.retT ⟨.slice (some ⟨x66.1, 0, none⟩) (qn - 1) qn, [(x66.1, opRow (ints l65) 5)], qn - 1, rowS x67.1 pn, [(x67.1, .cells (ints (x67.2.set (0 + (iv (el hr qa (q * 5))).toNat * 1) (IntKind.i64.wrap (x67.2.getD (0 + (iv (el hr qa (q * 5))).toNat * 1) 0 - iv (el hr qa (q * 5 + 3)))))) (some 1) true)], pn, IntKind.i64.wrap (al - iv (el hr qa (q * 5 + 3))), 0⟩ (.cell rfl rfl (.s (.s (.s (.s .z)))) (loadV_W ag25 rfl) (.tmp rfl rfl .nil)) .more rfl (.cons (.s .z) (.cons .z .nil)) ⟨.row (by rw [ints_len, q65]; rfl) (by omega) (.inr rfl) (.ints (by simp [wy81])) (by omega), OR.ints (by simp only [List.length_set]; rw [q67]; rfl) (by omega) (.inr rfl) (by simp [wy3]), by dsimp only; omega, by dsimp only; omega⟩
  · refine GW.toSeq rfl ?_
    refine GW.toReg rfl ?_
    refine GL.opN rfl .no (SN.bx (u := .agg ⟨_⟩) rfl .agg) (fun a15 => ?_)
    refine GL.opN rfl .no (SN.al zc25) (fun a16 => ?_)
    refine GL.o rfl (S1.asI rfl) ?_
    refine GL.dn rfl ?_
    refine GW.toSeq rfl ?_
    refine GW.sr rfl rfl ?_
    refine GL.o rfl (S1.ldW ag25 rfl (.at (.s .z)) rfl) ?_
    refine GL.call rfl .no fo7 .nil (fun h H => ct7 H.rom h1 h2) (.d (.c (v := (.agg _)) rfl .n)) (fun e7 q7 => (fun (hk : e7.2.2 = 0 → 1 ≤ qn ∧ qn ≤ 12 ∧ 1 ≤ pn ∧ pn ≤ 4 ∧ (q < qn → 0 ≤ iv (el hr qa (q * 5)) ∧ iv (el hr qa (q * 5)) < pn)) => ?_) (fun h0 => ⟨(q7 h0).q1, (q7 h0).q12, (q7 h0).p1, (q7 h0).p4, fun hq => ⟨((q7 h0).qs q hq).1, ((q7 h0).qs q hq).2.1⟩⟩))
    refine GL.o rfl (S1.mvT rfl) ?_
    refine GL.o rfl (S1.ext (v := (.int _ _)) rfl rfl) ?_
    refine GL.o rfl (S1.ext (v := (.int _ _)) rfl rfl) ?_
    refine GL.o rfl (S1.ext (v := (.int _ _)) rfl rfl) ?_
    refine GL.o rfl (S1.asI rfl) ?_
    refine GL.o rfl (S1.asI rfl) ?_
    refine GL.o rfl (S1.asI rfl) ?_
    refine GL.dn rfl ?_
    refine GW.sr rfl rfl ?_
    refine GL.o rfl (S1.mvI rfl) ?_
    refine GL.o rfl (S1.neq rfl rfl) ?_
    refine GL.dn rfl ?_
    refine GW.toD rfl rfl (fun w18 => ?_) (fun w18 => ?_)
    refine GW.sr rfl rfl ?_
    refine GL.o rfl (S1.bu zc25 bo25 .n) ?_
    refine GL.o rfl (S1.mvI rfl) ?_
    refine GL.o rfl (S1.stA ag25 rfl rfl rfl rfl (by repeat constructor) .z) ?_
    refine GL.o rfl (S1.asI rfl) ?_
    refine GL.dn rfl ?_
    refine GW.toRet rfl ?_
    refine GQ.onR ?_
    refine GQ.ret ⟨nilS, [], 0, nilS, [], 0, 0, _⟩ (.cell rfl rfl .z (loadV_W ag25 rfl) (.tmp rfl rfl .nil)) .more rfl ⟨.nil, .nil, Nat.zero_le _, Nat.zero_le _⟩ .nil
    refine GW.toSkip rfl ?_
    refine GQ.on ?_
    refine GW.toSeq rfl ?_
    refine GW.toBlock rfl ?_
    refine GW.sr rfl rfl ?_
    refine GL.o rfl (S1.fa fa25_0 rfl) ?_
    refine GL.o rfl (S1.ld sc22 rfl (.at (.s .z)) rfl) ?_
    refine GL.o rfl (S1.len el22 rfl) ?_
    refine GL.o rfl (S1.dec1 rfl rfl (by omega) (by omega)) ?_
    refine GL.o rfl (S1.mvI rfl) ?_
    refine GL.opN rfl .no (SN.bs el23 ez23 (.c (v := (.int _ _)) rfl rfl .n) rfl rfl) (fun a19 => ?_)
    refine GL.call rfl .no fo44 .nil (fun h H => ct44_1 (H.get .z)) (.d (.c (v := (.int _ _)) rfl (.c (v := (.int _ _)) rfl (.c (v := (.slice _ _ _)) rfl .n)))) (fun r44 _ => ?_)
    refine GL.o rfl (S1.asB rfl) ?_
    refine GL.dn rfl ?_
    refine GW.toC rfl rfl (fun w22 => ?_) (fun w22 => ?_)
    refine GW.sr rfl rfl ?_
    refine GL.o rfl (S1.bu zc25 bo25 .n) ?_
    refine GL.o rfl (S1.stA ag25 rfl rfl rfl rfl (by repeat constructor) (.s .z)) ?_
    refine GL.o rfl (S1.asI rfl) ?_
    refine GL.dn rfl ?_
    refine GW.toRet rfl ?_
    refine GQ.outR ?_
    refine GQ.onR ?_
    refine GQ.ret ⟨nilS, [], 0, nilS, [], 0, 0, _⟩ (.cell rfl rfl (.s .z) (loadV_W ag25 rfl) (.tmp rfl rfl .nil)) .more rfl ⟨.nil, .nil, Nat.zero_le _, Nat.zero_le _⟩ .nil
    refine GW.sr rfl rfl ?_
    refine GL.o rfl (S1.fa fa25_0 rfl) ?_
    refine GL.o rfl (S1.ld sc22 rfl (.at (.s (.s .z))) rfl) ?_
    refine GL.o rfl (S1.len el22 rfl) ?_
    refine GL.o rfl (S1.eql rfl rfl) ?_
    refine GL.o rfl (S1.asB rfl) ?_
    refine GL.dn rfl ?_
    refine GW.toD rfl rfl (fun w23 => ?_) (fun w23 => ?_)
    refine GW.sr rfl rfl ?_
    refine GL.o rfl (S1.bu zc25 bo25 .n) ?_
    refine GL.o rfl (S1.stA ag25 rfl rfl rfl rfl (by repeat constructor) (.s .z)) ?_
    refine GL.o rfl (S1.asI rfl) ?_
    refine GL.dn rfl ?_
    refine GW.toRet rfl ?_
    refine GQ.outR ?_
    refine GQ.onR ?_
    refine GQ.ret ⟨nilS, [], 0, nilS, [], 0, 0, _⟩ (.cell rfl rfl (.s .z) (loadV_W ag25 rfl) (.tmp rfl rfl .nil)) .more rfl ⟨.nil, .nil, Nat.zero_le _, Nat.zero_le _⟩ .nil
    refine GW.toSkip rfl ?_
    refine GQ.outN ?_
    refine GQ.on ?_
    refine GW.sr rfl rfl ?_
    refine GL.o rfl (S1.fa fa25_0 rfl) ?_
    refine GL.o rfl (S1.ld sc22 rfl (.at (.s (.s .z))) rfl) ?_
    refine GL.o rfl (S1.mvI rfl) ?_
    (exfalso; simp only [outB_e] at *; omega)
end
end Go.Proofs.YtadgfnnkpddneaaGreat
namespace Go.Proofs.YtadgfnnkpddneaaGreat
open Go Go.E
set_option maxRecDepth 100000
set_option maxHeartbeats 4000000

section
variable {h h0 : EH} {hr : RO} {qa pa sh sa' : Option Addr} {qn qc pn pc shn shc sn' sc' lb un b1 b2 b3 i : Nat} {al bits y0 y1 y2 y3 y4 : Int} {uv : Value} {uE : Ents} {ul : List Int}

theorem ct71 (S : ShOk hr h lb qa qn qc pa pn pc al sh shn shc un uv uE ul) (hi : i < shn) (hb1 : h[b1]? = some (.cells [.pointer (some ⟨lb, 0, none⟩)] none true)) (hb2 : h[b2]? = some (.cells [.int .i64 (i : Int)] none true)) (hb3 : h[b3]? = some (.cells [.int .i64 y0, .int .i64 y1, .int .i64 y2, .int .i64 y3, .int .i64 y4] none true)) :
    Ct Tryz.prog 71 ⟨[.int .i64 bits, .pointer (some ⟨b1, 0, none⟩), .pointer (some ⟨b2, 0, none⟩), .pointer (some ⟨b3, 0, none⟩)]⟩ h [] (fun r : Bool => .bool r) (fun _ => True) (fun _ => []) := by
  have hu7 := S.u7
  refine Ct.go Tryz.func71 rfl rfl co71 (Hp.start S.hR) ?_
  refine GW.sr rfl rfl ?_
  refine GL.o rfl (S1.asB rfl) ?_
  refine GL.dn rfl ?_
  refine GW.toSeq rfl ?_
  refine GW.toDrw mx rfl ?_
  refine GD.o rfl (S1.ld sc82 rfl (.old0 hb1) rfl) rfl ?_
  refine GD.o rfl (S1.ld sc3 rfl (.old0 hb2) rfl) rfl ?_
  refine GD.o rfl (S1.mvI rfl) rfl ?_
  refine GD.call rfl .no fo72 .nil (fun h H => ct72 S.c4 hi S.u (by omega) (fun b o q => H.rom _ _ q) (H.ext _ _ S.hb) (fun e he => H.ext _ _ (S.hE e he)) (fun k hk e => S.ul i k hi hk e)) (.d (.c (v := (.pointer _)) rfl (.c (v := (.int _ _)) rfl (.c (v := (.int _ _)) rfl .n)))) (fun r72 _ => ?_)
  refine GD.o rfl (S1.fa fa81_2 rfl) rfl ?_
  refine GD.o rfl (S1.ld sc3 rfl (.old0 hb3) rfl) rfl ?_
  refine GD.o rfl (S1.neq rfl rfl) rfl ?_
  refine GD.o rfl (S1.asB rfl) rfl ?_
  refine GD.done rfl ?_
  refine GQ.on ?_
  refine GW.toRet rfl ?_
  refine GQ.ret _ (.tmp (v := (.bool _)) rfl rfl .nil) .one rfl ?_ .nil
  exact trivial

theorem ct70' (hR : ∀ b o, hr b = some o → h[b]? = some o) (ok : AnOk hr qa qn pn) (h1 : Cell hr (.sl ly81) (.slice qa qn qc)) (h2 : Cell hr (.sl ly3) (.slice pa pn pc)) (h4 : Cell hr (.sl ly23) (.slice sh shn shc)) :
    Ct Tryz.prog 70 ⟨[.agg ⟨[.slice qa qn qc, .slice pa pn pc, .int .i64 al]⟩, .slice sh shn shc]⟩ h [] V45 (R45' hr qa qn pn sh shn) (N45 qa qn qc pa pn pc al sh shn shc) :=
  (ct70 hR ok h1 h2 h4).mono fun x q => match x, q with
    | .inl x, q => by
      obtain ⟨av, e, s⟩ := SuOk.of (x := x) ⟨ok, q⟩
      exact ⟨.inl ⟨x.lb, av, x.uE, x.un, x.ul⟩, rfl, s, by simp only [N70, N45, e]⟩
    | .inr e, q => ⟨.inr e, rfl, q, rfl⟩


theorem ct36 (hR : ∀ b o, hr b = some o → h[b]? = some o) (h1 : Cell hr (.sl ly81) (.slice qa qn qc)) (h2 : Cell hr (.sl ly3) (.slice pa pn pc)) (h5 : Cell hr (.sl ly26) (.slice sa' sn' sc')) :
    Ct Tryz.prog 36 ⟨[.agg ⟨[.slice qa qn qc, .slice pa pn pc, .int .i64 al]⟩, .slice sa' sn' sc']⟩ h [] (fun x : Value × Ents × Nat × Int => .tuple ⟨[x.1, .int .i64 x.2.2.2]⟩) (fun x => OR wy120 x.1 x.2.1 x.2.2.1 ∧ x.2.2.1 ≤ 12) (fun x => x.2.1) := by
  have hl1 := h1.le
  have hl5 := h5.le
  refine Ct.go Tryz.func36 rfl rfl co36 (Hp.start hR) ?_
  refine GW.sr rfl rfl ?_
  refine GL.opN rfl .no (SN.bx (u := .agg ⟨_⟩) rfl .agg) (fun a1 => ?_)
  refine GL.o rfl (S1.asL rfl) ?_
  refine GL.o rfl (S1.asI rfl) ?_
  refine GL.dn rfl ?_
  refine GW.toSeq rfl ?_
  refine GW.sr rfl rfl ?_
  refine GL.o rfl (S1.ldW ag25 rfl (.at .z) rfl) ?_
  refine GL.call rfl .no fo7 .nil (fun h H => ct7 H.rom h1 h2) (.d (.c (v := (.agg _)) rfl .n)) (fun e7 q7 => ?_)
  refine GL.o rfl (S1.mvT rfl) ?_
  refine GL.o rfl (S1.ext (v := (.int _ _)) rfl rfl) ?_
  refine GL.o rfl (S1.ext (v := (.int _ _)) rfl rfl) ?_
  refine GL.o rfl (S1.ext (v := (.int _ _)) rfl rfl) ?_
  refine GL.o rfl (S1.asI rfl) ?_
  refine GL.dn rfl ?_
  refine GW.sr rfl rfl ?_
  refine GL.o rfl (S1.mvI rfl) ?_
  refine GL.o rfl (S1.neq rfl rfl) ?_
  refine GL.dn rfl ?_
  refine GW.toD rfl rfl (fun w3 => ?_) (fun w3 => ?_)
  refine GW.sr rfl rfl ?_
  refine GL.o rfl (S1.mvI rfl) ?_
  refine GL.o rfl (S1.asL rfl) ?_
  refine GL.o rfl (S1.asI rfl) ?_
  refine GL.dn rfl ?_
  refine GW.toRet rfl ?_
  refine GQ.onR ?_
  refine GQ.ret (nilS, [], 0, _) (.tmp rfl rfl (.tmp rfl rfl .nil)) .more rfl ⟨.nil, Nat.zero_le _⟩ .nil
  refine GW.toSkip rfl ?_
  refine GQ.on ?_
  refine GW.toSeq rfl ?_
  refine GW.sr rfl rfl ?_
  refine GL.o rfl (S1.mvL rfl) ?_
  refine GL.o rfl (S1.len el27 rfl) ?_
  refine GL.o rfl (S1.gtr rfl rfl) ?_
  refine GL.dn rfl ?_
  refine GW.toD rfl rfl (fun w4 => ?_) (fun w4 => ?_)
  refine GW.sr rfl rfl ?_
  refine GL.o rfl (S1.asL rfl) ?_
  refine GL.o rfl (S1.asI rfl) ?_
  refine GL.dn rfl ?_
  refine GW.toRet rfl ?_
  refine GQ.onR ?_
  refine GQ.ret (nilS, [], 0, _) (.tmp rfl rfl (.tmp rfl rfl .nil)) .more rfl ⟨.nil, Nat.zero_le _⟩ .nil
  refine GW.toSkip rfl ?_
  refine GQ.on ?_
  refine GW.sr rfl rfl ?_
  refine GL.o rfl (S1.fa fa25_0 rfl) ?_
  refine GL.o rfl (S1.ld sc22 rfl (.at .z) rfl) ?_
  refine GL.o rfl (S1.len el22 rfl) ?_
  refine GL.opN rfl .no (SN.msI el68 (by kernel_rfl) (by decide) rfl rfl (by omega)) (fun a6 => ?_)
  refine GL.o rfl (S1.asL rfl) ?_
  refine GL.dn rfl ?_
  refine GW.toSeq rfl ?_
  refine GW.sr rfl rfl ?_
  refine GL.o rfl (S1.mvL rfl) ?_
  refine GL.o rfl (S1.len el27 rfl) ?_
  refine GL.o rfl (S1.mvI rfl) ?_
  refine GL.dn rfl ?_
  refine GW.toBlock rfl ?_
  have hq12 := (q7 (by omega)).q12
  refine GW.toLoop (X := Nat × List Int) (fun x => [(2, .pointer (some ⟨a1, 0, none⟩)), (4, rowS a6 qn), (28, .slice sa' sn' sc'), (29, .int .i64 sn'), (30, .int .i64 x.1)]) (fun x => [(a1, .cells [.slice qa qn qc, .slice pa pn pc, .int .i64 al] none true), (a6, .cells (ints x.2) none true)]) (fun x => x.1 ≤ sn' ∧ x.2.length = qn * 2) (fun x => sn' - x.1) rfl (0, List.replicate (qn * 2) 0) ⟨Nat.zero_le _, by simp⟩ (.c rfl (.c rfl (.c rfl (.c rfl (.c rfl .n))))) (.cons (.s .z) .tz) ?_
  rintro x f ⟨hx, hxl⟩
  have hcx : x.1 < sn' → Cell hr (.sl ly23) (.slice (sa (el hr sa' (x.1 * 1 + 0))) (sn (el hr sa' (x.1 * 1 + 0))) (sc (el hr sa' (x.1 * 1 + 0)))) := fun hlt => h5.at hlt (d := 0) (l := .sl ly23) rfl
  refine GW.sr rfl rfl ?_
  refine GL.o rfl (S1.lss rfl rfl) ?_
  refine GL.dn rfl ?_
  refine GW.toSeq rfl ?_
  refine GW.toD rfl rfl (fun w7 => ?_) (fun w7 => ?_)
  refine GW.toSkip rfl ?_
  refine GQ.on ?_
  refine GW.toSeq rfl ?_
  refine GW.toBlock rfl ?_
  refine GW.sr rfl rfl ?_
  refine GL.o rfl (S1.ixR el27 h5 rfl rfl (by omega)) ?_
  refine GL.o rfl (S1.ldCL sc26 (z := 1) h5 rfl (m := x.fst) (by omega) rfl (d := 0) rfl rfl) ?_
  refine GL.o rfl (S1.asL rfl) ?_
  refine GL.dn rfl ?_
  refine GW.sr rfl rfl ?_
  refine GL.o rfl (S1.ldW ag25 rfl (.at .z) rfl) ?_
  refine GL.o rfl (S1.mvL rfl) ?_
  refine GL.call rfl .no fo70 .nil (fun h H => ct70' H.rom (q7 (by omega)) h1 h2 (hcx (by omega))) (.d (.c (v := (.agg _)) rfl (.c (v := (.slice _ _ _)) rfl .n))) (fun x70 => match x70 with | .inl x70 => fun (q70 : SuOk hr qa qn pn (sa (el hr sa' (x.1 * 1 + 0))) (sn (el hr sa' (x.1 * 1 + 0))) x70) => ?_ | .inr e70 => fun (q70 : e70 ≠ 0) => ?_)
  refine GL.o rfl (S1.mvT rfl) ?_
  refine GL.o rfl (S1.ext (v := (.pointer _)) rfl rfl) ?_
  refine GL.o rfl (S1.ext (v := (.int _ _)) rfl rfl) ?_
  refine GL.opN rfl .no (SN.al zc82) (fun a9 => ?_)
  refine GL.o rfl (S1.st (u := (.pointer _)) sc82 rfl rfl rfl (by repeat constructor) .z) ?_
  refine GL.o rfl (S1.asI rfl) ?_
  refine GL.dn rfl ?_
  refine GW.toSeq rfl ?_
  refine GW.sr rfl rfl ?_
  refine GL.o rfl (S1.mvI rfl) ?_
  refine GL.o rfl (S1.neq rfl rfl) ?_
  refine GL.dn rfl ?_
  refine GW.toF rfl rfl ?_
  refine GW.toSkip rfl ?_
  refine GQ.on ?_
  refine GW.sr rfl rfl ?_
  refine GL.o rfl (S1.fa fa25_0 rfl) ?_
  refine GL.o rfl (S1.ld sc22 rfl (.at (.s (.s (.sA .z)))) rfl) ?_
  refine GL.o rfl (S1.len el22 rfl) ?_
  refine GL.o rfl (S1.mvI rfl) ?_
  refine GL.dn rfl ?_
  refine GW.toBlock rfl ?_
  rotate_left
  refine GL.o rfl (S1.mvT rfl) ?_
  refine GL.o rfl (S1.ext (v := (.pointer _)) rfl rfl) ?_
  refine GL.o rfl (S1.ext (v := (.int _ _)) rfl rfl) ?_
  refine GL.opN rfl .no (SN.al zc82) (fun a10 => ?_)
  refine GL.o rfl (S1.st (u := (.pointer _)) sc82 rfl rfl rfl (by repeat constructor) .z) ?_
  refine GL.o rfl (S1.asI rfl) ?_
  refine GL.dn rfl ?_
  refine GW.toSeq rfl ?_
  refine GW.sr rfl rfl ?_
  refine GL.o rfl (S1.mvI rfl) ?_
  refine GL.o rfl (S1.neq rfl rfl) ?_
  refine GL.dn rfl ?_
  refine GW.toD rfl rfl (fun w11 => ?_) (fun w11 => ?_)
  refine GW.sr rfl rfl ?_
  refine GL.o rfl (S1.mvI rfl) ?_
  refine GL.o rfl (S1.asL rfl) ?_
  refine GL.o rfl (S1.asI rfl) ?_
  refine GL.dn rfl ?_
  refine GW.toRet rfl ?_
  refine GQ.onR ?_
  refine GQ.outR ?_
  refine GQ.onR ?_
  refine GQ.onR ?_
  refine GQ.outR ?_
  refine GQ.onR ?_
  refine GQ.ret (nilS, [], 0, _) (.tmp rfl rfl (.tmp rfl rfl .nil)) .more rfl ⟨.nil, Nat.zero_le _⟩ .nil
  refine GW.toSkip rfl ?_
  refine GQ.on ?_
  refine GW.sr rfl rfl ?_
  refine GL.o rfl (S1.fa fa25_0 rfl) ?_
  refine GL.o rfl (S1.ld sc22 rfl (.at (.s .z)) rfl) ?_
  refine GL.o rfl (S1.len el22 rfl) ?_
  refine GL.o rfl (S1.mvI rfl) ?_
  refine GL.dn rfl ?_
  refine GW.toBlock rfl ?_
  (exfalso; omega)
  refine GW.toExit rfl ?_
  refine GQ.onE ?_
  refine GQ.onE ?_
  refine GQ.outH ?_
  refine GQ.on ?_
  refine GW.sr rfl rfl ?_
  refine GL.o rfl (S1.mvL rfl) ?_
  refine GL.o rfl (S1.asL rfl) ?_
  refine GL.o rfl (S1.asI rfl) ?_
  refine GL.dn rfl ?_
  refine GW.toRet rfl ?_
  refine GQ.retT (rowS a6 qn, [(a6, .cells (ints x.2) none true)], qn, 0) (.tmp rfl rfl (.tmp rfl rfl .nil)) .more rfl (.cons (.s .z) .nil) ⟨OR.ints (by rw [hxl]; rfl) (by omega) (.inl rfl) (by simp [wy120]), hq12⟩
  have hqs : sn (el hr sa' (x.1 * 1 + 0)) = qn := q70.qs
  refine GW.toLoop (X := Nat × List Int) (fun y => [(2, .pointer (some ⟨a1, 0, none⟩)), (4, rowS a6 qn), (8, .pointer (some ⟨a9, 0, none⟩)), (28, .slice sa' sn' sc'), (29, .int .i64 sn'), (30, .int .i64 x.1), (44, .slice qa qn qc), (45, .int .i64 qn), (46, .int .i64 y.1)]) (fun y => (a9, .cells [.pointer (some ⟨x70.lb, 0, none⟩)] none true) :: (x70.lb, .cells (ShC qa qn qc pa pn pc al (sa (el hr sa' (x.1 * 1 + 0))) (sn (el hr sa' (x.1 * 1 + 0))) (sc (el hr sa' (x.1 * 1 + 0))) (.slice x70.av x70.un x70.un)) none true) :: (x70.uE ++ [(a1, .cells [.slice qa qn qc, .slice pa pn pc, .int .i64 al] none true), (a6, .cells (ints y.2) none true)])) (fun y => y.1 ≤ qn ∧ y.2.length = qn * 2) (fun y => qn - y.1) rfl (0, x.2) ⟨Nat.zero_le _, hxl⟩ (.c rfl (.c rfl (.c rfl (.c rfl (.c rfl (.c rfl (.c rfl (.c rfl (.c rfl .n))))))))) (.cons .z (.cons .z (.app .tzA .tz))) ?_
  rintro y f ⟨hy, hyl⟩
  refine GW.sr rfl rfl ?_
  refine GL.o rfl (S1.lss rfl rfl) ?_
  refine GL.dn rfl ?_
  refine GW.toSeq rfl ?_
  refine GW.toD rfl rfl (fun w12 => ?_) (fun w12 => ?_)
  refine GW.toSkip rfl ?_
  refine GQ.on ?_
  refine GW.toSeq rfl ?_
  refine GW.toBlock rfl ?_
  refine GW.sr rfl rfl ?_
  refine GL.o rfl (S1.mvI rfl) ?_
  refine GL.o rfl (S1.ixR el22 h1 rfl rfl (by omega)) ?_
  refine GL.o rfl (S1.ldE ag81 h1 rfl (m := y.fst) (by omega) rfl le81) ?_
  refine GL.opN rfl .no (SN.al zc3) (fun a13 => ?_)
  refine GL.opN rfl .no (SN.al zc81) (fun a14 => ?_)
  refine GL.o rfl (S1.st (u := (.int _ _)) sc3 rfl rfl rfl (by repeat constructor) (.s .z)) ?_
  refine GL.o rfl (S1.stA ag81 rfl rfl rfl rfl (by repeat constructor) .z) ?_
  refine GL.dn rfl ?_
  refine GW.sr rfl rfl ?_
  refine GL.o rfl (S1.ld sc82 rfl (.at (.s (.s .z))) rfl) ?_
  refine GL.call rfl .no fo53 .nil (fun h H => ct53) (.d (.c (v := (.pointer _)) rfl .n)) (fun x53 _ => ?_)
  refine GL.o rfl (S1.mf .n (.c (v := (.pointer _)) rfl (.c (v := (.pointer _)) rfl (.c (v := (.pointer _)) rfl .n)))) ?_
  refine GL.call rfl .no fo52 (show Take _ (M87 x53 x70.lb qa qn qc pa pn pc al (sa (el hr sa' (x.1 * 1 + 0))) (sn (el hr sa' (x.1 * 1 + 0))) (sc (el hr sa' (x.1 * 1 + 0))) x70.av x70.un ((a9, .cells [.pointer (some ⟨x70.lb, 0, none⟩)] none true) :: (a13, .cells [.int .i64 (y.1 : Int)] none true) :: (a14, .cells [.int .i64 (iv (el hr qa (y.1 * 5))), .int .i64 (iv (el hr qa (y.1 * 5 + 1))), .int .i64 (iv (el hr qa (y.1 * 5 + 2))), .int .i64 (iv (el hr qa (y.1 * 5 + 3))), .int .i64 (iv (el hr qa (y.1 * 5 + 4)))] none true) :: x70.uE)) _ from (.cons .z (.cons (.s (.s (.s .z))) (.cons (.s (.s .z)) (.cons (.s .z) (.cons .z .tzA)))))) (fun h H => ct52 (g := 71) (fs := []) (cs := [.pointer (some ⟨a9, 0, none⟩), .pointer (some ⟨a13, 0, none⟩), .pointer (some ⟨a14, 0, none⟩)]) fo71 q70.u7 (fun n h' hr' hL => ct71 (i := y.1) (q70.mkSh h1 h2 (hcx (by omega)) hr' (hL _ (.tail _ (.head _))) (fun e he => hL e (.tail _ (.tail _ (.tail _ (.tail _ (.tail _ he))))))) (by omega) (hL _ (.tail _ (.tail _ (.head _)))) (hL _ (.tail _ (.tail _ (.tail _ (.head _))))) (hL _ (.tail _ (.tail _ (.tail _ (.tail _ (.head _))))))) (H.give (show Take _ (M87 x53 x70.lb qa qn qc pa pn pc al (sa (el hr sa' (x.1 * 1 + 0))) (sn (el hr sa' (x.1 * 1 + 0))) (sc (el hr sa' (x.1 * 1 + 0))) x70.av x70.un ((a9, .cells [.pointer (some ⟨x70.lb, 0, none⟩)] none true) :: (a13, .cells [.int .i64 (y.1 : Int)] none true) :: (a14, .cells [.int .i64 (iv (el hr qa (y.1 * 5))), .int .i64 (iv (el hr qa (y.1 * 5 + 1))), .int .i64 (iv (el hr qa (y.1 * 5 + 2))), .int .i64 (iv (el hr qa (y.1 * 5 + 3))), .int .i64 (iv (el hr qa (y.1 * 5 + 4)))] none true) :: x70.uE)) _ from (.cons .z (.cons (.s (.s (.s .z))) (.cons (.s (.s .z)) (.cons (.s .z) (.cons .z .tzA)))))))) (.d (.c (v := (.func _ _ _)) rfl (.c (v := (.func _ _ _)) rfl .n))) (fun x52 _ => ?_)
  refine GL.o rfl (S1.ext (v := (.bool _)) rfl rfl) ?_
  refine GL.o rfl (S1.ext (v := (.bool _)) rfl rfl) ?_
  refine GL.call rfl .no fo51 .nil (fun h H => ct51) (.d (.c (v := (.bool _)) rfl (.c (v := (.bool _)) rfl .n))) (fun x51 _ => ?_)
  refine GL.dn rfl ?_
  refine GW.toBlock rfl ?_
  refine GW.sr rfl rfl ?_
  refine GL.o rfl (S1.eql rfl rfl) ?_
  refine GL.o rfl (S1.asB rfl) ?_
  refine GL.dn rfl ?_
  refine GW.toD rfl rfl (fun w18 => ?_) (fun w18 => ?_)
  refine GW.sr rfl rfl ?_
  refine GL.o rfl (S1.mvL rfl) ?_
  refine GL.o rfl (S1.ld sc3 rfl (.at (.s (.s (.s .z)))) rfl) ?_
  refine GL.o rfl (S1.ixN el68 rfl rfl (by omega)) ?_
  refine GL.o rfl (S1.fa fa120_0 rfl) ?_
  refine GL.o rfl (S1.ldI sc3 rfl (.at (.s (.s (.s (.s (.s (.sA (.s .z)))))))) (by omega)) ?_
  refine GL.o rfl (S1.add rfl rfl) ?_
  refine GL.o rfl (S1.ixN el68 rfl rfl (by omega)) ?_
  refine GL.o rfl (S1.fa fa120_0 rfl) ?_
  refine GL.o rfl (S1.stI sc3 rfl rfl (by omega) (.s (.s (.s (.s (.s (.sA (.s .z)))))))) ?_
  refine GL.dn rfl ?_
  refine GW.toReg rfl ?_
  refine GL.o rfl (S1.mvL rfl) ?_
  refine GL.o rfl (S1.ld sc3 rfl (.at (.s (.s (.s .z)))) rfl) ?_
  refine GL.o rfl (S1.ixN el68 rfl rfl (by omega)) ?_
  refine GL.o rfl (S1.fa fa120_1 rfl) ?_
  refine GL.o rfl (S1.ldI sc3 rfl (.at (.s (.s (.s (.s (.s (.sA (.s .z)))))))) (by simp only [List.length_set]; omega)) ?_
  refine GL.o rfl (S1.add rfl rfl) ?_
  refine GL.o rfl (S1.ixN el68 rfl rfl (by omega)) ?_
  refine GL.o rfl (S1.fa fa120_1 rfl) ?_
  refine GL.o rfl (S1.stI sc3 rfl rfl (by simp only [List.length_set]; omega) (.s (.s (.s (.s (.s (.sA (.s .z)))))))) ?_
  refine GL.done rfl ?_
  refine GQ.outN ?_
  refine GQ.outN ?_
  refine GQ.on ?_
  refine GW.toReg rfl ?_
  refine GL.o rfl (S1.inc rfl rfl (by omega)) ?_
  refine GL.o rfl (S1.mvI rfl) ?_
  refine GL.done rfl ?_
  refine GQ.nextT (y.1 + 1, _) (.c rfl (.c rfl (.c rfl (.c rfl (.c rfl (.c rfl (.c rfl (.c rfl (.c rfl .n))))))))) (.cons (.s (.s .z)) (.cons (.s .z) (.app (.ts (.ts (.ts .tzA))) (.cons (.s (.s (.s .z))) (.cons (.s (.s (.s .z))) .nil))))) ⟨(by first | omega | (dsimp only; omega)), by simp only [List.length_set]; exact hyl⟩ (by first | omega | (dsimp only; omega))
  refine GW.sr rfl rfl ?_
  refine GL.o rfl (S1.eql rfl rfl) ?_
  refine GL.o rfl (S1.asB rfl) ?_
  refine GL.dn rfl ?_
  refine GW.toD rfl rfl (fun w19 => ?_) (fun w19 => ?_)
  refine GW.toReg rfl ?_
  refine GL.o rfl (S1.mvL rfl) ?_
  refine GL.o rfl (S1.ld sc3 rfl (.at (.s (.s (.s .z)))) rfl) ?_
  refine GL.o rfl (S1.ixN el68 rfl rfl (by omega)) ?_
  refine GL.o rfl (S1.fa fa120_1 rfl) ?_
  refine GL.o rfl (S1.ldI sc3 rfl (.at (.s (.s (.s (.s (.s (.sA (.s .z)))))))) (by omega)) ?_
  refine GL.o rfl (S1.add rfl rfl) ?_
  refine GL.o rfl (S1.ixN el68 rfl rfl (by omega)) ?_
  refine GL.o rfl (S1.fa fa120_1 rfl) ?_
  refine GL.o rfl (S1.stI sc3 rfl rfl (by omega) (.s (.s (.s (.s (.s (.sA (.s .z)))))))) ?_
  refine GL.done rfl ?_
  refine GQ.outN ?_
  refine GQ.outN ?_
  refine GQ.on ?_
  refine GW.toReg rfl ?_
  refine GL.o rfl (S1.inc rfl rfl (by omega)) ?_
  refine GL.o rfl (S1.mvI rfl) ?_
  refine GL.done rfl ?_
  refine GQ.nextT (y.1 + 1, _) (.c rfl (.c rfl (.c rfl (.c rfl (.c rfl (.c rfl (.c rfl (.c rfl (.c rfl .n))))))))) (.cons (.s (.s .z)) (.cons (.s .z) (.app (.ts (.ts (.ts .tzA))) (.cons (.s (.s (.s .z))) (.cons (.s (.s (.s .z))) .nil))))) ⟨(by first | omega | (dsimp only; omega)), by simp only [List.length_set]; exact hyl⟩ (by first | omega | (dsimp only; omega))
  refine GW.toSkip rfl ?_
  refine GQ.outN ?_
  refine GQ.outN ?_
  refine GQ.on ?_
  refine GW.toReg rfl ?_
  refine GL.o rfl (S1.inc rfl rfl (by omega)) ?_
  refine GL.o rfl (S1.mvI rfl) ?_
  refine GL.done rfl ?_
  refine GQ.nextT (y.1 + 1, y.2) (.c rfl (.c rfl (.c rfl (.c rfl (.c rfl (.c rfl (.c rfl (.c rfl (.c rfl .n))))))))) (.cons (.s (.s .z)) (.cons (.s .z) (.app (.ts (.ts (.ts .tzA))) (.cons (.s (.s (.s .z))) (.cons (.s (.s (.s .z))) .nil))))) ⟨(by first | omega | (dsimp only; omega)), hyl⟩ (by first | omega | (dsimp only; omega))
  refine GW.toExit rfl ?_
  refine GQ.onE ?_
  refine GQ.onE ?_
  refine GQ.outH ?_
  refine GQ.outN ?_
  refine GQ.on ?_
  refine GW.toReg rfl ?_
  refine GL.o rfl (S1.inc rfl rfl (by omega)) ?_
  refine GL.o rfl (S1.mvI rfl) ?_
  refine GL.done rfl ?_
  refine GQ.nextT (x.1 + 1, y.2) (.c rfl (.c rfl (.c rfl (.c rfl (.c rfl .n))))) (.cons (.s (.s (.sA .z))) (.cons (.s (.s (.sA .z))) .nil)) ⟨(by first | omega | (dsimp only; omega)), hyl⟩ (by first | omega | (dsimp only; omega))
end
end Go.Proofs.YtadgfnnkpddneaaGreat
namespace Go.Proofs.YtadgfnnkpddneaaGreat
open Go Go.E
set_option maxRecDepth 100000
set_option maxHeartbeats 4000000

theorem ct64 {h : EH} {b : Bool} : Ct Tryz.prog 64 ⟨[.bool b]⟩ h [] (fun r : Bool => .bool r) (fun _ => True) (fun _ => []) := by
  refine Ct.go Tryz.func64 rfl rfl co64 (Hp.start (hr := fun _ => none) (by simp)) ?_
  refine GW.sr rfl rfl ?_
  refine GL.o rfl (S1.asB rfl) ?_
  refine GL.dn rfl ?_
  refine GW.sr rfl rfl ?_
  refine GL.o rfl (S1.mvB rfl) ?_
  refine GL.o rfl (S1.asB rfl) ?_
  refine GL.dn rfl ?_
  refine GW.toRet rfl ?_
  refine GQ.ret _ (.tmp (v := (.bool _)) rfl rfl .nil) .one rfl ?_ .nil
  exact trivial

section
variable {h : EH} {hr : RO} {bP pr n bs bm l : Nat} {vs : List Value} {s mk : Int}

abbrev M62 (bP pr n : Nat) (vs : List Value) (bs : Nat) (s : Int) (bm : Nat) (mk : Int) (Z : Ents) : Ents :=
  (bP, .cells [rowS pr n] none true) :: (pr, .cells vs none true) :: (bs, .cells [.int .i64 s] none true) :: (bm, .cells [.int .i64 mk] none true) :: Z

theorem ct62 {Y : Type} (Z : Y → Ents) (RI RD : Y → Prop) (hn : n ≤ 128) (hvl : vs.length = n * 1) (hv : RowT wy4 vs)
    (round : ∀ (b : Bool) (y : Y) (h : EH), RI y → Hp hr h ((M62 bP pr n vs bs s bm mk (Z y)).map (·.1)) (M62 bP pr n vs bs s bm mk (Z y)) h →
      Rt Tryz.prog l ⟨[.bool b]⟩ h ((M62 bP pr n vs bs s bm mk (Z y)).map (·.1)) (fun z : Bool × Y => .bool z.1) (fun z => if z.1 = true then RI z.2 else RD z.2) (fun z => M62 bP pr n vs bs s bm mk (Z z.2)))
    (y0 : Y) (hy : RI y0) (H : Hp hr h ((M62 bP pr n vs bs s bm mk (Z y0)).map (·.1)) (M62 bP pr n vs bs s bm mk (Z y0)) h) :
    Ct Tryz.prog 62 ⟨[.func (.yield l) #[] #[], .pointer (some ⟨bP, 0, none⟩), .pointer (some ⟨bs, 0, none⟩), .pointer (some ⟨bm, 0, none⟩)]⟩ h ((M62 bP pr n vs bs s bm mk (Z y0)).map (·.1)) (fun _ : Y => .tuple #[]) (fun y => RI y ∨ RD y) (fun y => M62 bP pr n vs bs s bm mk (Z y)) := by
  have hld : ∀ k, k < n → vs[0 + k * 1]? = some (.bool (bv (vs.getD (0 + k * 1) undef))) := fun k hk => by
    have := hv.get (i := k) (d := 0) (l := .bool) hvl hk rfl
    rw [show k * wy4.length + 0 = 0 + k * 1 by simp only [wy4, List.length_cons, List.length_nil]; omega] at this
    exact this
  refine Ct.go Tryz.func62 rfl rfl co62 H ?_
  dsimp only [M62]
  refine GW.sr rfl rfl ?_
  refine GL.o rfl (S1.ld sc104 rfl (.at .z) rfl) ?_
  refine GL.o rfl (S1.len el104 rfl) ?_
  refine GL.o rfl (S1.mvI rfl) ?_
  refine GL.dn rfl ?_
  refine GW.toBlock rfl ?_
  refine GW.toLoop (X := Nat × Y) (fun x => [(0, .func (.yield l) #[] #[]), (2, .pointer (some ⟨bs, 0, none⟩)), (3, .pointer (some ⟨bm, 0, none⟩)), (7, rowS pr n), (8, .int .i64 n), (9, .int .i64 x.1)]) (fun x => M62 bP pr n vs bs s bm mk (Z x.2)) (fun x => RI x.2 ∧ x.1 ≤ n) (fun x => n - x.1) rfl (0, y0) ⟨hy, Nat.zero_le _⟩ (.c rfl (.c rfl (.c rfl (.c rfl (.c rfl (.c rfl .n)))))) .tz ?_
  rintro x f ⟨hy, hxn⟩
  dsimp only [M62]
  refine GW.sr rfl rfl ?_
  refine GL.o rfl (S1.lss rfl rfl) ?_
  refine GL.dn rfl ?_
  refine GW.toSeq rfl ?_
  refine GW.toD rfl rfl (fun w1 => ?_) (fun w1 => ?_)
  refine GW.toSkip rfl ?_
  refine GQ.on ?_
  refine GW.toSeq rfl ?_
  refine GW.toBlock rfl ?_
  refine GW.sr rfl rfl ?_
  refine GL.o rfl (S1.mvI rfl) ?_
  refine GL.o rfl (S1.ixN el104 rfl rfl (by omega)) ?_
  refine GL.o rfl (S1.ld sc4 rfl (.at (.s .z)) (hld x.1 (by omega))) ?_
  refine GL.o rfl (S1.asI rfl) ?_
  refine GL.o rfl (S1.asB rfl) ?_
  refine GL.dn rfl ?_
  refine GW.sr rfl rfl ?_
  refine GL.o rfl (S1.mvI rfl) ?_
  refine GL.o rfl (S1.ld sc3 rfl (.at (.s (.s .z))) rfl) ?_
  refine GL.o rfl (S1.bits rfl rfl rfl) ?_
  refine GL.o rfl (S1.ld sc3 rfl (.at (.s (.s (.s .z)))) rfl) ?_
  refine GL.o rfl (S1.eql rfl rfl) ?_
  refine GL.o rfl (S1.mvB rfl) ?_
  refine GL.splitD 19 rfl (fun w3 => ?_) (fun w3 => ?_)
  refine GL.one rfl (.yes rfl rfl rfl) (S1.mvF rfl) ?_
  refine GL.one rfl (.yes rfl rfl rfl) (S1.mvB rfl) ?_
  rotate_left
  refine GL.skip rfl (.not rfl rfl rfl) ?_
  refine GL.skip rfl (.not rfl rfl rfl) ?_
  refine GL.skip rfl (.not rfl rfl rfl) ?_
  refine GL.skip rfl (.not rfl rfl rfl) ?_
  refine GL.o rfl (S1.pickF (v := (.bool _)) rfl rfl) ?_
  refine GL.dn rfl ?_
  refine GW.toF rfl rfl ?_
  refine GW.toSkip rfl ?_
  refine GQ.outN ?_
  refine GQ.on ?_
  refine GW.toReg rfl ?_
  refine GL.o rfl (S1.inc rfl rfl (by omega)) ?_
  refine GL.o rfl (S1.mvI rfl) ?_
  refine GL.done rfl ?_
  refine GQ.nextT (x.1 + 1, x.2) (.c rfl (.c rfl (.c rfl (.c rfl (.c rfl (.c rfl .n)))))) .tz ⟨hy, (by first | omega | (dsimp only; omega))⟩ (by first | omega | (dsimp only; omega))
  refine GW.toExit rfl ?_
  refine GQ.onE ?_
  refine GQ.onE ?_
  refine GQ.outH ?_
  refine GQ.retN x.2 .nil .z ?_ ?_ .tz
  rfl
  exact .inl hy
  refine GL.yield (X := Bool × Y) (V := fun z => .bool z.1) (R := fun z => if z.1 = true then RI z.2 else RD z.2) (M := fun z => M62 bP pr n vs bs s bm mk (Z z.2)) (ps := M62 bP pr n vs bs s bm mk (Z x.2)) rfl (.yes rfl rfl rfl) (yieldee_of (fs := []) (vs := [.bool (bv (vs.getD (0 + x.1 * 1) undef))]) (cs := #[]) rfl (.c rfl .n)) .tz
    (fun h H => round _ x.2 h hy (H.give (ps := M62 bP pr n vs bs s bm mk (Z x.2)) .tz)) (fun z q => ?_)
  refine GL.one rfl (.yes rfl rfl rfl) (S1.not rfl) ?_
  refine GL.o rfl (S1.pickT (v := (.bool _)) rfl rfl) ?_
  refine GL.dn rfl ?_
  refine GW.toC rfl rfl (fun w4 => ?_) (fun w4 => ?_)
  refine GW.toRet rfl ?_
  refine GQ.outR ?_
  refine GQ.onR ?_
  refine GQ.onR ?_
  refine GQ.outR ?_
  refine GQ.ret z.2 .nil .z ?_ ?_ (.cons .z .tz)
  rfl
  exact .inr (by simp_all)
  refine GW.toSkip rfl ?_
  refine GQ.outN ?_
  refine GQ.on ?_
  refine GW.toReg rfl ?_
  refine GL.o rfl (S1.inc rfl rfl (by omega)) ?_
  refine GL.o rfl (S1.mvI rfl) ?_
  refine GL.done rfl ?_
  refine GQ.nextT (x.1 + 1, z.2) (.c rfl (.c rfl (.c rfl (.c rfl (.c rfl (.c rfl .n)))))) (.cons .z .tz) ⟨by simp_all, (by first | omega | (dsimp only; omega))⟩ (by first | omega | (dsimp only; omega))

abbrev R63 (a1 a2 a3 : Nat) (s a : Bool) (Z : Ents) : Ents :=
  (a3, .cells [.bool a] none true) :: (a2, .cells [.bool s] none true) :: (a1, .cells [.func (.func 64) ⟨[]⟩ ⟨[]⟩] none true) :: Z

theorem ct63 {Z : Ents} (hn : n ≤ 128) (hvl : vs.length = n * 1) (hv : RowT wy4 vs) (H : Hp hr h ((M62 bP pr n vs bs s bm mk Z).map (·.1)) (M62 bP pr n vs bs s bm mk Z) h) :
    Ct Tryz.prog 63 ⟨[.func (.func 62) ⟨[]⟩ ⟨[.pointer (some ⟨bP, 0, none⟩), .pointer (some ⟨bs, 0, none⟩), .pointer (some ⟨bm, 0, none⟩)]⟩, .func (.func 64) ⟨[]⟩ ⟨[]⟩]⟩ h ((M62 bP pr n vs bs s bm mk Z).map (·.1)) (fun r : Bool × Bool => .tuple ⟨[.bool r.1, .bool r.2]⟩) (fun _ => True) (fun _ => M62 bP pr n vs bs s bm mk Z) := by
  refine Ct.goC Tryz.func63 rfl rfl co63 H ?_
  dsimp only [M62] at H ⊢
  refine GW.sr rfl rfl ?_
  refine GL.opN rfl .no (SN.bx (u := (.func _ _ _)) rfl (.one rfl)) (fun a1 => ?_)
  refine GL.opN rfl .no (SN.al zc4) (fun a2 => ?_)
  refine GL.opN rfl .no (SN.al zc4) (fun a3 => ?_)
  refine GL.dn rfl ?_
  refine GW.sr rfl rfl ?_
  refine GL.o rfl (S1.st (u := (.bool _)) sc4 rfl rfl rfl (by repeat constructor) .z) ?_
  refine GL.dn rfl ?_
  refine GW.toSeq rfl ?_
  refine GW.sr rfl rfl ?_
  refine GL.o rfl (S1.mvF rfl) ?_
  refine GL.dn rfl ?_
  refine GW.toBlock rfl ?_
  refine GW.toRange (Y := Bool × Bool) (M := fun y => M62 bP pr n vs bs s bm mk (R63 a1 a2 a3 y.1 y.2 Z)) (R := fun _ ex => ex = .normal) rfl rfl fo62 (fun k2 k3 d l h1 H1 => ?_) (fun d y ex hR => ?_)
  · generalize hlp : newLoop _ _ _ _ _ _ = lp0 at H1
    have H1' := H1.give (ps := M62 bP pr n vs bs s bm mk ((l, .loop lp0) :: R63 a1 a2 a3 false true Z)) (.cons (.s (.s (.s (.s (.s .z))))) (.cons (.s (.s (.s (.s (.s .z))))) (.cons (.s (.s (.s (.s (.s .z))))) (.cons (.s (.s (.s (.s (.s .z))))) (.cons .z (.cons (.s .z) (.cons (.s .z) (.cons (.s .z) (.ts .tz)))))))))
    refine WF.mono (ct62 (l := l) (Y := Loop × Bool × Bool) (fun y => (l, .loop y.1) :: R63 a1 a2 a3 y.2.1 y.2.2 Z) (fun y => y.1 = lp0) (fun _ => False) hn hvl hv (fun b y h hy H => ?_) (lp0, false, true) rfl H1') fun o h2 q => ?_
    · obtain ⟨yl, ys, ya⟩ := y
      dsimp only at hy
      subst hy
      subst hlp
      refine Rt.go H (r := (.s (.s (.s (.s .z))))) (by simp only [newLoop, Array.size_ofFn]) rfl (newLoop_f rfl) k2 ?_
      clear H1 H1'
      refine GW.toReg rfl ?_
      refine GL.o rfl (S1.asB rfl) ?_
      refine GL.done rfl ?_
      refine GQ.body (.s (.s (.s (.s .z)))) rfl k3 ?_
      refine GW.toBlock rfl ?_
      refine GW.sr rfl rfl ?_
      refine GL.o rfl (S1.ld sc109 rfl (.at (.s (.s (.s (.s (.s (.s (.s .z)))))))) rfl) ?_
      refine GL.o rfl (S1.mvB rfl) ?_
      refine GL.call rfl .no fo64 .nil (fun h H => ct64) (.v (fs := []) (cs := []) rfl (.c (v := (.bool _)) rfl .n)) (fun r64 _ => ?_)
      refine GL.o rfl (S1.asB rfl) ?_
      refine GL.dn rfl ?_
      refine GW.toReg rfl ?_
      refine GL.o rfl (S1.ld sc4 rfl (.at (.s (.s (.s (.s (.s (.s .z))))))) rfl) ?_
      refine GL.o rfl (S1.mvB rfl) ?_
      refine GL.split 14 rfl (fun w5 => ?_) (fun w5 => ?_)
      refine GL.skip rfl (.not rfl rfl rfl) ?_
      refine GL.o rfl (S1.pickT (v := (.bool _)) rfl rfl) ?_
      refine GL.o rfl (S1.ld sc4 rfl (.at (.s (.s (.s (.s (.s .z)))))) rfl) ?_
      refine GL.o rfl (S1.mvB rfl) ?_
      refine GL.split 18 rfl (fun w6 => ?_) (fun w6 => ?_)
      refine GL.one rfl (.yes rfl rfl rfl) (S1.mvB rfl) ?_
      refine GL.o rfl (S1.pickT (v := (.bool _)) rfl rfl) ?_
      refine GL.o rfl (S1.st (u := (.bool _)) sc4 rfl rfl rfl (by repeat constructor) (.s (.s (.s (.s (.s (.s .z))))))) ?_
      refine GL.o rfl (S1.st (u := (.bool _)) sc4 rfl rfl rfl (by repeat constructor) (.s (.s (.s (.s (.s .z)))))) ?_
      refine GL.done rfl ?_
      refine GQ.outN ?_
      refine GQ.rN (true, _, _, _) .z rfl rfl (.cons (.s .z) (.cons (.s .z) (.cons (.s .z) (.cons (.s .z) (.cons .z .tz)))))
      refine GL.skip rfl (.not rfl rfl rfl) ?_
      refine GL.o rfl (S1.pickF (v := (.bool _)) rfl rfl) ?_
      refine GL.o rfl (S1.st (u := (.bool _)) sc4 rfl rfl rfl (by repeat constructor) (.s (.s (.s (.s (.s (.s .z))))))) ?_
      refine GL.o rfl (S1.st (u := (.bool _)) sc4 rfl rfl rfl (by repeat constructor) (.s (.s (.s (.s (.s .z)))))) ?_
      refine GL.done rfl ?_
      refine GQ.outN ?_
      refine GQ.rN (true, _, _, _) .z rfl rfl (.cons (.s .z) (.cons (.s .z) (.cons (.s .z) (.cons (.s .z) (.cons .z .tz)))))
      refine GL.one rfl (.yes rfl rfl rfl) (S1.mvB rfl) ?_
      refine GL.o rfl (S1.pickF (v := (.bool _)) rfl rfl) ?_
      refine GL.o rfl (S1.ld sc4 rfl (.at (.s (.s (.s (.s (.s .z)))))) rfl) ?_
      refine GL.o rfl (S1.mvB rfl) ?_
      refine GL.split 18 rfl (fun w7 => ?_) (fun w7 => ?_)
      refine GL.one rfl (.yes rfl rfl rfl) (S1.mvB rfl) ?_
      refine GL.o rfl (S1.pickT (v := (.bool _)) rfl rfl) ?_
      refine GL.o rfl (S1.st (u := (.bool _)) sc4 rfl rfl rfl (by repeat constructor) (.s (.s (.s (.s (.s (.s .z))))))) ?_
      refine GL.o rfl (S1.st (u := (.bool _)) sc4 rfl rfl rfl (by repeat constructor) (.s (.s (.s (.s (.s .z)))))) ?_
      refine GL.done rfl ?_
      refine GQ.outN ?_
      refine GQ.rN (true, _, _, _) .z rfl rfl (.cons (.s .z) (.cons (.s .z) (.cons (.s .z) (.cons (.s .z) (.cons .z .tz)))))
      refine GL.skip rfl (.not rfl rfl rfl) ?_
      refine GL.o rfl (S1.pickF (v := (.bool _)) rfl rfl) ?_
      refine GL.o rfl (S1.st (u := (.bool _)) sc4 rfl rfl rfl (by repeat constructor) (.s (.s (.s (.s (.s (.s .z))))))) ?_
      refine GL.o rfl (S1.st (u := (.bool _)) sc4 rfl rfl rfl (by repeat constructor) (.s (.s (.s (.s (.s .z)))))) ?_
      refine GL.done rfl ?_
      refine GQ.outN ?_
      refine GQ.rN (true, _, _, _) .z rfl rfl (.cons (.s .z) (.cons (.s .z) (.cons (.s .z) (.cons (.s .z) (.cons .z .tz)))))
    · cases o with
      | pan v => exact q.elim
      | ret v =>
        obtain ⟨y, rfl, hR, hP⟩ := q
        have H2 := H1.callT (ps := M62 bP pr n vs bs s bm mk ((l, .loop lp0) :: R63 a1 a2 a3 false true Z)) (.cons (.s (.s (.s (.s (.s .z))))) (.cons (.s (.s (.s (.s (.s .z))))) (.cons (.s (.s (.s (.s (.s .z))))) (.cons (.s (.s (.s (.s (.s .z))))) (.cons .z (.cons (.s .z) (.cons (.s .z) (.cons (.s .z) (.ts .tz))))))))) hP
        obtain ⟨yl, ys, ya⟩ := y
        rcases hR with e | e
        · dsimp only at e
          subst e
          exact ⟨(ys, ya), yl, .normal, by subst hlp; rfl, by subst hlp; simp [newLoop], rfl, H2.sub (.cons (.s (.s (.s (.s (.s .z))))) .tz)⟩
        · exact e.elim
  · obtain rfl := hR
    refine GQ.outN ?_
    refine GQ.on ?_
    refine GW.toSeq rfl ?_
    refine GW.toDrwW [a2] mx rfl (fun _ H => InL.go (.c (.s (.s (.s (.s (.s (.s .z)))))) .n) H) ?_
    refine GE.one rfl .no (S1.ld sc4 rfl (.at (.s (.s (.s (.s (.s (.s .z))))))) rfl) rfl (.f (by kernel_rfl)) ?_
    refine GE.one rfl .no (S1.ld sc4 rfl (.at (.s (.s (.s (.s (.s .z)))))) rfl) rfl (.b rfl (fun _ H => NoW.go (by repeat first | exact .n | apply NoW.c (.s (.s (.s (.s (.s (.l .z))))))) H)) ?_
    refine GE.loud rfl .no (S1.st (u := (.bool _)) sc4 rfl rfl rfl (by repeat constructor) (.s (.s (.s (.s (.s (.s .z))))))) rfl rfl (by first | exact .w rfl (by simp) | exact .n rfl) ?_
    refine GE.loud rfl .no (S1.st (u := (.bool _)) sc4 rfl rfl rfl (by repeat constructor) (.s (.s (.s (.s (.s .z)))))) rfl rfl (.f (by kernel_rfl)) ?_
    refine GE.done rfl ?_
    refine GQ.on ?_
    refine GW.toRet rfl ?_
    refine GQ.toC .z ?_
    refine GQ.ret _ (.cell rfl rfl (.s (.s (.s (.s (.s .z))))) (loadV_sc sc4 rfl) (.cell rfl rfl (.s (.s (.s (.s .z)))) (loadV_sc sc4 rfl) .nil)) .more rfl ?_ (.cons .z (.cons .z (.cons .z (.cons .z (.ts (.ts (.ts .tz)))))))
    exact trivial
end
end Go.Proofs.YtadgfnnkpddneaaGreat
namespace Go.Proofs.YtadgfnnkpddneaaGreat
open Go Go.E
set_option maxRecDepth 100000
set_option maxHeartbeats 4000000

theorem mf105 : MF Tryz.prog 105 2 (.agg ⟨[.int .i64 0, .int .i64 0]⟩) := ⟨107, 107, 2, .array 2 3, by kernel_rfl, by kernel_rfl, by kernel_rfl, rfl, by kernel_rfl⟩

def V105 (un : Nat) : List Int → Value → Prop := fun _ v => ∃ a b : Int, v = .agg ⟨[.int .i64 a, .int .i64 b]⟩ ∧ -1 ≤ b ∧ b < un

theorem lk105 {un : Nat} {l : List Int} {v : Value} {is : Bool} (h : if is = true then V105 un l v else v = .agg ⟨[.int .i64 0, .int .i64 0]⟩) : ∃ a b : Int, v = .agg ⟨[.int .i64 a, .int .i64 b]⟩ ∧ (is = true → -1 ≤ b ∧ b < un) := by
  cases is with
  | true => obtain ⟨a, b, e, h⟩ := h; exact ⟨a, b, e, fun _ => h⟩
  | false => exact ⟨0, 0, h, fun e => by cases e⟩

theorem seen_tab : ∀ s : Fin 128, ∀ i : Fin 7, ¬IntKind.i64.wrap ↑(BitVec.ofInt IntKind.i64.bits ((s.val : Int).fdiv (2 ^ min (i.val : Int).toNat IntKind.i64.bits)) &&& BitVec.ofInt IntKind.i64.bits 1).toNat = 1 →
    0 ≤ IntKind.i64.wrap ↑(BitVec.ofInt IntKind.i64.bits (s.val : Int) ||| BitVec.ofInt IntKind.i64.bits ((2 ^ i.val : Nat) : Int)).toNat ∧ IntKind.i64.wrap ↑(BitVec.ofInt IntKind.i64.bits (s.val : Int) ||| BitVec.ofInt IntKind.i64.bits ((2 ^ i.val : Nat) : Int)).toNat < 128 ∧
      (s.val : Int) < IntKind.i64.wrap ↑(BitVec.ofInt IntKind.i64.bits (s.val : Int) ||| BitVec.ofInt IntKind.i64.bits ((2 ^ i.val : Nat) : Int)).toNat := by decide +kernel
theorem seen_or {s : Int} {i : Nat} (h0 : 0 ≤ s) (h1 : s < 128) (hi : i < 7) (h : ¬IntKind.i64.wrap ↑(BitVec.ofInt IntKind.i64.bits (s.fdiv (2 ^ min (i : Int).toNat IntKind.i64.bits)) &&& BitVec.ofInt IntKind.i64.bits 1).toNat = 1) :
    0 ≤ IntKind.i64.wrap ↑(BitVec.ofInt IntKind.i64.bits s ||| BitVec.ofInt IntKind.i64.bits ((2 ^ i : Nat) : Int)).toNat ∧ IntKind.i64.wrap ↑(BitVec.ofInt IntKind.i64.bits s ||| BitVec.ofInt IntKind.i64.bits ((2 ^ i : Nat) : Int)).toNat < 128 ∧ s < IntKind.i64.wrap ↑(BitVec.ofInt IntKind.i64.bits s ||| BitVec.ofInt IntKind.i64.bits ((2 ^ i : Nat) : Int)).toNat := by
  obtain ⟨k, rfl⟩ := Int.eq_ofNat_of_zero_le h0
  exact seen_tab ⟨k, by omega⟩ ⟨i, hi⟩ h

section
variable {hr : RO} {qa pa sh : Option Addr} {qn qc pn pc shn shc lb un bM mb bP pr n bS bL : Nat} {av : Option Addr} {al : Int} {vs : List Value}

abbrev K61 (bM mb bP pr n : Nat) (vs : List Value) (bS lb : Nat) (qa : Option Addr) (qn qc : Nat) (pa : Option Addr) (pn pc : Nat) (al : Int) (sh : Option Addr) (shn shc : Nat) (av : Option Addr) (un bL : Nat) : Ents :=
  [(bM, .cells [.map (some mb)] none true), (bP, .cells [rowS pr n] none true), (pr, .cells vs none true), (bS, .cells [.pointer (some ⟨lb, 0, none⟩)] none true), (lb, .cells (ShC qa qn qc pa pn pc al sh shn shc (.slice av un un)) none true),
   (bL, .cells [.func (.func 61) ⟨[]⟩ ⟨[.pointer (some ⟨bM, 0, none⟩), .pointer (some ⟨bP, 0, none⟩), .pointer (some ⟨bS, 0, none⟩), .pointer (some ⟨bL, 0, none⟩)]⟩] none true)]

structure Lk where
  a : Int
  b : Int
  es : List MapEntry
  cl : Nat


theorem ct61 (hn : n ≤ 128) (hvl : vs.length = n * 1) (hv : RowT wy4 vs) (hun : un ≤ 7) : ∀ (m : Nat) (s mk : Int) (es : List MapEntry) (cl : Nat) (h : EH),
    Hp hr h (((mb, .map es cl) :: K61 bM mb bP pr n vs bS lb qa qn qc pa pn pc al sh shn shc av un bL : Ents).map (·.1)) ((mb, .map es cl) :: K61 bM mb bP pr n vs bS lb qa qn qc pa pn pc al sh shn shc av un bL) h →
    0 ≤ s → s < 128 → (128 - s).toNat ≤ m → IMF 2 (V105 un) es →
    Ct Tryz.prog 61 ⟨[.int .i64 s, .int .i64 mk, .pointer (some ⟨bM, 0, none⟩), .pointer (some ⟨bP, 0, none⟩), .pointer (some ⟨bS, 0, none⟩), .pointer (some ⟨bL, 0, none⟩)]⟩ h [mb] (fun x : Lk => .agg ⟨[.int .i64 x.a, .int .i64 x.b]⟩) (fun x => (-1 ≤ x.b ∧ x.b < un) ∧ IMF 2 (V105 un) x.es) (fun x => [(mb, .map x.es x.cl)]) := by
  intro m
  induction m with
  | zero => intro s mk es cl h H h0 h1 h2; omega
  | succ m ih =>
    intro s mk es cl h H h0 h1 h2 him
    refine Ct.keep (K := K61 bM mb bP pr n vs bS lb qa qn qc pa pn pc al sh shn shc av un bL) ?_ (fun p hp => H.at_ p (.tail _ hp))
    refine Ct.go Tryz.func61 rfl rfl co61 H ?_
    refine GW.sr rfl rfl ?_
    refine GL.opN rfl .no (SN.bx (u := (.int _ _)) rfl (.one rfl)) (fun a1 => ?_)
    refine GL.opN rfl .no (SN.bx (u := (.int _ _)) rfl (.one rfl)) (fun a2 => ?_)
    refine GL.opN rfl .no (SN.al zc107) (fun a3 => ?_)
    refine GL.dn rfl ?_
    refine GW.toSeq rfl ?_
    refine GW.sr rfl rfl ?_
    refine GL.o rfl (S1.ld sc105 rfl (.at (.s (.s (.s (.s .z))))) rfl) ?_
    refine GL.o rfl (S1.ld sc3 rfl (.at (.s (.s .z))) rfl) ?_
    refine GL.o rfl (S1.ld sc3 rfl (.at (.s .z)) rfl) ?_
    refine GL.o rfl (S1.bua az107 (.c (v := (.int _ _)) rfl rfl (.c (v := (.int _ _)) rfl rfl .n)) rfl) ?_
    refine GL.opX rfl .no (SX.lkF (l := [s, mk]) mf105 rfl rfl (.at (.s (.s (.s .z)))) him rfl) (fun v21 r21 => ?_)
    obtain ⟨v, is⟩ := v21
    obtain ⟨ka, kb, e, hab⟩ := lk105 r21
    dsimp only at e hab
    subst e
    refine GL.o rfl (S1.mvT rfl) ?_
    refine GL.o rfl (S1.ext (v := (.agg _)) rfl rfl) ?_
    refine GL.o rfl (S1.ext (v := (.bool _)) rfl rfl) ?_
    refine GL.opN rfl .no (SN.al zc107) (fun a5 => ?_)
    refine GL.o rfl (S1.stA ag107 rfl rfl rfl rfl (by repeat constructor) .z) ?_
    refine GL.o rfl (S1.asB rfl) ?_
    refine GL.dn rfl ?_
    refine GW.sr rfl rfl ?_
    refine GL.o rfl (S1.mvB rfl) ?_
    refine GL.dn rfl ?_
    refine GW.toC rfl rfl (fun w6 => ?_) (fun w6 => ?_)
    refine GW.sr rfl rfl ?_
    refine GL.o rfl (S1.ldW ag107 rfl (.at .z) rfl) ?_
    refine GL.o rfl (S1.stA ag107 rfl rfl rfl rfl (by repeat constructor) (.s .z)) ?_
    refine GL.dn rfl ?_
    refine GW.toRet rfl ?_
    refine GQ.onR ?_
    refine GQ.retT ⟨ka, kb, es, cl⟩ (.cell rfl rfl (.s .z) (loadV_W ag107 rfl) .nil) .one rfl (.cons (.s (.s (.s (.s .z)))) (.cons (.s (.s (.s (.s .z)))) (.cons (.s (.s (.s (.s .z)))) (.cons (.s (.s (.s (.s .z)))) (.cons (.s (.s (.s (.s .z)))) (.cons (.s (.s (.s (.s .z)))) (.cons (.s (.s (.s (.s .z)))) .nil))))))) ⟨hab (by assumption), him⟩
    refine GW.toSkip rfl ?_
    refine GQ.on ?_
    refine GW.sr rfl rfl ?_
    refine GL.o rfl (S1.mf .n (.c (v := (.pointer _)) rfl (.c (v := (.pointer _)) rfl (.c (v := (.pointer _)) rfl .n)))) ?_
    refine GL.o rfl (S1.asF rfl) ?_
    refine GL.dn rfl ?_
    refine GW.sr rfl rfl ?_
    refine GL.o rfl (S1.bua az107 (.c (v := (.int _ _)) rfl rfl (.c (v := (.int _ _)) rfl rfl .n)) rfl) ?_
    refine GL.opN rfl .no (SN.al zc107) (fun a7 => ?_)
    refine GL.o rfl (S1.stA ag107 rfl rfl rfl rfl (by repeat constructor) .z) ?_
    refine GL.dn rfl ?_
    refine GW.cut (X := Lk) (fun x => [(2, .pointer (some ⟨bM, 0, none⟩)), (6, .pointer (some ⟨a1, 0, none⟩)), (7, .pointer (some ⟨a2, 0, none⟩)), (8, .pointer (some ⟨a3, 0, none⟩)), (12, .pointer (some ⟨a7, 0, none⟩))]) (fun x => (a7, .cells [.int .i64 x.a, .int .i64 x.b] none true) :: (a3, .cells [.int .i64 0, .int .i64 0] none true) :: (a1, .cells [.int .i64 s] none true) :: (a2, .cells [.int .i64 mk] none true) :: (mb, .map x.es x.cl) :: K61 bM mb bP pr n vs bS lb qa qn qc pa pn pc al sh shn shc av un bL) (fun x => (-1 ≤ x.b ∧ x.b < un) ∧ IMF 2 (V105 un) x.es) rfl ?_ ?_
    · refine GW.toSeq rfl ?_
      refine GW.toReg rfl ?_
      refine GL.o rfl (S1.mvF rfl) ?_
      refine GL.call rfl .no fo63 (show Take _ (M62 bP pr n vs a1 s a2 mk []) _ from (.cons (.s (.s (.s (.s (.s (.s (.s .z))))))) (.cons (.s (.s (.s (.s (.s (.s (.s .z))))))) (.cons (.s (.s (.s (.s .z)))) (.cons (.s (.s (.s .z))) .nil))))) (fun h H => ct63 hn hvl hv (H.give (show Take _ (M62 bP pr n vs a1 s a2 mk []) _ from (.cons (.s (.s (.s (.s (.s (.s (.s .z))))))) (.cons (.s (.s (.s (.s (.s (.s (.s .z))))))) (.cons (.s (.s (.s (.s .z)))) (.cons (.s (.s (.s .z))) .nil))))))) (.d (.c (v := (.func _ _ _)) rfl (.c (v := (.func _ _ _)) rfl .n))) (fun x63 _ => ?_)
      refine GL.o rfl (S1.mvT rfl) ?_
      refine GL.o rfl (S1.ext (v := (.bool _)) rfl rfl) ?_
      refine GL.o rfl (S1.ext (v := (.bool _)) rfl rfl) ?_
      refine GL.o rfl (S1.asB rfl) ?_
      refine GL.o rfl (S1.asB rfl) ?_
      refine GL.dn rfl ?_
      refine GW.sr rfl rfl ?_
      refine GL.o rfl (S1.mvB rfl) ?_
      refine GL.o rfl (S1.mvB rfl) ?_
      refine GL.split 35 rfl (fun w9 => ?_) (fun w9 => ?_)
      refine GL.one rfl (.yes rfl rfl rfl) (S1.mvB rfl) ?_
      refine GL.one rfl (.yes rfl rfl rfl) (S1.not rfl) ?_
      refine GL.o rfl (S1.pickT (v := (.bool _)) rfl rfl) ?_
      refine GL.dn rfl ?_
      refine GW.toC rfl rfl (fun w10 => ?_) (fun w10 => ?_)
      refine GW.sr rfl rfl ?_
      refine GL.o rfl (S1.ld sc82 rfl (.at (.s (.s (.s (.s (.s (.s (.s (.s (.s .z)))))))))) rfl) ?_
      refine GL.o rfl (S1.nc rfl) ?_
      refine GL.o rfl (S1.fa fa86_2 rfl) ?_
      refine GL.o rfl (S1.ld sc52 rfl (.at (.s (.s (.s (.s (.s (.s (.s (.s (.s (.s .z))))))))))) rfl) ?_
      refine GL.o rfl (S1.len el52 rfl) ?_
      refine GL.o rfl (S1.mvI rfl) ?_
      refine GL.dn rfl ?_
      refine GW.toBlock rfl ?_
      rotate_left
      refine GW.toSkip rfl ?_
      refine GQ.cutEnd ⟨0, -1, es, cl⟩ ⟨⟨(by first | omega | (dsimp only; omega)), (by first | omega | (dsimp only; omega))⟩, him⟩ (.c rfl (.c rfl (.c rfl (.c rfl (.c rfl .n))))) (.cons (.s (.s (.s (.s .z)))) (.cons (.s (.s (.s (.s (.s .z))))) (.cons (.s (.s .z)) (.cons (.s (.s .z)) (.cons (.s (.s (.s .z))) (.cons (.s (.s (.s .z))) (.cons .z (.cons .z (.cons (.s .z) (.cons (.s .z) (.cons (.s .z) .nil)))))))))))
      refine GL.skip rfl (.not rfl rfl rfl) ?_
      refine GL.skip rfl (.not rfl rfl rfl) ?_
      refine GL.o rfl (S1.pickF (v := (.bool _)) rfl rfl) ?_
      refine GL.dn rfl ?_
      refine GW.toF rfl rfl ?_
      refine GW.toSkip rfl ?_
      refine GQ.cutEnd ⟨0, -1, es, cl⟩ ⟨⟨(by first | omega | (dsimp only; omega)), (by first | omega | (dsimp only; omega))⟩, him⟩ (.c rfl (.c rfl (.c rfl (.c rfl (.c rfl .n))))) (.cons (.s (.s (.s (.s .z)))) (.cons (.s (.s (.s (.s (.s .z))))) (.cons (.s (.s .z)) (.cons (.s (.s .z)) (.cons (.s (.s (.s .z))) (.cons (.s (.s (.s .z))) (.cons .z (.cons .z (.cons (.s .z) (.cons (.s .z) (.cons (.s .z) .nil)))))))))))
      refine GW.toLoop (X := Nat × Lk) (fun x => [(2, .pointer (some ⟨bM, 0, none⟩)), (4, .pointer (some ⟨bS, 0, none⟩)), (5, .pointer (some ⟨bL, 0, none⟩)), (6, .pointer (some ⟨a1, 0, none⟩)), (7, .pointer (some ⟨a2, 0, none⟩)), (8, .pointer (some ⟨a3, 0, none⟩)), (12, .pointer (some ⟨a7, 0, none⟩)), (43, .int .i64 un), (44, .int .i64 x.1)]) (fun x => (a7, .cells [.int .i64 x.2.a, .int .i64 x.2.b] none true) :: (a3, .cells [.int .i64 0, .int .i64 0] none true) :: (a1, .cells [.int .i64 s] none true) :: (a2, .cells [.int .i64 mk] none true) :: (mb, .map x.2.es x.2.cl) :: K61 bM mb bP pr n vs bS lb qa qn qc pa pn pc al sh shn shc av un bL) (fun x => x.1 ≤ un ∧ (-1 ≤ x.2.b ∧ x.2.b < un) ∧ IMF 2 (V105 un) x.2.es) (fun x => un - x.1) rfl (0, ⟨0, -1, es, cl⟩) ⟨Nat.zero_le _, ⟨(by first | omega | (dsimp only; omega)), (by first | omega | (dsimp only; omega))⟩, him⟩ (.c rfl (.c rfl (.c rfl (.c rfl (.c rfl (.c rfl (.c rfl (.c rfl (.c rfl .n))))))))) (.cons (.s (.s (.s (.s .z)))) (.cons (.s (.s (.s (.s (.s .z))))) (.cons (.s (.s .z)) (.cons (.s (.s .z)) (.cons (.s (.s (.s .z))) (.cons (.s (.s (.s .z))) (.cons .z (.cons .z (.cons (.s .z) (.cons (.s .z) (.cons (.s .z) .nil))))))))))) ?_
      rintro x f ⟨hx, hb, him⟩
      have hso := seen_or (i := x.1) h0 h1
      refine GW.sr rfl rfl ?_
      refine GL.o rfl (S1.lss rfl rfl) ?_
      refine GL.dn rfl ?_
      refine GW.toSeq rfl ?_
      refine GW.toD rfl rfl (fun w11 => ?_) (fun w11 => ?_)
      refine GW.toSkip rfl ?_
      refine GQ.on ?_
      refine GW.toSeq rfl ?_
      refine GW.toBlock rfl ?_
      refine GW.sr rfl rfl ?_
      refine GL.o rfl (S1.mvI rfl) ?_
      refine GL.o rfl (S1.asI rfl) ?_
      refine GL.dn rfl ?_
      refine GW.toSeq rfl ?_
      refine GW.sr rfl rfl ?_
      refine GL.o rfl (S1.ld sc3 rfl (.at (.s (.s .z))) rfl) ?_
      refine GL.o rfl (S1.mvI rfl) ?_
      refine GL.o rfl (S1.shr rfl rfl (by omega)) ?_
      refine GL.o rfl (S1.bits rfl rfl rfl) ?_
      refine GL.o rfl (S1.eql rfl rfl) ?_
      refine GL.dn rfl ?_
      refine GW.toD rfl rfl (fun w13 => ?_) (fun w13 => ?_)
      refine GW.toExit rfl ?_
      refine GQ.onE ?_
      refine GQ.outH ?_
      refine GQ.on ?_
      refine GW.toReg rfl ?_
      refine GL.o rfl (S1.inc rfl rfl (by omega)) ?_
      refine GL.o rfl (S1.mvI rfl) ?_
      refine GL.done rfl ?_
      refine GQ.nextT (x.1 + 1, x.2) (.c rfl (.c rfl (.c rfl (.c rfl (.c rfl (.c rfl (.c rfl (.c rfl (.c rfl .n))))))))) .tz ⟨(by first | omega | (dsimp only; omega)), hb, him⟩ (by first | omega | (dsimp only; omega))
      refine GW.toSkip rfl ?_
      refine GQ.on ?_
      refine GW.toSeq rfl ?_
      refine GW.toDrwW [mb] mx rfl (fun _ H => InL.go (.c (.s (.s (.s (.s .z)))) .n) H) ?_
      refine GE.one rfl .no (S1.ld sc106 rfl (.at (.s (.s (.s (.s (.s (.s (.s (.s (.s (.s .z))))))))))) rfl) rfl (.f (by kernel_rfl)) ?_
      refine GE.one rfl .no (S1.ld sc3 rfl (.at (.s (.s .z))) rfl) rfl (.f (by kernel_rfl)) ?_
      refine GE.one rfl .no (S1.mvI rfl) rfl (.f (by kernel_rfl)) ?_
      refine GE.one rfl .no (S1.shl1I rfl rfl (by omega)) rfl (.f (by kernel_rfl)) ?_
      refine GE.one rfl .no (S1.bits rfl rfl rfl) rfl (.f (by kernel_rfl)) ?_
      refine GE.one rfl .no (S1.ld sc3 rfl (.at (.s (.s (.s .z)))) rfl) rfl (.f (by kernel_rfl)) ?_
      refine GE.call rfl .no fo61 (.inr (by simp)) (show Take _ [(mb, _)] _ from (.cons (.s (.s (.s (.s .z)))) .nil)) (fun h H => ih _ _ _ _ _ (H.give (ps := (mb, .map _ _) :: K61 bM mb bP pr n vs bS lb qa qn qc pa pn pc al sh shn shc av un bL) (.cons (.s (.s (.s (.s .z)))) (.cons (.s (.s (.s (.s .z)))) (.cons (.s (.s (.s (.s .z)))) (.cons (.s (.s (.s (.s .z)))) (.cons (.s (.s (.s (.s .z)))) (.cons (.s (.s (.s (.s .z)))) (.cons (.s (.s (.s (.s .z)))) .nil)))))))) (hso (by omega) (by assumption)).1 (hso (by omega) (by assumption)).2.1 (by have := (hso (by omega) (by assumption)).2.2; omega) (by assumption)) (.v (fs := []) (cs := [(.pointer _), (.pointer _), (.pointer _), (.pointer _)]) rfl (.c (v := (.int _ _)) rfl (.c (v := (.int _ _)) rfl .n))) (fun x14 ⟨q14a, q14b⟩ => ?_)
      refine GE.one rfl .no (S1.ixV (n := 2) (by kernel_rfl) rfl (m := 0) rfl (by decide) rfl) rfl (.f (by kernel_rfl)) ?_
      refine GE.one rfl .no (S1.ld sc106 rfl (.at (.s (.s (.s (.s (.s (.s (.s (.s (.s (.s .z))))))))))) rfl) rfl (.b rfl (fun _ H => NoW.go (by repeat first | exact .n | apply NoW.c (.r (.s (.s (.s (.s (.s (.s (.s (.s (.s .z))))))))))) H)) ?_
      refine GE.one rfl .no (S1.ld sc3 rfl (.at (.s (.s (.s .z)))) rfl) rfl (.b rfl (fun _ H => NoW.go (by repeat first | exact .n | apply NoW.c (.r (.s (.s .z)))) H)) ?_
      refine GE.one rfl .no (S1.mvI rfl) rfl (.f (by kernel_rfl)) ?_
      refine GE.one rfl .no (S1.shl1I rfl rfl (by omega)) rfl (.f (by kernel_rfl)) ?_
      refine GE.one rfl .no (S1.bits rfl rfl rfl) rfl (.f (by kernel_rfl)) ?_
      refine GE.one rfl .no (S1.ld sc3 rfl (.at (.s (.s (.s (.s .z))))) rfl) rfl (.b rfl (fun _ H => NoW.go (by repeat first | exact .n | apply NoW.c (.r (.s (.s (.s .z))))) H)) ?_
      refine GE.one rfl .no (S1.mvI rfl) rfl (.f (by kernel_rfl)) ?_
      refine GE.one rfl .no (S1.shl1I rfl rfl (by omega)) rfl (.f (by kernel_rfl)) ?_
      refine GE.one rfl .no (S1.bits rfl rfl rfl) rfl (.f (by kernel_rfl)) ?_
      refine GE.call rfl .no fo61 (.inl (by kernel_rfl)) (show Take _ [(mb, _)] _ from (.cons .z .nil)) (fun h H => ih _ _ _ _ _ (H.give (ps := (mb, .map _ _) :: K61 bM mb bP pr n vs bS lb qa qn qc pa pn pc al sh shn shc av un bL) (.cons .z (.cons (.s (.s (.s (.s .z)))) (.cons (.s (.s (.s (.s .z)))) (.cons (.s (.s (.s (.s .z)))) (.cons (.s (.s (.s (.s .z)))) (.cons (.s (.s (.s (.s .z)))) (.cons (.s (.s (.s (.s .z)))) .nil)))))))) (hso (by omega) (by assumption)).1 (hso (by omega) (by assumption)).2.1 (by have := (hso (by omega) (by assumption)).2.2; omega) (by assumption)) (.v (fs := []) (cs := [(.pointer _), (.pointer _), (.pointer _), (.pointer _)]) rfl (.c (v := (.int _ _)) rfl (.c (v := (.int _ _)) rfl .n))) (fun x15 ⟨q15a, q15b⟩ => ?_)
      refine GE.one rfl .no (S1.ixV (n := 2) (by kernel_rfl) rfl (m := 0) rfl (by decide) rfl) rfl (.f (by kernel_rfl)) ?_
      refine GE.one rfl .no (S1.mx2 rfl rfl) rfl (.f (by kernel_rfl)) ?_
      refine GE.one rfl .no (S1.add rfl rfl) rfl (.f (by kernel_rfl)) ?_
      refine GE.one rfl .no (S1.asI rfl) rfl (.f (by kernel_rfl)) ?_
      refine GE.done rfl ?_
      refine GQ.on ?_
      refine GW.sr rfl rfl ?_
      refine GL.o rfl (S1.ixP (n := 2) (by kernel_rfl) rfl (m := 1) rfl (by decide)) ?_
      refine GL.o rfl (S1.ld sc3 rfl (.at (.s .z)) rfl) ?_
      refine GL.o rfl (S1.lss rfl rfl) ?_
      refine GL.o rfl (S1.mvB rfl) ?_
      refine GL.splitD 76 rfl (fun w16 => ?_) (fun w16 => ?_)
      refine GL.skip rfl (.not rfl rfl rfl) ?_
      refine GL.skip rfl (.not rfl rfl rfl) ?_
      refine GL.skip rfl (.not rfl rfl rfl) ?_
      refine GL.skip rfl (.not rfl rfl rfl) ?_
      refine GL.o rfl (S1.pickT (v := (.bool _)) rfl rfl) ?_
      refine GL.dn rfl ?_
      refine GW.toT rfl rfl ?_
      refine GW.toReg rfl ?_
      refine GL.o rfl (S1.mvI rfl) ?_
      refine GL.o rfl (S1.mvI rfl) ?_
      refine GL.o rfl (S1.bua az107 (.c (v := (.int _ _)) rfl rfl (.c (v := (.int _ _)) rfl rfl .n)) rfl) ?_
      refine GL.o rfl (S1.stA ag107 rfl rfl rfl rfl (by repeat constructor) (.s .z)) ?_
      refine GL.done rfl ?_
      refine GQ.outN ?_
      refine GQ.on ?_
      refine GW.toReg rfl ?_
      refine GL.o rfl (S1.inc rfl rfl (by omega)) ?_
      refine GL.o rfl (S1.mvI rfl) ?_
      refine GL.done rfl ?_
      refine GQ.nextT (x.1 + 1, ⟨IntKind.i64.wrap (1 + max x14.a x15.a), x.1, x15.es, x15.cl⟩) (.c rfl (.c rfl (.c rfl (.c rfl (.c rfl (.c rfl (.c rfl (.c rfl (.c rfl .n))))))))) (.cons (.s .z) (.cons (.s .z) (.cons (.s .z) (.cons (.s .z) .tz)))) ⟨(by first | omega | (dsimp only; omega)), ⟨(by first | omega | (dsimp only; omega)), (by first | omega | (dsimp only; omega))⟩, q15b⟩ (by first | omega | (dsimp only; omega))
      refine GL.one rfl (.yes rfl rfl rfl) (S1.mvI rfl) ?_
      refine GL.one rfl (.yes rfl rfl rfl) (S1.ixP (n := 2) (by kernel_rfl) rfl (m := 0) rfl (by decide)) ?_
      refine GL.one rfl (.yes rfl rfl rfl) (S1.ld sc3 rfl (.at (.s .z)) rfl) ?_
      refine GL.one rfl (.yes rfl rfl rfl) (S1.lss rfl rfl) ?_
      refine GL.o rfl (S1.pickF (v := (.bool _)) rfl rfl) ?_
      refine GL.dn rfl ?_
      refine GW.toD rfl rfl (fun w17 => ?_) (fun w17 => ?_)
      refine GW.toReg rfl ?_
      refine GL.o rfl (S1.mvI rfl) ?_
      refine GL.o rfl (S1.mvI rfl) ?_
      refine GL.o rfl (S1.bua az107 (.c (v := (.int _ _)) rfl rfl (.c (v := (.int _ _)) rfl rfl .n)) rfl) ?_
      refine GL.o rfl (S1.stA ag107 rfl rfl rfl rfl (by repeat constructor) (.s .z)) ?_
      refine GL.done rfl ?_
      refine GQ.outN ?_
      refine GQ.on ?_
      refine GW.toReg rfl ?_
      refine GL.o rfl (S1.inc rfl rfl (by omega)) ?_
      refine GL.o rfl (S1.mvI rfl) ?_
      refine GL.done rfl ?_
      refine GQ.nextT (x.1 + 1, ⟨IntKind.i64.wrap (1 + max x14.a x15.a), x.1, x15.es, x15.cl⟩) (.c rfl (.c rfl (.c rfl (.c rfl (.c rfl (.c rfl (.c rfl (.c rfl (.c rfl .n))))))))) (.cons (.s .z) (.cons (.s .z) (.cons (.s .z) (.cons (.s .z) .tz)))) ⟨(by first | omega | (dsimp only; omega)), ⟨(by first | omega | (dsimp only; omega)), (by first | omega | (dsimp only; omega))⟩, q15b⟩ (by first | omega | (dsimp only; omega))
      refine GW.toSkip rfl ?_
      refine GQ.outN ?_
      refine GQ.on ?_
      refine GW.toReg rfl ?_
      refine GL.o rfl (S1.inc rfl rfl (by omega)) ?_
      refine GL.o rfl (S1.mvI rfl) ?_
      refine GL.done rfl ?_
      refine GQ.nextT (x.1 + 1, ⟨x.2.a, x.2.b, x15.es, x15.cl⟩) (.c rfl (.c rfl (.c rfl (.c rfl (.c rfl (.c rfl (.c rfl (.c rfl (.c rfl .n))))))))) (.cons (.s .z) (.cons (.s .z) (.cons (.s .z) (.cons (.s .z) .tz)))) ⟨(by first | omega | (dsimp only; omega)), hb, q15b⟩ (by first | omega | (dsimp only; omega))
      refine GW.toExit rfl ?_
      refine GQ.onE ?_
      refine GQ.onE ?_
      refine GQ.outH ?_
      refine GQ.cutEnd x.2 ⟨hb, him⟩ (.c rfl (.c rfl (.c rfl (.c rfl (.c rfl .n))))) .tz
    · rintro x f ⟨hb, him⟩
      refine GW.sr rfl rfl ?_
      refine GL.o rfl (S1.ld sc105 rfl (.at (.s (.s (.s (.s (.s .z)))))) rfl) ?_
      refine GL.o rfl (S1.ld sc3 rfl (.at (.s (.s .z))) rfl) ?_
      refine GL.o rfl (S1.ld sc3 rfl (.at (.s (.s (.s .z)))) rfl) ?_
      refine GL.o rfl (S1.bua az107 (.c (v := (.int _ _)) rfl rfl (.c (v := (.int _ _)) rfl rfl .n)) rfl) ?_
      refine GL.o rfl (S1.ldW ag107 rfl (.at .z) rfl) ?_
      refine GL.muF (l := [s, mk]) rfl .no mf105 rfl rfl rfl (.s (.s (.s (.s .z)))) him rfl ⟨x.a, x.b, rfl, hb⟩ (fun es' cl' im' => ?_)
      refine GL.dn rfl ?_
      refine GW.sr rfl rfl ?_
      refine GL.o rfl (S1.ldW ag107 rfl (.at (.s .z)) rfl) ?_
      refine GL.o rfl (S1.stA ag107 rfl rfl rfl rfl (by repeat constructor) (.s (.s .z))) ?_
      refine GL.dn rfl ?_
      refine GW.toRet rfl ?_
      refine GQ.retT ⟨x.a, x.b, es', cl'⟩ (.cell rfl rfl (.s (.s .z)) (loadV_W ag107 rfl) .nil) .one rfl (.cons .z (.cons (.s (.s (.s (.s .z)))) (.cons (.s (.s (.s (.s .z)))) (.cons (.s (.s (.s (.s .z)))) (.cons (.s (.s (.s (.s .z)))) (.cons (.s (.s (.s (.s .z)))) (.cons (.s (.s (.s (.s .z)))) .nil))))))) ⟨hb, im'⟩
end
end Go.Proofs.YtadgfnnkpddneaaGreat
namespace Go.Proofs.YtadgfnnkpddneaaGreat
open Go Go.E
set_option maxRecDepth 100000
set_option maxHeartbeats 4000000

theorem RowT.setB {vs : List Value} {k : Nat} {b : Bool} (h : RowT wy4 vs) : RowT wy4 (vs.set (0 + k * 1) (.bool b)) := by
  rw [Nat.zero_add]
  exact RowT.set0 (i := k) rfl .bool h
theorem RowT.repB {n : Nat} : RowT wy4 (List.replicate n (.bool false)) := by
  intro i j l v hj hv
  have hj' : j = 0 := by have := (List.getElem?_eq_some_iff.1 hj).1; simp only [wy4, List.length_cons, List.length_nil] at this; omega
  subst hj'
  simp only [wy4, List.getElem?_cons_zero, Option.some.injEq] at hj
  subst hj
  have := List.eq_of_mem_replicate (List.mem_of_getElem? hv)
  subst this
  exact .bool

section
variable {h h0 : EH} {hr : RO} {F : List Nat} {L L1 : Ents} {qa pa sh : Option Addr} {qn qc pn pc shn shc : Nat} {al : Int}

abbrev R28 (a1 a2 a4 lb pr : Nat) (n : Nat) (bP : Nat) (qa : Option Addr) (qn qc : Nat) (pa : Option Addr) (pn pc : Nat) (al : Int) (vs : List Value) (Z : Ents) : Ents :=
  (bP, .cells [rowS pr n] none true) :: (pr, .cells vs none true) :: (a4, .cells [.pointer (some ⟨lb, 0, none⟩)] none true) :: (a2, .cells [.int .i64 0, .int .i64 0] none true) :: (a1, .cells [.slice qa qn qc, .slice pa pn pc, .int .i64 al] none true) :: Z


theorem ct28 (hR : ∀ b o, hr b = some o → h[b]? = some o) (h1 : Cell hr (.sl ly81) (.slice qa qn qc)) (h2 : Cell hr (.sl ly3) (.slice pa pn pc)) (h4 : Cell hr (.sl ly23) (.slice sh shn shc)) :
    Ct Tryz.prog 28 ⟨[.agg ⟨[.slice qa qn qc, .slice pa pn pc, .int .i64 al]⟩, .slice sh shn shc]⟩ h [] (fun x : Int × Int × Int × Int => .tuple ⟨[.agg ⟨[.int .i64 x.1, .int .i64 x.2.1]⟩, .int .i64 x.2.2.1, .int .i64 x.2.2.2]⟩) (fun _ => True) (fun _ => []) := by
  refine Ct.goC Tryz.func28 rfl rfl co28 (Hp.start hR) ?_
  refine GW.sr rfl rfl ?_
  refine GL.opN rfl .no (SN.bx (u := .agg ⟨_⟩) rfl .agg) (fun a1 => ?_)
  refine GL.opN rfl .no (SN.al zc59) (fun a2 => ?_)
  refine GL.o rfl (S1.asI rfl) ?_
  refine GL.o rfl (S1.asI rfl) ?_
  refine GL.dn rfl ?_
  refine GW.sr rfl rfl ?_
  refine GL.o rfl (S1.ldW ag25 rfl (.at (.s .z)) rfl) ?_
  refine GL.o rfl (S1.mvL rfl) ?_
  refine GL.call rfl .no fo45 .nil (fun h H => ct45' H.rom h1 h2 h4) (.d (.c (v := (.agg _)) rfl (.c (v := (.slice _ _ _)) rfl .n))) (fun x45 => match x45 with | .inl x45 => fun (q45 : SuOk hr qa qn pn sh shn x45) => (fun (hk : 2 ^ x45.un ≤ 128 ∧ x45.un ≤ 7) => ?_) ⟨Nat.pow_le_pow_right (i := x45.un) (j := 7) (by decide) q45.u7, q45.u7⟩ | .inr e45 => fun (q45 : e45 ≠ 0) => ?_)
  refine GL.o rfl (S1.mvT rfl) ?_
  refine GL.o rfl (S1.ext (v := (.pointer _)) rfl rfl) ?_
  refine GL.o rfl (S1.ext (v := (.int _ _)) rfl rfl) ?_
  refine GL.opN rfl .no (SN.al zc82) (fun a4 => ?_)
  refine GL.o rfl (S1.st (u := (.pointer _)) sc82 rfl rfl rfl (by repeat constructor) .z) ?_
  refine GL.o rfl (S1.asI rfl) ?_
  refine GL.dn rfl ?_
  refine GW.toSeq rfl ?_
  refine GW.sr rfl rfl ?_
  refine GL.o rfl (S1.mvI rfl) ?_
  refine GL.o rfl (S1.neq rfl rfl) ?_
  refine GL.dn rfl ?_
  refine GW.toF rfl rfl ?_
  refine GW.toSkip rfl ?_
  refine GQ.on ?_
  refine GW.sr rfl rfl ?_
  refine GL.o rfl (S1.ld sc82 rfl (.at .z) rfl) ?_
  refine GL.o rfl (S1.nc rfl) ?_
  refine GL.o rfl (S1.fa fa86_2 rfl) ?_
  refine GL.o rfl (S1.ld sc52 rfl (.at (.s .z)) rfl) ?_
  refine GL.o rfl (S1.len el52 rfl) ?_
  refine GL.o rfl (S1.shl1I rfl rfl (by omega)) ?_
  refine GL.opN rfl .no (SN.ms ze104 el104 rfl rfl rfl (by omega)) (fun a5 => ?_)
  refine GL.opN rfl .no (SN.al zc104) (fun a7 => ?_)
  refine GL.o rfl (S1.st (u := (.slice _ _ _)) sc104 rfl rfl rfl (by repeat constructor) .z) ?_
  refine GL.dn rfl ?_
  refine GW.toSeq rfl ?_
  refine GW.sr rfl rfl ?_
  refine GL.o rfl (S1.ld sc82 rfl (.at (.s (.s .z))) rfl) ?_
  refine GL.call rfl .no fo53 .nil (fun h H => ct53) (.d (.c (v := (.pointer _)) rfl .n)) (fun x53 _ => ?_)
  refine GL.dn rfl ?_
  refine GW.toBlock rfl ?_
  rotate_left
  refine GL.o rfl (S1.mvT rfl) ?_
  refine GL.o rfl (S1.ext (v := (.pointer _)) rfl rfl) ?_
  refine GL.o rfl (S1.ext (v := (.int _ _)) rfl rfl) ?_
  refine GL.opN rfl .no (SN.al zc82) (fun a9 => ?_)
  refine GL.o rfl (S1.st (u := (.pointer _)) sc82 rfl rfl rfl (by repeat constructor) .z) ?_
  refine GL.o rfl (S1.asI rfl) ?_
  refine GL.dn rfl ?_
  refine GW.toSeq rfl ?_
  refine GW.sr rfl rfl ?_
  refine GL.o rfl (S1.mvI rfl) ?_
  refine GL.o rfl (S1.neq rfl rfl) ?_
  refine GL.dn rfl ?_
  refine GW.toD rfl rfl (fun w10 => ?_) (fun w10 => ?_)
  refine GW.sr rfl rfl ?_
  refine GL.o rfl (S1.ldW ag59 rfl (.at (.s .z)) rfl) ?_
  refine GL.o rfl (S1.mvI rfl) ?_
  refine GL.o rfl (S1.stA ag59 rfl rfl rfl rfl (by repeat constructor) (.s .z)) ?_
  refine GL.o rfl (S1.asI rfl) ?_
  refine GL.o rfl (S1.asI rfl) ?_
  refine GL.dn rfl ?_
  refine GW.toRet rfl ?_
  refine GQ.onR ?_
  refine GQ.toB ?_
  refine GQ.ret (0, 0, 0, e45) (.cell rfl rfl (.s .z) (loadV_W ag59 rfl) (.tmp rfl rfl (.tmp rfl rfl .nil))) .more rfl trivial .nil
  refine GW.toSkip rfl ?_
  refine GQ.on ?_
  refine GW.sr rfl rfl ?_
  refine GL.o rfl (S1.ld sc82 rfl (.at .z) rfl) ?_
  (exfalso; omega)
  refine GW.toRange (Y := List Value) (M := fun y => M87 x53 x45.lb qa qn qc pa pn pc al sh shn shc x45.av x45.un (R28 a1 a2 a4 x45.lb a5 (2 ^ x45.un) a7 qa qn qc pa pn pc al y x45.uE)) (R := fun y ex => ex = .normal ∧ y.length = 2 ^ x45.un * 1 ∧ RowT wy4 y) rfl rfl fo87 (fun k2 k3 d l h1' H1 => ?_) (fun d y ex hR => ?_)
  · generalize hlp : newLoop _ _ _ _ _ _ = lp0 at H1
    have H1' := H1.give (ps := M87 x53 x45.lb qa qn qc pa pn pc al sh shn shc x45.av x45.un ((l, .loop lp0) :: R28 a1 a2 a4 x45.lb a5 (2 ^ x45.un) a7 qa qn qc pa pn pc al (List.replicate (2 ^ x45.un) (.bool false)) x45.uE)) (.cons (.s (.s .z)) (.cons (.s (.s (.s (.s (.s .z))))) (.cons .z (.cons (.s .z) (.cons (.s .z) (.cons (.s .z) (.cons (.s (.sA .z)) (.cons (.s (.sA .z)) (.ts .tzA)))))))))
    refine WF.mono (ct87i (bx := x53) (l := l) (Y := Loop × List Value) (fun y => (l, .loop y.1) :: R28 a1 a2 a4 x45.lb a5 (2 ^ x45.un) a7 qa qn qc pa pn pc al y.2 x45.uE) (fun _ y => y.1 = lp0 ∧ y.2.length = 2 ^ x45.un * 1 ∧ RowT wy4 y.2) (fun _ => False) q45.u7 (fun k y h hn hy H => ?_) (lp0, (List.replicate (2 ^ x45.un) (.bool false))) ⟨rfl, by simp, RowT.repB⟩ H1') fun o h2' q => ?_
    · obtain ⟨yl, y⟩ := y
      obtain ⟨e, hyl, hyv⟩ := hy
      dsimp only at e hyl hyv
      subst e
      subst hlp
      refine Rt.go H (r := (.s (.s .z))) (by simp only [newLoop, Array.size_ofFn]) rfl (newLoop_f rfl) k2 ?_
      clear H1 H1'
      refine GW.toReg rfl ?_
      refine GL.o rfl (S1.asI rfl) ?_
      refine GL.done rfl ?_
      refine GQ.body (.s (.s .z)) rfl k3 ?_
      refine GW.toBlock rfl ?_
      refine GW.toDrw mx rfl ?_
      refine GD.o rfl (S1.ld sc104 rfl (.at (.s (.s (.s .z)))) rfl) rfl ?_
      refine GD.o rfl (S1.mvI rfl) rfl ?_
      refine GD.o rfl (S1.ld sc82 rfl (.at (.s (.s (.s (.s (.s .z)))))) rfl) rfl ?_
      refine GD.o rfl (S1.mvI rfl) rfl ?_
      refine GD.call rfl .no fo47 .nil (fun h H => ct47 (q45.mkH h1 h2 h4 H (.s (.s .z)) (show Take _ x45.uE _ from (.ts (.ts (.ts (.ts (.ts (.ts (.ts (.ts .tz))))))))))) (.d (.c (v := (.pointer _)) rfl (.c (v := (.int _ _)) rfl .n))) (fun x47 _ => ?_)
      refine GD.o rfl (S1.ixN el104 rfl rfl (by omega)) rfl ?_
      refine GD.loud rfl .no (S1.stV (u := (.bool _)) sc4 rfl rfl rfl (by simp only [List.length_set]; omega) (.s (.s (.s (.s .z))))) rfl rfl (by kernel_rfl) ?_
      refine GD.done rfl ?_
      refine GQ.outN ?_
      refine GQ.rN (true, _, y.set (0 + k * 1) (.bool x47)) .z rfl ⟨rfl, by simp only [List.length_set]; exact hyl, RowT.setB hyv⟩ (.cons (.s .z) (.cons (.s .z) (.cons .z .tz)))
    · cases o with
      | pan v => exact q.elim
      | ret v =>
        obtain ⟨y, rfl, hR, hP⟩ := q
        have H2 := H1.callT (ps := M87 x53 x45.lb qa qn qc pa pn pc al sh shn shc x45.av x45.un ((l, .loop lp0) :: R28 a1 a2 a4 x45.lb a5 (2 ^ x45.un) a7 qa qn qc pa pn pc al (List.replicate (2 ^ x45.un) (.bool false)) x45.uE)) (.cons (.s (.s .z)) (.cons (.s (.s (.s (.s (.s .z))))) (.cons .z (.cons (.s .z) (.cons (.s .z) (.cons (.s .z) (.cons (.s (.sA .z)) (.cons (.s (.sA .z)) (.ts .tzA))))))))) hP
        obtain ⟨yl, y⟩ := y
        rcases hR with ⟨e, hyl, hyv⟩ | e
        · dsimp only at e hyl hyv
          subst e
          dsimp only at H2
          exact ⟨y, yl, .normal, by subst hlp; rfl, by subst hlp; simp [newLoop], ⟨rfl, hyl, hyv⟩, H2.sub (.cons (.s (.s (.s .z))) .tz)⟩
        · exact e.elim
  · obtain ⟨rfl, hyl, hyv⟩ := hR
    refine GQ.outN ?_
    refine GQ.on ?_
    refine GW.sr rfl rfl ?_
    refine GL.opN rfl .no (SN.mm) (fun a12 => ?_)
    refine GL.opN rfl .no (SN.al zc105) (fun a13 => ?_)
    refine GL.o rfl (S1.st (u := (.map _)) sc105 rfl rfl rfl (by repeat constructor) .z) ?_
    refine GL.dn rfl ?_
    refine GW.sr rfl rfl ?_
    refine GL.opN rfl .no (SN.al zc106) (fun a14 => ?_)
    refine GL.dn rfl ?_
    refine GW.sr rfl rfl ?_
    refine GL.o rfl (S1.mf .n (.c (v := (.pointer _)) rfl (.c (v := (.pointer _)) rfl (.c (v := (.pointer _)) rfl (.c (v := (.pointer _)) rfl .n))))) ?_
    refine GL.o rfl (S1.st (u := (.func _ _ _)) sc106 rfl rfl rfl (by repeat constructor) .z) ?_
    refine GL.dn rfl ?_
    refine GW.sr rfl rfl ?_
    refine GL.o rfl (S1.ld sc106 rfl (.at .z) rfl) ?_
    refine GL.call rfl .no fo61 (show Take _ [(a12, .map [] 0)] _ from (.cons (.s (.s .z)) .nil)) (fun h H => ct61 (by omega) hyl hyv q45.u7 128 0 0 [] 0 _ (H.give (ps := (a12, .map [] 0) :: K61 a13 a12 a7 a5 (2 ^ x45.un) y a4 x45.lb qa qn qc pa pn pc al sh shn shc x45.av x45.un a14) (.cons (.s (.s .z)) (.cons (.s .z) (.cons (.s (.s (.s (.s .z)))) (.cons (.s (.s (.s (.s .z)))) (.cons (.s (.s (.s (.s .z)))) (.cons (.s (.s (.s .z))) (.cons .z .nil)))))))) (by decide) (by decide) (by decide) .nil) (.v (fs := []) (cs := [(.pointer _), (.pointer _), (.pointer _), (.pointer _)]) rfl (.c (v := (.int _ _)) rfl (.c (v := (.int _ _)) rfl .n))) (fun x61 ⟨q61, _⟩ => ?_)
    refine GL.opN rfl .no (SN.al zc107) (fun a16 => ?_)
    refine GL.o rfl (S1.stA ag107 rfl rfl rfl rfl (by repeat constructor) .z) ?_
    refine GL.dn rfl ?_
    refine GW.toSeq rfl ?_
    refine GW.sr rfl rfl ?_
    refine GL.o rfl (S1.ixP (n := 2) (by kernel_rfl) rfl (m := 1) rfl (by decide)) ?_
    refine GL.o rfl (S1.ld sc3 rfl (.at .z) rfl) ?_
    refine GL.o rfl (S1.lss rfl rfl) ?_
    refine GL.dn rfl ?_
    refine GW.toD rfl rfl (fun w17 => ?_) (fun w17 => ?_)
    refine GW.sr rfl rfl ?_
    refine GL.o rfl (S1.ldW ag59 rfl (.at (.s (.s (.s (.s (.s (.s (.s (.s (.s (.s .z))))))))))) rfl) ?_
    refine GL.o rfl (S1.stA ag59 rfl rfl rfl rfl (by repeat constructor) (.s (.s (.s (.s (.s (.s (.s (.s (.s (.s .z))))))))))) ?_
    refine GL.o rfl (S1.asI rfl) ?_
    refine GL.o rfl (S1.asI rfl) ?_
    refine GL.dn rfl ?_
    refine GW.toRet rfl ?_
    refine GQ.onR ?_
    refine GQ.toC (.s (.s (.s (.s .z)))) ?_
    refine GQ.ret (0, 0, 0, 4) (.cell rfl rfl (.s (.s (.s (.s (.s (.s (.s (.s (.s .z))))))))) (loadV_W ag59 rfl) (.tmp rfl rfl (.tmp rfl rfl .nil))) .more rfl trivial .nil
    refine GW.toSkip rfl ?_
    refine GQ.on ?_
    refine GW.toSeq rfl ?_
    refine GW.toDrwW [a2] mx rfl (fun _ H => InL.go (.c (.s (.s (.s (.s (.s (.s (.s (.s (.s (.s .z)))))))))) .n) H) ?_
    refine GE.one rfl .no (S1.ld sc82 rfl (.at (.s (.s (.s (.s (.s (.s (.s (.s (.s .z)))))))))) rfl) rfl (.f (by kernel_rfl)) ?_
    refine GE.one rfl .no (S1.nc rfl) rfl (.f (by kernel_rfl)) ?_
    refine GE.one rfl .no (S1.fa fa86_2 rfl) rfl (.f (by kernel_rfl)) ?_
    refine GE.one rfl .no (S1.ld sc52 rfl (.at (.s (.s (.s (.s (.s (.s .z))))))) rfl) rfl (.f (by kernel_rfl)) ?_
    refine GE.one rfl .no (S1.ixP (n := 2) (by kernel_rfl) rfl (m := 1) rfl (by decide)) rfl (.f (by kernel_rfl)) ?_
    refine GE.one rfl .no (S1.ld sc3 rfl (.at .z) rfl) rfl (.f (by kernel_rfl)) ?_
    rcases q45.two with ⟨lb, e⟩ | ⟨lb, r, un, ul, e, hun, hul⟩
    · exfalso
      generalize x45.ul = ul0 at e
      subst e
      have q := q61.2
      dsimp only at q
      omega
    · subst e
      have hbu : x61.b < (un : Int) := q61.2
      refine GE.one rfl .no (S1.ix el52 rfl rfl (by omega) (by omega)) rfl (.f (by kernel_rfl)) ?_
      refine GE.one rfl .no (S1.ldP2 ag59 rfl (.at (.s (.s (.s (.s (.s (.s (.s (.s (.s (.s (.s (.s .z))))))))))))) (by omega)) rfl (.f (by kernel_rfl)) ?_
      refine GE.one rfl .no (S1.ixP (n := 2) (by kernel_rfl) rfl (m := 0) rfl (by decide)) rfl (.f (by kernel_rfl)) ?_
      refine GE.one rfl .no (S1.ld sc3 rfl (.at .z) rfl) rfl (.b rfl (fun _ H => NoW.go (by repeat first | exact .n | apply NoW.c (.l (.s (.s (.s (.s (.s (.s (.s (.s (.s .z))))))))))) H)) ?_
      refine GE.loud rfl .no (S1.stA ag59 rfl rfl rfl rfl (by repeat constructor) (.s (.s (.s (.s (.s (.s (.s (.s (.s (.s .z))))))))))) rfl rfl (by first | exact .w rfl (by simp) | exact .n rfl) ?_
      refine GE.one rfl .no (S1.asI rfl) rfl (.f (by kernel_rfl)) ?_
      refine GE.one rfl .no (S1.asI rfl) rfl (.f (by kernel_rfl)) ?_
      refine GE.done rfl ?_
      refine GQ.on ?_
      refine GW.toRet rfl ?_
      refine GQ.toC (.s (.s (.s (.s .z)))) ?_
      refine GQ.ret (_, _, _, 0) (.cell rfl rfl (.s (.s (.s (.s (.s (.s (.s (.s (.s .z))))))))) (loadV_W ag59 rfl) (.tmp rfl rfl (.tmp rfl rfl .nil))) .more rfl trivial .nil
end
end Go.Proofs.YtadgfnnkpddneaaGreat
