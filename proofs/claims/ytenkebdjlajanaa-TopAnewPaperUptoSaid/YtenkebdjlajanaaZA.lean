/- TopAnewPaper holds: for every input of bulk at most 1048576 the call returns true, and each argument reads afterwards as it read before. Conditions: none beyond the statement's own. -/
import Derived.Test.YtenkebdjlajanaaBD
import Derived.Test.YtenkebdjlajanaaAA
import Derived.Test.YtenkebdjlajanaaGB
set_option linter.all false
set_option linter.constructorNameAsVariable false
set_option linter.unusedSimpArgs false
set_option linter.unusedVariables false
set_option linter.unusedSectionVars false
set_option linter.unnecessarySimpa false
namespace Go.Proofs.Ytenkebdjlajanaa
open Go Go.E
set_option maxRecDepth 100000
set_option maxHeartbeats 2000000


theorem ct33P {h : EH} {vn vs wn ws : Value} {E E' : Ents} {ns : List Int} {ss : List ByteArray} (hn : ns.length ≤ 1073741824) (hs : ss.length ≤ 1073741824) (p : PS vn vs E ns ss) (q : PS wn ws E' ns ss) (hE : ∀ e ∈ E, h[e.1]? = some e.2) (hE' : ∀ e ∈ E', h[e.1]? = some e.2) :
    Ct Try.prog 33 ⟨[.agg ⟨[vn, vs]⟩, .agg ⟨[wn, ws]⟩]⟩ h [] (fun _ : Unit => .bool true) (fun _ => True) (fun _ => []) := by
  obtain ⟨p1, p2, rfl, rfl, u1, u2⟩ := p.q hE
  obtain ⟨p3, p4, rfl, rfl, u3, u4⟩ := q.q hE'
  exact ct33 rfl rfl hn hs u1 u2 u3 u4

section
variable {h : EH} {hr : RO} {qa : Option Addr} {qn qc : Nat} {wa : Option Addr} {wn wc : Nat} {x2 : Int} {x3 : Int} {x4 : Int} {pa : Option Addr} {pn pc : Nat} {x6 : Int} {x7 : Int} {x8 : Int} {na : Option Addr} {nn nc : Nat} {ta : Option Addr} {tn tc : Nat} {x11 : Int}

theorem ct3 (hR : ∀ b o, hr b = some o → h[b]? = some o) (hcl : ClosedR hr) (hq : Cell hr (.sl ly71) (.slice qa qn qc)) (hw : Cell hr (.sl ly3) (.slice wa wn wc)) (hp : Cell hr (.sl ly3) (.slice pa pn pc)) (hn : Cell hr (.sl ly3) (.slice na nn nc)) (ht : Cell hr (.sl ly23) (.slice ta tn tc))
    (hS : bk hr (.sl wy71) (.slice qa qn qc) + bk hr (.sl wy3) (.slice wa wn wc) + bk hr (.sl wy3) (.slice pa pn pc) + bk hr (.sl wy3) (.slice na nn nc) + bk hr (.sl wy23) (.slice ta tn tc) ≤ 1073741000) :
    Ct Try.prog 3 ⟨[.agg ⟨xsB qa qn qc wa wn wc x2 x3 x4 pa pn pc x6 x7 x8 na nn nc ta tn tc x11⟩]⟩ h [] (fun _ : Unit => .bool true) (fun _ => True) (fun _ => []) := by
  have hx : ∀ u ∈ xsB qa qn qc wa wn wc x2 x3 x4 pa pn pc x6 x7 x8 na nn nc ta tn tc x11, Fix hr u := by
    intro u hu
    simp only [List.mem_cons, List.not_mem_nil, or_false] at hu
    rcases hu with rfl | rfl | rfl | rfl | rfl | rfl | rfl | rfl | rfl | rfl | rfl | rfl <;> first | exact hq.fix | exact hw.fix | exact hp.fix | exact hn.fix | exact ht.fix | exact fun _ _ => rfl
  have hz : ∀ v ∈ zero2, Fix hr v := by
    intro v hv
    simp only [List.mem_cons, List.not_mem_nil, or_false] at hv
    rcases hv with rfl | rfl <;> exact fun _ _ => rfl
  have c10 : ∀ h, Ct Try.prog 10 ⟨[]⟩ h [] (fun _ : Unit => .tuple #[]) (fun _ => True) (fun _ => []) := fun _ => ct10
  obtain ⟨n0, s0, ⟨k0, l0⟩, D0⟩ := Once.anyB (P := Try.prog) (g := 4) (a := [.agg ⟨xsB qa qn qc wa wn wc x2 x3 x4 pa pn pc x6 x7 x8 na nn nc ta tn tc x11⟩]) (K := 1073741824) hcl hx hz (Fix.agg hx) (fun xb hb h G => by
    obtain ⟨ns, ss, ⟨q1, q2⟩, q⟩ := once_of (ctAll hq.weak hw.weak hp.weak hn.weak ht.weak (Hp.start1 G.rom G.z G.zo) (by omega))
    exact ⟨ns, ss, ⟨Nat.le_trans q1 (by omega), Nat.le_trans q2 (by omega)⟩, q⟩)
  obtain ⟨n1, s1, ⟨k1, l1⟩, D1⟩ := Twice.anyB hcl hx hz (fun xb hb h G => (ct6 hq hw hp hn ht G).tw fo10 c10)
  obtain ⟨n2, s2, ⟨k2, l2⟩, D2⟩ := Twice.anyB hcl hx hz (fun xb hb h G => (ct11 hq hw hp hn ht G).tw fo14 (fun x h1 q H => ct14 x q H))
  obtain ⟨n3, s3, ⟨k3, l3⟩, D3⟩ := Twice.anyB hcl hx hz (fun xb hb h G => (ct16 hq hw hp hn ht G).tw fo10 c10)
  obtain ⟨n4, s4, ⟨k4, l4⟩, D4⟩ := Twice.anyB hcl hx hz (fun xb hb h G => (ct18 hq hw hp hn ht G).tw fo20 (fun x h1 q H => ct20 x q H))
  obtain ⟨n5, s5, ⟨k5, l5⟩, D5⟩ := Twice.anyB hcl hx hz (fun xb hb h G => (ct21 hq hw hp hn ht G).tw fo10 c10)
  obtain ⟨n6, s6, ⟨k6, l6⟩, D6⟩ := Twice.anyB hcl hx hz (fun xb hb h G => (ct23 hq hw hp hn ht G).tw fo26 (fun x h1 q H => ct26 x q H))
  obtain ⟨n7, s7, ⟨k7, l7⟩, D7⟩ := Twice.anyB hcl hx hz (fun xb hb h G => (ct28 hq hw hp hn ht G).tw fo10 c10)
  obtain ⟨n8, s8, ⟨k8, l8⟩, D8⟩ := Twice.anyB hcl hx hz (fun xb hb h G => (ct30 hq hw hp hn ht G).tw fo10 c10)
  refine Ct.go Try.func3 rfl rfl co3 (Hp.start hR) ?_
  refine GW.sr rfl rfl ?_
  refine GL.opN rfl .no (SN.bx (u := .agg ⟨_⟩) rfl .agg) (fun a1 => ?_)
  refine GL.o rfl (S1.asB rfl) ?_
  refine GL.dn rfl ?_
  refine GW.sr rfl rfl ?_
  refine GL.opN rfl .no (SN.al zc35) (fun a2 => ?_)
  refine GL.opN rfl .no (SN.al zc35) (fun a3 => ?_)
  refine GL.dn rfl ?_
  refine GW.sr rfl rfl ?_
  refine GL.o rfl (S1.ldW ag32 rfl (.at (.s (.s .z))) rfl) ?_
  refine GL.call rfl .no fo4 (show Take _ [(a2, _)] _ from (.cons (.s .z) .nil)) (fun h H => ((D0 a1 a2 _ (H.good (.s (.s .z)) (.s .z) (.s (.r .z)))).ct)) (.d (.c (v := (.agg _)) rfl (.c (v := (.pointer _)) rfl .n))) (fun y p => ?_)
  refine GL.dn rfl ?_
  refine GW.sr rfl rfl ?_
  refine GL.o rfl (S1.mf .n (.c (v := (.pointer _)) rfl .n)) ?_
  refine GL.call rfl .no fo5 .nil (fun h H => ct5 H.rom (H.get (.s (.sA (.s .z)))) (H.off _ (At.mem (.s (.sA (.s .z))))) fo6 (by omega) (by omega) D1) (.d (.c (v := (.func _ _ _)) rfl .n)) (fun _ _ => ?_)
  refine GL.o rfl (S1.mvB rfl) ?_
  refine GL.one rfl (.yes rfl rfl rfl) (S1.mf .n (.c (v := (.pointer _)) rfl .n)) ?_
  refine GL.call rfl (.yes rfl rfl rfl) fo5 .nil (fun h H => ct5 H.rom (H.get (.s (.sA (.s .z)))) (H.off _ (At.mem (.s (.sA (.s .z))))) fo11 (by omega) (by omega) D2) (.d (.c (v := (.func _ _ _)) rfl .n)) (fun _ _ => ?_)
  refine GL.o rfl (S1.pickT (v := (.bool _)) rfl rfl) ?_
  refine GL.o rfl (S1.mvB rfl) ?_
  refine GL.one rfl (.yes rfl rfl rfl) (S1.mf .n (.c (v := (.pointer _)) rfl .n)) ?_
  refine GL.call rfl (.yes rfl rfl rfl) fo5 .nil (fun h H => ct5 H.rom (H.get (.s (.sA (.s .z)))) (H.off _ (At.mem (.s (.sA (.s .z))))) fo16 (by omega) (by omega) D3) (.d (.c (v := (.func _ _ _)) rfl .n)) (fun _ _ => ?_)
  refine GL.o rfl (S1.pickT (v := (.bool _)) rfl rfl) ?_
  refine GL.o rfl (S1.mvB rfl) ?_
  refine GL.one rfl (.yes rfl rfl rfl) (S1.mf .n (.c (v := (.pointer _)) rfl .n)) ?_
  refine GL.call rfl (.yes rfl rfl rfl) fo5 .nil (fun h H => ct5 H.rom (H.get (.s (.sA (.s .z)))) (H.off _ (At.mem (.s (.sA (.s .z))))) fo18 (by omega) (by omega) D4) (.d (.c (v := (.func _ _ _)) rfl .n)) (fun _ _ => ?_)
  refine GL.o rfl (S1.pickT (v := (.bool _)) rfl rfl) ?_
  refine GL.o rfl (S1.mvB rfl) ?_
  refine GL.one rfl (.yes rfl rfl rfl) (S1.mf .n (.c (v := (.pointer _)) rfl .n)) ?_
  refine GL.call rfl (.yes rfl rfl rfl) fo5 .nil (fun h H => ct5 H.rom (H.get (.s (.sA (.s .z)))) (H.off _ (At.mem (.s (.sA (.s .z))))) fo21 (by omega) (by omega) D5) (.d (.c (v := (.func _ _ _)) rfl .n)) (fun _ _ => ?_)
  refine GL.o rfl (S1.pickT (v := (.bool _)) rfl rfl) ?_
  refine GL.o rfl (S1.mvB rfl) ?_
  refine GL.one rfl (.yes rfl rfl rfl) (S1.mf .n (.c (v := (.pointer _)) rfl .n)) ?_
  refine GL.call rfl (.yes rfl rfl rfl) fo5 .nil (fun h H => ct5 H.rom (H.get (.s (.sA (.s .z)))) (H.off _ (At.mem (.s (.sA (.s .z))))) fo23 (by omega) (by omega) D6) (.d (.c (v := (.func _ _ _)) rfl .n)) (fun _ _ => ?_)
  refine GL.o rfl (S1.pickT (v := (.bool _)) rfl rfl) ?_
  refine GL.o rfl (S1.mvB rfl) ?_
  refine GL.one rfl (.yes rfl rfl rfl) (S1.mf .n (.c (v := (.pointer _)) rfl .n)) ?_
  refine GL.call rfl (.yes rfl rfl rfl) fo5 .nil (fun h H => ct5 H.rom (H.get (.s (.sA (.s .z)))) (H.off _ (At.mem (.s (.sA (.s .z))))) fo28 (by omega) (by omega) D7) (.d (.c (v := (.func _ _ _)) rfl .n)) (fun _ _ => ?_)
  refine GL.o rfl (S1.pickT (v := (.bool _)) rfl rfl) ?_
  refine GL.o rfl (S1.mvB rfl) ?_
  refine GL.one rfl (.yes rfl rfl rfl) (S1.mf .n (.c (v := (.pointer _)) rfl .n)) ?_
  refine GL.call rfl (.yes rfl rfl rfl) fo5 .nil (fun h H => ct5 H.rom (H.get (.s (.sA (.s .z)))) (H.off _ (At.mem (.s (.sA (.s .z))))) fo30 (by omega) (by omega) D8) (.d (.c (v := (.func _ _ _)) rfl .n)) (fun _ _ => ?_)
  refine GL.o rfl (S1.pickT (v := (.bool _)) rfl rfl) ?_
  refine GL.o rfl (S1.asB rfl) ?_
  refine GL.dn rfl ?_
  refine GW.sr rfl rfl ?_
  refine GL.o rfl (S1.ldW ag32 rfl (.at (.s (.sA (.s .z)))) rfl) ?_
  refine GL.call rfl .no fo4 (show Take _ [(a3, _)] _ from (.cons (.s (.sA .z)) .nil)) (fun h H => ((D0 a1 a3 _ (H.good (.s (.sA (.s .z))) (.s (.sA .z)) (.s (.sA (.r .z))))).ct)) (.d (.c (v := (.agg _)) rfl (.c (v := (.pointer _)) rfl .n))) (fun z q => ?_)
  refine GL.dn rfl ?_
  refine GW.sr rfl rfl ?_
  refine GL.o rfl (S1.mvB rfl) ?_
  refine GL.o rfl (S1.mvB rfl) ?_
  refine GL.one rfl (.yes rfl rfl rfl) (S1.ldW ag35 rfl (.at (.s (.sA .z))) rfl) ?_
  refine GL.one rfl (.yes rfl rfl rfl) (S1.ldW ag35 rfl (.at .z) rfl) ?_
  refine GL.call rfl (.yes rfl rfl rfl) fo33 .nil (fun h H => ct33P k0 l0 p q (fun e he => H.at_ e (by simp [he])) (fun e he => H.at_ e (by simp [he]))) (.d (.c (v := (.agg _)) rfl (.c (v := (.agg _)) rfl .n))) (fun _ _ => ?_)
  refine GL.o rfl (S1.pickT (v := (.bool _)) rfl rfl) ?_
  refine GL.o rfl (S1.mvB rfl) ?_
  refine GL.call rfl (.yes rfl rfl rfl) fo34 .nil (fun h H => awake) (.d .n) (fun _ _ => ?_)
  refine GL.o rfl (S1.pickT (v := (.bool _)) rfl rfl) ?_
  refine GL.o rfl (S1.asB rfl) ?_
  refine GL.dn rfl ?_
  refine GW.toRet rfl ?_
  refine GQ.ret () (.tmp (v := (.bool _)) rfl rfl .nil) .one ?_ ?_ .nil
  rfl
  exact trivial
end
end Go.Proofs.Ytenkebdjlajanaa
namespace Go.Proofs.Ytenkebdjlajanaa
open Go Go.E Go.ChangeShapes Go.WideShapes Go.ChangeAt Go.RowKit
set_option maxRecDepth 100000

theorem own : ownKnob Try.prog.godebug = none := by kernel_rfl
theorem laidOut : laidOutB Try.prog = true := by kernel_rfl
theorem layA : layOf Try.prog 10 32 = some [.sl ly71, .sl ly3, .int .i64, .int .i64, .int .i64, .sl ly3, .int .i64, .int .i64, .int .i64, .sl ly3, .sl ly23, .int .i64] := by kernel_rfl

theorem lawCt (hr : RO) (h : EH) (vs : List Value) (hR : ∀ b o, hr b = some o → h[b]? = some o) (hcl : ClosedR hr) (hl : vs.length = 12)
    (hc : ∀ (j : Nat) (l : Lay), ([.sl ly71, .sl ly3, .int .i64, .int .i64, .int .i64, .sl ly3, .int .i64, .int .i64, .int .i64, .sl ly3, .sl ly23, .int .i64] : List Lay)[j]? = some l → ∃ v, vs[j]? = some v ∧ Cell hr l v)
    (hS : sumTo (fun j => match ([.sl ly71, .sl ly3, .int .i64, .int .i64, .int .i64, .sl ly3, .int .i64, .int .i64, .int .i64, .sl ly3, .sl ly23, .int .i64] : List Lay)[j]?, vs[j]? with | some l, some v => bk hr l v | _, _ => 0) 12 ≤ 1048576) :
    Ct Try.prog 3 ⟨[.agg ⟨vs⟩]⟩ h [] (fun _ : Unit => .bool true) (fun _ => True) (fun _ => []) := by
  obtain ⟨v0, v1, v2, v3, v4, v5, v6, v7, v8, v9, v10, v11, rfl⟩ : ∃ v0 v1 v2 v3 v4 v5 v6 v7 v8 v9 v10 v11, vs = [v0, v1, v2, v3, v4, v5, v6, v7, v8, v9, v10, v11] := by
    match vs, hl with
    | [v0, v1, v2, v3, v4, v5, v6, v7, v8, v9, v10, v11], _ => exact ⟨_, _, _, _, _, _, _, _, _, _, _, _, rfl⟩
  have c0 := cell_at hc (j := 0) (v := v0) rfl rfl
  have c1 := cell_at hc (j := 1) (v := v1) rfl rfl
  have c2 := cell_at hc (j := 2) (v := v2) rfl rfl
  have c3 := cell_at hc (j := 3) (v := v3) rfl rfl
  have c4 := cell_at hc (j := 4) (v := v4) rfl rfl
  have c5 := cell_at hc (j := 5) (v := v5) rfl rfl
  have c6 := cell_at hc (j := 6) (v := v6) rfl rfl
  have c7 := cell_at hc (j := 7) (v := v7) rfl rfl
  have c8 := cell_at hc (j := 8) (v := v8) rfl rfl
  have c9 := cell_at hc (j := 9) (v := v9) rfl rfl
  have c10 := cell_at hc (j := 10) (v := v10) rfl rfl
  have c11 := cell_at hc (j := 11) (v := v11) rfl rfl
  obtain ⟨a0, n0, m0, rfl⟩ := c0.sl_inv
  obtain ⟨a1, n1, m1, rfl⟩ := c1.sl_inv
  obtain ⟨x2, rfl⟩ := c2.int_inv
  obtain ⟨x3, rfl⟩ := c3.int_inv
  obtain ⟨x4, rfl⟩ := c4.int_inv
  obtain ⟨a5, n5, m5, rfl⟩ := c5.sl_inv
  obtain ⟨x6, rfl⟩ := c6.int_inv
  obtain ⟨x7, rfl⟩ := c7.int_inv
  obtain ⟨x8, rfl⟩ := c8.int_inv
  obtain ⟨a9, n9, m9, rfl⟩ := c9.sl_inv
  obtain ⟨a10, n10, m10, rfl⟩ := c10.sl_inv
  obtain ⟨x11, rfl⟩ := c11.int_inv
  have hS' : 0 + bk hr (.sl ly71) (.slice a0 n0 m0) + bk hr (.sl ly3) (.slice a1 n1 m1) + 1 + 1 + 1 + bk hr (.sl ly3) (.slice a5 n5 m5) + 1 + 1 + 1 + bk hr (.sl ly3) (.slice a9 n9 m9) + bk hr (.sl ly23) (.slice a10 n10 m10) + 1 ≤ 1048576 := hS
  exact ct3 hR hcl c0 c1 c5 c9 c10 (by
    have e0 : bk hr (.sl wy71) (.slice a0 n0 m0) = bk hr (.sl ly71) (.slice a0 n0 m0) := bk_wk (.sl ly71) _
    have e1 : bk hr (.sl wy3) (.slice a1 n1 m1) = bk hr (.sl ly3) (.slice a1 n1 m1) := bk_wk (.sl ly3) _
    have e5 : bk hr (.sl wy3) (.slice a5 n5 m5) = bk hr (.sl ly3) (.slice a5 n5 m5) := bk_wk (.sl ly3) _
    have e9 : bk hr (.sl wy3) (.slice a9 n9 m9) = bk hr (.sl ly3) (.slice a9 n9 m9) := bk_wk (.sl ly3) _
    have e10 : bk hr (.sl wy23) (.slice a10 n10 m10) = bk hr (.sl ly23) (.slice a10 n10 m10) := bk_wk (.sl ly23) _
    rw [e0, e1, e5, e9, e10]
    omega)

theorem contract (H : Type) (enc : TypeId × Value → H) (W : World) (base : Nat) (args : Array Value) (ds gs : List (DataW H)) (before : List MemPlace)
    (hval : ∀ (j : Nat) t v, Try.f3.params[j]? = some t → args[j]? = some v → Value.okWide Try.prog W .any base t v)
    (hW : DataW.Whole enc Try.prog Try.f3.params.toList Rows.topAnewPaperSpec.vars false W args.toList ds gs before) (hk : Rows.uptoSmall H (ds ++ gs) = true) :
    Calls Try.prog 3 args W fun e W' => ∃ v, e = .returned v ∧ Rows.topAnewPaperSpec.post enc Try.prog Try.f3 false true false false W args v W' := by
  have hW' := hW
  obtain ⟨p, q, hA0, hV, rfl, hfz, hnd⟩ := hW
  have hA : DataW.TrodAll enc Try.prog W 0 (fun _ => true) true Try.f3.params.toList args.toList ds p := hA0
  rw [Try.params3] at hA hval
  obtain ⟨v0, vs0, d0, ds0, p0, q0, hargs, rfl, rfl, h0, r0⟩ := trodAll_cons hA
  obtain ⟨rfl, rfl, rfl⟩ := trodAll_nil r0
  obtain rfl : args = #[v0] := by cases args; simp_all
  obtain ⟨rfl, rfl⟩ := trodVars_none hV
  obtain ⟨cs, rfl⟩ : ∃ cs, v0 = .agg cs := by
    have hv := hval 0 32 v0 rfl rfl
    unfold Value.okWide at hv
    rw [Try.underlying32] at hv
    obtain ⟨cs, rfl, _⟩ := hv
    exact ⟨cs, rfl⟩
  have hb : Rows.uptoBulk d0 ≤ 1048576 := by
    have := of_decide_eq_true hk
    simp only [List.append_nil, Rows.uptoBulkAll] at this
    omega
  clear hA0
  simp only [List.append_nil] at hW'
  refine (law_calls layA h0 hb lawCt).mono fun e W' ⟨he, hg, hs⟩ => ?_
  subst he
  refine ⟨_, rfl, post_of_same (pa := p0 ++ []) (pv := []) hW' (fun _ _ _ => (trodAll_cons_mk (shut_bool Try.underlying4 _) trodAll_mk0))
    (fun sp hsp => trodAll_cons_mk (WideElems.Trod_stays laidOut (by kernel_rfl) (of_decide_eq_true (by kernel_rfl)) h0 (fun x hx => hs x (hW'.lt x (by simpa using hx))) (fun x hx => hsp x (by simpa using hx))) trodAll_mk0) (fun _ _ => rfl) (by simp)
    (hg.frame _) hg.2.1 (ok_one (by kernel_rfl) rfl (okWide_bool_mk Try.underlying4 _))⟩

theorem lifted (os : Os) (started : os.Started) (H : Type) (enc : TypeId × Value → H) (F : Stop.Interp) :
    ReturnsInHanded {} Try.checked os 3 .any ((Rows.OpenSpec.upto Rows.topAnewPaperSpec).pre6 enc Try.prog Try.f3 Rows.topAnewPaperUptoRow.domain false) (((Rows.OpenSpec.upto Rows.topAnewPaperSpec).at F).post enc Try.prog Try.f3 false true false false) := by
  refine returnsInHanded_of_cond (C := Try.checked) (s := Rows.OpenSpec.upto Rows.topAnewPaperSpec) (k := Rows.uptoSmall) rfl own started (by kernel_rfl) Try.func3
    (OpenSpec.witness (enc := enc) (C := Try.checked) (s := Rows.OpenSpec.upto Rows.topAnewPaperSpec) (k := Rows.uptoSmall) rfl false ⟨#[], #[.agg #[.slice none 0 0, .slice none 0 0, .int .i64 0, .int .i64 0, .int .i64 0, .slice none 0 0, .int .i64 0, .int .i64 0, .int .i64 0, .slice none 0 0, .slice none 0 0, .int .i64 0]], []⟩ 8 (by kernel_rfl) (by kernel_rfl) (by kernel_rfl)
      (x := ([.agg [.agg [.nil, .nil, .agg [.lit (.int .i64 0), .lit (.int .i64 0)]], .lit (.int .i64 0), .nil, .agg [.lit (.int .i64 0), .lit (.int .i64 0), .lit (.int .i64 0)], .nil, .nil, .lit (.int .i64 0)]], [], [])) (by kernel_rfl) rfl (by kernel_rfl)) ?_
  intro W base args ds gs before hval hW _ hk _
  exact contract H enc W base args ds gs before hval hW hk

theorem over : Rows.topAnewPaperUptoRow.holds Try.pinned (Rows.OpenSpec.upto Rows.topAnewPaperSpec) :=
  OpenClaim.holds_of_cond 3 Try.f3 rfl rfl rfl rfl rfl rfl rfl ⟨rfl, rfl, rfl, rfl, rfl⟩ rfl rfl rfl rfl rfl (by kernel_rfl) Try.func3 (by kernel_rfl)
    (of_decide_eq_true (by kernel_rfl)) (by unfold Func.isWrapper; first | (rw [if_pos (by decide +kernel)]; kernel_rfl) | (rw [if_neg (by decide +kernel)]; exact ⟨rfl, rfl⟩))
    (fun os started H enc _ F => lifted os started H enc F)

theorem topAnewPaper_upto : Rows.TopAnewPaperUptoSaid := over
end Go.Proofs.Ytenkebdjlajanaa
