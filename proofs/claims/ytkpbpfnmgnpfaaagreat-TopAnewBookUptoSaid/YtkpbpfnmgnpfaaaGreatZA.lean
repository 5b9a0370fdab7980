/- TopAnewBook holds: for every input of bulk at most 1048576 the call returns true, and each argument reads afterwards as it read before. Conditions: none beyond the statement's own. -/
import Derived.Test.YtkpbpfnmgnpfaaaGreatBD
import Derived.Test.YtkpbpfnmgnpfaaaGreatAA
import Derived.Test.YtkpbpfnmgnpfaaaGreatGB
set_option linter.all false
set_option linter.constructorNameAsVariable false
set_option linter.unusedSimpArgs false
set_option linter.unusedVariables false
set_option linter.unusedSectionVars false
set_option linter.unnecessarySimpa false
namespace Go.Proofs.YtkpbpfnmgnpfaaaGreat
open Go Go.E
set_option maxRecDepth 100000
set_option maxHeartbeats 1000000

theorem fo28 : fnOk Tryz.prog 28 = true := by kernel_rfl
theorem ct27P {h : EH} {vn vs wn ws : Value} {E E' : Ents} {ns : List Int} {ss : List ByteArray} (hn : ns.length ≤ 1073741824) (hs : ss.length ≤ 1073741824) (p : PS vn vs E ns ss) (q : PS wn ws E' ns ss) (hE : ∀ e ∈ E, h[e.1]? = some e.2) (hE' : ∀ e ∈ E', h[e.1]? = some e.2) :
    Ct Tryz.prog 27 ⟨[.agg ⟨[vn, vs]⟩, .agg ⟨[wn, ws]⟩]⟩ h [] (fun _ : Unit => .bool true) (fun _ => True) (fun _ => []) := by
  obtain ⟨p1, p2, rfl, rfl, u1, u2⟩ := p.q hE
  obtain ⟨p3, p4, rfl, rfl, u3, u4⟩ := q.q hE'
  exact ct27 rfl rfl hn hs u1 u2 u3 u4

section
variable {h : EH} {hr : RO} {s : Sch} {ea : Option Addr} {en ec : Nat} {x5 x6 x7 x8 x9 : Int}

theorem ct3 (hR : ∀ b o, hr b = some o → h[b]? = some o) (hcl : ClosedR hr) (hL : Cell hr (.sl ly9) (.slice s.la s.ln s.lc)) (hc : Cell hr (.sl ly74) (.slice s.ca s.cn s.cc)) (hT : Cell hr (.sl ly78) (.slice s.ta s.tn s.tc)) (hE : Cell hr (.sl ly117) (.slice ea en ec))
    (hS : bk hr (.sl wy9) (.slice s.la s.ln s.lc) + bk hr (.sl wy74) (.slice s.ca s.cn s.cc) + bk hr (.sl wy78) (.slice s.ta s.tn s.tc) + bk hr (.sl wy117) (.slice ea en ec) ≤ 1073741000) :
    Ct Tryz.prog 3 ⟨[.agg ⟨xsB s.la s.ln s.lc s.ca s.cn s.cc s.x1 s.x2 s.x3 s.x4 s.ta s.tn s.tc x5 x6 ea en ec x7 x8 x9⟩]⟩ h [] (fun _ : Unit => .bool true) (fun _ => True) (fun _ => []) := by
  have hx : ∀ v ∈ xsB s.la s.ln s.lc s.ca s.cn s.cc s.x1 s.x2 s.x3 s.x4 s.ta s.tn s.tc x5 x6 ea en ec x7 x8 x9, Fix hr v := by
    intro v hv
    simp only [List.mem_cons, List.not_mem_nil, or_false] at hv
    rcases hv with rfl | rfl | rfl | rfl | rfl | rfl | rfl | rfl | rfl | rfl | rfl | rfl | rfl <;> first | exact hL.fix | exact hc.fix | exact hT.fix | exact hE.fix | exact fun _ _ => rfl
  have hz : ∀ v ∈ zero2, Fix hr v := by
    intro v hv
    simp only [List.mem_cons, List.not_mem_nil, or_false] at hv
    rcases hv with rfl | rfl <;> exact fun _ _ => rfl
  have c10 : ∀ h, Ct Tryz.prog 10 ⟨[]⟩ h [] (fun _ : Unit => .tuple #[]) (fun _ => True) (fun _ => []) := fun _ => ct10
  obtain ⟨n0, s0, ⟨k0, l0⟩, D0⟩ := Once.anyB (P := Tryz.prog) (g := 4) (a := [.agg ⟨xsB s.la s.ln s.lc s.ca s.cn s.cc s.x1 s.x2 s.x3 s.x4 s.ta s.tn s.tc x5 x6 ea en ec x7 x8 x9⟩]) (K := 1073741824) hcl hx hz (Fix.agg hx) (fun xb hb h G => by
    obtain ⟨ns, ss, ⟨q1, q2⟩, q⟩ := once_of (ctAll hL.weak hc.weak hT.weak hE.weak (Hp.start1 G.rom G.z G.zo) (by omega))
    exact ⟨ns, ss, ⟨Nat.le_trans q1 (by omega), Nat.le_trans q2 (by omega)⟩, q⟩)
  obtain ⟨n1, s1, ⟨k1, l1⟩, D1⟩ := Twice.anyB hcl hx hz (fun xb hb h G => (ct6 hL hc hT G).tw fo10 c10)
  obtain ⟨n2, s2, ⟨k2, l2⟩, D2⟩ := Twice.anyB hcl hx hz (fun xb hb h G => (ct11 hL hc hT G).tw fo10 c10)
  obtain ⟨n3, s3, ⟨k3, l3⟩, D3⟩ := Twice.anyB hcl hx hz (fun xb hb h G => (ct13 hL hc hT hE G).tw fo17 (fun x h1 q H => ct17 x q H))
  obtain ⟨n4, s4, ⟨k4, l4⟩, D4⟩ := Twice.anyB hcl hx hz (fun xb hb h G => (ct20 hL hc hT hE G).tw fo23 (fun x h1 q H => ct23 x q H))
  obtain ⟨n5, s5, ⟨k5, l5⟩, D5⟩ := Twice.anyB hcl hx hz (fun xb hb h G => (ct25 hL hc hT hE G).tw fo10 c10)
  refine Ct.go Tryz.func3 rfl rfl co3 (Hp.start hR) ?_
  refine GW.toSeq rfl ?_
  refine GW.toReg rfl ?_
  refine GL.opN rfl .no (SN.bx (u := .agg ⟨_⟩) rfl .agg) (fun a1 => ?_)
  refine GL.one rfl .no (S1.as (v := (.bool _)) rfl) ?_
  refine GL.done rfl ?_
  refine GQ.on ?_
  refine GW.toSeq rfl ?_
  refine GW.toReg rfl ?_
  refine GL.opN rfl .no (SN.al zc34) (fun a2 => ?_)
  refine GL.opN rfl .no (SN.al zc34) (fun a3 => ?_)
  refine GL.done rfl ?_
  refine GQ.on ?_
  refine GW.toSeq rfl ?_
  refine GW.toReg rfl ?_
  refine GL.one rfl .no (S1.ldW ag31 rfl (.at (.s (.s .z))) rfl) ?_
  refine GL.call rfl .no fo4 (show Take _ [(a2, _)] _ from (.cons (.s .z) .nil)) (fun h H => ((D0 a1 a2 _ (H.good (.s (.s .z)) (.s .z) (.s (.r .z)))).ct)) (.d (.c (v := (.agg _)) rfl (.c (v := (.pointer _)) rfl .n))) (fun y p => ?_)
  refine GL.done rfl ?_
  refine GQ.on ?_
  refine GW.toSeq rfl ?_
  refine GW.toReg rfl ?_
  refine GL.one rfl .no (S1.mf .n (.c (v := (.pointer _)) rfl .n)) ?_
  refine GL.call rfl .no fo5 .nil (fun h H => ct5 H.rom (H.get (.s (.sA (.s .z)))) (H.off _ (At.mem (.s (.sA (.s .z))))) fo6 (by omega) (by omega) D1) (.d (.c (v := (.func _ _ _)) rfl .n)) (fun _ _ => ?_)
  refine GL.one rfl .no (S1.mv (v := (.bool _)) rfl) ?_
  refine GL.one rfl (.yes rfl rfl rfl) (S1.mf .n (.c (v := (.pointer _)) rfl .n)) ?_
  refine GL.call rfl (.yes rfl rfl rfl) fo5 .nil (fun h H => ct5 H.rom (H.get (.s (.sA (.s .z)))) (H.off _ (At.mem (.s (.sA (.s .z))))) fo11 (by omega) (by omega) D2) (.d (.c (v := (.func _ _ _)) rfl .n)) (fun _ _ => ?_)
  refine GL.one rfl .no (S1.pickT (v := (.bool _)) rfl rfl) ?_
  refine GL.one rfl .no (S1.mv (v := (.bool _)) rfl) ?_
  refine GL.one rfl (.yes rfl rfl rfl) (S1.mf .n (.c (v := (.pointer _)) rfl .n)) ?_
  refine GL.call rfl (.yes rfl rfl rfl) fo5 .nil (fun h H => ct5 H.rom (H.get (.s (.sA (.s .z)))) (H.off _ (At.mem (.s (.sA (.s .z))))) fo13 (by omega) (by omega) D3) (.d (.c (v := (.func _ _ _)) rfl .n)) (fun _ _ => ?_)
  refine GL.one rfl .no (S1.pickT (v := (.bool _)) rfl rfl) ?_
  refine GL.one rfl .no (S1.mv (v := (.bool _)) rfl) ?_
  refine GL.one rfl (.yes rfl rfl rfl) (S1.mf .n (.c (v := (.pointer _)) rfl .n)) ?_
  refine GL.call rfl (.yes rfl rfl rfl) fo5 .nil (fun h H => ct5 H.rom (H.get (.s (.sA (.s .z)))) (H.off _ (At.mem (.s (.sA (.s .z))))) fo20 (by omega) (by omega) D4) (.d (.c (v := (.func _ _ _)) rfl .n)) (fun _ _ => ?_)
  refine GL.one rfl .no (S1.pickT (v := (.bool _)) rfl rfl) ?_
  refine GL.one rfl .no (S1.mv (v := (.bool _)) rfl) ?_
  refine GL.one rfl (.yes rfl rfl rfl) (S1.mf .n (.c (v := (.pointer _)) rfl .n)) ?_
  refine GL.call rfl (.yes rfl rfl rfl) fo5 .nil (fun h H => ct5 H.rom (H.get (.s (.sA (.s .z)))) (H.off _ (At.mem (.s (.sA (.s .z))))) fo25 (by omega) (by omega) D5) (.d (.c (v := (.func _ _ _)) rfl .n)) (fun _ _ => ?_)
  refine GL.one rfl .no (S1.pickT (v := (.bool _)) rfl rfl) ?_
  refine GL.one rfl .no (S1.as (v := (.bool _)) rfl) ?_
  refine GL.done rfl ?_
  refine GQ.on ?_
  refine GW.toSeq rfl ?_
  refine GW.toReg rfl ?_
  refine GL.one rfl .no (S1.ldW ag31 rfl (.at (.s (.sA (.s .z)))) rfl) ?_
  refine GL.call rfl .no fo4 (show Take _ [(a3, _)] _ from (.cons (.s (.sA .z)) .nil)) (fun h H => ((D0 a1 a3 _ (H.good (.s (.sA (.s .z))) (.s (.sA .z)) (.s (.sA (.r .z))))).ct)) (.d (.c (v := (.agg _)) rfl (.c (v := (.pointer _)) rfl .n))) (fun z q => ?_)
  refine GL.done rfl ?_
  refine GQ.on ?_
  refine GW.toSeq rfl ?_
  refine GW.toReg rfl ?_
  refine GL.one rfl .no (S1.mv (v := (.bool _)) rfl) ?_
  refine GL.one rfl .no (S1.mv (v := (.bool _)) rfl) ?_
  refine GL.one rfl (.yes rfl rfl rfl) (S1.ldW ag34 rfl (.at (.s (.sA .z))) rfl) ?_
  refine GL.one rfl (.yes rfl rfl rfl) (S1.ldW ag34 rfl (.at .z) rfl) ?_
  refine GL.call rfl (.yes rfl rfl rfl) fo27 .nil (fun h H => ct27P k0 l0 p q (fun e he => H.at_ e (by simp [he])) (fun e he => H.at_ e (by simp [he]))) (.d (.c (v := (.agg _)) rfl (.c (v := (.agg _)) rfl .n))) (fun _ _ => ?_)
  refine GL.one rfl .no (S1.pickT (v := (.bool _)) rfl rfl) ?_
  refine GL.one rfl .no (S1.mv (v := (.bool _)) rfl) ?_
  refine GL.call rfl (.yes rfl rfl rfl) fo28 .nil (fun h H => awake) (.d .n) (fun _ _ => ?_)
  refine GL.one rfl .no (S1.pickT (v := (.bool _)) rfl rfl) ?_
  refine GL.one rfl .no (S1.as (v := (.bool _)) rfl) ?_
  refine GL.done rfl ?_
  refine GQ.on ?_
  refine GW.toRet rfl ?_
  refine GQ.ret () (.tmp (v := (.bool _)) rfl rfl .nil) .one ?_ ?_ .nil
  rfl
  exact trivial
end
end Go.Proofs.YtkpbpfnmgnpfaaaGreat
namespace Go.Proofs.YtkpbpfnmgnpfaaaGreat
open Go Go.E Go.ChangeShapes Go.WideShapes Go.ChangeAt Go.RowKit
set_option maxRecDepth 100000

theorem own : ownKnob Tryz.prog.godebug = none := by kernel_rfl
theorem laidOut : laidOutB Tryz.prog = true := by kernel_rfl
theorem layA : layOf Tryz.prog 10 31 = some [.sl ly9, .sl ly74, .int .i64, .int .i64, .int .i64, .int .i64, .sl ly78, .int .i64, .int .i64, .sl ly117, .int .i64, .int .i64, .int .i64] := by kernel_rfl

theorem lawCt (hr : RO) (h : EH) (vs : List Value) (hR : ∀ b o, hr b = some o → h[b]? = some o) (hcl : ClosedR hr) (hl : vs.length = 13)
    (hc : ∀ (j : Nat) (l : Lay), ([.sl ly9, .sl ly74, .int .i64, .int .i64, .int .i64, .int .i64, .sl ly78, .int .i64, .int .i64, .sl ly117, .int .i64, .int .i64, .int .i64] : List Lay)[j]? = some l → ∃ v, vs[j]? = some v ∧ Cell hr l v)
    (hS : sumTo (fun j => match ([.sl ly9, .sl ly74, .int .i64, .int .i64, .int .i64, .int .i64, .sl ly78, .int .i64, .int .i64, .sl ly117, .int .i64, .int .i64, .int .i64] : List Lay)[j]?, vs[j]? with | some l, some v => bk hr l v | _, _ => 0) 13 ≤ 1048576) :
    Ct Tryz.prog 3 ⟨[.agg ⟨vs⟩]⟩ h [] (fun _ : Unit => .bool true) (fun _ => True) (fun _ => []) := by
  obtain ⟨v0, v1, v2, v3, v4, v5, v6, v7, v8, v9, v10, v11, v12, rfl⟩ : ∃ v0 v1 v2 v3 v4 v5 v6 v7 v8 v9 v10 v11 v12, vs = [v0, v1, v2, v3, v4, v5, v6, v7, v8, v9, v10, v11, v12] := by
    match vs, hl with
    | [v0, v1, v2, v3, v4, v5, v6, v7, v8, v9, v10, v11, v12], _ => exact ⟨_, _, _, _, _, _, _, _, _, _, _, _, _, rfl⟩
  have c0 := cell_at hc (j := 0) (v := v0) rfl rfl
  have c1 := cell_at hc (j := 1) (v := v1) rfl rfl
  have c2 := cell_at hc (j := 2) (v := v2) rfl rfl
  have c3 := cell_at hc (j := 3) (v := v3) rfl rfl
  have c4 := cell_at hc (j := 4) (v := v4) rfl rfl
  have c5 := cell_at hc (j := 5) (v := v5) rfl rfl
  have c6 := cell_at hc (j := 6) (v := v6) rfl rfl
  have c7 := cell_at hc (j := 7) (v := v7) rfl rfl
  have c8 := cell_at hc (j := 8) (v := v8) rfl rfl
  have c9 := cell_at hc (j := 9) (v := v9) rfl rfl
  have c10 := cell_at hc (j := 10) (v := v10) rfl rfl
  have c11 := cell_at hc (j := 11) (v := v11) rfl rfl
  have c12 := cell_at hc (j := 12) (v := v12) rfl rfl
  obtain ⟨a0, n0, m0, rfl⟩ := c0.sl_inv
  obtain ⟨a1, n1, m1, rfl⟩ := c1.sl_inv
  obtain ⟨x2, rfl⟩ := c2.int_inv
  obtain ⟨x3, rfl⟩ := c3.int_inv
  obtain ⟨x4, rfl⟩ := c4.int_inv
  obtain ⟨x5, rfl⟩ := c5.int_inv
  obtain ⟨a6, n6, m6, rfl⟩ := c6.sl_inv
  obtain ⟨x7, rfl⟩ := c7.int_inv
  obtain ⟨x8, rfl⟩ := c8.int_inv
  obtain ⟨a9, n9, m9, rfl⟩ := c9.sl_inv
  obtain ⟨x10, rfl⟩ := c10.int_inv
  obtain ⟨x11, rfl⟩ := c11.int_inv
  obtain ⟨x12, rfl⟩ := c12.int_inv
  have hS' : 0 + bk hr (.sl ly9) (.slice a0 n0 m0) + bk hr (.sl ly74) (.slice a1 n1 m1) + 1 + 1 + 1 + 1 + bk hr (.sl ly78) (.slice a6 n6 m6) + 1 + 1 + bk hr (.sl ly117) (.slice a9 n9 m9) + 1 + 1 + 1 ≤ 1048576 := hS
  exact ct3 (s := { la := a0, ln := n0, lc := m0, ca := a1, cn := n1, cc := m1, x1 := x2, x2 := x3, x3 := x4, x4 := x5, ta := a6, tn := n6, tc := m6 }) hR hcl c0 c1 c6 c9 (by
    have e0 : bk hr (.sl wy9) (.slice a0 n0 m0) = bk hr (.sl ly9) (.slice a0 n0 m0) := bk_wk (.sl ly9) _
    have e1 : bk hr (.sl wy74) (.slice a1 n1 m1) = bk hr (.sl ly74) (.slice a1 n1 m1) := bk_wk (.sl ly74) _
    have e6 : bk hr (.sl wy78) (.slice a6 n6 m6) = bk hr (.sl ly78) (.slice a6 n6 m6) := bk_wk (.sl ly78) _
    have e9 : bk hr (.sl wy117) (.slice a9 n9 m9) = bk hr (.sl ly117) (.slice a9 n9 m9) := bk_wk (.sl ly117) _
    rw [e0, e1, e6, e9]
    omega)

theorem contract (H : Type) (enc : TypeId × Value → H) (W : World) (base : Nat) (args : Array Value) (ds gs : List (DataW H)) (before : List MemPlace)
    (hval : ∀ (j : Nat) t v, Tryz.f3.params[j]? = some t → args[j]? = some v → Value.okWide Tryz.prog W .any base t v)
    (hW : DataW.Whole enc Tryz.prog Tryz.f3.params.toList Rows.topAnewBookSpec.vars false W args.toList ds gs before) (hk : Rows.uptoSmall H (ds ++ gs) = true) :
    Calls Tryz.prog 3 args W fun e W' => ∃ v, e = .returned v ∧ Rows.topAnewBookSpec.post enc Tryz.prog Tryz.f3 false true false false W args v W' := by
  have hW' := hW
  obtain ⟨p, q, hA0, hV, rfl, hfz, hnd⟩ := hW
  have hA : DataW.TrodAll enc Tryz.prog W 0 (fun _ => true) true Tryz.f3.params.toList args.toList ds p := hA0
  rw [Tryz.params3] at hA hval
  obtain ⟨v0, vs0, d0, ds0, p0, q0, hargs, rfl, rfl, h0, r0⟩ := trodAll_cons hA
  obtain ⟨rfl, rfl, rfl⟩ := trodAll_nil r0
  obtain rfl : args = #[v0] := by cases args; simp_all
  obtain ⟨rfl, rfl⟩ := trodVars_none hV
  obtain ⟨cs, rfl⟩ : ∃ cs, v0 = .agg cs := by
    have hv := hval 0 31 v0 rfl rfl
    unfold Value.okWide at hv
    rw [Tryz.underlying31] at hv
    obtain ⟨cs, rfl, _⟩ := hv
    exact ⟨cs, rfl⟩
  have hb : Rows.uptoBulk d0 ≤ 1048576 := by
    have := of_decide_eq_true hk
    simp only [List.append_nil, Rows.uptoBulkAll] at this
    omega
  clear hA0
  simp only [List.append_nil] at hW'
  refine (law_calls layA h0 hb lawCt).mono fun e W' ⟨he, hg, hs⟩ => ?_
  subst he
  refine ⟨_, rfl, post_of_same (pa := p0 ++ []) (pv := []) hW' (fun _ _ _ => (trodAll_cons_mk (shut_bool Tryz.underlying4 _) trodAll_mk0))
    (fun sp hsp => trodAll_cons_mk (WideElems.Trod_stays laidOut (by kernel_rfl) (of_decide_eq_true (by kernel_rfl)) h0 (fun x hx => hs x (hW'.lt x (by simpa using hx))) (fun x hx => hsp x (by simpa using hx))) trodAll_mk0) (fun _ _ => rfl) (by simp)
    (hg.frame _) hg.2.1 (ok_one (by kernel_rfl) rfl (okWide_bool_mk Tryz.underlying4 _))⟩

theorem lifted (os : Os) (started : os.Started) (H : Type) (enc : TypeId × Value → H) (F : Stop.Interp) :
    ReturnsInHanded {} Tryz.checked os 3 .any ((Rows.OpenSpec.upto Rows.topAnewBookSpec).pre6 enc Tryz.prog Tryz.f3 Rows.topAnewBookUptoRow.domain false) (((Rows.OpenSpec.upto Rows.topAnewBookSpec).at F).post enc Tryz.prog Tryz.f3 false true false false) := by
  refine returnsInHanded_of_cond (C := Tryz.checked) (s := Rows.OpenSpec.upto Rows.topAnewBookSpec) (k := Rows.uptoSmall) rfl own started (by kernel_rfl) Tryz.func3
    (OpenSpec.witness (enc := enc) (C := Tryz.checked) (s := Rows.OpenSpec.upto Rows.topAnewBookSpec) (k := Rows.uptoSmall) rfl false ⟨#[], #[.agg #[.slice none 0 0, .slice none 0 0, .int .i64 0, .int .i64 0, .int .i64 0, .int .i64 0, .slice none 0 0, .int .i64 0, .int .i64 0, .slice none 0 0, .int .i64 0, .int .i64 0, .int .i64 0]], []⟩ 8 (by kernel_rfl) (by kernel_rfl) (by kernel_rfl)
      (x := ([.agg [.agg [.nil, .nil, .lit (.int .i64 0), .lit (.int .i64 0), .agg [.lit (.int .i64 0), .lit (.int .i64 0)], .nil], .lit (.int .i64 0), .lit (.int .i64 0), .nil, .lit (.int .i64 0), .lit (.int .i64 0), .lit (.int .i64 0)]], [], [])) (by kernel_rfl) rfl (by kernel_rfl)) ?_
  intro W base args ds gs before hval hW _ hk _
  exact contract H enc W base args ds gs before hval hW hk

theorem over : Rows.topAnewBookUptoRow.holds Tryz.pinned (Rows.OpenSpec.upto Rows.topAnewBookSpec) :=
  OpenClaim.holds_of_cond 3 Tryz.f3 rfl rfl rfl rfl rfl rfl rfl ⟨rfl, rfl, rfl, rfl, rfl⟩ rfl rfl rfl rfl rfl (by kernel_rfl) Tryz.func3 (by kernel_rfl)
    (of_decide_eq_true (by kernel_rfl)) (by unfold Func.isWrapper; first | (rw [if_pos (by decide +kernel)]; kernel_rfl) | (rw [if_neg (by decide +kernel)]; exact ⟨rfl, rfl⟩))
    (fun os started H enc _ F => lifted os started H enc F)

theorem topAnewBook_upto : Rows.TopAnewBookUptoSaid := over
end Go.Proofs.YtkpbpfnmgnpfaaaGreat
