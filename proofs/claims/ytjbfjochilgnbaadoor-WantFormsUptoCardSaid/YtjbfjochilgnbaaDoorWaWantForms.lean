/-
  Lemmas of this claim: a layer over the kit's calls, contracts of the functions that the law reaches, and the law's row. No condition of its own.
-/
import Derived.Test.YtjbfjochilgnbaaDoorSbWantForms
import Derived.Test.YtjbfjochilgnbaaDoorScWantForms
namespace Go.Lift
noncomputable section
open Go Go.RowKit
set_option linter.unusedSimpArgs false
set_option linter.unusedVariables false
set_option linter.unusedSectionVars false
set_option maxRecDepth 20000
theorem w_name_May (W : World) (s : ByteArray) : PureAt Go.Proofs.Tryd.prog W 57 [.s s] (.b (mayS s)) [] := name_may W s
theorem w_path_Clean (W : World) {m0 : Int} (hW : W.cell? ⟨0, 0, none⟩ = some (.int .i64 m0)) (s : ByteArray) : PureAt Go.Proofs.Tryd.prog W 76 [.s s] (.tup [.s (cleanS s).1, .i .i64 (cleanS s).2]) [] := path_clean W hW s
theorem gOf_av (g : DGraph) : (gOf g).av = DGraph.av g := by
  have h1 : EdgeD.av ∘ eOf = DEdge.av := rfl
  have h2 : PoolD.av ∘ pOf = DPool.av := rfl
  simp only [GraphD.av, gOf, DGraph.av, slA, List.map_map, h1, h2, Strs.av]
theorem w_graph_May (W : World) {m0 : Int} (hW : W.cell? ⟨0, 0, none⟩ = some (.int .i64 m0)) (g : DGraph) : PureAt Go.Proofs.Tryd.prog W 18 [DGraph.av g] (.b (m_graph_May g)) [] := by
  rw [← gOf_av]; exact graph_may W hW (gOf g)
theorem w_graph_Check (W : World) {m0 : Int} (hW : W.cell? ⟨0, 0, none⟩ = some (.int .i64 m0)) (g : DGraph) : PureAt Go.Proofs.Tryd.prog W 20 [DGraph.av g] (.i .i64 (m_graph_Check g)) [] := by
  rw [← gOf_av]; exact graph_check W hW (gOf g)
theorem w_graph_Maker (W : World) {m0 : Int} (hW : W.cell? ⟨0, 0, none⟩ = some (.int .i64 m0)) (g : DGraph) (name : ByteArray) : PureAt Go.Proofs.Tryd.prog W 17 [DGraph.av g, .s name] (.tup [.i .i64 (m_graph_Maker g name).1, .b (m_graph_Maker g name).2.1, .i .i64 (m_graph_Maker g name).2.2]) [] := by
  rw [← gOf_av]; exact graph_maker W hW (gOf g) name
theorem w_path_Is (W : World) {m0 : Int} (hW : W.cell? ⟨0, 0, none⟩ = some (.int .i64 m0)) (s' : ByteArray) : PureAt Go.Proofs.Tryd.prog W 60 [(AV.s s')] (AV.b (m_path_Is s')) [] := by
  refine pure_of_bodyC (fn := Go.Proofs.Tryd.f60) Go.Proofs.Tryd.func60 rfl (en60 W) (ts := [2]) rfl le ?_
  refine Awp.seq ?_
  refine Awp.region tabS_ok ?_
  refine AOps.sq (x := (AV.b false)) kr le ?_
  refine AOps.done ?_
  refine Awp.seq ?_
  refine Awp.region tabS_ok ?_
  refine AOps.sq (x := (AV.s s')) kr le ?_
  refine AOps.sc0 (vs := [(AV.s s')]) (r0 := (AV.tup [(AV.s ((cleanS s').1)), (AV.i .i64 ((cleanS s').2))])) kr kr (w_path_Clean W hW s') kr le ?_
  refine AOps.sq (x := (AV.tup [(AV.s ((cleanS s').1)), (AV.i .i64 ((cleanS s').2))])) kr le ?_
  refine AOps.sq (x := (AV.s ((cleanS s').1))) kr le ?_
  refine AOps.sq (x := (AV.i .i64 ((cleanS s').2))) kr le ?_
  refine AOps.sq (x := (AV.s ((cleanS s').1))) kr le ?_
  refine AOps.sq (x := (AV.i .i64 ((cleanS s').2))) kr le ?_
  refine AOps.done ?_
  refine Awp.seq ?_
  refine Awp.region tabS_ok ?_
  refine AOps.sq (x := (AV.i .i64 ((cleanS s').2))) kr le ?_
  refine AOps.sq (x := (AV.b (decide ((cleanS s').2 = (0 : Int))))) kr le ?_
  refine AOps.sq (x := (AV.b (decide ((cleanS s').2 = (0 : Int))))) kr le ?_
  cases c_1 : decide ((cleanS s').2 = (0 : Int))
  · have k_1 : ¬ ((cleanS s').2 = (0 : Int)) := of_decide_eq_false c_1
    refine AOps.sgn rfl rfl kr rfl le ?_
    refine AOps.sgn rfl rfl kr rfl le ?_
    refine AOps.sgn rfl rfl kr rfl le ?_
    refine AOps.sq (x := (AV.b false)) kr le ?_
    refine AOps.sq (x := (AV.b false)) kr le ?_
    refine AOps.done ?_
    refine Awp.ret ?_
    have hM : m_path_Is s' = false := by simp only [m_path_Is, c_1, sbt]
    refine ⟨Or.inr rfl, ?_⟩
    rw [hM]
    exact Ent.cast (x' := (AV.b false)) (y' := (AV.b false)) kr kr (Ent.c kr kr)
  · have k_1 : ((cleanS s').2 = (0 : Int)) := of_decide_eq_true c_1
    refine AOps.sgy rfl rfl kr rfl ?_
    refine AOps.sq (x := (AV.s ((cleanS s').1))) kr le ?_
    refine AOps.sgy rfl rfl kr rfl ?_
    refine AOps.sq (x := (AV.s s')) kr le ?_
    refine AOps.sgy rfl rfl kr rfl ?_
    refine AOps.sq (x := (AV.b (decide ((cleanS s').1 = s')))) kr le ?_
    refine AOps.sq (x := (AV.b (decide ((cleanS s').1 = s')))) kr le ?_
    refine AOps.sq (x := (AV.b (decide ((cleanS s').1 = s')))) kr le ?_
    refine AOps.done ?_
    refine Awp.ret ?_
    have hM : m_path_Is s' = decide ((cleanS s').1 = s') := by simp only [m_path_Is, c_1, sbt]
    refine ⟨Or.inr rfl, ?_⟩
    rw [hM]
    exact Ent.cast (x' := (AV.b (decide ((cleanS s').1 = s')))) (y' := (AV.b (decide ((cleanS s').1 = s')))) kr kr (Ent.c kr kr)

theorem w_path_All (W : World) {m0 : Int} (hW : W.cell? ⟨0, 0, none⟩ = some (.int .i64 m0)) (ss : List ByteArray) (most' : Int) : PureAt Go.Proofs.Tryd.prog W 39 [((slA 1 AV.s) ss), (AV.i .i64 most')] (AV.b (m_path_All ss most')) [] := by
  refine pure_of_bodyC (fn := Go.Proofs.Tryd.f39) Go.Proofs.Tryd.func39 rfl (en39 W) (ts := [4]) rfl le ?_
  refine Awp.seq ?_
  refine Awp.region tabS_ok ?_
  refine AOps.sq (x := (AV.b false)) kr le ?_
  refine AOps.done ?_
  refine Awp.seq ?_
  refine Awp.seq ?_
  refine Awp.region tabS_ok ?_
  refine AOps.sq (x := ((slA 1 AV.s) ss)) kr le ?_
  refine AOps.sq (x := (AV.i .i64 ((ss.length : Nat) : Int))) (g_len (k := 1) (nl := false) (e := 9) (A := AV.s) (xs := ss) kr kr) le ?_
  refine AOps.sq (x := (AV.i .i64 (0 : Int))) kr le ?_
  refine AOps.done ?_
  refine Awp.block ?_
  refine Awp.lim 0 (x := ((slA 1 AV.s) ss)) kr fun hlm1 => ?_
  have hB1 : ss.length ≤ 281474976710656 := lim_slA hlm1
  obtain ⟨R1, hR1⟩ : ∃ R, m_path_All_L1 ss 0 = R := ⟨_, rfl⟩
  refine Awp.loopT (fun (v9 : Nat) => [(0, ((slA 1 AV.s) ss)), (1, (AV.i .i64 most')), (7, ((slA 1 AV.s) ss)), (8, (AV.i .i64 ((ss.length : Nat) : Int))), (9, (AV.i .i64 ((v9 : Nat) : Int)))]) (fun (v9 : Nat) => ⟨0, []⟩) (fun (v9 : Nat) => v9 ≤ ss.length ∧ m_path_All_L1 (ss.drop v9) v9 = R1) (fun (v9 : Nat) => ss.length - v9) 0 ?_ ?_ ?_
  · exact ⟨[], ⟨by decide, rfl, FitsObjs.nil, (EntE.cons (Ent.c kr kr) (EntE.cons (Ent.c kr kr) (EntE.cons (Ent.c kr kr) (EntE.cons (Ent.c kr kr) (EntE.cons (Ent.c kr kr) EntE.nil)))))⟩, keep0⟩
  · exact ⟨od, hR1⟩
  · rintro v9 ⟨hi1, hE1⟩
    try dsimp only
    refine Awp.seq ?_
    refine Awp.region tabS_ok ?_
    refine AOps.sq (x := (AV.b (decide (((v9 : Nat) : Int) < ((ss.length : Nat) : Int))))) kr le ?_
    refine AOps.done ?_
    refine Awp.seq ?_
    rcases Nat.lt_or_ge v9 ss.length with hl1 | hl1
    · have hc1 : decide (((v9 : Nat) : Int) < ((ss.length : Nat) : Int)) = true := decide_eq_true (by omega)
      refine Awp.cond (t := true) (by rw [← hc1] <;> kernel_rfl) (Awp.skip ?_)
      obtain ⟨x1, hx1⟩ : ∃ x, ss[v9]? = some x := ⟨_, List.getElem?_eq_getElem hl1⟩
      rw [drop_at hx1, m_path_All_L1.eq_2] at hE1
      refine Awp.seq ?_
      refine Awp.block ?_
      refine Awp.seq ?_
      refine Awp.region tabS_ok ?_
      refine AOps.sq (x := (AV.pt (AV.s x1).cells)) (g_idx (k := 1) (nl := false) (e := 9) (kk := .i64) (A := AV.s) (xs := ss) (i := v9) kr kr kr ⟨by kernel_rfl, by decide⟩ hx1) le ?_
      refine AOps.sq (x := (AV.s x1)) kr le ?_
      refine AOps.sq (x := (AV.s x1)) kr le ?_
      refine AOps.done ?_
      refine Awp.seq ?_
      refine Awp.region tabS_ok ?_
      refine AOps.sq (x := (AV.s x1)) kr le ?_
      refine AOps.sc0 (vs := [(AV.s x1)]) (r0 := (AV.b (m_path_Is x1))) kr kr (w_path_Is W hW x1) kr le ?_
      refine AOps.sq (x := (AV.b (!(m_path_Is x1)))) kr le ?_
      refine AOps.done ?_
      cases c_1 : (!(m_path_Is x1))
      · refine Awp.cond (t := false) kr ?_
        refine Awp.skip ?_
        refine Awp.region tabS_ok ?_
        refine AOps.sq (x := (AV.i .i64 ((v9 + 1 : Nat) : Int))) (g_addN (i := v9) (m := 1) kr kr sd) le ?_
        refine AOps.sq (x := (AV.i .i64 ((v9 + 1 : Nat) : Int))) kr le ?_
        refine AOps.done ?_
        try simp only [c_1, sbt] at hE1
        refine ⟨v9 + 1, od, ⟨od, hE1⟩, ?_⟩
        exact ⟨[], ⟨by decide, rfl, FitsObjs.nil, (EntE.cons (Ent.c kr kr) (EntE.cons (Ent.c kr kr) (EntE.cons (Ent.c kr kr) (EntE.cons (Ent.c kr kr) (EntE.cons (Ent.c kr kr) EntE.nil)))))⟩, keep0⟩
      · refine Awp.cond (t := true) kr ?_
        refine Awp.seq ?_
        refine Awp.region tabS_ok ?_
        refine AOps.sq (x := (AV.b false)) kr le ?_
        refine AOps.done ?_
        refine Awp.ret ?_
        try simp only [c_1, sbt] at hE1
        subst hE1
        have hM : m_path_All ss most' = false := by simp only [m_path_All, hR1, sbt]
        refine ⟨Or.inr rfl, ?_⟩
        rw [hM]
        exact Ent.cast (x' := (AV.b false)) (y' := (AV.b false)) kr kr (Ent.c kr kr)
    · have hc1 : decide (((v9 : Nat) : Int) < ((ss.length : Nat) : Int)) = false := decide_eq_false (by omega)
      refine Awp.cond (t := false) (by rw [← hc1] <;> kernel_rfl) (Awp.exit ?_)
      rw [List.drop_eq_nil_of_le (hl1), m_path_All_L1.eq_1] at hE1
      subst hE1
      refine Awp.seq ?_
      refine Awp.region tabS_ok ?_
      refine AOps.sq (x := ((slA 1 AV.s) ss)) kr le ?_
      refine AOps.sq (x := (AV.i .i64 ((ss.length : Nat) : Int))) (g_len (k := 1) (nl := false) (e := 9) (A := AV.s) (xs := ss) kr kr) le ?_
      refine AOps.sq (x := (AV.i .i64 most')) kr le ?_
      refine AOps.sq (x := (AV.b (decide (((ss.length : Nat) : Int) ≤ most')))) kr le ?_
      refine AOps.sq (x := (AV.b (decide (((ss.length : Nat) : Int) ≤ most')))) kr le ?_
      refine AOps.done ?_
      refine Awp.ret ?_
      have hM : m_path_All ss most' = decide (((ss.length : Nat) : Int) ≤ most') := by simp only [m_path_All, hR1, sbt]
      refine ⟨Or.inr rfl, ?_⟩
      rw [hM]
      exact Ent.cast (x' := (AV.b (decide (((ss.length : Nat) : Int) ≤ most')))) (y' := (AV.b (decide (((ss.length : Nat) : Int) ≤ most')))) kr kr (Ent.c kr kr)

theorem w_graph_Outs (W : World) (g : DGraph) (hz : outsN g.edges ≤ 1048576) : PureAt Go.Proofs.Tryd.prog W 40 [(AV.pt (DGraph.av g).cells)] ((slA 1 AV.s) (m_graph_Outs g)) [] := by
  refine pure_of_bodyC (fn := Go.Proofs.Tryd.f40) Go.Proofs.Tryd.func40 rfl (en40 W) (ts := [2]) rfl le ?_
  refine Awp.seq ?_
  refine Awp.region tabS_ok ?_
  refine AOps.sq (x := (AV.sl 1 true [])) kr le ?_
  refine AOps.done ?_
  refine Awp.seq ?_
  refine Awp.region tabS_ok ?_
  refine AOps.sq (x := (AV.sl 1 true [])) kr le ?_
  refine AOps.done ?_
  refine Awp.seq ?_
  refine Awp.seq ?_
  refine Awp.region tabS_ok ?_
  refine AOps.sq (x := (AV.pt (DGraph.av g).cells)) kr le ?_
  refine AOps.sq (x := (AV.pt (DGraph.av g).cells)) kr le ?_
  refine AOps.sq (x := (AV.pt ((DGraph.av g).cells.drop 0))) kr le ?_
  refine AOps.sq (x := ((slA 7 DEdge.av) g.edges)) kr le ?_
  refine AOps.sq (x := (AV.i .i64 ((g.edges.length : Nat) : Int))) (g_len (k := 7) (nl := false) (e := 31) (A := DEdge.av) (xs := g.edges) kr kr) le ?_
  refine AOps.sq (x := (AV.i .i64 (0 : Int))) kr le ?_
  refine AOps.done ?_
  refine Awp.block ?_
  refine Awp.lim 9 (x := ((slA 7 DEdge.av) g.edges)) kr fun hlm1 => ?_
  have hB1 : g.edges.length ≤ 281474976710656 := lim_slA hlm1
  obtain ⟨R1, hR1⟩ : ∃ R, m_graph_Outs_L1 g.edges 0 [] = R := ⟨_, rfl⟩
  refine Awp.loopT (fun ((b_out, out, v11) : Bool × (List ByteArray) × Nat) => [(9, ((slA 7 DEdge.av) g.edges)), (10, (AV.i .i64 ((g.edges.length : Nat) : Int))), (3, (accW 0 1 AV.s b_out out)), (11, (AV.i .i64 ((v11 : Nat) : Int)))]) (fun ((b_out, out, v11) : Bool × (List ByteArray) × Nat) => ⟨1, [(0, accWO 9 1 AV.s b_out out)]⟩) (fun ((b_out, out, v11) : Bool × (List ByteArray) × Nat) => v11 ≤ g.edges.length ∧ (b_out = false → out = []) ∧ out.length + outsN (g.edges.drop v11) ≤ outsN g.edges ∧ m_graph_Outs_L1 (g.edges.drop v11) v11 out = R1) (fun ((b_out, out, v11) : Bool × (List ByteArray) × Nat) => g.edges.length - v11) (false, [], 0) ?_ ?_ ?_
  · exact ⟨[1000000], ⟨by decide, rfl, (FitsObjs.cons rfl FitsObjs.nil), (EntE.cons (Ent.c kr kr) (EntE.cons (Ent.c kr kr) (EntE.cons (Ent.c kr kr) (EntE.cons (Ent.c kr kr) EntE.nil))))⟩, keep0⟩
  · exact ⟨od, (by simp), by (try dsimp only) <;> (simp), hR1⟩
  · rintro ⟨b_out, out, v11⟩ ⟨hi1, hn_out, ha, hE1⟩
    try dsimp only
    cases b_out
    · have hz_out := hn_out rfl
      subst hz_out
      try dsimp only
      refine Awp.seq ?_
      refine Awp.region tabS_ok ?_
      refine AOps.sq (x := (AV.b (decide (((v11 : Nat) : Int) < ((g.edges.length : Nat) : Int))))) kr le ?_
      refine AOps.done ?_
      refine Awp.seq ?_
      rcases Nat.lt_or_ge v11 g.edges.length with hl1 | hl1
      · have hc1 : decide (((v11 : Nat) : Int) < ((g.edges.length : Nat) : Int)) = true := decide_eq_true (by omega)
        refine Awp.cond (t := true) (by rw [← hc1] <;> kernel_rfl) (Awp.skip ?_)
        obtain ⟨x1, hx1⟩ : ∃ x, g.edges[v11]? = some x := ⟨_, List.getElem?_eq_getElem hl1⟩
        rw [drop_at hx1, m_graph_Outs_L1.eq_2] at hE1
        rw [drop_at hx1] at ha
        simp only [outsN] at ha
        refine Awp.seq ?_
        refine Awp.block ?_
        refine Awp.seq ?_
        refine Awp.region tabS_ok ?_
        refine AOps.sq (x := (AV.pt (DEdge.av x1).cells)) (g_idx (k := 7) (nl := false) (e := 31) (kk := .i64) (A := DEdge.av) (xs := g.edges) (i := v11) kr kr kr ⟨by kernel_rfl, by decide⟩ hx1) le ?_
        refine AOps.sq (x := (DEdge.av x1)) kr le ?_
        refine AOps.sn (x := (AV.loc 1 0 0)) (h' := ⟨2, [(1, some ⟨31, 7, [(AV.st [(AV.sl 1 true []), (AV.sl 1 true []), (AV.sl 1 true []), (AV.sl 1 true []), (AV.s (⟨#[]⟩ : ByteArray)), (AV.b false), (AV.s (⟨#[]⟩ : ByteArray))])]⟩), (0, none)]⟩) kr le ?_
        refine AOps.st (x := AV.und) (h' := ⟨2, [(1, some ⟨31, 7, [(AV.st [((slA 1 AV.s) x1.outs), ((slA 1 AV.s) x1.ins), ((slA 1 AV.s) x1.implicit), ((slA 1 AV.s) x1.order), (AV.s x1.command), (AV.b x1.deps), (AV.s x1.pool)])]⟩), (0, none)]⟩) kr ?_
        refine AOps.done ?_
        refine Awp.region tabS_ok ?_
        refine AOps.sq (x := (AV.sl 1 true [])) kr le ?_
        refine AOps.sq (x := (AV.loc 1 0 0)) kr le ?_
        refine AOps.sq (x := ((slA 1 AV.s) x1.outs)) kr le ?_
        by_cases z_1 : x1.outs = []
        · refine AOps.se (x := (AV.sl 1 true [])) (h' := ⟨2, [(1, some ⟨31, 7, [(AV.st [((slA 1 AV.s) x1.outs), ((slA 1 AV.s) x1.ins), ((slA 1 AV.s) x1.implicit), ((slA 1 AV.s) x1.order), (AV.s x1.command), (AV.b x1.deps), (AV.s x1.pool)])]⟩), (0, none)]⟩) (g_app0 (e := 9) (X := ((slA 1 AV.s) x1.outs)) (A := AV.s) (i := tI_9) (k := 1) (ys := x1.outs) kr kr kr (hx := kr) rfl z_1 ⟨by decide, by kernel_rfl⟩) le ?_
          refine AOps.sq (x := (AV.sl 1 true [])) kr le ?_
          refine AOps.done ?_
          refine Awp.region tabS_ok ?_
          refine AOps.sq (x := (AV.i .i64 ((v11 + 1 : Nat) : Int))) (g_addN (i := v11) (m := 1) kr kr sd) le ?_
          refine AOps.sq (x := (AV.i .i64 ((v11 + 1 : Nat) : Int))) kr le ?_
          refine AOps.done ?_
          try simp only [z_1, sbt] at hE1
          refine ⟨(false, [], v11 + 1), od, ⟨od, (by simp), by (try dsimp only) <;> (first | omega | (simp; omega)), hE1⟩, ?_⟩
          exact ⟨[1000000], ⟨by decide, rfl, (FitsObjs.cons rfl FitsObjs.nil), (EntE.cons (Ent.c kr kr) (EntE.cons (Ent.c kr kr) (EntE.cons (Ent.c kr kr) (EntE.cons (Ent.c kr kr) EntE.nil))))⟩, keep0⟩
        · refine AOps.se (x := (AV.own 2 0 x1.outs.length)) (h' := ⟨3, [(2, some ⟨9, 1, x1.outs.map AV.s⟩), (1, some ⟨31, 7, [(AV.st [((slA 1 AV.s) x1.outs), ((slA 1 AV.s) x1.ins), ((slA 1 AV.s) x1.implicit), ((slA 1 AV.s) x1.order), (AV.s x1.command), (AV.b x1.deps), (AV.s x1.pool)])]⟩), (0, none)]⟩) (g_app1 (e := 9) (X := ((slA 1 AV.s) x1.outs)) (A := AV.s) (i := tI_9) (k := 1) (ys := x1.outs) kr kr kr (hx := kr) rfl z_1 ⟨by decide, by kernel_rfl⟩ (by show _ * 16 ≤ 140737488355328; first | omega | (simp only [List.length_append, List.length_cons, List.length_nil, List.length_set, List.length_replicate]; omega) | (simp; omega)) sd) le ?_
          refine AOps.sq (x := (AV.own 2 0 x1.outs.length)) kr le ?_
          refine AOps.done ?_
          refine Awp.region tabS_ok ?_
          refine AOps.sq (x := (AV.i .i64 ((v11 + 1 : Nat) : Int))) (g_addN (i := v11) (m := 1) kr kr sd) le ?_
          refine AOps.sq (x := (AV.i .i64 ((v11 + 1 : Nat) : Int))) kr le ?_
          refine AOps.done ?_
          refine ⟨(true, x1.outs, v11 + 1), od, ⟨od, (by simp), by (try dsimp only) <;> (first | omega | (simp; omega)), hE1⟩, ?_⟩
          exact ⟨[2], ⟨by decide, rfl, (FitsObjs.cons (obj_row (fun _ => rfl) (e := 9) (k := 1) (A := AV.s) (xs := x1.outs) rfl rfl) FitsObjs.nil), (EntE.cons (Ent.c kr kr) (EntE.cons (Ent.c kr kr) (EntE.cons (ent_keepO (by decide) rfl) (EntE.cons (Ent.c kr kr) EntE.nil))))⟩, keep0⟩
      · have hc1 : decide (((v11 : Nat) : Int) < ((g.edges.length : Nat) : Int)) = false := decide_eq_false (by omega)
        refine Awp.cond (t := false) (by rw [← hc1] <;> kernel_rfl) (Awp.exit ?_)
        rw [List.drop_eq_nil_of_le (hl1), m_graph_Outs_L1.eq_1] at hE1
        subst hE1
        refine Awp.seq ?_
        refine Awp.region tabS_ok ?_
        refine AOps.sq (x := (AV.sl 1 true [])) kr le ?_
        refine AOps.sq (x := (AV.sl 1 true [])) kr le ?_
        refine AOps.done ?_
        refine Awp.ret ?_
        have hM : m_graph_Outs g = [] := by simp only [m_graph_Outs, hR1, sbt]
        refine ⟨Or.inr rfl, ?_⟩
        rw [hM]
        exact Ent.cast (x' := (AV.sl 1 true [])) (y' := ((slA 1 AV.s) [])) kr kr (Ent.w rfl (WeakC.nil 1))
    · try dsimp only
      refine Awp.seq ?_
      refine Awp.region tabS_ok ?_
      refine AOps.sq (x := (AV.b (decide (((v11 : Nat) : Int) < ((g.edges.length : Nat) : Int))))) kr le ?_
      refine AOps.done ?_
      refine Awp.seq ?_
      rcases Nat.lt_or_ge v11 g.edges.length with hl1 | hl1
      · have hc1 : decide (((v11 : Nat) : Int) < ((g.edges.length : Nat) : Int)) = true := decide_eq_true (by omega)
        refine Awp.cond (t := true) (by rw [← hc1] <;> kernel_rfl) (Awp.skip ?_)
        obtain ⟨x1, hx1⟩ : ∃ x, g.edges[v11]? = some x := ⟨_, List.getElem?_eq_getElem hl1⟩
        rw [drop_at hx1, m_graph_Outs_L1.eq_2] at hE1
        rw [drop_at hx1] at ha
        simp only [outsN] at ha
        refine Awp.seq ?_
        refine Awp.block ?_
        refine Awp.seq ?_
        refine Awp.region tabS_ok ?_
        refine AOps.sq (x := (AV.pt (DEdge.av x1).cells)) (g_idx (k := 7) (nl := false) (e := 31) (kk := .i64) (A := DEdge.av) (xs := g.edges) (i := v11) kr kr kr ⟨by kernel_rfl, by decide⟩ hx1) le ?_
        refine AOps.sq (x := (DEdge.av x1)) kr le ?_
        refine AOps.sn (x := (AV.loc 1 0 0)) (h' := ⟨2, [(1, some ⟨31, 7, [(AV.st [(AV.sl 1 true []), (AV.sl 1 true []), (AV.sl 1 true []), (AV.sl 1 true []), (AV.s (⟨#[]⟩ : ByteArray)), (AV.b false), (AV.s (⟨#[]⟩ : ByteArray))])]⟩), (0, some ⟨9, 1, out.map AV.s⟩)]⟩) kr le ?_
        refine AOps.st (x := AV.und) (h' := ⟨2, [(1, some ⟨31, 7, [(AV.st [((slA 1 AV.s) x1.outs), ((slA 1 AV.s) x1.ins), ((slA 1 AV.s) x1.implicit), ((slA 1 AV.s) x1.order), (AV.s x1.command), (AV.b x1.deps), (AV.s x1.pool)])]⟩), (0, some ⟨9, 1, out.map AV.s⟩)]⟩) kr ?_
        refine AOps.done ?_
        refine Awp.region tabS_ok ?_
        refine AOps.sq (x := (AV.own 0 0 out.length)) kr le ?_
        refine AOps.sq (x := (AV.loc 1 0 0)) kr le ?_
        refine AOps.sq (x := ((slA 1 AV.s) x1.outs)) kr le ?_
        refine AOps.se (x := (AV.own 2 0 ((out ++ x1.outs).length))) (h' := ⟨3, [(2, some ⟨9, 1, (out ++ x1.outs).map AV.s⟩), (1, some ⟨31, 7, [(AV.st [((slA 1 AV.s) x1.outs), ((slA 1 AV.s) x1.ins), ((slA 1 AV.s) x1.implicit), ((slA 1 AV.s) x1.order), (AV.s x1.command), (AV.b x1.deps), (AV.s x1.pool)])]⟩), (0, none)]⟩) (g_appR (len := out.length) (e := 9) (X := ((slA 1 AV.s) x1.outs)) (A := AV.s) (i := tI_9) (p := 0) (xs := out) (ys := x1.outs) kr kr kr (hx := kr) kr ⟨by decide, by kernel_rfl⟩ rfl rfl (by show _ * 16 ≤ 140737488355328; first | omega | (simp only [List.length_append, List.length_cons, List.length_nil, List.length_set, List.length_replicate]; omega) | (simp; omega)) sd) le ?_
        refine AOps.sq (x := (AV.own 2 0 ((out ++ x1.outs).length))) kr le ?_
        refine AOps.done ?_
        refine Awp.region tabS_ok ?_
        refine AOps.sq (x := (AV.i .i64 ((v11 + 1 : Nat) : Int))) (g_addN (i := v11) (m := 1) kr kr sd) le ?_
        refine AOps.sq (x := (AV.i .i64 ((v11 + 1 : Nat) : Int))) kr le ?_
        refine AOps.done ?_
        refine ⟨(true, (out ++ x1.outs), v11 + 1), od, ⟨od, (by simp), by (try dsimp only) <;> (first | omega | (simp; omega)), hE1⟩, ?_⟩
        exact ⟨[2], ⟨by decide, rfl, (FitsObjs.cons (obj_row (fun _ => rfl) (e := 9) (k := 1) (A := AV.s) (xs := (out ++ x1.outs)) rfl rfl) FitsObjs.nil), (EntE.cons (Ent.c kr kr) (EntE.cons (Ent.c kr kr) (EntE.cons (ent_keepO (by decide) rfl) (EntE.cons (Ent.c kr kr) EntE.nil))))⟩, keep0⟩
      · have hc1 : decide (((v11 : Nat) : Int) < ((g.edges.length : Nat) : Int)) = false := decide_eq_false (by omega)
        refine Awp.cond (t := false) (by rw [← hc1] <;> kernel_rfl) (Awp.exit ?_)
        rw [List.drop_eq_nil_of_le (hl1), m_graph_Outs_L1.eq_1] at hE1
        subst hE1
        refine Awp.seq ?_
        refine Awp.region tabS_ok ?_
        refine AOps.sq (x := (AV.own 0 0 out.length)) kr le ?_
        refine AOps.sq (x := (AV.own 0 0 out.length)) kr le ?_
        refine AOps.done ?_
        refine Awp.ret ?_
        have hM : m_graph_Outs g = out := by simp only [m_graph_Outs, hR1, sbt]
        refine ⟨Or.inr rfl, ?_⟩
        rw [hM]
        exact Ent.cast (x' := (AV.own 0 0 out.length)) (y' := ((slA 1 AV.s) out)) kr kr (EntD.kk (x' := (AV.own 0 0 out.length)) kr kr rfl (EntK.row (fun _ => rfl) (A := AV.s) (id := 0) (e := 9) (k := 1) (xs := out) rfl rfl rfl sd))

theorem w_law0_SameBools (W : World) (a : List Bool) (b : List Bool) : PureAt Go.Proofs.Tryd.prog W 33 [((slA 1 AV.b) a), ((slA 1 AV.b) b)] (AV.b (m_law0_SameBools a b)) [] := by
  refine pure_of_bodyC (fn := Go.Proofs.Tryd.f33) Go.Proofs.Tryd.func33 rfl (en33 W) (ts := [4]) rfl le ?_
  refine Awp.seq ?_
  refine Awp.region tabS_ok ?_
  refine AOps.sq (x := (AV.b false)) kr le ?_
  refine AOps.done ?_
  refine Awp.seq ?_
  refine Awp.seq ?_
  refine Awp.region tabS_ok ?_
  refine AOps.sq (x := ((slA 1 AV.b) a)) kr le ?_
  refine AOps.sq (x := (AV.i .i64 ((a.length : Nat) : Int))) (g_len (k := 1) (nl := false) (e := 4) (A := AV.b) (xs := a) kr kr) le ?_
  refine AOps.sq (x := ((slA 1 AV.b) b)) kr le ?_
  refine AOps.sq (x := (AV.i .i64 ((b.length : Nat) : Int))) (g_len (k := 1) (nl := false) (e := 4) (A := AV.b) (xs := b) kr kr) le ?_
  refine AOps.sq (x := (AV.b (!decide (((a.length : Nat) : Int) = ((b.length : Nat) : Int))))) kr le ?_
  refine AOps.done ?_
  cases c_1 : (!decide (((a.length : Nat) : Int) = ((b.length : Nat) : Int)))
  · have k_1 : (((a.length : Nat) : Int) = ((b.length : Nat) : Int)) := of_decide_eq_true (by simpa using c_1)
    refine Awp.cond (t := false) kr ?_
    refine Awp.skip ?_
    refine Awp.seq ?_
    refine Awp.seq ?_
    refine Awp.region tabS_ok ?_
    refine AOps.sq (x := (AV.i .i64 (0 : Int))) kr le ?_
    refine AOps.done ?_
    refine Awp.block ?_
    refine Awp.lim 0 (x := ((slA 1 AV.b) a)) kr fun hlm1 => ?_
    have hB1 : a.length ≤ 281474976710656 := lim_slA hlm1
    obtain ⟨R1, hR1⟩ : ∃ R, m_law0_SameBools_L1 b a 0 = R := ⟨_, rfl⟩
    refine Awp.loopT (fun (i : Nat) => [(0, ((slA 1 AV.b) a)), (1, ((slA 1 AV.b) b)), (5, (AV.i .i64 ((i : Nat) : Int)))]) (fun (i : Nat) => ⟨0, []⟩) (fun (i : Nat) => i ≤ a.length ∧ m_law0_SameBools_L1 b (a.drop i) i = R1) (fun (i : Nat) => a.length - i) 0 ?_ ?_ ?_
    · exact ⟨[], ⟨by decide, rfl, FitsObjs.nil, (EntE.cons (Ent.c kr kr) (EntE.cons (Ent.c kr kr) (EntE.cons (Ent.c kr kr) EntE.nil)))⟩, keep0⟩
    · exact ⟨od, hR1⟩
    · rintro i ⟨hi1, hE1⟩
      try dsimp only
      refine Awp.seq ?_
      refine Awp.seq ?_
      refine Awp.region tabS_ok ?_
      refine AOps.sq (x := (AV.i .i64 ((i : Nat) : Int))) kr le ?_
      refine AOps.sq (x := ((slA 1 AV.b) a)) kr le ?_
      refine AOps.sq (x := (AV.i .i64 ((a.length : Nat) : Int))) (g_len (k := 1) (nl := false) (e := 4) (A := AV.b) (xs := a) kr kr) le ?_
      refine AOps.sq (x := (AV.b (decide (((i : Nat) : Int) < ((a.length : Nat) : Int))))) kr le ?_
      refine AOps.done ?_
      rcases Nat.lt_or_ge i a.length with hl1 | hl1
      · have hc1 : decide (((i : Nat) : Int) < ((a.length : Nat) : Int)) = true := decide_eq_true (by omega)
        refine Awp.cond (t := true) (by rw [← hc1] <;> kernel_rfl) (Awp.skip ?_)
        obtain ⟨x1, hx1⟩ : ∃ x, a[i]? = some x := ⟨_, List.getElem?_eq_getElem hl1⟩
        rw [drop_at hx1, m_law0_SameBools_L1.eq_2] at hE1
        refine Awp.seq ?_
        refine Awp.block ?_
        refine Awp.seq ?_
        refine Awp.drawn tabS_ok mixed 8 kr le ?_
        refine AOpsD.sq (x := ((slA 1 AV.b) a)) kr le ?_
        refine AOpsD.sq (x := (AV.i .i64 ((i : Nat) : Int))) kr le ?_
        refine AOpsD.sq (x := (AV.pt (AV.b x1).cells)) (g_idx (k := 1) (nl := false) (e := 4) (kk := .i64) (A := AV.b) (xs := a) (i := i) kr kr kr ⟨by kernel_rfl, by decide⟩ hx1) le ?_
        refine AOpsD.sq (x := (AV.b x1)) kr le ?_
        refine AOpsD.sq (x := ((slA 1 AV.b) b)) kr le ?_
        refine AOpsD.sq (x := (AV.i .i64 ((i : Nat) : Int))) kr le ?_
        refine AOpsD.sq (x := (AV.pt (AV.b (b.getD i default)).cells)) (g_idx (k := 1) (nl := false) (e := 4) (kk := .i64) (A := AV.b) (xs := b) (i := i) kr kr kr ⟨by kernel_rfl, by decide⟩ (getD_some sd)) le ?_
        refine AOpsD.sq (x := (AV.b (b.getD i default))) kr le ?_
        refine AOpsD.sq (x := (AV.b (!(x1 == (b.getD i default))))) kr le ?_
        refine AOpsD.fin ?_
        cases c_2 : (!(x1 == (b.getD i default)))
        · refine Awp.cond (t := false) kr ?_
          refine Awp.skip ?_
          refine Awp.region tabS_ok ?_
          refine AOps.sq (x := (AV.i .i64 ((i : Nat) : Int))) kr le ?_
          refine AOps.sq (x := (AV.i .i64 ((i + 1 : Nat) : Int))) (g_addN (i := i) (m := 1) kr kr sd) le ?_
          refine AOps.sq (x := (AV.i .i64 ((i + 1 : Nat) : Int))) kr le ?_
          refine AOps.done ?_
          try simp only [c_2, sbt] at hE1
          refine ⟨i + 1, od, ⟨od, hE1⟩, ?_⟩
          exact ⟨[], ⟨by decide, rfl, FitsObjs.nil, (EntE.cons (Ent.c kr kr) (EntE.cons (Ent.c kr kr) (EntE.cons (Ent.c kr kr) EntE.nil)))⟩, keep0⟩
        · refine Awp.cond (t := true) kr ?_
          refine Awp.seq ?_
          refine Awp.region tabS_ok ?_
          refine AOps.sq (x := (AV.b false)) kr le ?_
          refine AOps.done ?_
          refine Awp.ret ?_
          try simp only [c_2, sbt] at hE1
          subst hE1
          have hM : m_law0_SameBools a b = false := by simp only [m_law0_SameBools, c_1, hR1, sbt]
          refine ⟨Or.inr rfl, ?_⟩
          rw [hM]
          exact Ent.cast (x' := (AV.b false)) (y' := (AV.b false)) kr kr (Ent.c kr kr)
      · have hc1 : decide (((i : Nat) : Int) < ((a.length : Nat) : Int)) = false := decide_eq_false (by omega)
        refine Awp.cond (t := false) (by rw [← hc1] <;> kernel_rfl) (Awp.exit ?_)
        rw [List.drop_eq_nil_of_le (hl1), m_law0_SameBools_L1.eq_1] at hE1
        subst hE1
        refine Awp.seq ?_
        refine Awp.region tabS_ok ?_
        refine AOps.sq (x := (AV.b true)) kr le ?_
        refine AOps.done ?_
        refine Awp.ret ?_
        have hM : m_law0_SameBools a b = true := by simp only [m_law0_SameBools, c_1, hR1, sbt]
        refine ⟨Or.inr rfl, ?_⟩
        rw [hM]
        exact Ent.cast (x' := (AV.b true)) (y' := (AV.b true)) kr kr (Ent.c kr kr)
  · have k_1 : ¬ (((a.length : Nat) : Int) = ((b.length : Nat) : Int)) := of_decide_eq_false (by simpa using c_1)
    refine Awp.cond (t := true) kr ?_
    refine Awp.seq ?_
    refine Awp.region tabS_ok ?_
    refine AOps.sq (x := (AV.b false)) kr le ?_
    refine AOps.done ?_
    refine Awp.ret ?_
    have hM : m_law0_SameBools a b = false := by simp only [m_law0_SameBools, c_1, sbt]
    refine ⟨Or.inr rfl, ?_⟩
    rw [hM]
    exact Ent.cast (x' := (AV.b false)) (y' := (AV.b false)) kr kr (Ent.c kr kr)

theorem w_slices_Index_int_int (W : World) (s' : List Int) (v : Int) : PureAt Go.Proofs.Tryd.prog W 67 [((slA 1 (AV.i .i64)) s'), (AV.i .i64 v)] (AV.i .i64 (m_slices_Index_int_int s' v)) [] := by
  refine pure_of_bodyC (fn := Go.Proofs.Tryd.f67) Go.Proofs.Tryd.func67 rfl (en67 W) (ts := [4]) rfl le ?_
  refine Awp.seq ?_
  refine Awp.region tabS_ok ?_
  refine AOps.sq (x := (AV.i .i64 (0 : Int))) kr le ?_
  refine AOps.done ?_
  refine Awp.seq ?_
  refine Awp.seq ?_
  refine Awp.region tabS_ok ?_
  refine AOps.sq (x := ((slA 1 (AV.i .i64)) s')) kr le ?_
  refine AOps.sq (x := (AV.i .i64 ((s'.length : Nat) : Int))) (g_len (k := 1) (nl := false) (e := 3) (A := (AV.i .i64)) (xs := s') kr kr) le ?_
  refine AOps.sq (x := (AV.i .i64 (0 : Int))) kr le ?_
  refine AOps.done ?_
  refine Awp.block ?_
  refine Awp.lim 0 (x := ((slA 1 (AV.i .i64)) s')) kr fun hlm1 => ?_
  have hB1 : s'.length ≤ 281474976710656 := lim_slA hlm1
  obtain ⟨R1, hR1⟩ : ∃ R, m_slices_Index_int_int_L1 v s' 0 = R := ⟨_, rfl⟩
  refine Awp.loopT (fun (v8 : Nat) => [(0, ((slA 1 (AV.i .i64)) s')), (1, (AV.i .i64 v)), (7, (AV.i .i64 ((s'.length : Nat) : Int))), (8, (AV.i .i64 ((v8 : Nat) : Int)))]) (fun (v8 : Nat) => ⟨0, []⟩) (fun (v8 : Nat) => v8 ≤ s'.length ∧ m_slices_Index_int_int_L1 v (s'.drop v8) v8 = R1) (fun (v8 : Nat) => s'.length - v8) 0 ?_ ?_ ?_
  · exact ⟨[], ⟨by decide, rfl, FitsObjs.nil, (EntE.cons (Ent.c kr kr) (EntE.cons (Ent.c kr kr) (EntE.cons (Ent.c kr kr) (EntE.cons (Ent.c kr kr) EntE.nil))))⟩, keep0⟩
  · exact ⟨od, hR1⟩
  · rintro v8 ⟨hi1, hE1⟩
    try dsimp only
    refine Awp.seq ?_
    refine Awp.region tabS_ok ?_
    refine AOps.sq (x := (AV.b (decide (((v8 : Nat) : Int) < ((s'.length : Nat) : Int))))) kr le ?_
    refine AOps.done ?_
    refine Awp.seq ?_
    rcases Nat.lt_or_ge v8 s'.length with hl1 | hl1
    · have hc1 : decide (((v8 : Nat) : Int) < ((s'.length : Nat) : Int)) = true := decide_eq_true (by omega)
      refine Awp.cond (t := true) (by rw [← hc1] <;> kernel_rfl) (Awp.skip ?_)
      obtain ⟨x1, hx1⟩ : ∃ x, s'[v8]? = some x := ⟨_, List.getElem?_eq_getElem hl1⟩
      rw [drop_at hx1, m_slices_Index_int_int_L1.eq_2] at hE1
      refine Awp.seq ?_
      refine Awp.block ?_
      refine Awp.seq ?_
      refine Awp.region tabS_ok ?_
      refine AOps.sq (x := (AV.i .i64 ((v8 : Nat) : Int))) kr le ?_
      refine AOps.sq (x := (AV.i .i64 ((v8 : Nat) : Int))) kr le ?_
      refine AOps.done ?_
      refine Awp.seq ?_
      refine Awp.region tabS_ok ?_
      refine AOps.sq (x := (AV.i .i64 v)) kr le ?_
      refine AOps.sq (x := ((slA 1 (AV.i .i64)) s')) kr le ?_
      refine AOps.sq (x := (AV.i .i64 ((v8 : Nat) : Int))) kr le ?_
      refine AOps.sq (x := (AV.pt ((AV.i .i64) x1).cells)) (g_idx (k := 1) (nl := false) (e := 3) (kk := .i64) (A := (AV.i .i64)) (xs := s') (i := v8) kr kr kr ⟨by kernel_rfl, by decide⟩ hx1) le ?_
      refine AOps.sq (x := (AV.i .i64 x1)) kr le ?_
      refine AOps.sq (x := (AV.b (decide (v = x1)))) kr le ?_
      refine AOps.done ?_
      cases c_1 : decide (v = x1)
      · have k_1 : ¬ (v = x1) := of_decide_eq_false c_1
        refine Awp.cond (t := false) kr ?_
        refine Awp.skip ?_
        refine Awp.region tabS_ok ?_
        refine AOps.sq (x := (AV.i .i64 ((v8 + 1 : Nat) : Int))) (g_addN (i := v8) (m := 1) kr kr sd) le ?_
        refine AOps.sq (x := (AV.i .i64 ((v8 + 1 : Nat) : Int))) kr le ?_
        refine AOps.done ?_
        try simp only [c_1, sbt] at hE1
        refine ⟨v8 + 1, od, ⟨od, hE1⟩, ?_⟩
        exact ⟨[], ⟨by decide, rfl, FitsObjs.nil, (EntE.cons (Ent.c kr kr) (EntE.cons (Ent.c kr kr) (EntE.cons (Ent.c kr kr) (EntE.cons (Ent.c kr kr) EntE.nil))))⟩, keep0⟩
      · have k_1 : (v = x1) := of_decide_eq_true c_1
        refine Awp.cond (t := true) kr ?_
        refine Awp.seq ?_
        refine Awp.region tabS_ok ?_
        refine AOps.sq (x := (AV.i .i64 ((v8 : Nat) : Int))) kr le ?_
        refine AOps.sq (x := (AV.i .i64 ((v8 : Nat) : Int))) kr le ?_
        refine AOps.done ?_
        refine Awp.ret ?_
        try simp only [c_1, sbt] at hE1
        subst hE1
        have hM : m_slices_Index_int_int s' v = ((v8 : Nat) : Int) := by simp only [m_slices_Index_int_int, hR1, sbt]
        refine ⟨Or.inr rfl, ?_⟩
        rw [hM]
        exact Ent.cast (x' := (AV.i .i64 ((v8 : Nat) : Int))) (y' := (AV.i .i64 ((v8 : Nat) : Int))) kr kr (Ent.c kr kr)
    · have hc1 : decide (((v8 : Nat) : Int) < ((s'.length : Nat) : Int)) = false := decide_eq_false (by omega)
      refine Awp.cond (t := false) (by rw [← hc1] <;> kernel_rfl) (Awp.exit ?_)
      rw [List.drop_eq_nil_of_le (hl1), m_slices_Index_int_int_L1.eq_1] at hE1
      subst hE1
      refine Awp.seq ?_
      refine Awp.region tabS_ok ?_
      refine AOps.sq (x := (AV.i .i64 (-1 : Int))) kr le ?_
      refine AOps.done ?_
      refine Awp.ret ?_
      have hM : m_slices_Index_int_int s' v = (-1 : Int) := by simp only [m_slices_Index_int_int, hR1, sbt]
      refine ⟨Or.inr rfl, ?_⟩
      rw [hM]
      exact Ent.cast (x' := (AV.i .i64 (-1 : Int))) (y' := (AV.i .i64 (-1 : Int))) kr kr (Ent.c kr kr)

theorem w_slices_Contains_int_int (W : World) (s' : List Int) (v : Int) : PureAt Go.Proofs.Tryd.prog W 49 [((slA 1 (AV.i .i64)) s'), (AV.i .i64 v)] (AV.b (m_slices_Contains_int_int s' v)) [] := by
  refine pure_of_bodyC (fn := Go.Proofs.Tryd.f49) Go.Proofs.Tryd.func49 rfl (en49 W) (ts := [4]) rfl le ?_
  refine Awp.seq ?_
  refine Awp.region tabS_ok ?_
  refine AOps.sq (x := (AV.b false)) kr le ?_
  refine AOps.done ?_
  refine Awp.seq ?_
  refine Awp.region tabS_ok ?_
  refine AOps.sq (x := ((slA 1 (AV.i .i64)) s')) kr le ?_
  refine AOps.sq (x := (AV.i .i64 v)) kr le ?_
  refine AOps.sc0 (vs := [((slA 1 (AV.i .i64)) s'), (AV.i .i64 v)]) (r0 := (AV.i .i64 (m_slices_Index_int_int s' v))) kr kr (w_slices_Index_int_int W s' v) kr le ?_
  refine AOps.sq (x := (AV.b (decide ((0 : Int) ≤ (m_slices_Index_int_int s' v))))) kr le ?_
  refine AOps.sq (x := (AV.b (decide ((0 : Int) ≤ (m_slices_Index_int_int s' v))))) kr le ?_
  refine AOps.done ?_
  refine Awp.ret ?_
  have hM : m_slices_Contains_int_int s' v = decide ((0 : Int) ≤ (m_slices_Index_int_int s' v)) := by simp only [m_slices_Contains_int_int, sbt]
  refine ⟨Or.inr rfl, ?_⟩
  rw [hM]
  exact Ent.cast (x' := (AV.b (decide ((0 : Int) ≤ (m_slices_Index_int_int s' v))))) (y' := (AV.b (decide ((0 : Int) ≤ (m_slices_Index_int_int s' v))))) kr kr (Ent.c kr kr)

theorem w_slices_Index_string_string (W : World) (s' : List ByteArray) (v : ByteArray) : PureAt Go.Proofs.Tryd.prog W 71 [((slA 1 AV.s) s'), (AV.s v)] (AV.i .i64 (m_slices_Index_string_string s' v)) [] := by
  refine pure_of_bodyC (fn := Go.Proofs.Tryd.f71) Go.Proofs.Tryd.func71 rfl (en71 W) (ts := [4]) rfl le ?_
  refine Awp.seq ?_
  refine Awp.region tabS_ok ?_
  refine AOps.sq (x := (AV.i .i64 (0 : Int))) kr le ?_
  refine AOps.done ?_
  refine Awp.seq ?_
  refine Awp.seq ?_
  refine Awp.region tabS_ok ?_
  refine AOps.sq (x := ((slA 1 AV.s) s')) kr le ?_
  refine AOps.sq (x := (AV.i .i64 ((s'.length : Nat) : Int))) (g_len (k := 1) (nl := false) (e := 9) (A := AV.s) (xs := s') kr kr) le ?_
  refine AOps.sq (x := (AV.i .i64 (0 : Int))) kr le ?_
  refine AOps.done ?_
  refine Awp.block ?_
  refine Awp.lim 0 (x := ((slA 1 AV.s) s')) kr fun hlm1 => ?_
  have hB1 : s'.length ≤ 281474976710656 := lim_slA hlm1
  obtain ⟨R1, hR1⟩ : ∃ R, m_slices_Index_string_string_L1 v s' 0 = R := ⟨_, rfl⟩
  refine Awp.loopT (fun (v8 : Nat) => [(0, ((slA 1 AV.s) s')), (1, (AV.s v)), (7, (AV.i .i64 ((s'.length : Nat) : Int))), (8, (AV.i .i64 ((v8 : Nat) : Int)))]) (fun (v8 : Nat) => ⟨0, []⟩) (fun (v8 : Nat) => v8 ≤ s'.length ∧ m_slices_Index_string_string_L1 v (s'.drop v8) v8 = R1) (fun (v8 : Nat) => s'.length - v8) 0 ?_ ?_ ?_
  · exact ⟨[], ⟨by decide, rfl, FitsObjs.nil, (EntE.cons (Ent.c kr kr) (EntE.cons (Ent.c kr kr) (EntE.cons (Ent.c kr kr) (EntE.cons (Ent.c kr kr) EntE.nil))))⟩, keep0⟩
  · exact ⟨od, hR1⟩
  · rintro v8 ⟨hi1, hE1⟩
    try dsimp only
    refine Awp.seq ?_
    refine Awp.region tabS_ok ?_
    refine AOps.sq (x := (AV.b (decide (((v8 : Nat) : Int) < ((s'.length : Nat) : Int))))) kr le ?_
    refine AOps.done ?_
    refine Awp.seq ?_
    rcases Nat.lt_or_ge v8 s'.length with hl1 | hl1
    · have hc1 : decide (((v8 : Nat) : Int) < ((s'.length : Nat) : Int)) = true := decide_eq_true (by omega)
      refine Awp.cond (t := true) (by rw [← hc1] <;> kernel_rfl) (Awp.skip ?_)
      obtain ⟨x1, hx1⟩ : ∃ x, s'[v8]? = some x := ⟨_, List.getElem?_eq_getElem hl1⟩
      rw [drop_at hx1, m_slices_Index_string_string_L1.eq_2] at hE1
      refine Awp.seq ?_
      refine Awp.block ?_
      refine Awp.seq ?_
      refine Awp.region tabS_ok ?_
      refine AOps.sq (x := (AV.i .i64 ((v8 : Nat) : Int))) kr le ?_
      refine AOps.sq (x := (AV.i .i64 ((v8 : Nat) : Int))) kr le ?_
      refine AOps.done ?_
      refine Awp.seq ?_
      refine Awp.region tabS_ok ?_
      refine AOps.sq (x := (AV.s v)) kr le ?_
      refine AOps.sq (x := ((slA 1 AV.s) s')) kr le ?_
      refine AOps.sq (x := (AV.i .i64 ((v8 : Nat) : Int))) kr le ?_
      refine AOps.sq (x := (AV.pt (AV.s x1).cells)) (g_idx (k := 1) (nl := false) (e := 9) (kk := .i64) (A := AV.s) (xs := s') (i := v8) kr kr kr ⟨by kernel_rfl, by decide⟩ hx1) le ?_
      refine AOps.sq (x := (AV.s x1)) kr le ?_
      refine AOps.sq (x := (AV.b (decide (v = x1)))) kr le ?_
      refine AOps.done ?_
      cases c_1 : decide (v = x1)
      · have k_1 : ¬ (v = x1) := of_decide_eq_false c_1
        refine Awp.cond (t := false) kr ?_
        refine Awp.skip ?_
        refine Awp.region tabS_ok ?_
        refine AOps.sq (x := (AV.i .i64 ((v8 + 1 : Nat) : Int))) (g_addN (i := v8) (m := 1) kr kr sd) le ?_
        refine AOps.sq (x := (AV.i .i64 ((v8 + 1 : Nat) : Int))) kr le ?_
        refine AOps.done ?_
        try simp only [c_1, sbt] at hE1
        refine ⟨v8 + 1, od, ⟨od, hE1⟩, ?_⟩
        exact ⟨[], ⟨by decide, rfl, FitsObjs.nil, (EntE.cons (Ent.c kr kr) (EntE.cons (Ent.c kr kr) (EntE.cons (Ent.c kr kr) (EntE.cons (Ent.c kr kr) EntE.nil))))⟩, keep0⟩
      · have k_1 : (v = x1) := of_decide_eq_true c_1
        refine Awp.cond (t := true) kr ?_
        refine Awp.seq ?_
        refine Awp.region tabS_ok ?_
        refine AOps.sq (x := (AV.i .i64 ((v8 : Nat) : Int))) kr le ?_
        refine AOps.sq (x := (AV.i .i64 ((v8 : Nat) : Int))) kr le ?_
        refine AOps.done ?_
        refine Awp.ret ?_
        try simp only [c_1, sbt] at hE1
        subst hE1
        have hM : m_slices_Index_string_string s' v = ((v8 : Nat) : Int) := by simp only [m_slices_Index_string_string, hR1, sbt]
        refine ⟨Or.inr rfl, ?_⟩
        rw [hM]
        exact Ent.cast (x' := (AV.i .i64 ((v8 : Nat) : Int))) (y' := (AV.i .i64 ((v8 : Nat) : Int))) kr kr (Ent.c kr kr)
    · have hc1 : decide (((v8 : Nat) : Int) < ((s'.length : Nat) : Int)) = false := decide_eq_false (by omega)
      refine Awp.cond (t := false) (by rw [← hc1] <;> kernel_rfl) (Awp.exit ?_)
      rw [List.drop_eq_nil_of_le (hl1), m_slices_Index_string_string_L1.eq_1] at hE1
      subst hE1
      refine Awp.seq ?_
      refine Awp.region tabS_ok ?_
      refine AOps.sq (x := (AV.i .i64 (-1 : Int))) kr le ?_
      refine AOps.done ?_
      refine Awp.ret ?_
      have hM : m_slices_Index_string_string s' v = (-1 : Int) := by simp only [m_slices_Index_string_string, hR1, sbt]
      refine ⟨Or.inr rfl, ?_⟩
      rw [hM]
      exact Ent.cast (x' := (AV.i .i64 (-1 : Int))) (y' := (AV.i .i64 (-1 : Int))) kr kr (Ent.c kr kr)

theorem w_slices_Contains_string_string (W : World) (s' : List ByteArray) (v : ByteArray) : PureAt Go.Proofs.Tryd.prog W 55 [((slA 1 AV.s) s'), (AV.s v)] (AV.b (m_slices_Contains_string_string s' v)) [] := by
  refine pure_of_bodyC (fn := Go.Proofs.Tryd.f55) Go.Proofs.Tryd.func55 rfl (en55 W) (ts := [4]) rfl le ?_
  refine Awp.seq ?_
  refine Awp.region tabS_ok ?_
  refine AOps.sq (x := (AV.b false)) kr le ?_
  refine AOps.done ?_
  refine Awp.seq ?_
  refine Awp.region tabS_ok ?_
  refine AOps.sq (x := ((slA 1 AV.s) s')) kr le ?_
  refine AOps.sq (x := (AV.s v)) kr le ?_
  refine AOps.sc0 (vs := [((slA 1 AV.s) s'), (AV.s v)]) (r0 := (AV.i .i64 (m_slices_Index_string_string s' v))) kr kr (w_slices_Index_string_string W s' v) kr le ?_
  refine AOps.sq (x := (AV.b (decide ((0 : Int) ≤ (m_slices_Index_string_string s' v))))) kr le ?_
  refine AOps.sq (x := (AV.b (decide ((0 : Int) ≤ (m_slices_Index_string_string s' v))))) kr le ?_
  refine AOps.done ?_
  refine Awp.ret ?_
  have hM : m_slices_Contains_string_string s' v = decide ((0 : Int) ≤ (m_slices_Index_string_string s' v)) := by simp only [m_slices_Contains_string_string, sbt]
  refine ⟨Or.inr rfl, ?_⟩
  rw [hM]
  exact Ent.cast (x' := (AV.b (decide ((0 : Int) ≤ (m_slices_Index_string_string s' v))))) (y' := (AV.b (decide ((0 : Int) ≤ (m_slices_Index_string_string s' v))))) kr kr (Ent.c kr kr)

theorem w_slices_IndexFunc_api_Edge_api_Edge (W : World) (s' : List DEdge) (f_f : FuncId) (c_f : List AV) (f : DEdge → Bool) (hcl_f : closedL c_f = true) (hp_f : ∀ (z0 : DEdge), PureAt Go.Proofs.Tryd.prog W f_f ((DEdge.av z0) :: c_f) (AV.b (f z0)) []) : PureAt Go.Proofs.Tryd.prog W 53 [((slA 7 DEdge.av) s'), (AV.fn f_f c_f)] (AV.i .i64 (m_slices_IndexFunc_api_Edge_api_Edge s' f)) [] := by
  refine pure_of_bodyC (fn := Go.Proofs.Tryd.f53) Go.Proofs.Tryd.func53 rfl (en53 W) (ts := [4]) rfl le ?_
  refine Awp.seq ?_
  refine Awp.region tabS_ok ?_
  refine AOps.sq (x := (AV.i .i64 (0 : Int))) kr le ?_
  refine AOps.done ?_
  refine Awp.seq ?_
  refine Awp.seq ?_
  refine Awp.region tabS_ok ?_
  refine AOps.sq (x := ((slA 7 DEdge.av) s')) kr le ?_
  refine AOps.sq (x := (AV.i .i64 ((s'.length : Nat) : Int))) (g_len (k := 7) (nl := false) (e := 31) (A := DEdge.av) (xs := s') kr kr) le ?_
  refine AOps.sq (x := (AV.i .i64 (0 : Int))) kr le ?_
  refine AOps.done ?_
  refine Awp.block ?_
  refine Awp.lim 0 (x := ((slA 7 DEdge.av) s')) kr fun hlm1 => ?_
  have hB1 : s'.length ≤ 281474976710656 := lim_slA hlm1
  obtain ⟨R1, hR1⟩ : ∃ R, m_slices_IndexFunc_api_Edge_api_Edge_L1 f s' 0 = R := ⟨_, rfl⟩
  refine Awp.loopT (fun (v8 : Nat) => [(0, ((slA 7 DEdge.av) s')), (1, (AV.fn f_f c_f)), (7, (AV.i .i64 ((s'.length : Nat) : Int))), (8, (AV.i .i64 ((v8 : Nat) : Int)))]) (fun (v8 : Nat) => ⟨0, []⟩) (fun (v8 : Nat) => v8 ≤ s'.length ∧ m_slices_IndexFunc_api_Edge_api_Edge_L1 f (s'.drop v8) v8 = R1) (fun (v8 : Nat) => s'.length - v8) 0 ?_ ?_ ?_
  · exact ⟨[], ⟨by decide, rfl, FitsObjs.nil, (EntE.cons (Ent.c kr kr) (EntE.cons (Ent.c kr hcl_f) (EntE.cons (Ent.c kr kr) (EntE.cons (Ent.c kr kr) EntE.nil))))⟩, keep0⟩
  · exact ⟨od, hR1⟩
  · rintro v8 ⟨hi1, hE1⟩
    try dsimp only
    refine Awp.seq ?_
    refine Awp.region tabS_ok ?_
    refine AOps.sq (x := (AV.b (decide (((v8 : Nat) : Int) < ((s'.length : Nat) : Int))))) kr le ?_
    refine AOps.done ?_
    refine Awp.seq ?_
    rcases Nat.lt_or_ge v8 s'.length with hl1 | hl1
    · have hc1 : decide (((v8 : Nat) : Int) < ((s'.length : Nat) : Int)) = true := decide_eq_true (by omega)
      refine Awp.cond (t := true) (by rw [← hc1] <;> kernel_rfl) (Awp.skip ?_)
      obtain ⟨x1, hx1⟩ : ∃ x, s'[v8]? = some x := ⟨_, List.getElem?_eq_getElem hl1⟩
      rw [drop_at hx1, m_slices_IndexFunc_api_Edge_api_Edge_L1.eq_2] at hE1
      refine Awp.seq ?_
      refine Awp.block ?_
      refine Awp.seq ?_
      refine Awp.region tabS_ok ?_
      refine AOps.sq (x := (AV.i .i64 ((v8 : Nat) : Int))) kr le ?_
      refine AOps.sq (x := (AV.i .i64 ((v8 : Nat) : Int))) kr le ?_
      refine AOps.done ?_
      refine Awp.seq ?_
      refine Awp.region tabS_ok ?_
      refine AOps.sq (x := (AV.fn f_f c_f)) kr le ?_
      refine AOps.sq (x := ((slA 7 DEdge.av) s')) kr le ?_
      refine AOps.sq (x := (AV.i .i64 ((v8 : Nat) : Int))) kr le ?_
      refine AOps.sq (x := (AV.pt (DEdge.av x1).cells)) (g_idx (k := 7) (nl := false) (e := 31) (kk := .i64) (A := DEdge.av) (xs := s') (i := v8) kr kr kr ⟨by kernel_rfl, by decide⟩ hx1) le ?_
      refine AOps.sq (x := (DEdge.av x1)) kr le ?_
      refine AOps.sc0 (vs := ((DEdge.av x1) :: c_f)) (r0 := (AV.b (f x1))) kr (by simp only [closedL, Bool.and_eq_true]; exact ⟨by kernel_rfl, hcl_f⟩) (hp_f x1) kr le ?_
      refine AOps.done ?_
      cases c_1 : (f x1)
      · refine Awp.cond (t := false) kr ?_
        refine Awp.skip ?_
        refine Awp.region tabS_ok ?_
        refine AOps.sq (x := (AV.i .i64 ((v8 + 1 : Nat) : Int))) (g_addN (i := v8) (m := 1) kr kr sd) le ?_
        refine AOps.sq (x := (AV.i .i64 ((v8 + 1 : Nat) : Int))) kr le ?_
        refine AOps.done ?_
        try simp only [c_1, sbt] at hE1
        refine ⟨v8 + 1, od, ⟨od, hE1⟩, ?_⟩
        exact ⟨[], ⟨by decide, rfl, FitsObjs.nil, (EntE.cons (Ent.c kr kr) (EntE.cons (Ent.c kr hcl_f) (EntE.cons (Ent.c kr kr) (EntE.cons (Ent.c kr kr) EntE.nil))))⟩, keep0⟩
      · refine Awp.cond (t := true) kr ?_
        refine Awp.seq ?_
        refine Awp.region tabS_ok ?_
        refine AOps.sq (x := (AV.i .i64 ((v8 : Nat) : Int))) kr le ?_
        refine AOps.sq (x := (AV.i .i64 ((v8 : Nat) : Int))) kr le ?_
        refine AOps.done ?_
        refine Awp.ret ?_
        try simp only [c_1, sbt] at hE1
        subst hE1
        have hM : m_slices_IndexFunc_api_Edge_api_Edge s' f = ((v8 : Nat) : Int) := by simp only [m_slices_IndexFunc_api_Edge_api_Edge, hR1, sbt]
        refine ⟨Or.inr rfl, ?_⟩
        rw [hM]
        exact Ent.cast (x' := (AV.i .i64 ((v8 : Nat) : Int))) (y' := (AV.i .i64 ((v8 : Nat) : Int))) kr kr (Ent.c kr kr)
    · have hc1 : decide (((v8 : Nat) : Int) < ((s'.length : Nat) : Int)) = false := decide_eq_false (by omega)
      refine Awp.cond (t := false) (by rw [← hc1] <;> kernel_rfl) (Awp.exit ?_)
      rw [List.drop_eq_nil_of_le (hl1), m_slices_IndexFunc_api_Edge_api_Edge_L1.eq_1] at hE1
      subst hE1
      refine Awp.seq ?_
      refine Awp.region tabS_ok ?_
      refine AOps.sq (x := (AV.i .i64 (-1 : Int))) kr le ?_
      refine AOps.done ?_
      refine Awp.ret ?_
      have hM : m_slices_IndexFunc_api_Edge_api_Edge s' f = (-1 : Int) := by simp only [m_slices_IndexFunc_api_Edge_api_Edge, hR1, sbt]
      refine ⟨Or.inr rfl, ?_⟩
      rw [hM]
      exact Ent.cast (x' := (AV.i .i64 (-1 : Int))) (y' := (AV.i .i64 (-1 : Int))) kr kr (Ent.c kr kr)

theorem w_graph_Makes_1 (W : World) (e : DEdge) (name : ByteArray) : PureAt Go.Proofs.Tryd.prog W 54 [(DEdge.av e), (AV.pt (AV.s name).cells)] (AV.b (m_graph_Makes_1 e name)) [] := by
  refine pure_of_bodyC (fn := Go.Proofs.Tryd.f54) Go.Proofs.Tryd.func54 rfl (en54 W) (ts := [3]) rfl le ?_
  refine Awp.seq ?_
  refine Awp.region tabS_ok ?_
  refine AOps.sn (x := (AV.loc 0 0 0)) (h' := ⟨1, [(0, some ⟨31, 7, [(DEdge.av e)]⟩)]⟩) kr le ?_
  refine AOps.sq (x := (AV.b false)) kr le ?_
  refine AOps.done ?_
  refine Awp.seq ?_
  refine Awp.region tabS_ok ?_
  refine AOps.sq (x := (AV.loc 0 0 0)) kr le ?_
  refine AOps.sq (x := ((slA 1 AV.s) e.outs)) kr le ?_
  refine AOps.sq (x := (AV.s name)) kr le ?_
  refine AOps.sc0 (vs := [((slA 1 AV.s) e.outs), (AV.s name)]) (r0 := (AV.b (m_slices_Contains_string_string e.outs name))) kr kr (w_slices_Contains_string_string W e.outs name) kr le ?_
  refine AOps.sq (x := (AV.b (m_slices_Contains_string_string e.outs name))) kr le ?_
  refine AOps.done ?_
  refine Awp.ret ?_
  have hM : m_graph_Makes_1 e name = (m_slices_Contains_string_string e.outs name) := by simp only [m_graph_Makes_1, sbt]
  refine ⟨Or.inr rfl, ?_⟩
  rw [hM]
  exact Ent.cast (x' := (AV.b (m_slices_Contains_string_string e.outs name))) (y' := (AV.b (m_slices_Contains_string_string e.outs name))) kr kr (Ent.c kr kr)

theorem w_graph_Makes (W : World) (g : DGraph) (s' : ByteArray) : PureAt Go.Proofs.Tryd.prog W 35 [(AV.pt (DGraph.av g).cells), (AV.s s')] (AV.i .i64 (m_graph_Makes g s')) [] := by
  refine pure_of_bodyC (fn := Go.Proofs.Tryd.f35) Go.Proofs.Tryd.func35 rfl (en35 W) (ts := [4]) rfl le ?_
  refine Awp.seq ?_
  refine Awp.region tabS_ok ?_
  refine AOps.sn (x := (AV.loc 0 0 0)) (h' := ⟨1, [(0, some ⟨9, 1, [(AV.s s')]⟩)]⟩) kr le ?_
  refine AOps.sq (x := (AV.i .i64 (0 : Int))) kr le ?_
  refine AOps.done ?_
  refine Awp.seq ?_
  refine Awp.region tabS_ok ?_
  refine AOps.sq (x := (AV.pt (DGraph.av g).cells)) kr le ?_
  refine AOps.sq (x := (AV.pt (DGraph.av g).cells)) kr le ?_
  refine AOps.sq (x := (AV.pt ((DGraph.av g).cells.drop 0))) kr le ?_
  refine AOps.sq (x := ((slA 7 DEdge.av) g.edges)) kr le ?_
  refine AOps.sq (x := (AV.fn 54 [(AV.loc 0 0 0)])) kr le ?_
  refine AOps.sfw (vs := [((slA 7 DEdge.av) g.edges), (AV.fn 54 [(AV.loc 0 0 0)])]) (ss := [((slA 7 DEdge.av) g.edges), (AV.fn 54 [(AV.pt (AV.s s').cells)])]) (r0 := (AV.i .i64 (m_slices_IndexFunc_api_Edge_api_Edge g.edges (fun z0 => m_graph_Makes_1 z0 s')))) kr (show SnapW _ _ _ from ⟨(SnapW.e kr), ⟨(EntK.w (EntK.cast (x' := (AV.fn 54 [(AV.loc 0 0 0)])) kr kr (EntK.fn (EntKs.cons (EntK.loc1 (id := 0) (j := 0) (ob := ⟨9, 1, [(AV.s s')]⟩) (x := (AV.s s')) rfl rfl rfl rfl (EntK.cr (x := (AV.s s')) kr)) EntKs.nil)))), trivial⟩⟩) (w_slices_IndexFunc_api_Edge_api_Edge W g.edges 54 [(AV.pt (AV.s s').cells)] (fun z0 => m_graph_Makes_1 z0 s') kr (fun z0 => (w_graph_Makes_1 W z0 s'))) rfl kr le ?_
  refine AOps.sq (x := (AV.i .i64 (m_slices_IndexFunc_api_Edge_api_Edge g.edges (fun z0 => m_graph_Makes_1 z0 s')))) kr le ?_
  refine AOps.done ?_
  refine Awp.ret ?_
  have hM : m_graph_Makes g s' = (m_slices_IndexFunc_api_Edge_api_Edge g.edges (fun z0 => m_graph_Makes_1 z0 s')) := by simp only [m_graph_Makes, sbt]
  refine ⟨Or.inr rfl, ?_⟩
  rw [hM]
  exact Ent.cast (x' := (AV.i .i64 (m_slices_IndexFunc_api_Edge_api_Edge g.edges (fun z0 => m_graph_Makes_1 z0 s')))) (y' := (AV.i .i64 (m_slices_IndexFunc_api_Edge_api_Edge g.edges (fun z0 => m_graph_Makes_1 z0 s')))) kr kr (Ent.c kr kr)

theorem w_slices_IndexFunc_int_int (W : World) (s' : List Int) (f_f : FuncId) (c_f : List AV) (f : Int → Bool) (hcl_f : closedL c_f = true) (hp_f : ∀ (z0 : Int), PureAt Go.Proofs.Tryd.prog W f_f ((AV.i .i64 z0) :: c_f) (AV.b (f z0)) []) : PureAt Go.Proofs.Tryd.prog W 68 [((slA 1 (AV.i .i64)) s'), (AV.fn f_f c_f)] (AV.i .i64 (m_slices_IndexFunc_int_int s' f)) [] := by
  refine pure_of_bodyC (fn := Go.Proofs.Tryd.f68) Go.Proofs.Tryd.func68 rfl (en68 W) (ts := [4]) rfl le ?_
  refine Awp.seq ?_
  refine Awp.region tabS_ok ?_
  refine AOps.sq (x := (AV.i .i64 (0 : Int))) kr le ?_
  refine AOps.done ?_
  refine Awp.seq ?_
  refine Awp.seq ?_
  refine Awp.region tabS_ok ?_
  refine AOps.sq (x := ((slA 1 (AV.i .i64)) s')) kr le ?_
  refine AOps.sq (x := (AV.i .i64 ((s'.length : Nat) : Int))) (g_len (k := 1) (nl := false) (e := 3) (A := (AV.i .i64)) (xs := s') kr kr) le ?_
  refine AOps.sq (x := (AV.i .i64 (0 : Int))) kr le ?_
  refine AOps.done ?_
  refine Awp.block ?_
  refine Awp.lim 0 (x := ((slA 1 (AV.i .i64)) s')) kr fun hlm1 => ?_
  have hB1 : s'.length ≤ 281474976710656 := lim_slA hlm1
  obtain ⟨R1, hR1⟩ : ∃ R, m_slices_IndexFunc_int_int_L1 f s' 0 = R := ⟨_, rfl⟩
  refine Awp.loopT (fun (v8 : Nat) => [(0, ((slA 1 (AV.i .i64)) s')), (1, (AV.fn f_f c_f)), (7, (AV.i .i64 ((s'.length : Nat) : Int))), (8, (AV.i .i64 ((v8 : Nat) : Int)))]) (fun (v8 : Nat) => ⟨0, []⟩) (fun (v8 : Nat) => v8 ≤ s'.length ∧ m_slices_IndexFunc_int_int_L1 f (s'.drop v8) v8 = R1) (fun (v8 : Nat) => s'.length - v8) 0 ?_ ?_ ?_
  · exact ⟨[], ⟨by decide, rfl, FitsObjs.nil, (EntE.cons (Ent.c kr kr) (EntE.cons (Ent.c kr hcl_f) (EntE.cons (Ent.c kr kr) (EntE.cons (Ent.c kr kr) EntE.nil))))⟩, keep0⟩
  · exact ⟨od, hR1⟩
  · rintro v8 ⟨hi1, hE1⟩
    try dsimp only
    refine Awp.seq ?_
    refine Awp.region tabS_ok ?_
    refine AOps.sq (x := (AV.b (decide (((v8 : Nat) : Int) < ((s'.length : Nat) : Int))))) kr le ?_
    refine AOps.done ?_
    refine Awp.seq ?_
    rcases Nat.lt_or_ge v8 s'.length with hl1 | hl1
    · have hc1 : decide (((v8 : Nat) : Int) < ((s'.length : Nat) : Int)) = true := decide_eq_true (by omega)
      refine Awp.cond (t := true) (by rw [← hc1] <;> kernel_rfl) (Awp.skip ?_)
      obtain ⟨x1, hx1⟩ : ∃ x, s'[v8]? = some x := ⟨_, List.getElem?_eq_getElem hl1⟩
      rw [drop_at hx1, m_slices_IndexFunc_int_int_L1.eq_2] at hE1
      refine Awp.seq ?_
      refine Awp.block ?_
      refine Awp.seq ?_
      refine Awp.region tabS_ok ?_
      refine AOps.sq (x := (AV.i .i64 ((v8 : Nat) : Int))) kr le ?_
      refine AOps.sq (x := (AV.i .i64 ((v8 : Nat) : Int))) kr le ?_
      refine AOps.done ?_
      refine Awp.seq ?_
      refine Awp.region tabS_ok ?_
      refine AOps.sq (x := (AV.fn f_f c_f)) kr le ?_
      refine AOps.sq (x := ((slA 1 (AV.i .i64)) s')) kr le ?_
      refine AOps.sq (x := (AV.i .i64 ((v8 : Nat) : Int))) kr le ?_
      refine AOps.sq (x := (AV.pt ((AV.i .i64) x1).cells)) (g_idx (k := 1) (nl := false) (e := 3) (kk := .i64) (A := (AV.i .i64)) (xs := s') (i := v8) kr kr kr ⟨by kernel_rfl, by decide⟩ hx1) le ?_
      refine AOps.sq (x := (AV.i .i64 x1)) kr le ?_
      refine AOps.sc0 (vs := ((AV.i .i64 x1) :: c_f)) (r0 := (AV.b (f x1))) kr (by simp only [closedL, Bool.and_eq_true]; exact ⟨by kernel_rfl, hcl_f⟩) (hp_f x1) kr le ?_
      refine AOps.done ?_
      cases c_1 : (f x1)
      · refine Awp.cond (t := false) kr ?_
        refine Awp.skip ?_
        refine Awp.region tabS_ok ?_
        refine AOps.sq (x := (AV.i .i64 ((v8 + 1 : Nat) : Int))) (g_addN (i := v8) (m := 1) kr kr sd) le ?_
        refine AOps.sq (x := (AV.i .i64 ((v8 + 1 : Nat) : Int))) kr le ?_
        refine AOps.done ?_
        try simp only [c_1, sbt] at hE1
        refine ⟨v8 + 1, od, ⟨od, hE1⟩, ?_⟩
        exact ⟨[], ⟨by decide, rfl, FitsObjs.nil, (EntE.cons (Ent.c kr kr) (EntE.cons (Ent.c kr hcl_f) (EntE.cons (Ent.c kr kr) (EntE.cons (Ent.c kr kr) EntE.nil))))⟩, keep0⟩
      · refine Awp.cond (t := true) kr ?_
        refine Awp.seq ?_
        refine Awp.region tabS_ok ?_
        refine AOps.sq (x := (AV.i .i64 ((v8 : Nat) : Int))) kr le ?_
        refine AOps.sq (x := (AV.i .i64 ((v8 : Nat) : Int))) kr le ?_
        refine AOps.done ?_
        refine Awp.ret ?_
        try simp only [c_1, sbt] at hE1
        subst hE1
        have hM : m_slices_IndexFunc_int_int s' f = ((v8 : Nat) : Int) := by simp only [m_slices_IndexFunc_int_int, hR1, sbt]
        refine ⟨Or.inr rfl, ?_⟩
        rw [hM]
        exact Ent.cast (x' := (AV.i .i64 ((v8 : Nat) : Int))) (y' := (AV.i .i64 ((v8 : Nat) : Int))) kr kr (Ent.c kr kr)
    · have hc1 : decide (((v8 : Nat) : Int) < ((s'.length : Nat) : Int)) = false := decide_eq_false (by omega)
      refine Awp.cond (t := false) (by rw [← hc1] <;> kernel_rfl) (Awp.exit ?_)
      rw [List.drop_eq_nil_of_le (hl1), m_slices_IndexFunc_int_int_L1.eq_1] at hE1
      subst hE1
      refine Awp.seq ?_
      refine Awp.region tabS_ok ?_
      refine AOps.sq (x := (AV.i .i64 (-1 : Int))) kr le ?_
      refine AOps.done ?_
      refine Awp.ret ?_
      have hM : m_slices_IndexFunc_int_int s' f = (-1 : Int) := by simp only [m_slices_IndexFunc_int_int, hR1, sbt]
      refine ⟨Or.inr rfl, ?_⟩
      rw [hM]
      exact Ent.cast (x' := (AV.i .i64 (-1 : Int))) (y' := (AV.i .i64 (-1 : Int))) kr kr (Ent.c kr kr)

theorem w_slices_ContainsFunc_int_int (W : World) (s' : List Int) (f_f : FuncId) (c_f : List AV) (f : Int → Bool) (hcl_f : closedL c_f = true) (hp_f : ∀ (z0 : Int), PureAt Go.Proofs.Tryd.prog W f_f ((AV.i .i64 z0) :: c_f) (AV.b (f z0)) []) : PureAt Go.Proofs.Tryd.prog W 51 [((slA 1 (AV.i .i64)) s'), (AV.fn f_f c_f)] (AV.b (m_slices_ContainsFunc_int_int s' f)) [] := by
  refine pure_of_bodyC (fn := Go.Proofs.Tryd.f51) Go.Proofs.Tryd.func51 rfl (en51 W) (ts := [4]) rfl le ?_
  refine Awp.seq ?_
  refine Awp.region tabS_ok ?_
  refine AOps.sq (x := (AV.b false)) kr le ?_
  refine AOps.done ?_
  refine Awp.seq ?_
  refine Awp.region tabS_ok ?_
  refine AOps.sq (x := ((slA 1 (AV.i .i64)) s')) kr le ?_
  refine AOps.sq (x := (AV.fn f_f c_f)) kr le ?_
  refine AOps.sc0 (vs := [((slA 1 (AV.i .i64)) s'), (AV.fn f_f c_f)]) (r0 := (AV.i .i64 (m_slices_IndexFunc_int_int s' f))) kr (by simp only [closedL, Bool.and_eq_true]; exact ⟨by kernel_rfl, hcl_f, trivial⟩) (w_slices_IndexFunc_int_int W s' f_f c_f f hcl_f hp_f) kr le ?_
  refine AOps.sq (x := (AV.b (decide ((0 : Int) ≤ (m_slices_IndexFunc_int_int s' f))))) kr le ?_
  refine AOps.sq (x := (AV.b (decide ((0 : Int) ≤ (m_slices_IndexFunc_int_int s' f))))) kr le ?_
  refine AOps.done ?_
  refine Awp.ret ?_
  have hM : m_slices_ContainsFunc_int_int s' f = decide ((0 : Int) ≤ (m_slices_IndexFunc_int_int s' f)) := by simp only [m_slices_ContainsFunc_int_int, sbt]
  refine ⟨Or.inr rfl, ?_⟩
  rw [hM]
  exact Ent.cast (x' := (AV.b (decide ((0 : Int) ≤ (m_slices_IndexFunc_int_int s' f))))) (y' := (AV.b (decide ((0 : Int) ≤ (m_slices_IndexFunc_int_int s' f))))) kr kr (Ent.c kr kr)

theorem w_grow0 (W : World) : PureAt Go.Proofs.Tryd.prog W 89 [(AV.sl 1 true []), (AV.i .i64 (0 : Int))] (AV.sl 1 true []) [] := by
  refine pure_of_bodyC (fn := Go.Proofs.Tryd.f89) Go.Proofs.Tryd.func89 rfl (en89 W) (ts := [4]) rfl le ?_
  refine Awp.seq ?_
  refine Awp.region tabS_ok ?_
  refine AOps.sq (x := (AV.sl 1 true [])) kr le ?_
  refine AOps.done ?_
  refine Awp.seq ?_
  refine Awp.seq ?_
  refine Awp.region tabS_ok ?_
  refine AOps.sq (x := (AV.i .i64 (0 : Int))) kr le ?_
  refine AOps.sq (x := (AV.b false)) kr le ?_
  refine AOps.done ?_
  refine Awp.cond (t := false) kr ?_
  refine Awp.skip ?_
  refine Awp.seq ?_
  refine Awp.seq ?_
  refine Awp.region tabS_ok ?_
  refine AOps.sq (x := (AV.i .i64 (0 : Int))) kr le ?_
  refine AOps.sq (x := (AV.sl 1 true [])) kr le ?_
  refine AOps.sq (x := (AV.i .i64 (0 : Int))) kr le ?_
  refine AOps.sq (x := (AV.sl 1 true [])) kr le ?_
  refine AOps.sq (x := (AV.i .i64 (0 : Int))) kr le ?_
  refine AOps.sq (x := (AV.i .i64 (0 : Int))) kr le ?_
  refine AOps.sq (x := (AV.i .i64 (0 : Int))) kr le ?_
  refine AOps.sq (x := (AV.i .i64 (0 : Int))) kr le ?_
  refine AOps.done ?_
  refine Awp.seq ?_
  refine Awp.region tabS_ok ?_
  refine AOps.sq (x := (AV.i .i64 (0 : Int))) kr le ?_
  refine AOps.sq (x := (AV.b false)) kr le ?_
  refine AOps.done ?_
  refine Awp.cond (t := false) kr ?_
  refine Awp.skip ?_
  refine Awp.seq ?_
  refine Awp.region tabS_ok ?_
  refine AOps.sq (x := (AV.sl 1 true [])) kr le ?_
  refine AOps.sq (x := (AV.sl 1 true [])) kr le ?_
  refine AOps.done ?_
  refine Awp.ret ?_
  exact ⟨Or.inr rfl, Ent.c kr kr⟩

theorem wo_grow_string (W : World) (n' : Nat) (hn : 0 < n') (hz : n' ≤ 1048576) : PureAt Go.Proofs.Tryd.prog W 89 [(AV.sl 1 true []), (AV.i .i64 ((n' : Nat) : Int))] (.own 0 0 0) [⟨9, 1, (List.replicate n' (⟨#[]⟩ : ByteArray)).map AV.s⟩] := by
  refine pure_of_bodyR (fn := Go.Proofs.Tryd.f89) Go.Proofs.Tryd.func89 rfl (en89 W) (ts := [4]) rfl le (fun _ => rfl) ?_
  refine Awp.seq ?_
  refine Awp.region tabS_ok ?_
  refine AOps.sq (x := (AV.sl 1 true [])) kr le ?_
  refine AOps.done ?_
  refine Awp.seq ?_
  refine Awp.seq ?_
  refine Awp.region tabS_ok ?_
  refine AOps.sq (x := (AV.i .i64 ((n' : Nat) : Int))) kr le ?_
  refine AOps.sq (x := (AV.b (decide (((n' : Nat) : Int) < (0 : Int))))) kr le ?_
  refine AOps.done ?_
  cases c_1 : decide (((n' : Nat) : Int) < (0 : Int))
  · have k_1 : ¬ (((n' : Nat) : Int) < (0 : Int)) := of_decide_eq_false c_1
    refine Awp.cond (t := false) kr ?_
    refine Awp.skip ?_
    refine Awp.seq ?_
    refine Awp.seq ?_
    refine Awp.region tabS_ok ?_
    refine AOps.sq (x := (AV.i .i64 ((n' : Nat) : Int))) kr le ?_
    refine AOps.sq (x := (AV.sl 1 true [])) kr le ?_
    refine AOps.sq (x := (AV.i .i64 (0 : Int))) kr le ?_
    refine AOps.sq (x := (AV.sl 1 true [])) kr le ?_
    refine AOps.sq (x := (AV.i .i64 (0 : Int))) kr le ?_
    refine AOps.sq (x := (AV.i .i64 (0 : Int))) kr le ?_
    refine AOps.sq (x := (AV.i .i64 ((n' : Nat) : Int))) (g_subN (i := n') (m := 0) kr kr sd sd) le ?_
    refine AOps.sq (x := (AV.i .i64 ((n' : Nat) : Int))) kr le ?_
    refine AOps.done ?_
    refine Awp.seq ?_
    refine Awp.region tabS_ok ?_
    refine AOps.sq (x := (AV.i .i64 ((n' : Nat) : Int))) kr le ?_
    refine AOps.sq (x := (AV.b (decide ((0 : Int) < ((n' : Nat) : Int))))) kr le ?_
    refine AOps.done ?_
    cases c_2 : decide ((0 : Int) < ((n' : Nat) : Int))
    · have k_2 : ¬ ((0 : Int) < ((n' : Nat) : Int)) := of_decide_eq_false c_2
      refine Awp.cond (t := false) kr ?_
      refine Awp.skip ?_
      refine Awp.seq ?_
      refine Awp.region tabS_ok ?_
      refine AOps.sq (x := (AV.sl 1 true [])) kr le ?_
      refine AOps.sq (x := (AV.sl 1 true [])) kr le ?_
      refine AOps.done ?_
      refine Awp.ret ?_
      have hM : m_grow_string n' = [] := by simp only [m_grow_string, c_1, c_2, sbt]
      exfalso
      omega
    · have k_2 : ((0 : Int) < ((n' : Nat) : Int)) := of_decide_eq_true c_2
      refine Awp.cond (t := true) kr ?_
      refine Awp.region tabS_ok ?_
      refine AOps.sq (x := (AV.sl 1 true [])) kr le ?_
      refine AOps.sq (x := (AV.sl 1 true [])) kr le ?_
      refine AOps.sq (x := (AV.i .i64 (0 : Int))) kr le ?_
      refine AOps.sq (x := (AV.sl 1 true [])) kr le ?_
      refine AOps.sq (x := (AV.i .i64 ((n' : Nat) : Int))) kr le ?_
      refine AOps.se (x := (AV.own 0 0 n')) (h' := ⟨1, [(0, some ⟨9, 1, (List.replicate n' (⟨#[]⟩ : ByteArray)).map AV.s⟩)]⟩) (g_appZ (kn := .i64) (kk := .i64) (e := 9) (A := AV.s) (i := tI_9) (k := 1) (z := (⟨#[]⟩ : ByteArray)) (n := n') (by decide) kr kr kr kr kr sd ⟨by decide, by kernel_rfl⟩ kr (by show _ * 16 ≤ 140737488355328; first | omega | (simp only [List.length_append, List.length_cons, List.length_nil, List.length_set, List.length_replicate]; omega) | (simp; omega)) sd) le ?_
      refine AOps.sq (x := (AV.sl 1 true [])) kr le ?_
      refine AOps.sq (x := (AV.i .i64 (0 : Int))) kr le ?_
      refine AOps.sq (x := (AV.own 0 0 0)) (g_cutO (e := 9) (id := 0) (len := n') (ob := ⟨9, 1, (List.replicate n' (⟨#[]⟩ : ByteArray)).map AV.s⟩) (l := none) (g := (some (0 : Int))) (b := 0) kr kr kr kr kr kr rfl rfl (by simp only [List.length_map]; omega)) le ?_
      refine AOps.sq (x := (AV.own 0 0 0)) kr le ?_
      refine AOps.done ?_
      refine Awp.seq ?_
      refine Awp.region tabS_ok ?_
      refine AOps.sq (x := (AV.own 0 0 0)) kr le ?_
      refine AOps.sq (x := (AV.own 0 0 0)) kr le ?_
      refine AOps.done ?_
      refine Awp.ret ?_
      have hM : m_grow_string n' = ((List.replicate n' (⟨#[]⟩ : ByteArray)).take 0) := by simp only [m_grow_string, c_1, c_2, sbt]
      refine ⟨Or.inr rfl, 0, ?_, rfl⟩
      first | rfl | (show AV.own _ _ _ = AV.own _ _ _; congr 1; simp)
  · have k_1 : (((n' : Nat) : Int) < (0 : Int)) := of_decide_eq_true c_1
    refine Awp.cond (t := true) kr ?_
    refine Awp.region tabS_ok ?_
    exfalso
    omega

theorem w_slices_Concat_string_string (W : World) (slices : List (List ByteArray)) (hz : (slices.flatten).length ≤ 1048576) : PureAt Go.Proofs.Tryd.prog W 66 [((slA 1 (slA 1 AV.s)) slices)] ((slA 1 AV.s) (m_slices_Concat_string_string slices)) [] := by
  refine pure_of_bodyC (fn := Go.Proofs.Tryd.f66) Go.Proofs.Tryd.func66 rfl (en66 W) (ts := [2]) rfl le ?_
  refine Awp.seq ?_
  refine Awp.region tabS_ok ?_
  refine AOps.sq (x := (AV.sl 1 true [])) kr le ?_
  refine AOps.done ?_
  refine Awp.seq ?_
  refine Awp.region tabS_ok ?_
  refine AOps.sq (x := (AV.i .i64 (0 : Int))) kr le ?_
  refine AOps.done ?_
  refine Awp.seq ?_
  refine Awp.seq ?_
  refine Awp.region tabS_ok ?_
  refine AOps.sq (x := ((slA 1 (slA 1 AV.s)) slices)) kr le ?_
  refine AOps.sq (x := (AV.i .i64 ((slices.length : Nat) : Int))) (g_len (k := 1) (nl := false) (e := 25) (A := (slA 1 AV.s)) (xs := slices) kr kr) le ?_
  refine AOps.sq (x := (AV.i .i64 (0 : Int))) kr le ?_
  refine AOps.done ?_
  refine Awp.block ?_
  refine Awp.lim 0 (x := ((slA 1 (slA 1 AV.s)) slices)) kr fun hlm1 => ?_
  have hB1 : slices.length ≤ 281474976710656 := lim_slA hlm1
  obtain ⟨R1, hR1⟩ : ∃ R, m_slices_Concat_string_string_L1 slices 0 0 = R := ⟨_, rfl⟩
  refine Awp.loopT (fun ((size, v11) : Nat × Nat) => [(0, ((slA 1 (slA 1 AV.s)) slices)), (9, ((slA 1 (slA 1 AV.s)) slices)), (10, (AV.i .i64 ((slices.length : Nat) : Int))), (3, (AV.i .i64 ((size : Nat) : Int))), (11, (AV.i .i64 ((v11 : Nat) : Int)))]) (fun ((size, v11) : Nat × Nat) => ⟨0, []⟩) (fun ((size, v11) : Nat × Nat) => v11 ≤ slices.length ∧ size + ((slices.drop v11).flatten).length = (slices.flatten).length ∧ m_slices_Concat_string_string_L1 (slices.drop v11) v11 size = R1) (fun ((size, v11) : Nat × Nat) => slices.length - v11) (0, 0) ?_ ?_ ?_
  · exact ⟨[], ⟨by decide, rfl, FitsObjs.nil, (EntE.cons (Ent.c kr kr) (EntE.cons (Ent.c kr kr) (EntE.cons (Ent.c kr kr) (EntE.cons (Ent.c kr kr) (EntE.cons (Ent.c kr kr) EntE.nil)))))⟩, keep0⟩
  · exact ⟨od, by (try dsimp only) <;> (simp), hR1⟩
  · rintro ⟨size, v11⟩ ⟨hi1, hs, hE1⟩
    try dsimp only
    refine Awp.seq ?_
    refine Awp.region tabS_ok ?_
    refine AOps.sq (x := (AV.b (decide (((v11 : Nat) : Int) < ((slices.length : Nat) : Int))))) kr le ?_
    refine AOps.done ?_
    refine Awp.seq ?_
    rcases Nat.lt_or_ge v11 slices.length with hl1 | hl1
    · have hc1 : decide (((v11 : Nat) : Int) < ((slices.length : Nat) : Int)) = true := decide_eq_true (by omega)
      refine Awp.cond (t := true) (by rw [← hc1] <;> kernel_rfl) (Awp.skip ?_)
      obtain ⟨x1, hx1⟩ : ∃ x, slices[v11]? = some x := ⟨_, List.getElem?_eq_getElem hl1⟩
      rw [drop_at hx1, m_slices_Concat_string_string_L1.eq_2] at hE1
      rw [drop_at hx1] at hs
      simp only [List.flatten_cons, List.length_append] at hs
      refine Awp.seq ?_
      refine Awp.block ?_
      refine Awp.seq ?_
      refine Awp.region tabS_ok ?_
      refine AOps.sq (x := (AV.pt ((slA 1 AV.s) x1).cells)) (g_idx (k := 1) (nl := false) (e := 25) (kk := .i64) (A := (slA 1 AV.s)) (xs := slices) (i := v11) kr kr kr ⟨by kernel_rfl, by decide⟩ hx1) le ?_
      refine AOps.sq (x := ((slA 1 AV.s) x1)) kr le ?_
      refine AOps.sq (x := ((slA 1 AV.s) x1)) kr le ?_
      refine AOps.done ?_
      refine Awp.seq ?_
      refine Awp.region tabS_ok ?_
      refine AOps.sq (x := (AV.i .i64 ((size : Nat) : Int))) kr le ?_
      refine AOps.sq (x := ((slA 1 AV.s) x1)) kr le ?_
      refine AOps.sq (x := (AV.i .i64 ((x1.length : Nat) : Int))) (g_len (k := 1) (nl := false) (e := 9) (A := AV.s) (xs := x1) kr kr) le ?_
      refine AOps.sq (x := (AV.i .i64 ((size + x1.length : Nat) : Int))) (g_addN (i := size) (m := x1.length) kr kr sd) le ?_
      refine AOps.sq (x := (AV.i .i64 ((size + x1.length : Nat) : Int))) kr le ?_
      refine AOps.done ?_
      refine Awp.seq ?_
      refine Awp.region tabS_ok ?_
      refine AOps.sq (x := (AV.i .i64 ((size + x1.length : Nat) : Int))) kr le ?_
      refine AOps.sq (x := (AV.b (decide (((size + x1.length : Nat) : Int) < (0 : Int))))) kr le ?_
      refine AOps.done ?_
      cases c_1 : decide (((size + x1.length : Nat) : Int) < (0 : Int))
      · have k_1 : ¬ (((size + x1.length : Nat) : Int) < (0 : Int)) := of_decide_eq_false c_1
        refine Awp.cond (t := false) kr ?_
        refine Awp.skip ?_
        refine Awp.region tabS_ok ?_
        refine AOps.sq (x := (AV.i .i64 ((v11 + 1 : Nat) : Int))) (g_addN (i := v11) (m := 1) kr kr sd) le ?_
        refine AOps.sq (x := (AV.i .i64 ((v11 + 1 : Nat) : Int))) kr le ?_
        refine AOps.done ?_
        try simp only [c_1, sbt] at hE1
        refine ⟨(size + x1.length, v11 + 1), od, ⟨od, by (try dsimp only) <;> (omega), hE1⟩, ?_⟩
        exact ⟨[], ⟨by decide, rfl, FitsObjs.nil, (EntE.cons (Ent.c kr kr) (EntE.cons (Ent.c kr kr) (EntE.cons (Ent.c kr kr) (EntE.cons (Ent.c kr kr) (EntE.cons (Ent.c kr kr) EntE.nil)))))⟩, keep0⟩
      · have k_1 : (((size + x1.length : Nat) : Int) < (0 : Int)) := of_decide_eq_true c_1
        refine Awp.cond (t := true) kr ?_
        refine Awp.region tabS_ok ?_
        exfalso
        omega
    · have hc1 : decide (((v11 : Nat) : Int) < ((slices.length : Nat) : Int)) = false := decide_eq_false (by omega)
      refine Awp.cond (t := false) (by rw [← hc1] <;> kernel_rfl) (Awp.exit ?_)
      rw [List.drop_eq_nil_of_le (hl1), m_slices_Concat_string_string_L1.eq_1] at hE1
      subst hE1
      refine Awp.seq ?_
      refine Awp.region tabS_ok ?_
      refine AOps.sq (x := (AV.i .i64 ((size : Nat) : Int))) kr le ?_
      by_cases z_2 : (List.replicate size (⟨#[]⟩ : ByteArray)) = []
      · have hzz_2 : size = 0 := by simpa using z_2
        refine AOps.sc0 (vs := [(AV.sl 1 true []), (AV.i .i64 ((size : Nat) : Int))]) (r0 := (AV.sl 1 true [])) kr kr (by rw [hzz_2]; exact w_grow0 W) kr le ?_
        refine AOps.sq (x := (AV.sl 1 true [])) kr le ?_
        refine AOps.done ?_
        refine Awp.seq ?_
        refine Awp.seq ?_
        refine Awp.region tabS_ok ?_
        refine AOps.sq (x := ((slA 1 (slA 1 AV.s)) slices)) kr le ?_
        refine AOps.sq (x := (AV.i .i64 ((slices.length : Nat) : Int))) (g_len (k := 1) (nl := false) (e := 25) (A := (slA 1 AV.s)) (xs := slices) kr kr) le ?_
        refine AOps.sq (x := (AV.i .i64 (0 : Int))) kr le ?_
        refine AOps.done ?_
        refine Awp.block ?_
        refine Awp.lim 0 (x := ((slA 1 (slA 1 AV.s)) slices)) kr fun hlm2 => ?_
        have hB2 : slices.length ≤ 281474976710656 := lim_slA hlm2
        obtain ⟨R2, hR2⟩ : ∃ R, m_slices_Concat_string_string_L2 slices 0 [] = R := ⟨_, rfl⟩
        refine Awp.loopT (fun ((b_newslice, newslice, v27) : Bool × (List ByteArray) × Nat) => [(25, ((slA 1 (slA 1 AV.s)) slices)), (26, (AV.i .i64 ((slices.length : Nat) : Int))), (6, (accW 0 1 AV.s b_newslice newslice)), (27, (AV.i .i64 ((v27 : Nat) : Int)))]) (fun ((b_newslice, newslice, v27) : Bool × (List ByteArray) × Nat) => ⟨1, [(0, accWO 9 1 AV.s b_newslice newslice)]⟩) (fun ((b_newslice, newslice, v27) : Bool × (List ByteArray) × Nat) => v27 ≤ slices.length ∧ (b_newslice = false → newslice = []) ∧ newslice.length + ((slices.drop v27).flatten).length ≤ (slices.flatten).length ∧ m_slices_Concat_string_string_L2 (slices.drop v27) v27 newslice = R2) (fun ((b_newslice, newslice, v27) : Bool × (List ByteArray) × Nat) => slices.length - v27) (false, [], 0) ?_ ?_ ?_
        · exact ⟨[1000000], ⟨by decide, rfl, (FitsObjs.cons rfl FitsObjs.nil), (EntE.cons (Ent.c kr kr) (EntE.cons (Ent.c kr kr) (EntE.cons (Ent.c kr kr) (EntE.cons (Ent.c kr kr) EntE.nil))))⟩, keep0⟩
        · exact ⟨od, (by simp), by (try dsimp only) <;> (simp), hR2⟩
        · rintro ⟨b_newslice, newslice, v27⟩ ⟨hi2, hn_newslice, ha, hE2⟩
          try dsimp only
          cases b_newslice
          · have hz_newslice := hn_newslice rfl
            subst hz_newslice
            try dsimp only
            refine Awp.seq ?_
            refine Awp.region tabS_ok ?_
            refine AOps.sq (x := (AV.b (decide (((v27 : Nat) : Int) < ((slices.length : Nat) : Int))))) kr le ?_
            refine AOps.done ?_
            refine Awp.seq ?_
            rcases Nat.lt_or_ge v27 slices.length with hl2 | hl2
            · have hc2 : decide (((v27 : Nat) : Int) < ((slices.length : Nat) : Int)) = true := decide_eq_true (by omega)
              refine Awp.cond (t := true) (by rw [← hc2] <;> kernel_rfl) (Awp.skip ?_)
              obtain ⟨x2, hx2⟩ : ∃ x, slices[v27]? = some x := ⟨_, List.getElem?_eq_getElem hl2⟩
              rw [drop_at hx2, m_slices_Concat_string_string_L2.eq_2] at hE2
              rw [drop_at hx2] at ha
              simp only [List.flatten_cons, List.length_append] at ha
              refine Awp.seq ?_
              refine Awp.block ?_
              refine Awp.seq ?_
              refine Awp.region tabS_ok ?_
              refine AOps.sq (x := (AV.pt ((slA 1 AV.s) x2).cells)) (g_idx (k := 1) (nl := false) (e := 25) (kk := .i64) (A := (slA 1 AV.s)) (xs := slices) (i := v27) kr kr kr ⟨by kernel_rfl, by decide⟩ hx2) le ?_
              refine AOps.sq (x := ((slA 1 AV.s) x2)) kr le ?_
              refine AOps.sq (x := ((slA 1 AV.s) x2)) kr le ?_
              refine AOps.done ?_
              refine Awp.region tabS_ok ?_
              refine AOps.sq (x := (AV.sl 1 true [])) kr le ?_
              refine AOps.sq (x := ((slA 1 AV.s) x2)) kr le ?_
              by_cases z_3 : x2 = []
              · refine AOps.se (x := (AV.sl 1 true [])) (h' := ⟨1, [(0, none)]⟩) (g_app0 (e := 9) (X := ((slA 1 AV.s) x2)) (A := AV.s) (i := tI_9) (k := 1) (ys := x2) kr kr kr (hx := kr) rfl z_3 ⟨by decide, by kernel_rfl⟩) le ?_
                refine AOps.sq (x := (AV.sl 1 true [])) kr le ?_
                refine AOps.done ?_
                refine Awp.region tabS_ok ?_
                refine AOps.sq (x := (AV.i .i64 ((v27 + 1 : Nat) : Int))) (g_addN (i := v27) (m := 1) kr kr sd) le ?_
                refine AOps.sq (x := (AV.i .i64 ((v27 + 1 : Nat) : Int))) kr le ?_
                refine AOps.done ?_
                try simp only [z_3, sbt] at hE2
                refine ⟨(false, [], v27 + 1), od, ⟨od, (by simp), by (try dsimp only) <;> (first | omega | (simp only [List.length_append]; omega)), hE2⟩, ?_⟩
                exact ⟨[1000000], ⟨by decide, rfl, (FitsObjs.cons rfl FitsObjs.nil), (EntE.cons (Ent.c kr kr) (EntE.cons (Ent.c kr kr) (EntE.cons (Ent.c kr kr) (EntE.cons (Ent.c kr kr) EntE.nil))))⟩, keep0⟩
              · refine AOps.se (x := (AV.own 1 0 x2.length)) (h' := ⟨2, [(1, some ⟨9, 1, x2.map AV.s⟩), (0, none)]⟩) (g_app1 (e := 9) (X := ((slA 1 AV.s) x2)) (A := AV.s) (i := tI_9) (k := 1) (ys := x2) kr kr kr (hx := kr) rfl z_3 ⟨by decide, by kernel_rfl⟩ (by show _ * 16 ≤ 140737488355328; first | omega | (simp only [List.length_append, List.length_cons, List.length_nil, List.length_set, List.length_replicate]; omega) | (simp; omega)) sd) le ?_
                refine AOps.sq (x := (AV.own 1 0 x2.length)) kr le ?_
                refine AOps.done ?_
                refine Awp.region tabS_ok ?_
                refine AOps.sq (x := (AV.i .i64 ((v27 + 1 : Nat) : Int))) (g_addN (i := v27) (m := 1) kr kr sd) le ?_
                refine AOps.sq (x := (AV.i .i64 ((v27 + 1 : Nat) : Int))) kr le ?_
                refine AOps.done ?_
                refine ⟨(true, x2, v27 + 1), od, ⟨od, (by simp), by (try dsimp only) <;> (first | omega | (simp only [List.length_append]; omega)), hE2⟩, ?_⟩
                exact ⟨[1], ⟨by decide, rfl, (FitsObjs.cons (obj_row (fun _ => rfl) (e := 9) (k := 1) (A := AV.s) (xs := x2) rfl rfl) FitsObjs.nil), (EntE.cons (Ent.c kr kr) (EntE.cons (Ent.c kr kr) (EntE.cons (ent_keepO (by decide) rfl) (EntE.cons (Ent.c kr kr) EntE.nil))))⟩, keep0⟩
            · have hc2 : decide (((v27 : Nat) : Int) < ((slices.length : Nat) : Int)) = false := decide_eq_false (by omega)
              refine Awp.cond (t := false) (by rw [← hc2] <;> kernel_rfl) (Awp.exit ?_)
              rw [List.drop_eq_nil_of_le (hl2), m_slices_Concat_string_string_L2.eq_1] at hE2
              subst hE2
              refine Awp.seq ?_
              refine Awp.region tabS_ok ?_
              refine AOps.sq (x := (AV.sl 1 true [])) kr le ?_
              refine AOps.sq (x := (AV.sl 1 true [])) kr le ?_
              refine AOps.done ?_
              refine Awp.ret ?_
              have hM : m_slices_Concat_string_string slices = [] := by simp only [m_slices_Concat_string_string, hR1, z_2, hR2, sbt]
              refine ⟨Or.inr rfl, ?_⟩
              rw [hM]
              exact Ent.cast (x' := (AV.sl 1 true [])) (y' := ((slA 1 AV.s) [])) kr kr (Ent.w rfl (WeakC.nil 1))
          · try dsimp only
            refine Awp.seq ?_
            refine Awp.region tabS_ok ?_
            refine AOps.sq (x := (AV.b (decide (((v27 : Nat) : Int) < ((slices.length : Nat) : Int))))) kr le ?_
            refine AOps.done ?_
            refine Awp.seq ?_
            rcases Nat.lt_or_ge v27 slices.length with hl2 | hl2
            · have hc2 : decide (((v27 : Nat) : Int) < ((slices.length : Nat) : Int)) = true := decide_eq_true (by omega)
              refine Awp.cond (t := true) (by rw [← hc2] <;> kernel_rfl) (Awp.skip ?_)
              obtain ⟨x2, hx2⟩ : ∃ x, slices[v27]? = some x := ⟨_, List.getElem?_eq_getElem hl2⟩
              rw [drop_at hx2, m_slices_Concat_string_string_L2.eq_2] at hE2
              rw [drop_at hx2] at ha
              simp only [List.flatten_cons, List.length_append] at ha
              refine Awp.seq ?_
              refine Awp.block ?_
              refine Awp.seq ?_
              refine Awp.region tabS_ok ?_
              refine AOps.sq (x := (AV.pt ((slA 1 AV.s) x2).cells)) (g_idx (k := 1) (nl := false) (e := 25) (kk := .i64) (A := (slA 1 AV.s)) (xs := slices) (i := v27) kr kr kr ⟨by kernel_rfl, by decide⟩ hx2) le ?_
              refine AOps.sq (x := ((slA 1 AV.s) x2)) kr le ?_
              refine AOps.sq (x := ((slA 1 AV.s) x2)) kr le ?_
              refine AOps.done ?_
              refine Awp.region tabS_ok ?_
              refine AOps.sq (x := (AV.own 0 0 newslice.length)) kr le ?_
              refine AOps.sq (x := ((slA 1 AV.s) x2)) kr le ?_
              refine AOps.se (x := (AV.own 1 0 ((newslice ++ x2).length))) (h' := ⟨2, [(1, some ⟨9, 1, (newslice ++ x2).map AV.s⟩), (0, none)]⟩) (g_appR (len := newslice.length) (e := 9) (X := ((slA 1 AV.s) x2)) (A := AV.s) (i := tI_9) (p := 0) (xs := newslice) (ys := x2) kr kr kr (hx := kr) kr ⟨by decide, by kernel_rfl⟩ rfl rfl (by show _ * 16 ≤ 140737488355328; first | omega | (simp only [List.length_append, List.length_cons, List.length_nil, List.length_set, List.length_replicate]; omega) | (simp; omega)) sd) le ?_
              refine AOps.sq (x := (AV.own 1 0 ((newslice ++ x2).length))) kr le ?_
              refine AOps.done ?_
              refine Awp.region tabS_ok ?_
              refine AOps.sq (x := (AV.i .i64 ((v27 + 1 : Nat) : Int))) (g_addN (i := v27) (m := 1) kr kr sd) le ?_
              refine AOps.sq (x := (AV.i .i64 ((v27 + 1 : Nat) : Int))) kr le ?_
              refine AOps.done ?_
              refine ⟨(true, (newslice ++ x2), v27 + 1), od, ⟨od, (by simp), by (try dsimp only) <;> (first | omega | (simp only [List.length_append]; omega)), hE2⟩, ?_⟩
              exact ⟨[1], ⟨by decide, rfl, (FitsObjs.cons (obj_row (fun _ => rfl) (e := 9) (k := 1) (A := AV.s) (xs := (newslice ++ x2)) rfl rfl) FitsObjs.nil), (EntE.cons (Ent.c kr kr) (EntE.cons (Ent.c kr kr) (EntE.cons (ent_keepO (by decide) rfl) (EntE.cons (Ent.c kr kr) EntE.nil))))⟩, keep0⟩
            · have hc2 : decide (((v27 : Nat) : Int) < ((slices.length : Nat) : Int)) = false := decide_eq_false (by omega)
              refine Awp.cond (t := false) (by rw [← hc2] <;> kernel_rfl) (Awp.exit ?_)
              rw [List.drop_eq_nil_of_le (hl2), m_slices_Concat_string_string_L2.eq_1] at hE2
              subst hE2
              refine Awp.seq ?_
              refine Awp.region tabS_ok ?_
              refine AOps.sq (x := (AV.own 0 0 newslice.length)) kr le ?_
              refine AOps.sq (x := (AV.own 0 0 newslice.length)) kr le ?_
              refine AOps.done ?_
              refine Awp.ret ?_
              have hM : m_slices_Concat_string_string slices = newslice := by simp only [m_slices_Concat_string_string, hR1, z_2, hR2, sbt]
              refine ⟨Or.inr rfl, ?_⟩
              rw [hM]
              exact Ent.cast (x' := (AV.own 0 0 newslice.length)) (y' := ((slA 1 AV.s) newslice)) kr kr (EntD.kk (x' := (AV.own 0 0 newslice.length)) kr kr rfl (EntK.row (fun _ => rfl) (A := AV.s) (id := 0) (e := 9) (k := 1) (xs := newslice) rfl rfl rfl sd))
      · have hzz_2 : 0 < size := by have := z_2; simp only [ne_eq, List.replicate_eq_nil_iff] at this; omega
        refine AOps.scR (A := AV.s) (xs := (List.replicate size (⟨#[]⟩ : ByteArray))) (vs := [(AV.sl 1 true []), (AV.i .i64 ((size : Nat) : Int))]) kr kr (wo_grow_string W size hzz_2 sd) (fun _ => rfl) le ?_
        refine AOps.sq (x := (AV.own 0 0 0)) kr le ?_
        refine AOps.done ?_
        refine Awp.seq ?_
        refine Awp.seq ?_
        refine Awp.region tabS_ok ?_
        refine AOps.sq (x := ((slA 1 (slA 1 AV.s)) slices)) kr le ?_
        refine AOps.sq (x := (AV.i .i64 ((slices.length : Nat) : Int))) (g_len (k := 1) (nl := false) (e := 25) (A := (slA 1 AV.s)) (xs := slices) kr kr) le ?_
        refine AOps.sq (x := (AV.i .i64 (0 : Int))) kr le ?_
        refine AOps.done ?_
        refine Awp.block ?_
        refine Awp.lim 0 (x := ((slA 1 (slA 1 AV.s)) slices)) kr fun hlm2 => ?_
        have hB2 : slices.length ≤ 281474976710656 := lim_slA hlm2
        obtain ⟨R2, hR2⟩ : ∃ R, m_slices_Concat_string_string_L2 slices 0 ((List.replicate size (⟨#[]⟩ : ByteArray)).take 0) = R := ⟨_, rfl⟩
        refine Awp.loopT (fun ((b_newslice2, newslice2, v272) : Bool × (List ByteArray) × Nat) => [(25, ((slA 1 (slA 1 AV.s)) slices)), (26, (AV.i .i64 ((slices.length : Nat) : Int))), (6, (accW 0 1 AV.s b_newslice2 newslice2)), (27, (AV.i .i64 ((v272 : Nat) : Int)))]) (fun ((b_newslice2, newslice2, v272) : Bool × (List ByteArray) × Nat) => ⟨1, [(0, accWO 9 1 AV.s b_newslice2 newslice2)]⟩) (fun ((b_newslice2, newslice2, v272) : Bool × (List ByteArray) × Nat) => v272 ≤ slices.length ∧ (b_newslice2 = false → newslice2 = []) ∧ newslice2.length + ((slices.drop v272).flatten).length ≤ (slices.flatten).length ∧ m_slices_Concat_string_string_L2 (slices.drop v272) v272 newslice2 = R2) (fun ((b_newslice2, newslice2, v272) : Bool × (List ByteArray) × Nat) => slices.length - v272) (true, ((List.replicate size (⟨#[]⟩ : ByteArray)).take 0), 0) ?_ ?_ ?_
        · exact ⟨[0], ⟨by decide, rfl, (FitsObjs.consW (obj_pre (fun _ => rfl) (fun _ => rfl) (e := 9) (k := 1) (A := AV.s) (xs := (List.replicate size (⟨#[]⟩ : ByteArray))) (ys := ((List.replicate size (⟨#[]⟩ : ByteArray)).take 0)) (take_pre _ _) rfl rfl) FitsObjs.nil), (EntE.cons (Ent.c kr kr) (EntE.cons (Ent.c kr kr) (EntE.cons (ent_keepO (by decide) (by simp)) (EntE.cons (Ent.c kr kr) EntE.nil))))⟩, keep0⟩
        · exact ⟨od, (by simp), by (try dsimp only) <;> (simp), hR2⟩
        · rintro ⟨b_newslice2, newslice2, v272⟩ ⟨hi2, hn_newslice2, ha, hE2⟩
          try dsimp only
          cases b_newslice2
          · have hz_newslice2 := hn_newslice2 rfl
            subst hz_newslice2
            try dsimp only
            refine Awp.seq ?_
            refine Awp.region tabS_ok ?_
            refine AOps.sq (x := (AV.b (decide (((v272 : Nat) : Int) < ((slices.length : Nat) : Int))))) kr le ?_
            refine AOps.done ?_
            refine Awp.seq ?_
            rcases Nat.lt_or_ge v272 slices.length with hl2 | hl2
            · have hc2 : decide (((v272 : Nat) : Int) < ((slices.length : Nat) : Int)) = true := decide_eq_true (by omega)
              refine Awp.cond (t := true) (by rw [← hc2] <;> kernel_rfl) (Awp.skip ?_)
              obtain ⟨x22, hx2⟩ : ∃ x, slices[v272]? = some x := ⟨_, List.getElem?_eq_getElem hl2⟩
              rw [drop_at hx2, m_slices_Concat_string_string_L2.eq_2] at hE2
              rw [drop_at hx2] at ha
              simp only [List.flatten_cons, List.length_append] at ha
              refine Awp.seq ?_
              refine Awp.block ?_
              refine Awp.seq ?_
              refine Awp.region tabS_ok ?_
              refine AOps.sq (x := (AV.pt ((slA 1 AV.s) x22).cells)) (g_idx (k := 1) (nl := false) (e := 25) (kk := .i64) (A := (slA 1 AV.s)) (xs := slices) (i := v272) kr kr kr ⟨by kernel_rfl, by decide⟩ hx2) le ?_
              refine AOps.sq (x := ((slA 1 AV.s) x22)) kr le ?_
              refine AOps.sq (x := ((slA 1 AV.s) x22)) kr le ?_
              refine AOps.done ?_
              refine Awp.region tabS_ok ?_
              refine AOps.sq (x := (AV.sl 1 true [])) kr le ?_
              refine AOps.sq (x := ((slA 1 AV.s) x22)) kr le ?_
              by_cases z_4 : x22 = []
              · refine AOps.se (x := (AV.sl 1 true [])) (h' := ⟨1, [(0, none)]⟩) (g_app0 (e := 9) (X := ((slA 1 AV.s) x22)) (A := AV.s) (i := tI_9) (k := 1) (ys := x22) kr kr kr (hx := kr) rfl z_4 ⟨by decide, by kernel_rfl⟩) le ?_
                refine AOps.sq (x := (AV.sl 1 true [])) kr le ?_
                refine AOps.done ?_
                refine Awp.region tabS_ok ?_
                refine AOps.sq (x := (AV.i .i64 ((v272 + 1 : Nat) : Int))) (g_addN (i := v272) (m := 1) kr kr sd) le ?_
                refine AOps.sq (x := (AV.i .i64 ((v272 + 1 : Nat) : Int))) kr le ?_
                refine AOps.done ?_
                try simp only [z_4, sbt] at hE2
                refine ⟨(false, [], v272 + 1), od, ⟨od, (by simp), by (try dsimp only) <;> (first | omega | (simp only [List.length_append]; omega)), hE2⟩, ?_⟩
                exact ⟨[1000000], ⟨by decide, rfl, (FitsObjs.cons rfl FitsObjs.nil), (EntE.cons (Ent.c kr kr) (EntE.cons (Ent.c kr kr) (EntE.cons (Ent.c kr kr) (EntE.cons (Ent.c kr kr) EntE.nil))))⟩, keep0⟩
              · refine AOps.se (x := (AV.own 1 0 x22.length)) (h' := ⟨2, [(1, some ⟨9, 1, x22.map AV.s⟩), (0, none)]⟩) (g_app1 (e := 9) (X := ((slA 1 AV.s) x22)) (A := AV.s) (i := tI_9) (k := 1) (ys := x22) kr kr kr (hx := kr) rfl z_4 ⟨by decide, by kernel_rfl⟩ (by show _ * 16 ≤ 140737488355328; first | omega | (simp only [List.length_append, List.length_cons, List.length_nil, List.length_set, List.length_replicate]; omega) | (simp; omega)) sd) le ?_
                refine AOps.sq (x := (AV.own 1 0 x22.length)) kr le ?_
                refine AOps.done ?_
                refine Awp.region tabS_ok ?_
                refine AOps.sq (x := (AV.i .i64 ((v272 + 1 : Nat) : Int))) (g_addN (i := v272) (m := 1) kr kr sd) le ?_
                refine AOps.sq (x := (AV.i .i64 ((v272 + 1 : Nat) : Int))) kr le ?_
                refine AOps.done ?_
                refine ⟨(true, x22, v272 + 1), od, ⟨od, (by simp), by (try dsimp only) <;> (first | omega | (simp only [List.length_append]; omega)), hE2⟩, ?_⟩
                exact ⟨[1], ⟨by decide, rfl, (FitsObjs.cons (obj_row (fun _ => rfl) (e := 9) (k := 1) (A := AV.s) (xs := x22) rfl rfl) FitsObjs.nil), (EntE.cons (Ent.c kr kr) (EntE.cons (Ent.c kr kr) (EntE.cons (ent_keepO (by decide) rfl) (EntE.cons (Ent.c kr kr) EntE.nil))))⟩, keep0⟩
            · have hc2 : decide (((v272 : Nat) : Int) < ((slices.length : Nat) : Int)) = false := decide_eq_false (by omega)
              refine Awp.cond (t := false) (by rw [← hc2] <;> kernel_rfl) (Awp.exit ?_)
              rw [List.drop_eq_nil_of_le (hl2), m_slices_Concat_string_string_L2.eq_1] at hE2
              subst hE2
              refine Awp.seq ?_
              refine Awp.region tabS_ok ?_
              refine AOps.sq (x := (AV.sl 1 true [])) kr le ?_
              refine AOps.sq (x := (AV.sl 1 true [])) kr le ?_
              refine AOps.done ?_
              refine Awp.ret ?_
              have hM : m_slices_Concat_string_string slices = [] := by simp only [m_slices_Concat_string_string, hR1, hR2, sbt]
              refine ⟨Or.inr rfl, ?_⟩
              rw [hM]
              exact Ent.cast (x' := (AV.sl 1 true [])) (y' := ((slA 1 AV.s) [])) kr kr (Ent.w rfl (WeakC.nil 1))
          · try dsimp only
            refine Awp.seq ?_
            refine Awp.region tabS_ok ?_
            refine AOps.sq (x := (AV.b (decide (((v272 : Nat) : Int) < ((slices.length : Nat) : Int))))) kr le ?_
            refine AOps.done ?_
            refine Awp.seq ?_
            rcases Nat.lt_or_ge v272 slices.length with hl2 | hl2
            · have hc2 : decide (((v272 : Nat) : Int) < ((slices.length : Nat) : Int)) = true := decide_eq_true (by omega)
              refine Awp.cond (t := true) (by rw [← hc2] <;> kernel_rfl) (Awp.skip ?_)
              obtain ⟨x22, hx2⟩ : ∃ x, slices[v272]? = some x := ⟨_, List.getElem?_eq_getElem hl2⟩
              rw [drop_at hx2, m_slices_Concat_string_string_L2.eq_2] at hE2
              rw [drop_at hx2] at ha
              simp only [List.flatten_cons, List.length_append] at ha
              refine Awp.seq ?_
              refine Awp.block ?_
              refine Awp.seq ?_
              refine Awp.region tabS_ok ?_
              refine AOps.sq (x := (AV.pt ((slA 1 AV.s) x22).cells)) (g_idx (k := 1) (nl := false) (e := 25) (kk := .i64) (A := (slA 1 AV.s)) (xs := slices) (i := v272) kr kr kr ⟨by kernel_rfl, by decide⟩ hx2) le ?_
              refine AOps.sq (x := ((slA 1 AV.s) x22)) kr le ?_
              refine AOps.sq (x := ((slA 1 AV.s) x22)) kr le ?_
              refine AOps.done ?_
              refine Awp.region tabS_ok ?_
              refine AOps.sq (x := (AV.own 0 0 newslice2.length)) kr le ?_
              refine AOps.sq (x := ((slA 1 AV.s) x22)) kr le ?_
              refine AOps.se (x := (AV.own 1 0 ((newslice2 ++ x22).length))) (h' := ⟨2, [(1, some ⟨9, 1, (newslice2 ++ x22).map AV.s⟩), (0, none)]⟩) (g_appR (len := newslice2.length) (e := 9) (X := ((slA 1 AV.s) x22)) (A := AV.s) (i := tI_9) (p := 0) (xs := newslice2) (ys := x22) kr kr kr (hx := kr) kr ⟨by decide, by kernel_rfl⟩ rfl rfl (by show _ * 16 ≤ 140737488355328; first | omega | (simp only [List.length_append, List.length_cons, List.length_nil, List.length_set, List.length_replicate]; omega) | (simp; omega)) sd) le ?_
              refine AOps.sq (x := (AV.own 1 0 ((newslice2 ++ x22).length))) kr le ?_
              refine AOps.done ?_
              refine Awp.region tabS_ok ?_
              refine AOps.sq (x := (AV.i .i64 ((v272 + 1 : Nat) : Int))) (g_addN (i := v272) (m := 1) kr kr sd) le ?_
              refine AOps.sq (x := (AV.i .i64 ((v272 + 1 : Nat) : Int))) kr le ?_
              refine AOps.done ?_
              refine ⟨(true, (newslice2 ++ x22), v272 + 1), od, ⟨od, (by simp), by (try dsimp only) <;> (first | omega | (simp only [List.length_append]; omega)), hE2⟩, ?_⟩
              exact ⟨[1], ⟨by decide, rfl, (FitsObjs.cons (obj_row (fun _ => rfl) (e := 9) (k := 1) (A := AV.s) (xs := (newslice2 ++ x22)) rfl rfl) FitsObjs.nil), (EntE.cons (Ent.c kr kr) (EntE.cons (Ent.c kr kr) (EntE.cons (ent_keepO (by decide) rfl) (EntE.cons (Ent.c kr kr) EntE.nil))))⟩, keep0⟩
            · have hc2 : decide (((v272 : Nat) : Int) < ((slices.length : Nat) : Int)) = false := decide_eq_false (by omega)
              refine Awp.cond (t := false) (by rw [← hc2] <;> kernel_rfl) (Awp.exit ?_)
              rw [List.drop_eq_nil_of_le (hl2), m_slices_Concat_string_string_L2.eq_1] at hE2
              subst hE2
              refine Awp.seq ?_
              refine Awp.region tabS_ok ?_
              refine AOps.sq (x := (AV.own 0 0 newslice2.length)) kr le ?_
              refine AOps.sq (x := (AV.own 0 0 newslice2.length)) kr le ?_
              refine AOps.done ?_
              refine Awp.ret ?_
              have hM : m_slices_Concat_string_string slices = newslice2 := by simp only [m_slices_Concat_string_string, hR1, hR2, sbt]
              refine ⟨Or.inr rfl, ?_⟩
              rw [hM]
              exact Ent.cast (x' := (AV.own 0 0 newslice2.length)) (y' := ((slA 1 AV.s) newslice2)) kr kr (EntD.kk (x' := (AV.own 0 0 newslice2.length)) kr kr rfl (EntK.row (fun _ => rfl) (A := AV.s) (id := 0) (e := 9) (k := 1) (xs := newslice2) rfl rfl rfl sd))

theorem wo_slices_Concat_string_string (W : World) (slices : List (List ByteArray)) (hz : (slices.flatten).length ≤ 1048576) (hne : m_slices_Concat_string_string slices ≠ []) : PureAt Go.Proofs.Tryd.prog W 66 [((slA 1 (slA 1 AV.s)) slices)] (.own 0 0 (m_slices_Concat_string_string slices).length) [⟨9, 1, (m_slices_Concat_string_string slices).map AV.s⟩] := by
  refine pure_of_bodyR (fn := Go.Proofs.Tryd.f66) Go.Proofs.Tryd.func66 rfl (en66 W) (ts := [2]) rfl le (fun _ => rfl) ?_
  refine Awp.seq ?_
  refine Awp.region tabS_ok ?_
  refine AOps.sq (x := (AV.sl 1 true [])) kr le ?_
  refine AOps.done ?_
  refine Awp.seq ?_
  refine Awp.region tabS_ok ?_
  refine AOps.sq (x := (AV.i .i64 (0 : Int))) kr le ?_
  refine AOps.done ?_
  refine Awp.seq ?_
  refine Awp.seq ?_
  refine Awp.region tabS_ok ?_
  refine AOps.sq (x := ((slA 1 (slA 1 AV.s)) slices)) kr le ?_
  refine AOps.sq (x := (AV.i .i64 ((slices.length : Nat) : Int))) (g_len (k := 1) (nl := false) (e := 25) (A := (slA 1 AV.s)) (xs := slices) kr kr) le ?_
  refine AOps.sq (x := (AV.i .i64 (0 : Int))) kr le ?_
  refine AOps.done ?_
  refine Awp.block ?_
  refine Awp.lim 0 (x := ((slA 1 (slA 1 AV.s)) slices)) kr fun hlm1 => ?_
  have hB1 : slices.length ≤ 281474976710656 := lim_slA hlm1
  obtain ⟨R1, hR1⟩ : ∃ R, m_slices_Concat_string_string_L1 slices 0 0 = R := ⟨_, rfl⟩
  refine Awp.loopT (fun ((size, v11) : Nat × Nat) => [(0, ((slA 1 (slA 1 AV.s)) slices)), (9, ((slA 1 (slA 1 AV.s)) slices)), (10, (AV.i .i64 ((slices.length : Nat) : Int))), (3, (AV.i .i64 ((size : Nat) : Int))), (11, (AV.i .i64 ((v11 : Nat) : Int)))]) (fun ((size, v11) : Nat × Nat) => ⟨0, []⟩) (fun ((size, v11) : Nat × Nat) => v11 ≤ slices.length ∧ size + ((slices.drop v11).flatten).length = (slices.flatten).length ∧ m_slices_Concat_string_string_L1 (slices.drop v11) v11 size = R1) (fun ((size, v11) : Nat × Nat) => slices.length - v11) (0, 0) ?_ ?_ ?_
  · exact ⟨[], ⟨by decide, rfl, FitsObjs.nil, (EntE.cons (Ent.c kr kr) (EntE.cons (Ent.c kr kr) (EntE.cons (Ent.c kr kr) (EntE.cons (Ent.c kr kr) (EntE.cons (Ent.c kr kr) EntE.nil)))))⟩, keep0⟩
  · exact ⟨od, by (try dsimp only) <;> (simp), hR1⟩
  · rintro ⟨size, v11⟩ ⟨hi1, hs, hE1⟩
    try dsimp only
    refine Awp.seq ?_
    refine Awp.region tabS_ok ?_
    refine AOps.sq (x := (AV.b (decide (((v11 : Nat) : Int) < ((slices.length : Nat) : Int))))) kr le ?_
    refine AOps.done ?_
    refine Awp.seq ?_
    rcases Nat.lt_or_ge v11 slices.length with hl1 | hl1
    · have hc1 : decide (((v11 : Nat) : Int) < ((slices.length : Nat) : Int)) = true := decide_eq_true (by omega)
      refine Awp.cond (t := true) (by rw [← hc1] <;> kernel_rfl) (Awp.skip ?_)
      obtain ⟨x1, hx1⟩ : ∃ x, slices[v11]? = some x := ⟨_, List.getElem?_eq_getElem hl1⟩
      rw [drop_at hx1, m_slices_Concat_string_string_L1.eq_2] at hE1
      rw [drop_at hx1] at hs
      simp only [List.flatten_cons, List.length_append] at hs
      refine Awp.seq ?_
      refine Awp.block ?_
      refine Awp.seq ?_
      refine Awp.region tabS_ok ?_
      refine AOps.sq (x := (AV.pt ((slA 1 AV.s) x1).cells)) (g_idx (k := 1) (nl := false) (e := 25) (kk := .i64) (A := (slA 1 AV.s)) (xs := slices) (i := v11) kr kr kr ⟨by kernel_rfl, by decide⟩ hx1) le ?_
      refine AOps.sq (x := ((slA 1 AV.s) x1)) kr le ?_
      refine AOps.sq (x := ((slA 1 AV.s) x1)) kr le ?_
      refine AOps.done ?_
      refine Awp.seq ?_
      refine Awp.region tabS_ok ?_
      refine AOps.sq (x := (AV.i .i64 ((size : Nat) : Int))) kr le ?_
      refine AOps.sq (x := ((slA 1 AV.s) x1)) kr le ?_
      refine AOps.sq (x := (AV.i .i64 ((x1.length : Nat) : Int))) (g_len (k := 1) (nl := false) (e := 9) (A := AV.s) (xs := x1) kr kr) le ?_
      refine AOps.sq (x := (AV.i .i64 ((size + x1.length : Nat) : Int))) (g_addN (i := size) (m := x1.length) kr kr sd) le ?_
      refine AOps.sq (x := (AV.i .i64 ((size + x1.length : Nat) : Int))) kr le ?_
      refine AOps.done ?_
      refine Awp.seq ?_
      refine Awp.region tabS_ok ?_
      refine AOps.sq (x := (AV.i .i64 ((size + x1.length : Nat) : Int))) kr le ?_
      refine AOps.sq (x := (AV.b (decide (((size + x1.length : Nat) : Int) < (0 : Int))))) kr le ?_
      refine AOps.done ?_
      cases c_1 : decide (((size + x1.length : Nat) : Int) < (0 : Int))
      · have k_1 : ¬ (((size + x1.length : Nat) : Int) < (0 : Int)) := of_decide_eq_false c_1
        refine Awp.cond (t := false) kr ?_
        refine Awp.skip ?_
        refine Awp.region tabS_ok ?_
        refine AOps.sq (x := (AV.i .i64 ((v11 + 1 : Nat) : Int))) (g_addN (i := v11) (m := 1) kr kr sd) le ?_
        refine AOps.sq (x := (AV.i .i64 ((v11 + 1 : Nat) : Int))) kr le ?_
        refine AOps.done ?_
        try simp only [c_1, sbt] at hE1
        refine ⟨(size + x1.length, v11 + 1), od, ⟨od, by (try dsimp only) <;> (omega), hE1⟩, ?_⟩
        exact ⟨[], ⟨by decide, rfl, FitsObjs.nil, (EntE.cons (Ent.c kr kr) (EntE.cons (Ent.c kr kr) (EntE.cons (Ent.c kr kr) (EntE.cons (Ent.c kr kr) (EntE.cons (Ent.c kr kr) EntE.nil)))))⟩, keep0⟩
      · have k_1 : (((size + x1.length : Nat) : Int) < (0 : Int)) := of_decide_eq_true c_1
        refine Awp.cond (t := true) kr ?_
        refine Awp.region tabS_ok ?_
        exfalso
        omega
    · have hc1 : decide (((v11 : Nat) : Int) < ((slices.length : Nat) : Int)) = false := decide_eq_false (by omega)
      refine Awp.cond (t := false) (by rw [← hc1] <;> kernel_rfl) (Awp.exit ?_)
      rw [List.drop_eq_nil_of_le (hl1), m_slices_Concat_string_string_L1.eq_1] at hE1
      subst hE1
      refine Awp.seq ?_
      refine Awp.region tabS_ok ?_
      refine AOps.sq (x := (AV.i .i64 ((size : Nat) : Int))) kr le ?_
      by_cases z_2 : (List.replicate size (⟨#[]⟩ : ByteArray)) = []
      · have hzz_2 : size = 0 := by simpa using z_2
        refine AOps.sc0 (vs := [(AV.sl 1 true []), (AV.i .i64 ((size : Nat) : Int))]) (r0 := (AV.sl 1 true [])) kr kr (by rw [hzz_2]; exact w_grow0 W) kr le ?_
        refine AOps.sq (x := (AV.sl 1 true [])) kr le ?_
        refine AOps.done ?_
        refine Awp.seq ?_
        refine Awp.seq ?_
        refine Awp.region tabS_ok ?_
        refine AOps.sq (x := ((slA 1 (slA 1 AV.s)) slices)) kr le ?_
        refine AOps.sq (x := (AV.i .i64 ((slices.length : Nat) : Int))) (g_len (k := 1) (nl := false) (e := 25) (A := (slA 1 AV.s)) (xs := slices) kr kr) le ?_
        refine AOps.sq (x := (AV.i .i64 (0 : Int))) kr le ?_
        refine AOps.done ?_
        refine Awp.block ?_
        refine Awp.lim 0 (x := ((slA 1 (slA 1 AV.s)) slices)) kr fun hlm2 => ?_
        have hB2 : slices.length ≤ 281474976710656 := lim_slA hlm2
        obtain ⟨R2, hR2⟩ : ∃ R, m_slices_Concat_string_string_L2 slices 0 [] = R := ⟨_, rfl⟩
        refine Awp.loopT (fun ((b_newslice, newslice, v27) : Bool × (List ByteArray) × Nat) => [(25, ((slA 1 (slA 1 AV.s)) slices)), (26, (AV.i .i64 ((slices.length : Nat) : Int))), (6, (accW 0 1 AV.s b_newslice newslice)), (27, (AV.i .i64 ((v27 : Nat) : Int)))]) (fun ((b_newslice, newslice, v27) : Bool × (List ByteArray) × Nat) => ⟨1, [(0, accWO 9 1 AV.s b_newslice newslice)]⟩) (fun ((b_newslice, newslice, v27) : Bool × (List ByteArray) × Nat) => v27 ≤ slices.length ∧ (b_newslice = false → newslice = []) ∧ newslice.length + ((slices.drop v27).flatten).length ≤ (slices.flatten).length ∧ m_slices_Concat_string_string_L2 (slices.drop v27) v27 newslice = R2) (fun ((b_newslice, newslice, v27) : Bool × (List ByteArray) × Nat) => slices.length - v27) (false, [], 0) ?_ ?_ ?_
        · exact ⟨[1000000], ⟨by decide, rfl, (FitsObjs.cons rfl FitsObjs.nil), (EntE.cons (Ent.c kr kr) (EntE.cons (Ent.c kr kr) (EntE.cons (Ent.c kr kr) (EntE.cons (Ent.c kr kr) EntE.nil))))⟩, keep0⟩
        · exact ⟨od, (by simp), by (try dsimp only) <;> (simp), hR2⟩
        · rintro ⟨b_newslice, newslice, v27⟩ ⟨hi2, hn_newslice, ha, hE2⟩
          try dsimp only
          cases b_newslice
          · have hz_newslice := hn_newslice rfl
            subst hz_newslice
            try dsimp only
            refine Awp.seq ?_
            refine Awp.region tabS_ok ?_
            refine AOps.sq (x := (AV.b (decide (((v27 : Nat) : Int) < ((slices.length : Nat) : Int))))) kr le ?_
            refine AOps.done ?_
            refine Awp.seq ?_
            rcases Nat.lt_or_ge v27 slices.length with hl2 | hl2
            · have hc2 : decide (((v27 : Nat) : Int) < ((slices.length : Nat) : Int)) = true := decide_eq_true (by omega)
              refine Awp.cond (t := true) (by rw [← hc2] <;> kernel_rfl) (Awp.skip ?_)
              obtain ⟨x2, hx2⟩ : ∃ x, slices[v27]? = some x := ⟨_, List.getElem?_eq_getElem hl2⟩
              rw [drop_at hx2, m_slices_Concat_string_string_L2.eq_2] at hE2
              rw [drop_at hx2] at ha
              simp only [List.flatten_cons, List.length_append] at ha
              refine Awp.seq ?_
              refine Awp.block ?_
              refine Awp.seq ?_
              refine Awp.region tabS_ok ?_
              refine AOps.sq (x := (AV.pt ((slA 1 AV.s) x2).cells)) (g_idx (k := 1) (nl := false) (e := 25) (kk := .i64) (A := (slA 1 AV.s)) (xs := slices) (i := v27) kr kr kr ⟨by kernel_rfl, by decide⟩ hx2) le ?_
              refine AOps.sq (x := ((slA 1 AV.s) x2)) kr le ?_
              refine AOps.sq (x := ((slA 1 AV.s) x2)) kr le ?_
              refine AOps.done ?_
              refine Awp.region tabS_ok ?_
              refine AOps.sq (x := (AV.sl 1 true [])) kr le ?_
              refine AOps.sq (x := ((slA 1 AV.s) x2)) kr le ?_
              by_cases z_3 : x2 = []
              · refine AOps.se (x := (AV.sl 1 true [])) (h' := ⟨1, [(0, none)]⟩) (g_app0 (e := 9) (X := ((slA 1 AV.s) x2)) (A := AV.s) (i := tI_9) (k := 1) (ys := x2) kr kr kr (hx := kr) rfl z_3 ⟨by decide, by kernel_rfl⟩) le ?_
                refine AOps.sq (x := (AV.sl 1 true [])) kr le ?_
                refine AOps.done ?_
                refine Awp.region tabS_ok ?_
                refine AOps.sq (x := (AV.i .i64 ((v27 + 1 : Nat) : Int))) (g_addN (i := v27) (m := 1) kr kr sd) le ?_
                refine AOps.sq (x := (AV.i .i64 ((v27 + 1 : Nat) : Int))) kr le ?_
                refine AOps.done ?_
                try simp only [z_3, sbt] at hE2
                refine ⟨(false, [], v27 + 1), od, ⟨od, (by simp), by (try dsimp only) <;> (first | omega | (simp only [List.length_append]; omega)), hE2⟩, ?_⟩
                exact ⟨[1000000], ⟨by decide, rfl, (FitsObjs.cons rfl FitsObjs.nil), (EntE.cons (Ent.c kr kr) (EntE.cons (Ent.c kr kr) (EntE.cons (Ent.c kr kr) (EntE.cons (Ent.c kr kr) EntE.nil))))⟩, keep0⟩
              · refine AOps.se (x := (AV.own 1 0 x2.length)) (h' := ⟨2, [(1, some ⟨9, 1, x2.map AV.s⟩), (0, none)]⟩) (g_app1 (e := 9) (X := ((slA 1 AV.s) x2)) (A := AV.s) (i := tI_9) (k := 1) (ys := x2) kr kr kr (hx := kr) rfl z_3 ⟨by decide, by kernel_rfl⟩ (by show _ * 16 ≤ 140737488355328; first | omega | (simp only [List.length_append, List.length_cons, List.length_nil, List.length_set, List.length_replicate]; omega) | (simp; omega)) sd) le ?_
                refine AOps.sq (x := (AV.own 1 0 x2.length)) kr le ?_
                refine AOps.done ?_
                refine Awp.region tabS_ok ?_
                refine AOps.sq (x := (AV.i .i64 ((v27 + 1 : Nat) : Int))) (g_addN (i := v27) (m := 1) kr kr sd) le ?_
                refine AOps.sq (x := (AV.i .i64 ((v27 + 1 : Nat) : Int))) kr le ?_
                refine AOps.done ?_
                refine ⟨(true, x2, v27 + 1), od, ⟨od, (by simp), by (try dsimp only) <;> (first | omega | (simp only [List.length_append]; omega)), hE2⟩, ?_⟩
                exact ⟨[1], ⟨by decide, rfl, (FitsObjs.cons (obj_row (fun _ => rfl) (e := 9) (k := 1) (A := AV.s) (xs := x2) rfl rfl) FitsObjs.nil), (EntE.cons (Ent.c kr kr) (EntE.cons (Ent.c kr kr) (EntE.cons (ent_keepO (by decide) rfl) (EntE.cons (Ent.c kr kr) EntE.nil))))⟩, keep0⟩
            · have hc2 : decide (((v27 : Nat) : Int) < ((slices.length : Nat) : Int)) = false := decide_eq_false (by omega)
              refine Awp.cond (t := false) (by rw [← hc2] <;> kernel_rfl) (Awp.exit ?_)
              rw [List.drop_eq_nil_of_le (hl2), m_slices_Concat_string_string_L2.eq_1] at hE2
              subst hE2
              refine Awp.seq ?_
              refine Awp.region tabS_ok ?_
              refine AOps.sq (x := (AV.sl 1 true [])) kr le ?_
              refine AOps.sq (x := (AV.sl 1 true [])) kr le ?_
              refine AOps.done ?_
              refine Awp.ret ?_
              have hM : m_slices_Concat_string_string slices = [] := by simp only [m_slices_Concat_string_string, hR1, z_2, hR2, sbt]
              exact absurd hM hne
          · try dsimp only
            refine Awp.seq ?_
            refine Awp.region tabS_ok ?_
            refine AOps.sq (x := (AV.b (decide (((v27 : Nat) : Int) < ((slices.length : Nat) : Int))))) kr le ?_
            refine AOps.done ?_
            refine Awp.seq ?_
            rcases Nat.lt_or_ge v27 slices.length with hl2 | hl2
            · have hc2 : decide (((v27 : Nat) : Int) < ((slices.length : Nat) : Int)) = true := decide_eq_true (by omega)
              refine Awp.cond (t := true) (by rw [← hc2] <;> kernel_rfl) (Awp.skip ?_)
              obtain ⟨x2, hx2⟩ : ∃ x, slices[v27]? = some x := ⟨_, List.getElem?_eq_getElem hl2⟩
              rw [drop_at hx2, m_slices_Concat_string_string_L2.eq_2] at hE2
              rw [drop_at hx2] at ha
              simp only [List.flatten_cons, List.length_append] at ha
              refine Awp.seq ?_
              refine Awp.block ?_
              refine Awp.seq ?_
              refine Awp.region tabS_ok ?_
              refine AOps.sq (x := (AV.pt ((slA 1 AV.s) x2).cells)) (g_idx (k := 1) (nl := false) (e := 25) (kk := .i64) (A := (slA 1 AV.s)) (xs := slices) (i := v27) kr kr kr ⟨by kernel_rfl, by decide⟩ hx2) le ?_
              refine AOps.sq (x := ((slA 1 AV.s) x2)) kr le ?_
              refine AOps.sq (x := ((slA 1 AV.s) x2)) kr le ?_
              refine AOps.done ?_
              refine Awp.region tabS_ok ?_
              refine AOps.sq (x := (AV.own 0 0 newslice.length)) kr le ?_
              refine AOps.sq (x := ((slA 1 AV.s) x2)) kr le ?_
              refine AOps.se (x := (AV.own 1 0 ((newslice ++ x2).length))) (h' := ⟨2, [(1, some ⟨9, 1, (newslice ++ x2).map AV.s⟩), (0, none)]⟩) (g_appR (len := newslice.length) (e := 9) (X := ((slA 1 AV.s) x2)) (A := AV.s) (i := tI_9) (p := 0) (xs := newslice) (ys := x2) kr kr kr (hx := kr) kr ⟨by decide, by kernel_rfl⟩ rfl rfl (by show _ * 16 ≤ 140737488355328; first | omega | (simp only [List.length_append, List.length_cons, List.length_nil, List.length_set, List.length_replicate]; omega) | (simp; omega)) sd) le ?_
              refine AOps.sq (x := (AV.own 1 0 ((newslice ++ x2).length))) kr le ?_
              refine AOps.done ?_
              refine Awp.region tabS_ok ?_
              refine AOps.sq (x := (AV.i .i64 ((v27 + 1 : Nat) : Int))) (g_addN (i := v27) (m := 1) kr kr sd) le ?_
              refine AOps.sq (x := (AV.i .i64 ((v27 + 1 : Nat) : Int))) kr le ?_
              refine AOps.done ?_
              refine ⟨(true, (newslice ++ x2), v27 + 1), od, ⟨od, (by simp), by (try dsimp only) <;> (first | omega | (simp only [List.length_append]; omega)), hE2⟩, ?_⟩
              exact ⟨[1], ⟨by decide, rfl, (FitsObjs.cons (obj_row (fun _ => rfl) (e := 9) (k := 1) (A := AV.s) (xs := (newslice ++ x2)) rfl rfl) FitsObjs.nil), (EntE.cons (Ent.c kr kr) (EntE.cons (Ent.c kr kr) (EntE.cons (ent_keepO (by decide) rfl) (EntE.cons (Ent.c kr kr) EntE.nil))))⟩, keep0⟩
            · have hc2 : decide (((v27 : Nat) : Int) < ((slices.length : Nat) : Int)) = false := decide_eq_false (by omega)
              refine Awp.cond (t := false) (by rw [← hc2] <;> kernel_rfl) (Awp.exit ?_)
              rw [List.drop_eq_nil_of_le (hl2), m_slices_Concat_string_string_L2.eq_1] at hE2
              subst hE2
              refine Awp.seq ?_
              refine Awp.region tabS_ok ?_
              refine AOps.sq (x := (AV.own 0 0 newslice.length)) kr le ?_
              refine AOps.sq (x := (AV.own 0 0 newslice.length)) kr le ?_
              refine AOps.done ?_
              refine Awp.ret ?_
              have hM : m_slices_Concat_string_string slices = newslice := by simp only [m_slices_Concat_string_string, hR1, z_2, hR2, sbt]
              rw [hM]
              refine ⟨Or.inr rfl, 0, ?_, rfl⟩
              first | rfl | (show AV.own _ _ _ = AV.own _ _ _; congr 1; simp)
      · have hzz_2 : 0 < size := by have := z_2; simp only [ne_eq, List.replicate_eq_nil_iff] at this; omega
        refine AOps.scR (A := AV.s) (xs := (List.replicate size (⟨#[]⟩ : ByteArray))) (vs := [(AV.sl 1 true []), (AV.i .i64 ((size : Nat) : Int))]) kr kr (wo_grow_string W size hzz_2 sd) (fun _ => rfl) le ?_
        refine AOps.sq (x := (AV.own 0 0 0)) kr le ?_
        refine AOps.done ?_
        refine Awp.seq ?_
        refine Awp.seq ?_
        refine Awp.region tabS_ok ?_
        refine AOps.sq (x := ((slA 1 (slA 1 AV.s)) slices)) kr le ?_
        refine AOps.sq (x := (AV.i .i64 ((slices.length : Nat) : Int))) (g_len (k := 1) (nl := false) (e := 25) (A := (slA 1 AV.s)) (xs := slices) kr kr) le ?_
        refine AOps.sq (x := (AV.i .i64 (0 : Int))) kr le ?_
        refine AOps.done ?_
        refine Awp.block ?_
        refine Awp.lim 0 (x := ((slA 1 (slA 1 AV.s)) slices)) kr fun hlm2 => ?_
        have hB2 : slices.length ≤ 281474976710656 := lim_slA hlm2
        obtain ⟨R2, hR2⟩ : ∃ R, m_slices_Concat_string_string_L2 slices 0 ((List.replicate size (⟨#[]⟩ : ByteArray)).take 0) = R := ⟨_, rfl⟩
        refine Awp.loopT (fun ((b_newslice2, newslice2, v272) : Bool × (List ByteArray) × Nat) => [(25, ((slA 1 (slA 1 AV.s)) slices)), (26, (AV.i .i64 ((slices.length : Nat) : Int))), (6, (accW 0 1 AV.s b_newslice2 newslice2)), (27, (AV.i .i64 ((v272 : Nat) : Int)))]) (fun ((b_newslice2, newslice2, v272) : Bool × (List ByteArray) × Nat) => ⟨1, [(0, accWO 9 1 AV.s b_newslice2 newslice2)]⟩) (fun ((b_newslice2, newslice2, v272) : Bool × (List ByteArray) × Nat) => v272 ≤ slices.length ∧ (b_newslice2 = false → newslice2 = []) ∧ newslice2.length + ((slices.drop v272).flatten).length ≤ (slices.flatten).length ∧ m_slices_Concat_string_string_L2 (slices.drop v272) v272 newslice2 = R2) (fun ((b_newslice2, newslice2, v272) : Bool × (List ByteArray) × Nat) => slices.length - v272) (true, ((List.replicate size (⟨#[]⟩ : ByteArray)).take 0), 0) ?_ ?_ ?_
        · exact ⟨[0], ⟨by decide, rfl, (FitsObjs.consW (obj_pre (fun _ => rfl) (fun _ => rfl) (e := 9) (k := 1) (A := AV.s) (xs := (List.replicate size (⟨#[]⟩ : ByteArray))) (ys := ((List.replicate size (⟨#[]⟩ : ByteArray)).take 0)) (take_pre _ _) rfl rfl) FitsObjs.nil), (EntE.cons (Ent.c kr kr) (EntE.cons (Ent.c kr kr) (EntE.cons (ent_keepO (by decide) (by simp)) (EntE.cons (Ent.c kr kr) EntE.nil))))⟩, keep0⟩
        · exact ⟨od, (by simp), by (try dsimp only) <;> (simp), hR2⟩
        · rintro ⟨b_newslice2, newslice2, v272⟩ ⟨hi2, hn_newslice2, ha, hE2⟩
          try dsimp only
          cases b_newslice2
          · have hz_newslice2 := hn_newslice2 rfl
            subst hz_newslice2
            try dsimp only
            refine Awp.seq ?_
            refine Awp.region tabS_ok ?_
            refine AOps.sq (x := (AV.b (decide (((v272 : Nat) : Int) < ((slices.length : Nat) : Int))))) kr le ?_
            refine AOps.done ?_
            refine Awp.seq ?_
            rcases Nat.lt_or_ge v272 slices.length with hl2 | hl2
            · have hc2 : decide (((v272 : Nat) : Int) < ((slices.length : Nat) : Int)) = true := decide_eq_true (by omega)
              refine Awp.cond (t := true) (by rw [← hc2] <;> kernel_rfl) (Awp.skip ?_)
              obtain ⟨x22, hx2⟩ : ∃ x, slices[v272]? = some x := ⟨_, List.getElem?_eq_getElem hl2⟩
              rw [drop_at hx2, m_slices_Concat_string_string_L2.eq_2] at hE2
              rw [drop_at hx2] at ha
              simp only [List.flatten_cons, List.length_append] at ha
              refine Awp.seq ?_
              refine Awp.block ?_
              refine Awp.seq ?_
              refine Awp.region tabS_ok ?_
              refine AOps.sq (x := (AV.pt ((slA 1 AV.s) x22).cells)) (g_idx (k := 1) (nl := false) (e := 25) (kk := .i64) (A := (slA 1 AV.s)) (xs := slices) (i := v272) kr kr kr ⟨by kernel_rfl, by decide⟩ hx2) le ?_
              refine AOps.sq (x := ((slA 1 AV.s) x22)) kr le ?_
              refine AOps.sq (x := ((slA 1 AV.s) x22)) kr le ?_
              refine AOps.done ?_
              refine Awp.region tabS_ok ?_
              refine AOps.sq (x := (AV.sl 1 true [])) kr le ?_
              refine AOps.sq (x := ((slA 1 AV.s) x22)) kr le ?_
              by_cases z_4 : x22 = []
              · refine AOps.se (x := (AV.sl 1 true [])) (h' := ⟨1, [(0, none)]⟩) (g_app0 (e := 9) (X := ((slA 1 AV.s) x22)) (A := AV.s) (i := tI_9) (k := 1) (ys := x22) kr kr kr (hx := kr) rfl z_4 ⟨by decide, by kernel_rfl⟩) le ?_
                refine AOps.sq (x := (AV.sl 1 true [])) kr le ?_
                refine AOps.done ?_
                refine Awp.region tabS_ok ?_
                refine AOps.sq (x := (AV.i .i64 ((v272 + 1 : Nat) : Int))) (g_addN (i := v272) (m := 1) kr kr sd) le ?_
                refine AOps.sq (x := (AV.i .i64 ((v272 + 1 : Nat) : Int))) kr le ?_
                refine AOps.done ?_
                try simp only [z_4, sbt] at hE2
                refine ⟨(false, [], v272 + 1), od, ⟨od, (by simp), by (try dsimp only) <;> (first | omega | (simp only [List.length_append]; omega)), hE2⟩, ?_⟩
                exact ⟨[1000000], ⟨by decide, rfl, (FitsObjs.cons rfl FitsObjs.nil), (EntE.cons (Ent.c kr kr) (EntE.cons (Ent.c kr kr) (EntE.cons (Ent.c kr kr) (EntE.cons (Ent.c kr kr) EntE.nil))))⟩, keep0⟩
              · refine AOps.se (x := (AV.own 1 0 x22.length)) (h' := ⟨2, [(1, some ⟨9, 1, x22.map AV.s⟩), (0, none)]⟩) (g_app1 (e := 9) (X := ((slA 1 AV.s) x22)) (A := AV.s) (i := tI_9) (k := 1) (ys := x22) kr kr kr (hx := kr) rfl z_4 ⟨by decide, by kernel_rfl⟩ (by show _ * 16 ≤ 140737488355328; first | omega | (simp only [List.length_append, List.length_cons, List.length_nil, List.length_set, List.length_replicate]; omega) | (simp; omega)) sd) le ?_
                refine AOps.sq (x := (AV.own 1 0 x22.length)) kr le ?_
                refine AOps.done ?_
                refine Awp.region tabS_ok ?_
                refine AOps.sq (x := (AV.i .i64 ((v272 + 1 : Nat) : Int))) (g_addN (i := v272) (m := 1) kr kr sd) le ?_
                refine AOps.sq (x := (AV.i .i64 ((v272 + 1 : Nat) : Int))) kr le ?_
                refine AOps.done ?_
                refine ⟨(true, x22, v272 + 1), od, ⟨od, (by simp), by (try dsimp only) <;> (first | omega | (simp only [List.length_append]; omega)), hE2⟩, ?_⟩
                exact ⟨[1], ⟨by decide, rfl, (FitsObjs.cons (obj_row (fun _ => rfl) (e := 9) (k := 1) (A := AV.s) (xs := x22) rfl rfl) FitsObjs.nil), (EntE.cons (Ent.c kr kr) (EntE.cons (Ent.c kr kr) (EntE.cons (ent_keepO (by decide) rfl) (EntE.cons (Ent.c kr kr) EntE.nil))))⟩, keep0⟩
            · have hc2 : decide (((v272 : Nat) : Int) < ((slices.length : Nat) : Int)) = false := decide_eq_false (by omega)
              refine Awp.cond (t := false) (by rw [← hc2] <;> kernel_rfl) (Awp.exit ?_)
              rw [List.drop_eq_nil_of_le (hl2), m_slices_Concat_string_string_L2.eq_1] at hE2
              subst hE2
              refine Awp.seq ?_
              refine Awp.region tabS_ok ?_
              refine AOps.sq (x := (AV.sl 1 true [])) kr le ?_
              refine AOps.sq (x := (AV.sl 1 true [])) kr le ?_
              refine AOps.done ?_
              refine Awp.ret ?_
              have hM : m_slices_Concat_string_string slices = [] := by simp only [m_slices_Concat_string_string, hR1, hR2, sbt]
              exact absurd hM hne
          · try dsimp only
            refine Awp.seq ?_
            refine Awp.region tabS_ok ?_
            refine AOps.sq (x := (AV.b (decide (((v272 : Nat) : Int) < ((slices.length : Nat) : Int))))) kr le ?_
            refine AOps.done ?_
            refine Awp.seq ?_
            rcases Nat.lt_or_ge v272 slices.length with hl2 | hl2
            · have hc2 : decide (((v272 : Nat) : Int) < ((slices.length : Nat) : Int)) = true := decide_eq_true (by omega)
              refine Awp.cond (t := true) (by rw [← hc2] <;> kernel_rfl) (Awp.skip ?_)
              obtain ⟨x22, hx2⟩ : ∃ x, slices[v272]? = some x := ⟨_, List.getElem?_eq_getElem hl2⟩
              rw [drop_at hx2, m_slices_Concat_string_string_L2.eq_2] at hE2
              rw [drop_at hx2] at ha
              simp only [List.flatten_cons, List.length_append] at ha
              refine Awp.seq ?_
              refine Awp.block ?_
              refine Awp.seq ?_
              refine Awp.region tabS_ok ?_
              refine AOps.sq (x := (AV.pt ((slA 1 AV.s) x22).cells)) (g_idx (k := 1) (nl := false) (e := 25) (kk := .i64) (A := (slA 1 AV.s)) (xs := slices) (i := v272) kr kr kr ⟨by kernel_rfl, by decide⟩ hx2) le ?_
              refine AOps.sq (x := ((slA 1 AV.s) x22)) kr le ?_
              refine AOps.sq (x := ((slA 1 AV.s) x22)) kr le ?_
              refine AOps.done ?_
              refine Awp.region tabS_ok ?_
              refine AOps.sq (x := (AV.own 0 0 newslice2.length)) kr le ?_
              refine AOps.sq (x := ((slA 1 AV.s) x22)) kr le ?_
              refine AOps.se (x := (AV.own 1 0 ((newslice2 ++ x22).length))) (h' := ⟨2, [(1, some ⟨9, 1, (newslice2 ++ x22).map AV.s⟩), (0, none)]⟩) (g_appR (len := newslice2.length) (e := 9) (X := ((slA 1 AV.s) x22)) (A := AV.s) (i := tI_9) (p := 0) (xs := newslice2) (ys := x22) kr kr kr (hx := kr) kr ⟨by decide, by kernel_rfl⟩ rfl rfl (by show _ * 16 ≤ 140737488355328; first | omega | (simp only [List.length_append, List.length_cons, List.length_nil, List.length_set, List.length_replicate]; omega) | (simp; omega)) sd) le ?_
              refine AOps.sq (x := (AV.own 1 0 ((newslice2 ++ x22).length))) kr le ?_
              refine AOps.done ?_
              refine Awp.region tabS_ok ?_
              refine AOps.sq (x := (AV.i .i64 ((v272 + 1 : Nat) : Int))) (g_addN (i := v272) (m := 1) kr kr sd) le ?_
              refine AOps.sq (x := (AV.i .i64 ((v272 + 1 : Nat) : Int))) kr le ?_
              refine AOps.done ?_
              refine ⟨(true, (newslice2 ++ x22), v272 + 1), od, ⟨od, (by simp), by (try dsimp only) <;> (first | omega | (simp only [List.length_append]; omega)), hE2⟩, ?_⟩
              exact ⟨[1], ⟨by decide, rfl, (FitsObjs.cons (obj_row (fun _ => rfl) (e := 9) (k := 1) (A := AV.s) (xs := (newslice2 ++ x22)) rfl rfl) FitsObjs.nil), (EntE.cons (Ent.c kr kr) (EntE.cons (Ent.c kr kr) (EntE.cons (ent_keepO (by decide) rfl) (EntE.cons (Ent.c kr kr) EntE.nil))))⟩, keep0⟩
            · have hc2 : decide (((v272 : Nat) : Int) < ((slices.length : Nat) : Int)) = false := decide_eq_false (by omega)
              refine Awp.cond (t := false) (by rw [← hc2] <;> kernel_rfl) (Awp.exit ?_)
              rw [List.drop_eq_nil_of_le (hl2), m_slices_Concat_string_string_L2.eq_1] at hE2
              subst hE2
              refine Awp.seq ?_
              refine Awp.region tabS_ok ?_
              refine AOps.sq (x := (AV.own 0 0 newslice2.length)) kr le ?_
              refine AOps.sq (x := (AV.own 0 0 newslice2.length)) kr le ?_
              refine AOps.done ?_
              refine Awp.ret ?_
              have hM : m_slices_Concat_string_string slices = newslice2 := by simp only [m_slices_Concat_string_string, hR1, hR2, sbt]
              rw [hM]
              refine ⟨Or.inr rfl, 0, ?_, rfl⟩
              first | rfl | (show AV.own _ _ _ = AV.own _ _ _; congr 1; simp)

theorem w_order_Needs (W : World) (g : DGraph) (edge : Int) (he : edge.toNat < g.edges.length ∧ 0 ≤ edge) (hz : needsN g edge ≤ 1048576) : PureAt Go.Proofs.Tryd.prog W 47 [(AV.pt (DGraph.av g).cells), (AV.i .i64 edge)] ((slA 1 (AV.i .i64)) (m_order_Needs g edge)) [] := by
  have hfl : ([(g.edges.getD edge.toNat default).ins, (g.edges.getD edge.toNat default).implicit, (g.edges.getD edge.toNat default).order].flatten).length ≤ 1048576 := by have hz' := hz; unfold needsN at hz'; simp only [List.flatten_cons, List.flatten_nil, List.append_nil, List.length_append]; omega
  have hlen : (m_slices_Concat_string_string [(g.edges.getD edge.toNat default).ins, (g.edges.getD edge.toNat default).implicit, (g.edges.getD edge.toNat default).order]).length ≤ 1048576 := by rw [concat_eq]; exact hfl
  refine pure_of_bodyC (fn := Go.Proofs.Tryd.f47) Go.Proofs.Tryd.func47 rfl (en47 W) (ts := [4]) rfl le ?_
  refine Awp.seq ?_
  refine Awp.region tabS_ok ?_
  refine AOps.sq (x := (AV.sl 1 true [])) kr le ?_
  refine AOps.done ?_
  refine Awp.seq ?_
  refine Awp.region tabS_ok ?_
  refine AOps.sq (x := (AV.sl 1 true [])) kr le ?_
  refine AOps.done ?_
  refine Awp.seq ?_
  refine Awp.region tabS_ok ?_
  refine AOps.sq (x := (AV.pt (DGraph.av g).cells)) kr le ?_
  refine AOps.sq (x := (AV.pt (DGraph.av g).cells)) kr le ?_
  refine AOps.sq (x := (AV.pt ((DGraph.av g).cells.drop 0))) kr le ?_
  refine AOps.sq (x := ((slA 7 DEdge.av) g.edges)) kr le ?_
  refine AOps.sq (x := (AV.i .i64 edge)) kr le ?_
  refine AOps.sq (x := (AV.pt (DEdge.av (g.edges.getD edge.toNat default)).cells)) (g_idxI (k := 7) (nl := false) (e := 31) (kk := .i64) (A := DEdge.av) (xs := g.edges) (n := edge) kr kr kr ⟨by kernel_rfl, by decide⟩ sd (getD_some sd)) le ?_
  refine AOps.sq (x := (AV.pt (DEdge.av (g.edges.getD edge.toNat default)).cells)) kr le ?_
  refine AOps.done ?_
  refine Awp.seq ?_
  refine Awp.cut [(0, (AV.pt (DGraph.av g).cells)), (5, (AV.sl 1 true [])), (29, ((slA 1 AV.s) (m_slices_Concat_string_string [(g.edges.getD edge.toNat default).ins, (g.edges.getD edge.toNat default).implicit, (g.edges.getD edge.toNat default).order]))), (30, (AV.i .i64 (((m_slices_Concat_string_string [(g.edges.getD edge.toNat default).ins, (g.edges.getD edge.toNat default).implicit, (g.edges.getD edge.toNat default).order]).length : Nat) : Int))), (31, (AV.i .i64 (0 : Int)))] ⟨0, []⟩ ?_ ?_
  · refine Awp.drawn tabS_ok mixed 16 kr le ?_
    refine AOpsD.sq (x := (AV.pt (DEdge.av (g.edges.getD edge.toNat default)).cells)) kr le ?_
    refine AOpsD.sq (x := (AV.pt (DEdge.av (g.edges.getD edge.toNat default)).cells)) kr le ?_
    refine AOpsD.sq (x := (AV.pt ((DEdge.av (g.edges.getD edge.toNat default)).cells.drop 1))) kr le ?_
    refine AOpsD.sq (x := ((slA 1 AV.s) ((g.edges.getD edge.toNat default).ins))) kr le ?_
    refine AOpsD.sq (x := (AV.pt (DEdge.av (g.edges.getD edge.toNat default)).cells)) kr le ?_
    refine AOpsD.sq (x := (AV.pt (DEdge.av (g.edges.getD edge.toNat default)).cells)) kr le ?_
    refine AOpsD.sq (x := (AV.pt ((DEdge.av (g.edges.getD edge.toNat default)).cells.drop 2))) kr le ?_
    refine AOpsD.sq (x := ((slA 1 AV.s) ((g.edges.getD edge.toNat default).implicit))) kr le ?_
    refine AOpsD.sq (x := (AV.pt (DEdge.av (g.edges.getD edge.toNat default)).cells)) kr le ?_
    refine AOpsD.sq (x := (AV.pt (DEdge.av (g.edges.getD edge.toNat default)).cells)) kr le ?_
    refine AOpsD.sq (x := (AV.pt ((DEdge.av (g.edges.getD edge.toNat default)).cells.drop 3))) kr le ?_
    refine AOpsD.sq (x := ((slA 1 AV.s) ((g.edges.getD edge.toNat default).order))) kr le ?_
    refine AOpsD.sn (x := (AV.own 0 0 3)) (h' := ⟨1, [(0, some ⟨25, 1, [(g.edges.getD edge.toNat default).ins, (g.edges.getD edge.toNat default).implicit, (g.edges.getD edge.toNat default).order].map (slA 1 AV.s)⟩)]⟩) kr le ?_
    by_cases z_1 : (m_slices_Concat_string_string [(g.edges.getD edge.toNat default).ins, (g.edges.getD edge.toNat default).implicit, (g.edges.getD edge.toNat default).order]) = []
    · refine AOpsD.sfw (vs := [(AV.own 0 0 3)]) (ss := [((slA 1 (slA 1 AV.s)) [(g.edges.getD edge.toNat default).ins, (g.edges.getD edge.toNat default).implicit, (g.edges.getD edge.toNat default).order])]) (r0 := ((slA 1 AV.s) [])) kr (show SnapW _ _ _ from ⟨(EntK.w (EntK.cast (x' := (AV.own 0 0 3)) kr kr (EntK.row (fun _ => rfl) (A := (slA 1 AV.s)) (id := 0) (e := 25) (k := 1) (xs := [(g.edges.getD edge.toNat default).ins, (g.edges.getD edge.toNat default).implicit, (g.edges.getD edge.toNat default).order]) rfl rfl sd sd))), trivial⟩) (by rw [← show (m_slices_Concat_string_string [(g.edges.getD edge.toNat default).ins, (g.edges.getD edge.toNat default).implicit, (g.edges.getD edge.toNat default).order]) = [] from z_1]; exact (w_slices_Concat_string_string W [(g.edges.getD edge.toNat default).ins, (g.edges.getD edge.toNat default).implicit, (g.edges.getD edge.toNat default).order] hfl)) rfl kr le ?_
      refine AOpsD.sq (x := (AV.i .i64 (([].length : Nat) : Int))) (g_len (k := 1) (nl := false) (e := 9) (A := AV.s) (xs := []) kr kr) le ?_
      refine AOpsD.sq (x := (AV.i .i64 (0 : Int))) kr le ?_
      refine AOpsD.fin ?_
      rw [z_1]
      exact ⟨[], ⟨by decide, rfl, FitsObjs.nil, (EntE.cons (Ent.c kr kr) (EntE.cons (Ent.c kr kr) (EntE.cons (Ent.c kr kr) (EntE.cons (Ent.c kr kr) (EntE.cons (Ent.c kr kr) EntE.nil)))))⟩, keep0⟩
    · refine AOpsD.sfR (A := AV.s) (xs := (m_slices_Concat_string_string [(g.edges.getD edge.toNat default).ins, (g.edges.getD edge.toNat default).implicit, (g.edges.getD edge.toNat default).order])) (vs := [(AV.own 0 0 3)]) (ss := [((slA 1 (slA 1 AV.s)) [(g.edges.getD edge.toNat default).ins, (g.edges.getD edge.toNat default).implicit, (g.edges.getD edge.toNat default).order])]) kr (show SnapW _ _ _ from ⟨(EntK.w (EntK.cast (x' := (AV.own 0 0 3)) kr kr (EntK.row (fun _ => rfl) (A := (slA 1 AV.s)) (id := 0) (e := 25) (k := 1) (xs := [(g.edges.getD edge.toNat default).ins, (g.edges.getD edge.toNat default).implicit, (g.edges.getD edge.toNat default).order]) rfl rfl sd sd))), trivial⟩) (wo_slices_Concat_string_string W [(g.edges.getD edge.toNat default).ins, (g.edges.getD edge.toNat default).implicit, (g.edges.getD edge.toNat default).order] hfl z_1) (fun _ => rfl) (fun _ => rfl) le ?_
      refine AOpsD.sq (x := (AV.i .i64 (((m_slices_Concat_string_string [(g.edges.getD edge.toNat default).ins, (g.edges.getD edge.toNat default).implicit, (g.edges.getD edge.toNat default).order]).length : Nat) : Int))) kr le ?_
      refine AOpsD.sq (x := (AV.i .i64 (0 : Int))) kr le ?_
      refine AOpsD.fin ?_
      exact ⟨[], ⟨by decide, rfl, FitsObjs.nil, (EntE.cons (Ent.c kr kr) (EntE.cons (Ent.c kr kr) (EntE.cons (EntD.kk (x' := (AV.own 1 0 ((m_slices_Concat_string_string [(g.edges.getD edge.toNat default).ins, (g.edges.getD edge.toNat default).implicit, (g.edges.getD edge.toNat default).order]).length))) kr kr rfl (EntK.row (fun _ => rfl) (A := AV.s) (id := 1) (e := 9) (k := 1) (xs := (m_slices_Concat_string_string [(g.edges.getD edge.toNat default).ins, (g.edges.getD edge.toNat default).implicit, (g.edges.getD edge.toNat default).order])) rfl rfl rfl sd)) (EntE.cons (Ent.c kr kr) (EntE.cons (Ent.c kr kr) EntE.nil)))))⟩, keep0⟩
  · refine Awp.block ?_
    refine Awp.lim 29 (x := ((slA 1 AV.s) (m_slices_Concat_string_string [(g.edges.getD edge.toNat default).ins, (g.edges.getD edge.toNat default).implicit, (g.edges.getD edge.toNat default).order]))) kr fun hlm1 => ?_
    have hB1 : (m_slices_Concat_string_string [(g.edges.getD edge.toNat default).ins, (g.edges.getD edge.toNat default).implicit, (g.edges.getD edge.toNat default).order]).length ≤ 281474976710656 := lim_slA hlm1
    obtain ⟨R1, hR1⟩ : ∃ R, m_order_Needs_L1 g (m_slices_Concat_string_string [(g.edges.getD edge.toNat default).ins, (g.edges.getD edge.toNat default).implicit, (g.edges.getD edge.toNat default).order]) 0 [] = R := ⟨_, rfl⟩
    refine Awp.loopT (fun ((out, v31) : (List Int) × Nat) => [(0, (AV.pt (DGraph.av g).cells)), (29, ((slA 1 AV.s) (m_slices_Concat_string_string [(g.edges.getD edge.toNat default).ins, (g.edges.getD edge.toNat default).implicit, (g.edges.getD edge.toNat default).order]))), (30, (AV.i .i64 (((m_slices_Concat_string_string [(g.edges.getD edge.toNat default).ins, (g.edges.getD edge.toNat default).implicit, (g.edges.getD edge.toNat default).order]).length : Nat) : Int))), (5, (accV 0 1 (AV.i .i64) out)), (31, (AV.i .i64 ((v31 : Nat) : Int)))]) (fun ((out, v31) : (List Int) × Nat) => ⟨1, [(0, accO 3 1 (AV.i .i64) out)]⟩) (fun ((out, v31) : (List Int) × Nat) => v31 ≤ (m_slices_Concat_string_string [(g.edges.getD edge.toNat default).ins, (g.edges.getD edge.toNat default).implicit, (g.edges.getD edge.toNat default).order]).length ∧ out.length ≤ v31 ∧ m_order_Needs_L1 g ((m_slices_Concat_string_string [(g.edges.getD edge.toNat default).ins, (g.edges.getD edge.toNat default).implicit, (g.edges.getD edge.toNat default).order]).drop v31) v31 out = R1) (fun ((out, v31) : (List Int) × Nat) => (m_slices_Concat_string_string [(g.edges.getD edge.toNat default).ins, (g.edges.getD edge.toNat default).implicit, (g.edges.getD edge.toNat default).order]).length - v31) ([], 0) ?_ ?_ ?_
    · exact ⟨[1000000], ⟨by decide, rfl, (FitsObjs.cons rfl FitsObjs.nil), (EntE.cons (Ent.c kr kr) (EntE.cons (Ent.c kr kr) (EntE.cons (Ent.c kr kr) (EntE.cons (Ent.c kr kr) (EntE.cons (Ent.c kr kr) EntE.nil)))))⟩, keep0⟩
    · exact ⟨od, sdd, hR1⟩
    · rintro ⟨out, v31⟩ ⟨hi1, hl, hE1⟩
      try dsimp only
      refine Awp.seq ?_
      refine Awp.region tabS_ok ?_
      refine AOps.sq (x := (AV.b (decide (((v31 : Nat) : Int) < (((m_slices_Concat_string_string [(g.edges.getD edge.toNat default).ins, (g.edges.getD edge.toNat default).implicit, (g.edges.getD edge.toNat default).order]).length : Nat) : Int))))) kr le ?_
      refine AOps.done ?_
      refine Awp.seq ?_
      rcases Nat.lt_or_ge v31 (m_slices_Concat_string_string [(g.edges.getD edge.toNat default).ins, (g.edges.getD edge.toNat default).implicit, (g.edges.getD edge.toNat default).order]).length with hl1 | hl1
      · have hc1 : decide (((v31 : Nat) : Int) < (((m_slices_Concat_string_string [(g.edges.getD edge.toNat default).ins, (g.edges.getD edge.toNat default).implicit, (g.edges.getD edge.toNat default).order]).length : Nat) : Int)) = true := decide_eq_true (by omega)
        refine Awp.cond (t := true) (by rw [← hc1] <;> kernel_rfl) (Awp.skip ?_)
        obtain ⟨x1, hx1⟩ : ∃ x, (m_slices_Concat_string_string [(g.edges.getD edge.toNat default).ins, (g.edges.getD edge.toNat default).implicit, (g.edges.getD edge.toNat default).order])[v31]? = some x := ⟨_, List.getElem?_eq_getElem hl1⟩
        rw [drop_at hx1, m_order_Needs_L1.eq_2] at hE1
        refine Awp.seq ?_
        refine Awp.block ?_
        refine Awp.seq ?_
        refine Awp.region tabS_ok ?_
        refine AOps.sq (x := (AV.pt (AV.s x1).cells)) (g_idx (k := 1) (nl := false) (e := 9) (kk := .i64) (A := AV.s) (xs := (m_slices_Concat_string_string [(g.edges.getD edge.toNat default).ins, (g.edges.getD edge.toNat default).implicit, (g.edges.getD edge.toNat default).order])) (i := v31) kr kr kr ⟨by kernel_rfl, by decide⟩ hx1) le ?_
        refine AOps.sq (x := (AV.s x1)) kr le ?_
        refine AOps.sq (x := (AV.s x1)) kr le ?_
        refine AOps.done ?_
        refine Awp.seq ?_
        refine Awp.region tabS_ok ?_
        refine AOps.sq (x := (AV.pt (DGraph.av g).cells)) kr le ?_
        refine AOps.sq (x := (AV.s x1)) kr le ?_
        refine AOps.sc0 (vs := [(AV.pt (DGraph.av g).cells), (AV.s x1)]) (r0 := (AV.i .i64 (m_graph_Makes g x1))) kr kr (w_graph_Makes W g x1) kr le ?_
        refine AOps.sq (x := (AV.i .i64 (m_graph_Makes g x1))) kr le ?_
        refine AOps.done ?_
        refine Awp.seq ?_
        refine Awp.region tabS_ok ?_
        refine AOps.sq (x := (AV.i .i64 (m_graph_Makes g x1))) kr le ?_
        refine AOps.sq (x := (AV.b (decide ((0 : Int) ≤ (m_graph_Makes g x1))))) kr le ?_
        refine AOps.sq (x := (AV.b (decide ((0 : Int) ≤ (m_graph_Makes g x1))))) kr le ?_
        cases c_2 : decide ((0 : Int) ≤ (m_graph_Makes g x1))
        · have k_2 : ¬ ((0 : Int) ≤ (m_graph_Makes g x1)) := of_decide_eq_false c_2
          refine AOps.sgn rfl rfl kr rfl le ?_
          refine AOps.sgn rfl rfl kr rfl le ?_
          refine AOps.sgn rfl rfl kr rfl le ?_
          refine AOps.sgn rfl rfl kr rfl le ?_
          refine AOps.sq (x := (AV.b false)) kr le ?_
          refine AOps.done ?_
          refine Awp.cond (t := false) kr ?_
          refine Awp.skip ?_
          refine Awp.region tabS_ok ?_
          refine AOps.sq (x := (AV.i .i64 ((v31 + 1 : Nat) : Int))) (g_addN (i := v31) (m := 1) kr kr sd) le ?_
          refine AOps.sq (x := (AV.i .i64 ((v31 + 1 : Nat) : Int))) kr le ?_
          refine AOps.done ?_
          try simp only [c_2, sbt] at hE1
          refine ⟨(out, v31 + 1), od, ⟨od, sdd, hE1⟩, ?_⟩
          exact ⟨[0], ⟨by decide, rfl, (FitsObjs.cons (obj_acc (fun _ => rfl) (e := 3) (k := 1) (A := (AV.i .i64)) (xs := out) rfl rfl) FitsObjs.nil), (EntE.cons (Ent.c kr kr) (EntE.cons (Ent.c kr kr) (EntE.cons (Ent.c kr kr) (EntE.cons (ent_keepA (by decide)) (EntE.cons (Ent.c kr kr) EntE.nil)))))⟩, keep0⟩
        · have k_2 : ((0 : Int) ≤ (m_graph_Makes g x1)) := of_decide_eq_true c_2
          refine AOps.sgy rfl rfl kr rfl ?_
          refine AOps.sq (x := (accV 0 1 (AV.i .i64) out)) kr le ?_
          refine AOps.sgy rfl rfl kr rfl ?_
          refine AOps.sq (x := (AV.i .i64 (m_graph_Makes g x1))) kr le ?_
          refine AOps.sgy rfl rfl kr rfl ?_
          refine AOps.sfw (vs := [(accV 0 1 (AV.i .i64) out), (AV.i .i64 (m_graph_Makes g x1))]) (ss := [((slA 1 (AV.i .i64)) out), (AV.i .i64 (m_graph_Makes g x1))]) (r0 := (AV.b (m_slices_Contains_int_int out (m_graph_Makes g x1)))) kr (show SnapW _ _ _ from ⟨(EntK.w (EntK.cast (x' := (accV 0 1 (AV.i .i64) out)) kr kr (EntK.acc (fun _ => rfl) (A := (AV.i .i64)) (e := 3) (k := 1) (id := 0) (xs := out) rfl rfl sd))), ⟨(SnapW.e kr), trivial⟩⟩) (w_slices_Contains_int_int W out (m_graph_Makes g x1)) rfl kr le ?_
          refine AOps.sgy rfl rfl kr rfl ?_
          refine AOps.sq (x := (AV.b (!(m_slices_Contains_int_int out (m_graph_Makes g x1))))) kr le ?_
          refine AOps.sq (x := (AV.b (!(m_slices_Contains_int_int out (m_graph_Makes g x1))))) kr le ?_
          refine AOps.done ?_
          cases c_3 : (!(m_slices_Contains_int_int out (m_graph_Makes g x1)))
          · refine Awp.cond (t := false) kr ?_
            refine Awp.skip ?_
            refine Awp.region tabS_ok ?_
            refine AOps.sq (x := (AV.i .i64 ((v31 + 1 : Nat) : Int))) (g_addN (i := v31) (m := 1) kr kr sd) le ?_
            refine AOps.sq (x := (AV.i .i64 ((v31 + 1 : Nat) : Int))) kr le ?_
            refine AOps.done ?_
            try simp only [c_2, c_3, sbt] at hE1
            refine ⟨(out, v31 + 1), od, ⟨od, sdd, hE1⟩, ?_⟩
            exact ⟨[0], ⟨by decide, rfl, (FitsObjs.cons (obj_acc (fun _ => rfl) (e := 3) (k := 1) (A := (AV.i .i64)) (xs := out) rfl rfl) FitsObjs.nil), (EntE.cons (Ent.c kr kr) (EntE.cons (Ent.c kr kr) (EntE.cons (Ent.c kr kr) (EntE.cons (ent_keepA (by decide)) (EntE.cons (Ent.c kr kr) EntE.nil)))))⟩, keep0⟩
          · refine Awp.cond (t := true) kr ?_
            refine Awp.region tabS_ok ?_
            refine AOps.sq (x := (accV 0 1 (AV.i .i64) out)) kr le ?_
            refine AOps.sq (x := (AV.i .i64 (m_graph_Makes g x1))) kr le ?_
            refine AOps.sn (x := (AV.own 1 0 1)) (h' := ⟨2, [(1, some ⟨3, 1, [(m_graph_Makes g x1)].map (AV.i .i64)⟩), (0, accO 3 1 (AV.i .i64) out)]⟩) kr le ?_
            refine AOps.se (x := (AV.own 2 0 ((out ++ [(m_graph_Makes g x1)]).length))) (h' := ⟨3, [(2, some ⟨3, 1, (out ++ [(m_graph_Makes g x1)]).map (AV.i .i64)⟩), (1, some ⟨3, 1, [(m_graph_Makes g x1)].map (AV.i .i64)⟩), (0, none)]⟩) (g_app (e := 3) (X := (AV.own 1 0 1)) (A := (AV.i .i64)) (i := tI_3) (p := 0) (xs := out) (ys := [(m_graph_Makes g x1)]) kr kr kr (hx := kr) kr (by simp) ⟨by decide, by kernel_rfl⟩ rfl (by intro q; first | (subst q; rfl) | (rw [q]; rfl) | (simp only [q]; rfl)) (by show _ * 8 ≤ 140737488355328; first | omega | (simp only [List.length_append, List.length_cons, List.length_nil, List.length_set, List.length_replicate]; omega) | (simp; omega)) sd) le ?_
            refine AOps.sq (x := (AV.own 2 0 ((out ++ [(m_graph_Makes g x1)]).length))) kr le ?_
            refine AOps.done ?_
            refine Awp.region tabS_ok ?_
            refine AOps.sq (x := (AV.i .i64 ((v31 + 1 : Nat) : Int))) (g_addN (i := v31) (m := 1) kr kr sd) le ?_
            refine AOps.sq (x := (AV.i .i64 ((v31 + 1 : Nat) : Int))) kr le ?_
            refine AOps.done ?_
            try simp only [c_2, c_3, sbt] at hE1
            refine ⟨((out ++ [(m_graph_Makes g x1)]), v31 + 1), od, ⟨od, sdd, hE1⟩, ?_⟩
            exact ⟨[2], ⟨by decide, rfl, (FitsObjs.cons (obj_acc' (fun _ => rfl) (e := 3) (k := 1) (A := (AV.i .i64)) (xs := (out ++ [(m_graph_Makes g x1)])) (by simp) rfl rfl) FitsObjs.nil), (EntE.cons (Ent.c kr kr) (EntE.cons (Ent.c kr kr) (EntE.cons (Ent.c kr kr) (EntE.cons (ent_keep (A := (AV.i .i64)) (xs := (out ++ [(m_graph_Makes g x1)])) (by decide) (by simp) rfl) (EntE.cons (Ent.c kr kr) EntE.nil)))))⟩, keep0⟩
      · have hc1 : decide (((v31 : Nat) : Int) < (((m_slices_Concat_string_string [(g.edges.getD edge.toNat default).ins, (g.edges.getD edge.toNat default).implicit, (g.edges.getD edge.toNat default).order]).length : Nat) : Int)) = false := decide_eq_false (by omega)
        refine Awp.cond (t := false) (by rw [← hc1] <;> kernel_rfl) (Awp.exit ?_)
        rw [List.drop_eq_nil_of_le (hl1), m_order_Needs_L1.eq_1] at hE1
        subst hE1
        refine Awp.seq ?_
        refine Awp.region tabS_ok ?_
        refine AOps.sq (x := (accV 0 1 (AV.i .i64) out)) kr le ?_
        refine AOps.sq (x := (accV 0 1 (AV.i .i64) out)) kr le ?_
        refine AOps.done ?_
        refine Awp.ret ?_
        have hM : m_order_Needs g edge = out := by simp only [m_order_Needs, hR1, sbt]
        refine ⟨Or.inr rfl, ?_⟩
        rw [hM]
        exact Ent.cast (x' := (accV 0 1 (AV.i .i64) out)) (y' := ((slA 1 (AV.i .i64)) out)) kr kr (Ent.cast (x' := (accV 0 1 (AV.i .i64) out)) (y' := slA 1 (AV.i .i64) out) kr kr (ent_acc (fun _ => rfl) (by decide) (by decide) (e := 3) (k := 1) rfl sd))

theorem w_order_Of_1 (W : World) (edge : Int) (out : List Int) : PureAt Go.Proofs.Tryd.prog W 48 [(AV.i .i64 edge), (AV.pt ((slA 1 (AV.i .i64)) out).cells)] (AV.b (m_order_Of_1 edge out)) [] := by
  refine pure_of_bodyC (fn := Go.Proofs.Tryd.f48) Go.Proofs.Tryd.func48 rfl (en48 W) (ts := [3]) rfl le ?_
  refine Awp.seq ?_
  refine Awp.region tabS_ok ?_
  refine AOps.sq (x := (AV.b false)) kr le ?_
  refine AOps.done ?_
  refine Awp.seq ?_
  refine Awp.region tabS_ok ?_
  refine AOps.sq (x := ((slA 1 (AV.i .i64)) out)) kr le ?_
  refine AOps.sq (x := (AV.i .i64 edge)) kr le ?_
  refine AOps.sc0 (vs := [((slA 1 (AV.i .i64)) out), (AV.i .i64 edge)]) (r0 := (AV.b (m_slices_Contains_int_int out edge))) kr kr (w_slices_Contains_int_int W out edge) kr le ?_
  refine AOps.sq (x := (AV.b (m_slices_Contains_int_int out edge))) kr le ?_
  refine AOps.done ?_
  refine Awp.ret ?_
  have hM : m_order_Of_1 edge out = (m_slices_Contains_int_int out edge) := by simp only [m_order_Of_1, sbt]
  refine ⟨Or.inr rfl, ?_⟩
  rw [hM]
  exact Ent.cast (x' := (AV.b (m_slices_Contains_int_int out edge))) (y' := (AV.b (m_slices_Contains_int_int out edge))) kr kr (Ent.c kr kr)

theorem w_order_Of_2 (W : World) (edge : Int) (f_told : FuncId) (c_told : List AV) (told : Int → Bool) (hcl_told : closedL c_told = true) (hp_told : ∀ (z0 : Int), PureAt Go.Proofs.Tryd.prog W f_told ((AV.i .i64 z0) :: c_told) (AV.b (told z0)) []) : PureAt Go.Proofs.Tryd.prog W 50 [(AV.i .i64 edge), (AV.pt [(AV.fn f_told c_told)])] (AV.b (m_order_Of_2 edge told)) [] := by
  refine pure_of_bodyC (fn := Go.Proofs.Tryd.f50) Go.Proofs.Tryd.func50 rfl (en50 W) (ts := [3]) rfl le ?_
  refine Awp.seq ?_
  refine Awp.region tabS_ok ?_
  refine AOps.sq (x := (AV.b false)) kr le ?_
  refine AOps.done ?_
  refine Awp.seq ?_
  refine Awp.region tabS_ok ?_
  refine AOps.sq (x := (AV.fn f_told c_told)) kr le ?_
  refine AOps.sq (x := (AV.i .i64 edge)) kr le ?_
  refine AOps.sc0 (vs := ((AV.i .i64 edge) :: c_told)) (r0 := (AV.b (told edge))) kr (by simp only [closedL, Bool.and_eq_true]; exact ⟨by kernel_rfl, hcl_told⟩) (hp_told edge) kr le ?_
  refine AOps.sq (x := (AV.b (!(told edge)))) kr le ?_
  refine AOps.sq (x := (AV.b (!(told edge)))) kr le ?_
  refine AOps.done ?_
  refine Awp.ret ?_
  have hM : m_order_Of_2 edge told = (!(told edge)) := by simp only [m_order_Of_2, sbt]
  refine ⟨Or.inr rfl, ?_⟩
  rw [hM]
  exact Ent.cast (x' := (AV.b (!(told edge)))) (y' := (AV.b (!(told edge)))) kr kr (Ent.c kr kr)

theorem w_order_Of (W : World) {m0 : Int} (hW : W.cell? ⟨0, 0, none⟩ = some (.int .i64 m0)) (g : DGraph) (hz0 : g.sz ≤ 1048576) : PureAt Go.Proofs.Tryd.prog W 24 [(DGraph.av g)] (AV.tup [((slA 1 (AV.i .i64)) ((m_order_Of g).1)), (AV.i .i64 ((m_order_Of g).2))]) [] := by
  have hz : ∀ i, needsN g i ≤ 1048576 := fun i => Nat.le_trans (needsN_sz g i) hz0
  have hzo : outsN g.edges ≤ 1048576 := Nat.le_trans (outsN_sz g) hz0
  refine pure_of_bodyC (fn := Go.Proofs.Tryd.f24) Go.Proofs.Tryd.func24 rfl (en24 W) (ts := [2, 3]) rfl le ?_
  refine Awp.seq ?_
  refine Awp.region tabS_ok ?_
  refine AOps.sn (x := (AV.loc 0 0 0)) (h' := ⟨1, [(0, some ⟨27, 3, [(DGraph.av g)]⟩)]⟩) kr le ?_
  refine AOps.sq (x := (AV.sl 1 true [])) kr le ?_
  refine AOps.sq (x := (AV.i .i64 (0 : Int))) kr le ?_
  refine AOps.done ?_
  refine Awp.fitsW [] (env' := [(0, (DGraph.av g)), (1, (AV.pt (DGraph.av g).cells)), (2, (AV.sl 1 true [])), (3, (AV.i .i64 (0 : Int)))]) (h' := ⟨0, []⟩) ⟨by decide, rfl, FitsObjs.nil, (EntE.cons (Ent.c kr kr) (EntE.cons (EntD.kk (x' := (AV.loc 0 0 0)) kr kr rfl (EntK.loc (id := 0) (j := 0) (o := 0) (ob := ⟨27, 3, [(DGraph.av g)]⟩) (x := (DGraph.av g)) rfl rfl rfl (EntKs.cons (EntK.cr (x := ((slA 7 DEdge.av) g.edges)) kr) (EntKs.cons (EntK.cr (x := ((slA 2 DPool.av) g.pools)) kr) (EntKs.cons (EntK.cr (x := ((slA 1 AV.s) g.defaults)) kr) EntKs.nil))))) (EntE.cons (Ent.c kr kr) (EntE.cons (Ent.c kr kr) EntE.nil))))⟩ keep0 ?_
  refine Awp.scopeN ?_
  refine Awp.seq ?_
  refine Awp.seq ?_
  refine Awp.region tabS_ok ?_
  refine AOps.sq (x := (DGraph.av g)) kr le ?_
  refine AOps.sc0 (vs := [(DGraph.av g)]) (r0 := (AV.i .i64 (m_graph_Check g))) kr kr (w_graph_Check W hW g) kr le ?_
  refine AOps.sq (x := (AV.b (!decide ((m_graph_Check g) = (0 : Int))))) kr le ?_
  refine AOps.done ?_
  cases c_1 : (!decide ((m_graph_Check g) = (0 : Int)))
  · have k_1 : ((m_graph_Check g) = (0 : Int)) := of_decide_eq_true (by simpa using c_1)
    have q_1 := check_len c_1
    refine Awp.cond (t := false) kr ?_
    refine Awp.skip ?_
    refine Awp.seq ?_
    refine Awp.region tabS_ok ?_
    refine AOps.sn (x := (AV.loc 0 0 0)) (h' := ⟨1, [(0, some ⟨46, 1, [(AV.sl 1 true [])]⟩)]⟩) kr le ?_
    refine AOps.done ?_
    refine Awp.seq ?_
    refine Awp.region tabS_ok ?_
    refine AOps.sq (x := (AV.pt ((DGraph.av g).cells.drop 0))) kr le ?_
    refine AOps.sq (x := ((slA 7 DEdge.av) g.edges)) kr le ?_
    refine AOps.sq (x := (AV.i .i64 ((g.edges.length : Nat) : Int))) (g_len (k := 7) (nl := false) (e := 31) (A := DEdge.av) (xs := g.edges) kr kr) le ?_
    refine AOps.sn (x := (AV.own 1 0 g.edges.length)) (h' := ⟨2, [(1, some ⟨46, 1, (List.replicate g.edges.length ([] : List Int)).map (fun (_ : List Int) => AV.sl 1 true [])⟩), (0, some ⟨46, 1, [(AV.sl 1 true [])]⟩)]⟩) (g_make (e := 46) (i := tI_46) (A := (fun (_ : List Int) => AV.sl 1 true [])) (z := ([] : List Int)) (n := g.edges.length) kr kr kr kr ⟨by decide, by kernel_rfl⟩ kr (by show _ * 24 ≤ 140737488355328; first | omega | (simp only [List.length_append, List.length_cons, List.length_nil, List.length_set, List.length_replicate]; omega) | (simp; omega)) sd) le ?_
    refine AOps.sq (x := (AV.own 1 0 g.edges.length)) kr le ?_
    refine AOps.done ?_
    refine Awp.seq ?_
    refine Awp.seq ?_
    refine Awp.region tabS_ok ?_
    refine AOps.sq (x := (AV.own 1 0 g.edges.length)) kr le ?_
    refine AOps.sq (x := (AV.i .i64 ((g.edges.length : Nat) : Int))) kr le ?_
    refine AOps.sq (x := (AV.i .i64 (0 : Int))) kr le ?_
    refine AOps.done ?_
    refine Awp.block ?_
    have hB1 : g.edges.length ≤ 281474976710656 := by first | omega | (simp; done) | (simp; omega)
    obtain ⟨R1, hR1⟩ : ∃ R, m_order_Of_L1 g (List.replicate g.edges.length ([] : List Int)) 0 (List.replicate g.edges.length ([] : List Int)) = R := ⟨_, rfl⟩
    refine Awp.loopT (fun ((v20, row) : Nat × (List (List Int))) => [(1, (AV.pt (DGraph.av g).cells)), (4, (AV.loc 0 0 0)), (5, (AV.own 1 0 g.edges.length)), (19, (AV.i .i64 ((g.edges.length : Nat) : Int))), (20, (AV.i .i64 ((v20 : Nat) : Int)))]) (fun ((v20, row) : Nat × (List (List Int))) => ⟨2, [(0, some ⟨46, 1, [(AV.sl 1 true [])]⟩), (1, some ⟨46, 1, row.map (slA 1 (AV.i .i64))⟩)]⟩) (fun ((v20, row) : Nat × (List (List Int))) => v20 ≤ g.edges.length ∧ row.length = g.edges.length ∧ m_order_Of_L1 g ((List.replicate g.edges.length ([] : List Int)).drop v20) v20 row = R1) (fun ((v20, row) : Nat × (List (List Int))) => g.edges.length - v20) (0, (List.replicate g.edges.length ([] : List Int))) ?_ ?_ ?_
    · exact ⟨[0, 1], ⟨by decide, rfl, (FitsObjs.cons kr (FitsObjs.consW (obj_nils rfl rfl) FitsObjs.nil)), (EntE.cons (Ent.c kr kr) (EntE.cons (Ent.f kr) (EntE.cons (Ent.f kr) (EntE.cons (Ent.c kr kr) (EntE.cons (Ent.c kr kr) EntE.nil)))))⟩, keep0⟩
    · exact ⟨od, sdd, hR1⟩
    · rintro ⟨v20, row⟩ ⟨hi1, hr, hE1⟩
      try dsimp only
      refine Awp.seq ?_
      refine Awp.region tabS_ok ?_
      refine AOps.sq (x := (AV.b (decide (((v20 : Nat) : Int) < ((g.edges.length : Nat) : Int))))) kr le ?_
      refine AOps.done ?_
      refine Awp.seq ?_
      rcases Nat.lt_or_ge v20 g.edges.length with hl1 | hl1
      · have hc1 : decide (((v20 : Nat) : Int) < ((g.edges.length : Nat) : Int)) = true := decide_eq_true (by omega)
        refine Awp.cond (t := true) (by rw [← hc1] <;> kernel_rfl) (Awp.skip ?_)
        obtain ⟨x1, hx1⟩ : ∃ x, (List.replicate g.edges.length ([] : List Int))[v20]? = some x := ⟨_, List.getElem?_eq_getElem (by first | (simpa using hl1) | omega)⟩
        rw [drop_at hx1, m_order_Of_L1.eq_2] at hE1
        refine Awp.seq ?_
        refine Awp.block ?_
        refine Awp.seq ?_
        refine Awp.region tabS_ok ?_
        refine AOps.sq (x := (AV.i .i64 ((v20 : Nat) : Int))) kr le ?_
        refine AOps.sq (x := (AV.i .i64 ((v20 : Nat) : Int))) kr le ?_
        refine AOps.done ?_
        refine Awp.region tabS_ok ?_
        refine AOps.sq (x := (AV.own 1 0 g.edges.length)) kr le ?_
        refine AOps.sq (x := (AV.i .i64 ((v20 : Nat) : Int))) kr le ?_
        refine AOps.sq (x := (AV.i .i64 ((v20 : Nat) : Int))) kr le ?_
        refine AOps.sc0 (vs := [(AV.pt (DGraph.av g).cells), (AV.i .i64 ((v20 : Nat) : Int))]) (r0 := ((slA 1 (AV.i .i64)) (m_order_Needs g ((v20 : Nat) : Int)))) kr kr (w_order_Needs W g ((v20 : Nat) : Int) ⟨by simp; omega, by omega⟩ (hz _)) kr le ?_
        refine AOps.sq (x := (AV.loc 1 v20 0)) (g_oidx (e := 46) (id := 1) (len := g.edges.length) (kk := .i64) (ob := ⟨46, 1, row.map (slA 1 (AV.i .i64))⟩) (i := v20) kr kr kr rfl kr sd) le ?_
        refine AOps.st (x := AV.und) (h' := ⟨2, [(0, some ⟨46, 1, [(AV.sl 1 true [])]⟩), (1, some ⟨46, 1, (row.set v20 (m_order_Needs g ((v20 : Nat) : Int))).map (slA 1 (AV.i .i64))⟩)]⟩) (g_set (e := 46) (k := 1) (i := tI_46) (id := 1) (A := (slA 1 (AV.i .i64))) (xs := row) (y := (m_order_Needs g ((v20 : Nat) : Int))) (j := v20) kr kr kr rfl sd (fun _ => rfl) kr (fun _ => rfl) (fun _ => rfl)) ?_
        refine AOps.done ?_
        refine Awp.region tabS_ok ?_
        refine AOps.sq (x := (AV.i .i64 ((v20 + 1 : Nat) : Int))) (g_addN (i := v20) (m := 1) kr kr sd) le ?_
        refine AOps.sq (x := (AV.i .i64 ((v20 + 1 : Nat) : Int))) kr le ?_
        refine AOps.done ?_
        refine ⟨(v20 + 1, (row.set v20 (m_order_Needs g ((v20 : Nat) : Int)))), od, ⟨od, sdd, hE1⟩, ?_⟩
        exact ⟨[0, 1], ⟨by decide, rfl, (FitsObjs.cons kr (FitsObjs.cons (obj_row (fun _ => rfl) (e := 46) (k := 1) (A := (slA 1 (AV.i .i64))) (xs := (row.set v20 (m_order_Needs g ((v20 : Nat) : Int)))) rfl rfl) FitsObjs.nil)), (EntE.cons (Ent.c kr kr) (EntE.cons (Ent.f kr) (EntE.cons (Ent.f kr) (EntE.cons (Ent.c kr kr) (EntE.cons (Ent.c kr kr) EntE.nil)))))⟩, keep0⟩
      · have hc1 : decide (((v20 : Nat) : Int) < ((g.edges.length : Nat) : Int)) = false := decide_eq_false (by omega)
        refine Awp.cond (t := false) (by rw [← hc1] <;> kernel_rfl) (Awp.exit ?_)
        rw [List.drop_eq_nil_of_le (by first | (simpa using hl1) | omega), m_order_Of_L1.eq_1] at hE1
        subst hE1
        refine Awp.seq ?_
        refine Awp.region tabS_ok ?_
        refine AOps.sq (x := (AV.fn 48 [(AV.loc 0 0 0)])) kr le ?_
        refine AOps.sn (x := (AV.loc 2 0 0)) (h' := ⟨3, [(2, some ⟨58, 1, [AV.nilf]⟩), (0, some ⟨46, 1, [(AV.sl 1 true [])]⟩), (1, some ⟨46, 1, row.map (slA 1 (AV.i .i64))⟩)]⟩) kr le ?_
        refine AOps.st (x := AV.und) (h' := ⟨3, [(2, some ⟨58, 1, [(AV.fn 48 [(AV.loc 0 0 0)])]⟩), (0, some ⟨46, 1, [(AV.sl 1 true [])]⟩), (1, some ⟨46, 1, row.map (slA 1 (AV.i .i64))⟩)]⟩) kr ?_
        refine AOps.done ?_
        refine Awp.seq ?_
        refine Awp.region tabS_ok ?_
        refine AOps.sq (x := (AV.fn 50 [(AV.loc 2 0 0)])) kr le ?_
        refine AOps.sq (x := (AV.fn 50 [(AV.loc 2 0 0)])) kr le ?_
        refine AOps.done ?_
        refine Awp.seq ?_
        refine Awp.label ?_
        refine Awp.seq ?_
        refine Awp.block ?_
        obtain ⟨R2, hR2⟩ : ∃ R, m_order_Of_L2 g row (g.edges.length - 0 + 1) [] = R := ⟨_, rfl⟩
        refine Awp.loopT (fun ((kf2, cell) : Nat × (List Int)) => [(4, (AV.loc 0 0 0)), (5, (AV.own 2 0 g.edges.length)), (7, (AV.loc 3 0 0)), (8, (AV.fn 50 [(AV.loc 3 0 0)]))]) (fun ((kf2, cell) : Nat × (List Int)) => ⟨4, [(1, accO 3 1 (AV.i .i64) cell), (0, some ⟨46, 1, [(accV 1 1 (AV.i .i64) cell)]⟩), (2, some ⟨46, 1, row.map (slA 1 (AV.i .i64))⟩), (3, some ⟨58, 1, [(AV.fn 48 [(AV.loc 0 0 0)])]⟩)]⟩) (fun ((kf2, cell) : Nat × (List Int)) => g.edges.length - cell.length < kf2 ∧ cell.length ≤ g.edges.length ∧ m_order_Of_L2 g row kf2 cell = R2) (fun ((kf2, cell) : Nat × (List Int)) => kf2) (g.edges.length - 0 + 1, []) ?_ ?_ ?_
        · exact ⟨[0, 1000001, 1, 2], ⟨by decide, rfl, (FitsObjs.cons rfl (FitsObjs.cons rfl (FitsObjs.cons (obj_row (fun _ => rfl) (e := 46) (k := 1) (A := (slA 1 (AV.i .i64))) (xs := row) rfl rfl) (FitsObjs.cons kr FitsObjs.nil)))), (EntE.cons (Ent.f kr) (EntE.cons (Ent.f kr) (EntE.cons (Ent.f kr) (EntE.cons (Ent.f kr) EntE.nil))))⟩, keep0⟩
        · exact ⟨od, sdd, hR2⟩
        · rintro ⟨kf2, cell⟩ ⟨hi2, hcl, hE2⟩
          try dsimp only
          cases kf2 with
          | zero => exact absurd hi2 (Nat.not_lt_zero _)
          | succ kf2 =>
            rw [m_order_Of_L2.eq_2] at hE2
            refine Awp.seq ?_
            refine Awp.seq ?_
            refine Awp.region tabS_ok ?_
            refine AOps.sq (x := (accV 1 1 (AV.i .i64) cell)) (g_loadC (i := tI_46) (id := 0) (j := 0) (ob := ⟨46, 1, [(accV 1 1 (AV.i .i64) cell)]⟩) (x := (accV 1 1 (AV.i .i64) cell)) kr kr kr kr acc_cells rfl) le ?_
            refine AOps.sq (x := (AV.i .i64 ((cell.length : Nat) : Int))) (g_lenAcc (e := 3) (A := (AV.i .i64)) (xs := cell) (p := 1) (k := 1) kr kr (fun q => acc_some (e := 3) (k := 1) (A := (AV.i .i64)) q rfl)) le ?_
            refine AOps.sq (x := (AV.own 2 0 g.edges.length)) kr le ?_
            refine AOps.sq (x := (AV.i .i64 ((g.edges.length : Nat) : Int))) kr le ?_
            refine AOps.sq (x := (AV.b (decide (((cell.length : Nat) : Int) < ((g.edges.length : Nat) : Int))))) kr le ?_
            refine AOps.done ?_
            cases c_2 : decide (((cell.length : Nat) : Int) < ((g.edges.length : Nat) : Int))
            · have k_2 : ¬ (((cell.length : Nat) : Int) < ((g.edges.length : Nat) : Int)) := of_decide_eq_false c_2
              refine Awp.cond (t := false) kr ?_
              refine Awp.exit ?_
              try simp only [c_2, sbt] at hE2
              subst hE2
              refine Awp.seq ?_
              refine Awp.region tabS_ok ?_
              refine AOps.sq (x := (accV 1 1 (AV.i .i64) cell)) (g_loadC (i := tI_46) (id := 0) (j := 0) (ob := ⟨46, 1, [(accV 1 1 (AV.i .i64) cell)]⟩) (x := (accV 1 1 (AV.i .i64) cell)) kr kr kr kr acc_cells rfl) le ?_
              refine AOps.sq (x := (accV 1 1 (AV.i .i64) cell)) kr le ?_
              refine AOps.sq (x := (AV.i .i64 (0 : Int))) kr le ?_
              refine AOps.done ?_
              refine Awp.ret ?_
              have hM : m_order_Of g = (cell, (0 : Int)) := by simp only [m_order_Of, c_1, hR1, hR2, sbt]
              refine ⟨Or.inr rfl, ?_⟩
              rw [hM]
              exact Ent.cast (x' := (AV.tup [(accV 1 1 (AV.i .i64) cell), (AV.i .i64 (0 : Int))])) (y' := (AV.tup [((slA 1 (AV.i .i64)) ((cell, (0 : Int)).1)), (AV.i .i64 ((cell, (0 : Int)).2))])) kr kr (Ent.tup ⟨(Ent.cast (x' := (accV 1 1 (AV.i .i64) cell)) (y' := slA 1 (AV.i .i64) cell) kr kr (ent_acc (fun _ => rfl) (by decide) (by decide) (e := 3) (k := 1) rfl sd)), ⟨(Ent.c kr kr), trivial⟩⟩ kr)
            · have k_2 : (((cell.length : Nat) : Int) < ((g.edges.length : Nat) : Int)) := of_decide_eq_true c_2
              refine Awp.cond (t := true) kr ?_
              refine Awp.skip ?_
              refine Awp.block ?_
              refine Awp.seq ?_
              refine Awp.seq ?_
              refine Awp.region tabS_ok ?_
              refine AOps.sq (x := (AV.own 2 0 g.edges.length)) kr le ?_
              refine AOps.sq (x := (AV.i .i64 ((g.edges.length : Nat) : Int))) kr le ?_
              refine AOps.sq (x := (AV.i .i64 (0 : Int))) kr le ?_
              refine AOps.done ?_
              refine Awp.block ?_
              have hB3 : g.edges.length ≤ 281474976710656 := by first | omega | (simp; done) | (simp; omega)
              obtain ⟨R3, hR3⟩ : ∃ R, m_order_Of_L3 row 0 cell = R := ⟨_, rfl⟩
              refine Awp.loopT (fun ((v38, cell2) : Nat × (List Int)) => [(4, (AV.loc 0 0 0)), (5, (AV.own 2 0 g.edges.length)), (7, (AV.loc 3 0 0)), (8, (AV.fn 50 [(AV.loc 3 0 0)])), (36, (AV.own 2 0 g.edges.length)), (37, (AV.i .i64 ((g.edges.length : Nat) : Int))), (38, (AV.i .i64 ((v38 : Nat) : Int)))]) (fun ((v38, cell2) : Nat × (List Int)) => ⟨4, [(1, accO 3 1 (AV.i .i64) cell2), (0, some ⟨46, 1, [(accV 1 1 (AV.i .i64) cell2)]⟩), (2, some ⟨46, 1, row.map (slA 1 (AV.i .i64))⟩), (3, some ⟨58, 1, [(AV.fn 48 [(AV.loc 0 0 0)])]⟩)]⟩) (fun ((v38, cell2) : Nat × (List Int)) => v38 ≤ g.edges.length ∧ cell2.length = cell.length ∧ m_order_Of_L3 (row.drop v38) v38 cell2 = R3) (fun ((v38, cell2) : Nat × (List Int)) => g.edges.length - v38) (0, cell) ?_ ?_ ?_
              · exact ⟨[0, 1, 2, 3], ⟨by decide, rfl, (FitsObjs.cons (boxAA (A := (AV.i .i64)) (e := 46) (k := 1) (ek := 1) (xs := cell) rfl (by decide) rfl) (FitsObjs.cons (obj_acc (fun _ => rfl) (e := 3) (k := 1) (A := (AV.i .i64)) (xs := cell) rfl rfl) (FitsObjs.cons (obj_row (fun _ => rfl) (e := 46) (k := 1) (A := (slA 1 (AV.i .i64))) (xs := row) rfl rfl) (FitsObjs.cons kr FitsObjs.nil)))), (EntE.cons (Ent.f kr) (EntE.cons (Ent.f kr) (EntE.cons (Ent.f kr) (EntE.cons (Ent.f kr) (EntE.cons (Ent.f kr) (EntE.cons (Ent.c kr kr) (EntE.cons (Ent.c kr kr) EntE.nil)))))))⟩, keep0⟩
              · exact ⟨od, sdd, hR3⟩
              · rintro ⟨v38, cell2⟩ ⟨hi3, hcm, hE3⟩
                try dsimp only
                refine Awp.seq ?_
                refine Awp.region tabS_ok ?_
                refine AOps.sq (x := (AV.b (decide (((v38 : Nat) : Int) < ((g.edges.length : Nat) : Int))))) kr le ?_
                refine AOps.done ?_
                refine Awp.seq ?_
                rcases Nat.lt_or_ge v38 g.edges.length with hl3 | hl3
                · have hc3 : decide (((v38 : Nat) : Int) < ((g.edges.length : Nat) : Int)) = true := decide_eq_true (by omega)
                  refine Awp.cond (t := true) (by rw [← hc3] <;> kernel_rfl) (Awp.skip ?_)
                  obtain ⟨x3, hx3⟩ : ∃ x, row[v38]? = some x := ⟨_, List.getElem?_eq_getElem (by first | (simpa using hl3) | omega)⟩
                  rw [drop_at hx3, m_order_Of_L3.eq_2] at hE3
                  refine Awp.seq ?_
                  refine Awp.block ?_
                  refine Awp.seq ?_
                  refine Awp.region tabS_ok ?_
                  refine AOps.sq (x := (AV.i .i64 ((v38 : Nat) : Int))) kr le ?_
                  refine AOps.sq (x := (AV.loc 2 v38 0)) (g_oidx (e := 46) (id := 2) (len := g.edges.length) (kk := .i64) (ob := ⟨46, 1, row.map (slA 1 (AV.i .i64))⟩) (i := v38) kr kr kr rfl kr sd) le ?_
                  refine AOps.sq (x := ((slA 1 (AV.i .i64)) x3)) (g_oload (e := 46) (k := 1) (i := tI_46) (id := 2) (xs := row) (A := (slA 1 (AV.i .i64))) (j := v38) kr kr rfl hx3 kr) le ?_
                  refine AOps.sq (x := (AV.i .i64 ((v38 : Nat) : Int))) kr le ?_
                  refine AOps.sq (x := ((slA 1 (AV.i .i64)) x3)) kr le ?_
                  refine AOps.done ?_
                  refine Awp.seq ?_
                  refine Awp.region tabS_ok ?_
                  refine AOps.sq (x := (AV.fn 48 [(AV.loc 0 0 0)])) kr le ?_
                  refine AOps.sq (x := (AV.i .i64 ((v38 : Nat) : Int))) kr le ?_
                  refine AOps.sfw (vs := [(AV.i .i64 ((v38 : Nat) : Int)), (AV.loc 0 0 0)]) (ss := [(AV.i .i64 ((v38 : Nat) : Int)), (AV.pt ((slA 1 (AV.i .i64)) cell2).cells)]) (r0 := (AV.b (m_order_Of_1 ((v38 : Nat) : Int) cell2))) kr (show SnapW _ _ _ from ⟨(SnapW.e kr), ⟨(EntK.w (EntK.cast (x' := (AV.loc 0 0 0)) kr kr (EntK.loc1 (id := 0) (j := 0) (ob := ⟨46, 1, [(accV 1 1 (AV.i .i64) cell2)]⟩) (x := (accV 1 1 (AV.i .i64) cell2)) rfl rfl rfl acc_cells (EntK.acc (fun _ => rfl) (A := (AV.i .i64)) (e := 3) (k := 1) (id := 1) (xs := cell2) rfl rfl sd)))), trivial⟩⟩) (w_order_Of_1 W ((v38 : Nat) : Int) cell2) rfl kr le ?_
                  refine AOps.sq (x := (AV.b (!(m_order_Of_1 ((v38 : Nat) : Int) cell2)))) kr le ?_
                  refine AOps.sq (x := (AV.b (!(m_order_Of_1 ((v38 : Nat) : Int) cell2)))) kr le ?_
                  cases c_3 : (!(m_order_Of_1 ((v38 : Nat) : Int) cell2))
                  · refine AOps.sgn rfl rfl kr rfl le ?_
                    refine AOps.sgn rfl rfl kr rfl le ?_
                    refine AOps.sgn rfl rfl kr rfl le ?_
                    refine AOps.sgn rfl rfl kr rfl le ?_
                    refine AOps.sq (x := (AV.b false)) kr le ?_
                    refine AOps.done ?_
                    refine Awp.cond (t := false) kr ?_
                    refine Awp.skip ?_
                    refine Awp.region tabS_ok ?_
                    refine AOps.sq (x := (AV.i .i64 ((v38 + 1 : Nat) : Int))) (g_addN (i := v38) (m := 1) kr kr sd) le ?_
                    refine AOps.sq (x := (AV.i .i64 ((v38 + 1 : Nat) : Int))) kr le ?_
                    refine AOps.done ?_
                    try simp only [c_3, sbt] at hE3
                    refine ⟨(v38 + 1, cell2), od, ⟨od, sdd, hE3⟩, ?_⟩
                    exact ⟨[0, 1, 2, 3], ⟨by decide, rfl, (FitsObjs.cons (boxAA (A := (AV.i .i64)) (e := 46) (k := 1) (ek := 1) (xs := cell2) rfl (by decide) rfl) (FitsObjs.cons (obj_acc (fun _ => rfl) (e := 3) (k := 1) (A := (AV.i .i64)) (xs := cell2) rfl rfl) (FitsObjs.cons (obj_row (fun _ => rfl) (e := 46) (k := 1) (A := (slA 1 (AV.i .i64))) (xs := row) rfl rfl) (FitsObjs.cons kr FitsObjs.nil)))), (EntE.cons (Ent.f kr) (EntE.cons (Ent.f kr) (EntE.cons (Ent.f kr) (EntE.cons (Ent.f kr) (EntE.cons (Ent.f kr) (EntE.cons (Ent.c kr kr) (EntE.cons (Ent.c kr kr) EntE.nil)))))))⟩, keep0⟩
                  · refine AOps.sgy rfl rfl kr rfl ?_
                    refine AOps.sq (x := ((slA 1 (AV.i .i64)) x3)) kr le ?_
                    refine AOps.sgy rfl rfl kr rfl ?_
                    refine AOps.sq (x := (AV.fn 50 [(AV.loc 3 0 0)])) kr le ?_
                    refine AOps.sgy rfl rfl kr rfl ?_
                    refine AOps.sfw (vs := [((slA 1 (AV.i .i64)) x3), (AV.fn 50 [(AV.loc 3 0 0)])]) (ss := [((slA 1 (AV.i .i64)) x3), (AV.fn 50 [(AV.pt [AV.fn 48 [(AV.pt ((slA 1 (AV.i .i64)) cell2).cells)]])])]) (r0 := (AV.b (m_slices_ContainsFunc_int_int x3 (fun z0 => m_order_Of_2 z0 (fun z0 => m_order_Of_1 z0 cell2))))) kr (show SnapW _ _ _ from ⟨(SnapW.e kr), ⟨(EntK.w (EntK.cast (x' := (AV.fn 50 [(AV.loc 3 0 0)])) kr kr (EntK.fn (EntKs.cons (EntK.loc1 (id := 3) (j := 0) (ob := ⟨58, 1, [(AV.fn 48 [(AV.loc 0 0 0)])]⟩) (x := (AV.fn 48 [(AV.loc 0 0 0)])) rfl rfl rfl rfl (EntK.fn (EntKs.cons (EntK.loc1 (id := 0) (j := 0) (ob := ⟨46, 1, [(accV 1 1 (AV.i .i64) cell2)]⟩) (x := (accV 1 1 (AV.i .i64) cell2)) rfl rfl rfl acc_cells (EntK.acc (fun _ => rfl) (A := (AV.i .i64)) (e := 3) (k := 1) (id := 1) (xs := cell2) rfl rfl sd)) EntKs.nil))) EntKs.nil)))), trivial⟩⟩) (w_slices_ContainsFunc_int_int W x3 50 [(AV.pt [AV.fn 48 [(AV.pt ((slA 1 (AV.i .i64)) cell2).cells)]])] (fun z0 => m_order_Of_2 z0 (fun z0 => m_order_Of_1 z0 cell2)) kr (fun z0 => (w_order_Of_2 W z0 48 [(AV.pt ((slA 1 (AV.i .i64)) cell2).cells)] (fun z0 => m_order_Of_1 z0 cell2) kr (fun z0 => (w_order_Of_1 W z0 cell2))))) rfl kr le ?_
                    refine AOps.sgy rfl rfl kr rfl ?_
                    refine AOps.sq (x := (AV.b (!(m_slices_ContainsFunc_int_int x3 (fun z0 => m_order_Of_2 z0 (fun z0 => m_order_Of_1 z0 cell2)))))) kr le ?_
                    refine AOps.sq (x := (AV.b (!(m_slices_ContainsFunc_int_int x3 (fun z0 => m_order_Of_2 z0 (fun z0 => m_order_Of_1 z0 cell2)))))) kr le ?_
                    refine AOps.done ?_
                    cases c_4 : (!(m_slices_ContainsFunc_int_int x3 (fun z0 => m_order_Of_2 z0 (fun z0 => m_order_Of_1 z0 cell2))))
                    · refine Awp.cond (t := false) kr ?_
                      refine Awp.skip ?_
                      refine Awp.region tabS_ok ?_
                      refine AOps.sq (x := (AV.i .i64 ((v38 + 1 : Nat) : Int))) (g_addN (i := v38) (m := 1) kr kr sd) le ?_
                      refine AOps.sq (x := (AV.i .i64 ((v38 + 1 : Nat) : Int))) kr le ?_
                      refine AOps.done ?_
                      try simp only [c_3, c_4, sbt] at hE3
                      refine ⟨(v38 + 1, cell2), od, ⟨od, sdd, hE3⟩, ?_⟩
                      exact ⟨[0, 1, 2, 3], ⟨by decide, rfl, (FitsObjs.cons (boxAA (A := (AV.i .i64)) (e := 46) (k := 1) (ek := 1) (xs := cell2) rfl (by decide) rfl) (FitsObjs.cons (obj_acc (fun _ => rfl) (e := 3) (k := 1) (A := (AV.i .i64)) (xs := cell2) rfl rfl) (FitsObjs.cons (obj_row (fun _ => rfl) (e := 46) (k := 1) (A := (slA 1 (AV.i .i64))) (xs := row) rfl rfl) (FitsObjs.cons kr FitsObjs.nil)))), (EntE.cons (Ent.f kr) (EntE.cons (Ent.f kr) (EntE.cons (Ent.f kr) (EntE.cons (Ent.f kr) (EntE.cons (Ent.f kr) (EntE.cons (Ent.c kr kr) (EntE.cons (Ent.c kr kr) EntE.nil)))))))⟩, keep0⟩
                    · refine Awp.cond (t := true) kr ?_
                      refine Awp.seq ?_
                      refine Awp.region tabS_ok ?_
                      refine AOps.sq (x := (accV 1 1 (AV.i .i64) cell2)) (g_loadC (i := tI_46) (id := 0) (j := 0) (ob := ⟨46, 1, [(accV 1 1 (AV.i .i64) cell2)]⟩) (x := (accV 1 1 (AV.i .i64) cell2)) kr kr kr kr acc_cells rfl) le ?_
                      refine AOps.sq (x := (AV.i .i64 ((v38 : Nat) : Int))) kr le ?_
                      refine AOps.sn (x := (AV.own 4 0 1)) (h' := ⟨5, [(4, some ⟨3, 1, [((v38 : Nat) : Int)].map (AV.i .i64)⟩), (1, accO 3 1 (AV.i .i64) cell2), (0, some ⟨46, 1, [(accV 1 1 (AV.i .i64) cell2)]⟩), (2, some ⟨46, 1, row.map (slA 1 (AV.i .i64))⟩), (3, some ⟨58, 1, [(AV.fn 48 [(AV.loc 0 0 0)])]⟩)]⟩) kr le ?_
                      refine AOps.se (x := (AV.own 5 0 ((cell2 ++ [((v38 : Nat) : Int)]).length))) (h' := ⟨6, [(5, some ⟨3, 1, (cell2 ++ [((v38 : Nat) : Int)]).map (AV.i .i64)⟩), (4, some ⟨3, 1, [((v38 : Nat) : Int)].map (AV.i .i64)⟩), (1, none), (0, some ⟨46, 1, [(accV 1 1 (AV.i .i64) cell2)]⟩), (2, some ⟨46, 1, row.map (slA 1 (AV.i .i64))⟩), (3, some ⟨58, 1, [(AV.fn 48 [(AV.loc 0 0 0)])]⟩)]⟩) (g_app (e := 3) (X := (AV.own 4 0 1)) (A := (AV.i .i64)) (i := tI_3) (p := 1) (xs := cell2) (ys := [((v38 : Nat) : Int)]) kr kr kr (hx := kr) kr (by simp) ⟨by decide, by kernel_rfl⟩ rfl (by intro q; first | (subst q; rfl) | (rw [q]; rfl) | (simp only [q]; rfl)) (by show _ * 8 ≤ 140737488355328; first | omega | (simp only [List.length_append, List.length_cons, List.length_nil, List.length_set, List.length_replicate]; omega) | (simp; omega)) sd) le ?_
                      refine AOps.st (x := AV.und) (h' := ⟨6, [(5, some ⟨3, 1, (cell2 ++ [((v38 : Nat) : Int)]).map (AV.i .i64)⟩), (4, some ⟨3, 1, [((v38 : Nat) : Int)].map (AV.i .i64)⟩), (1, none), (0, some ⟨46, 1, [(AV.own 5 0 ((cell2 ++ [((v38 : Nat) : Int)]).length))]⟩), (2, some ⟨46, 1, row.map (slA 1 (AV.i .i64))⟩), (3, some ⟨58, 1, [(AV.fn 48 [(AV.loc 0 0 0)])]⟩)]⟩) (g_setC (i := tI_46) (id := 0) (j := 0) (e := 46) (k := 1) (els := [(accV 1 1 (AV.i .i64) cell2)]) (x := (accV 1 1 (AV.i .i64) cell2)) (y := (AV.own 5 0 ((cell2 ++ [((v38 : Nat) : Int)]).length))) kr kr kr kr kr Cell.acc rfl (by intro fs hh; cases hh) kr kr) ?_
                      refine AOps.done ?_
                      refine Awp.exit ?_
                      try simp only [c_3, c_4, sbt] at hE3
                      subst hE3
                      try simp only [c_2, hR3, sbt] at hE2
                      refine ⟨(kf2, (cell2 ++ [((v38 : Nat) : Int)])), od, ⟨sdd, sdd, hE2⟩, ?_⟩
                      exact ⟨[0, 5, 2, 3], ⟨by decide, rfl, (FitsObjs.cons (boxA (A := (AV.i .i64)) (e := 46) (k := 1) (ek := 1) (xs := (cell2 ++ [((v38 : Nat) : Int)])) (by simp) rfl (by decide) (by simp) rfl) (FitsObjs.cons (obj_acc' (fun _ => rfl) (e := 3) (k := 1) (A := (AV.i .i64)) (xs := (cell2 ++ [((v38 : Nat) : Int)])) (by simp) rfl rfl) (FitsObjs.cons (obj_row (fun _ => rfl) (e := 46) (k := 1) (A := (slA 1 (AV.i .i64))) (xs := row) rfl rfl) (FitsObjs.cons kr FitsObjs.nil)))), (EntE.cons (Ent.f kr) (EntE.cons (Ent.f kr) (EntE.cons (Ent.f kr) (EntE.cons (Ent.f kr) EntE.nil))))⟩, keep0⟩
                · have hc3 : decide (((v38 : Nat) : Int) < ((g.edges.length : Nat) : Int)) = false := decide_eq_false (by omega)
                  refine Awp.cond (t := false) (by rw [← hc3] <;> kernel_rfl) (Awp.exit ?_)
                  rw [List.drop_eq_nil_of_le (by first | (simpa using hl3) | omega), m_order_Of_L3.eq_1] at hE3
                  subst hE3
                  refine Awp.seq ?_
                  refine Awp.region tabS_ok ?_
                  refine AOps.sq (x := (AV.sl 1 true [])) kr le ?_
                  refine AOps.sq (x := (AV.i .i64 (1001 : Int))) kr le ?_
                  refine AOps.done ?_
                  refine Awp.ret ?_
                  try simp only [c_2, hR3, sbt] at hE2
                  subst hE2
                  have hM : m_order_Of g = (([] : List Int), (1001 : Int)) := by simp only [m_order_Of, c_1, hR1, hR2, sbt]
                  refine ⟨Or.inr rfl, ?_⟩
                  rw [hM]
                  exact Ent.cast (x' := (AV.tup [(AV.sl 1 true []), (AV.i .i64 (1001 : Int))])) (y' := (AV.tup [((slA 1 (AV.i .i64)) ((([] : List Int), (1001 : Int)).1)), (AV.i .i64 ((([] : List Int), (1001 : Int)).2))])) kr kr (Ent.tup ⟨(Ent.w rfl (WeakC.nil 1)), ⟨(Ent.c kr kr), trivial⟩⟩ kr)
  · have k_1 : ¬ ((m_graph_Check g) = (0 : Int)) := of_decide_eq_false (by simpa using c_1)
    refine Awp.cond (t := true) kr ?_
    refine Awp.seq ?_
    refine Awp.region tabS_ok ?_
    refine AOps.sq (x := (AV.sl 1 true [])) kr le ?_
    refine AOps.sq (x := (AV.i .i64 (1000 : Int))) kr le ?_
    refine AOps.done ?_
    refine Awp.ret ?_
    have hM : m_order_Of g = (([] : List Int), (1000 : Int)) := by simp only [m_order_Of, c_1, sbt]
    refine ⟨Or.inr rfl, ?_⟩
    rw [hM]
    exact Ent.cast (x' := (AV.tup [(AV.sl 1 true []), (AV.i .i64 (1000 : Int))])) (y' := (AV.tup [((slA 1 (AV.i .i64)) ((([] : List Int), (1000 : Int)).1)), (AV.i .i64 ((([] : List Int), (1000 : Int)).2))])) kr kr (Ent.tup ⟨(Ent.w rfl (WeakC.nil 1)), ⟨(Ent.c kr kr), trivial⟩⟩ kr)

theorem w_want_Of (W : World) {m0 : Int} (hW : W.cell? ⟨0, 0, none⟩ = some (.int .i64 m0)) (g : DGraph) (names : List ByteArray) (hz0 : g.sz ≤ 1048576) (hzn : names.length ≤ 1048576) : PureAt Go.Proofs.Tryd.prog W 32 [(DGraph.av g), ((slA 1 AV.s) names)] (AV.tup [((slA 1 AV.b) ((m_want_Of g names).1)), (AV.i .i64 ((m_want_Of g names).2))]) [] := by
  have hz : ∀ i, needsN g i ≤ 1048576 := fun i => Nat.le_trans (needsN_sz g i) hz0
  have hzo : outsN g.edges ≤ 1048576 := Nat.le_trans (outsN_sz g) hz0
  refine pure_of_bodyC (fn := Go.Proofs.Tryd.f32) Go.Proofs.Tryd.func32 rfl (en32 W) (ts := [4, 5]) rfl le ?_
  refine Awp.seq ?_
  refine Awp.region tabS_ok ?_
  refine AOps.sn (x := (AV.loc 0 0 0)) (h' := ⟨1, [(0, some ⟨27, 3, [(DGraph.av g)]⟩)]⟩) kr le ?_
  refine AOps.sq (x := (AV.sl 1 true [])) kr le ?_
  refine AOps.sq (x := (AV.i .i64 (0 : Int))) kr le ?_
  refine AOps.done ?_
  refine Awp.fitsW [] (env' := [(0, (DGraph.av g)), (1, ((slA 1 AV.s) names)), (2, (AV.pt (DGraph.av g).cells)), (4, (AV.sl 1 true [])), (5, (AV.i .i64 (0 : Int)))]) (h' := ⟨0, []⟩) ⟨by decide, rfl, FitsObjs.nil, (EntE.cons (Ent.c kr kr) (EntE.cons (Ent.c kr kr) (EntE.cons (EntD.kk (x' := (AV.loc 0 0 0)) kr kr rfl (EntK.loc (id := 0) (j := 0) (o := 0) (ob := ⟨27, 3, [(DGraph.av g)]⟩) (x := (DGraph.av g)) rfl rfl rfl (EntKs.cons (EntK.cr (x := ((slA 7 DEdge.av) g.edges)) kr) (EntKs.cons (EntK.cr (x := ((slA 2 DPool.av) g.pools)) kr) (EntKs.cons (EntK.cr (x := ((slA 1 AV.s) g.defaults)) kr) EntKs.nil))))) (EntE.cons (Ent.c kr kr) (EntE.cons (Ent.c kr kr) EntE.nil)))))⟩ keep0 ?_
  refine Awp.seq ?_
  refine Awp.region tabS_ok ?_
  refine AOps.sq (x := (DGraph.av g)) kr le ?_
  refine AOps.sc0 (vs := [(DGraph.av g)]) (r0 := (AV.tup [((slA 1 (AV.i .i64)) ((m_order_Of g).1)), (AV.i .i64 ((m_order_Of g).2))])) kr kr (w_order_Of W hW g sd) kr le ?_
  refine AOps.sq (x := (AV.tup [((slA 1 (AV.i .i64)) ((m_order_Of g).1)), (AV.i .i64 ((m_order_Of g).2))])) kr le ?_
  refine AOps.sq (x := ((slA 1 (AV.i .i64)) ((m_order_Of g).1))) kr le ?_
  refine AOps.sq (x := (AV.i .i64 ((m_order_Of g).2))) kr le ?_
  refine AOps.sq (x := ((slA 1 (AV.i .i64)) ((m_order_Of g).1))) kr le ?_
  refine AOps.sq (x := (AV.i .i64 ((m_order_Of g).2))) kr le ?_
  refine AOps.done ?_
  refine Awp.seq ?_
  refine Awp.seq ?_
  refine Awp.region tabS_ok ?_
  refine AOps.sq (x := (AV.i .i64 ((m_order_Of g).2))) kr le ?_
  refine AOps.sq (x := (AV.b (!decide ((m_order_Of g).2 = (0 : Int))))) kr le ?_
  refine AOps.sq (x := (AV.b (!decide ((m_order_Of g).2 = (0 : Int))))) kr le ?_
  cases c_1 : (!decide ((m_order_Of g).2 = (0 : Int)))
  · have k_1 : ((m_order_Of g).2 = (0 : Int)) := of_decide_eq_true (by simpa using c_1)
    have q_1 := of_ok c_1
    refine AOps.sgy rfl rfl kr rfl ?_
    refine AOps.sq (x := ((slA 1 AV.s) names)) kr le ?_
    refine AOps.sgy rfl rfl kr rfl ?_
    refine AOps.sc0 (vs := [((slA 1 AV.s) names), (AV.i .i64 (8 : Int))]) (r0 := (AV.b (m_path_All names (8 : Int)))) kr kr (w_path_All W hW names (8 : Int)) kr le ?_
    refine AOps.sgy rfl rfl kr rfl ?_
    refine AOps.sq (x := (AV.b (!(m_path_All names (8 : Int))))) kr le ?_
    refine AOps.sq (x := (AV.b (!(m_path_All names (8 : Int))))) kr le ?_
    refine AOps.done ?_
    cases c_2 : (!(m_path_All names (8 : Int)))
    · refine Awp.cond (t := false) kr ?_
      refine Awp.skip ?_
      refine Awp.cut [(1, ((slA 1 AV.s) (bif decide (((names.length : Nat) : Int) = (0 : Int)) then g.defaults else names))), (2, (AV.pt (DGraph.av g).cells)), (6, ((slA 1 (AV.i .i64)) ((m_order_Of g).1)))] ⟨0, []⟩ ?_ ?_
      · refine Awp.seq ?_
        refine Awp.region tabS_ok ?_
        refine AOps.sq (x := ((slA 1 AV.s) names)) kr le ?_
        refine AOps.sq (x := (AV.i .i64 ((names.length : Nat) : Int))) (g_len (k := 1) (nl := false) (e := 9) (A := AV.s) (xs := names) kr kr) le ?_
        refine AOps.sq (x := (AV.b (decide (((names.length : Nat) : Int) = (0 : Int))))) kr le ?_
        refine AOps.done ?_
        cases c_3 : decide (((names.length : Nat) : Int) = (0 : Int))
        · have k_3 : ¬ (((names.length : Nat) : Int) = (0 : Int)) := of_decide_eq_false c_3
          refine Awp.cond (t := false) kr ?_
          refine Awp.skip ?_
          exact ⟨[], ⟨by decide, rfl, FitsObjs.nil, (EntE.cons (Ent.c kr kr) (EntE.cons (Ent.c kr kr) (EntE.cons (Ent.c kr kr) EntE.nil)))⟩, keep0⟩
        · have k_3 : (((names.length : Nat) : Int) = (0 : Int)) := of_decide_eq_true c_3
          refine Awp.cond (t := true) kr ?_
          refine Awp.region tabS_ok ?_
          refine AOps.sq (x := (AV.pt ((DGraph.av g).cells.drop 2))) kr le ?_
          refine AOps.sq (x := ((slA 1 AV.s) g.defaults)) kr le ?_
          refine AOps.sq (x := ((slA 1 AV.s) g.defaults)) kr le ?_
          refine AOps.done ?_
          exact ⟨[], ⟨by decide, rfl, FitsObjs.nil, (EntE.cons (Ent.c kr kr) (EntE.cons (Ent.c kr kr) (EntE.cons (Ent.c kr kr) EntE.nil)))⟩, keep0⟩
      · refine Awp.cut [(1, ((slA 1 AV.s) (bif decide ((((bif decide (((names.length : Nat) : Int) = (0 : Int)) then g.defaults else names).length : Nat) : Int) = (0 : Int)) then (m_graph_Outs g) else (bif decide (((names.length : Nat) : Int) = (0 : Int)) then g.defaults else names)))), (2, (AV.pt (DGraph.av g).cells)), (6, ((slA 1 (AV.i .i64)) ((m_order_Of g).1)))] ⟨0, []⟩ ?_ ?_
        · refine Awp.seq ?_
          refine Awp.region tabS_ok ?_
          refine AOps.sq (x := ((slA 1 AV.s) (bif decide (((names.length : Nat) : Int) = (0 : Int)) then g.defaults else names))) kr le ?_
          refine AOps.sq (x := (AV.i .i64 (((bif decide (((names.length : Nat) : Int) = (0 : Int)) then g.defaults else names).length : Nat) : Int))) (g_len (k := 1) (nl := false) (e := 9) (A := AV.s) (xs := (bif decide (((names.length : Nat) : Int) = (0 : Int)) then g.defaults else names)) kr kr) le ?_
          refine AOps.sq (x := (AV.b (decide ((((bif decide (((names.length : Nat) : Int) = (0 : Int)) then g.defaults else names).length : Nat) : Int) = (0 : Int))))) kr le ?_
          refine AOps.done ?_
          cases c_4 : decide ((((bif decide (((names.length : Nat) : Int) = (0 : Int)) then g.defaults else names).length : Nat) : Int) = (0 : Int))
          · have k_4 : ¬ ((((bif decide (((names.length : Nat) : Int) = (0 : Int)) then g.defaults else names).length : Nat) : Int) = (0 : Int)) := of_decide_eq_false c_4
            refine Awp.cond (t := false) kr ?_
            refine Awp.skip ?_
            exact ⟨[], ⟨by decide, rfl, FitsObjs.nil, (EntE.cons (Ent.c kr kr) (EntE.cons (Ent.c kr kr) (EntE.cons (Ent.c kr kr) EntE.nil)))⟩, keep0⟩
          · have k_4 : ((((bif decide (((names.length : Nat) : Int) = (0 : Int)) then g.defaults else names).length : Nat) : Int) = (0 : Int)) := of_decide_eq_true c_4
            refine Awp.cond (t := true) kr ?_
            refine Awp.region tabS_ok ?_
            refine AOps.sc0 (vs := [(AV.pt (DGraph.av g).cells)]) (r0 := ((slA 1 AV.s) (m_graph_Outs g))) kr kr (w_graph_Outs W g sd) kr le ?_
            refine AOps.sq (x := ((slA 1 AV.s) (m_graph_Outs g))) kr le ?_
            refine AOps.done ?_
            exact ⟨[], ⟨by decide, rfl, FitsObjs.nil, (EntE.cons (Ent.c kr kr) (EntE.cons (Ent.c kr kr) (EntE.cons (Ent.c kr kr) EntE.nil)))⟩, keep0⟩
        · refine Awp.seq ?_
          refine Awp.region tabS_ok ?_
          refine AOps.sq (x := (AV.pt ((DGraph.av g).cells.drop 0))) kr le ?_
          refine AOps.sq (x := ((slA 7 DEdge.av) g.edges)) kr le ?_
          refine AOps.sq (x := (AV.i .i64 ((g.edges.length : Nat) : Int))) (g_len (k := 7) (nl := false) (e := 31) (A := DEdge.av) (xs := g.edges) kr kr) le ?_
          refine AOps.sn (x := (AV.own 0 0 g.edges.length)) (h' := ⟨1, [(0, some ⟨4, 1, (List.replicate g.edges.length false).map AV.b⟩)]⟩) (g_make (e := 4) (i := tI_4) (A := AV.b) (z := false) (n := g.edges.length) kr kr kr kr ⟨by decide, by kernel_rfl⟩ kr (by show _ * 1 ≤ 140737488355328; first | omega | (simp only [List.length_append, List.length_cons, List.length_nil, List.length_set, List.length_replicate]; omega) | (simp; omega)) sd) le ?_
          refine AOps.sq (x := (AV.own 0 0 g.edges.length)) kr le ?_
          refine AOps.done ?_
          refine Awp.seq ?_
          refine Awp.seq ?_
          refine Awp.region tabS_ok ?_
          refine AOps.sq (x := ((slA 1 AV.s) (bif decide ((((bif decide (((names.length : Nat) : Int) = (0 : Int)) then g.defaults else names).length : Nat) : Int) = (0 : Int)) then (m_graph_Outs g) else (bif decide (((names.length : Nat) : Int) = (0 : Int)) then g.defaults else names)))) kr le ?_
          refine AOps.sq (x := (AV.i .i64 (((bif decide ((((bif decide (((names.length : Nat) : Int) = (0 : Int)) then g.defaults else names).length : Nat) : Int) = (0 : Int)) then (m_graph_Outs g) else (bif decide (((names.length : Nat) : Int) = (0 : Int)) then g.defaults else names)).length : Nat) : Int))) (g_len (k := 1) (nl := false) (e := 9) (A := AV.s) (xs := (bif decide ((((bif decide (((names.length : Nat) : Int) = (0 : Int)) then g.defaults else names).length : Nat) : Int) = (0 : Int)) then (m_graph_Outs g) else (bif decide (((names.length : Nat) : Int) = (0 : Int)) then g.defaults else names))) kr kr) le ?_
          refine AOps.sq (x := (AV.i .i64 (0 : Int))) kr le ?_
          refine AOps.done ?_
          refine Awp.block ?_
          refine Awp.lim 1 (x := ((slA 1 AV.s) (bif decide ((((bif decide (((names.length : Nat) : Int) = (0 : Int)) then g.defaults else names).length : Nat) : Int) = (0 : Int)) then (m_graph_Outs g) else (bif decide (((names.length : Nat) : Int) = (0 : Int)) then g.defaults else names)))) kr fun hlm1 => ?_
          have hB1 : (bif decide ((((bif decide (((names.length : Nat) : Int) = (0 : Int)) then g.defaults else names).length : Nat) : Int) = (0 : Int)) then (m_graph_Outs g) else (bif decide (((names.length : Nat) : Int) = (0 : Int)) then g.defaults else names)).length ≤ 281474976710656 := lim_slA hlm1
          obtain ⟨R1, hR1⟩ : ∃ R, m_want_Of_L1 g (bif decide ((((bif decide (((names.length : Nat) : Int) = (0 : Int)) then g.defaults else names).length : Nat) : Int) = (0 : Int)) then (m_graph_Outs g) else (bif decide (((names.length : Nat) : Int) = (0 : Int)) then g.defaults else names)) 0 (List.replicate g.edges.length false) = R := ⟨_, rfl⟩
          refine Awp.loopT (fun ((v42, row) : Nat × (List Bool)) => [(2, (AV.pt (DGraph.av g).cells)), (6, ((slA 1 (AV.i .i64)) ((m_order_Of g).1))), (8, (AV.own 0 0 g.edges.length)), (40, ((slA 1 AV.s) (bif decide ((((bif decide (((names.length : Nat) : Int) = (0 : Int)) then g.defaults else names).length : Nat) : Int) = (0 : Int)) then (m_graph_Outs g) else (bif decide (((names.length : Nat) : Int) = (0 : Int)) then g.defaults else names)))), (41, (AV.i .i64 (((bif decide ((((bif decide (((names.length : Nat) : Int) = (0 : Int)) then g.defaults else names).length : Nat) : Int) = (0 : Int)) then (m_graph_Outs g) else (bif decide (((names.length : Nat) : Int) = (0 : Int)) then g.defaults else names)).length : Nat) : Int))), (42, (AV.i .i64 ((v42 : Nat) : Int)))]) (fun ((v42, row) : Nat × (List Bool)) => ⟨1, [(0, some ⟨4, 1, row.map AV.b⟩)]⟩) (fun ((v42, row) : Nat × (List Bool)) => v42 ≤ (bif decide ((((bif decide (((names.length : Nat) : Int) = (0 : Int)) then g.defaults else names).length : Nat) : Int) = (0 : Int)) then (m_graph_Outs g) else (bif decide (((names.length : Nat) : Int) = (0 : Int)) then g.defaults else names)).length ∧ row.length = g.edges.length ∧ m_want_Of_L1 g ((bif decide ((((bif decide (((names.length : Nat) : Int) = (0 : Int)) then g.defaults else names).length : Nat) : Int) = (0 : Int)) then (m_graph_Outs g) else (bif decide (((names.length : Nat) : Int) = (0 : Int)) then g.defaults else names)).drop v42) v42 row = R1) (fun ((v42, row) : Nat × (List Bool)) => (bif decide ((((bif decide (((names.length : Nat) : Int) = (0 : Int)) then g.defaults else names).length : Nat) : Int) = (0 : Int)) then (m_graph_Outs g) else (bif decide (((names.length : Nat) : Int) = (0 : Int)) then g.defaults else names)).length - v42) (0, (List.replicate g.edges.length false)) ?_ ?_ ?_
          · exact ⟨[0], ⟨by decide, rfl, (FitsObjs.cons (obj_row (fun _ => rfl) (e := 4) (k := 1) (A := AV.b) (xs := (List.replicate g.edges.length false)) rfl rfl) FitsObjs.nil), (EntE.cons (Ent.c kr kr) (EntE.cons (Ent.c kr kr) (EntE.cons (Ent.f kr) (EntE.cons (Ent.c kr kr) (EntE.cons (Ent.c kr kr) (EntE.cons (Ent.c kr kr) EntE.nil))))))⟩, keep0⟩
          · exact ⟨od, sdd, hR1⟩
          · rintro ⟨v42, row⟩ ⟨hi1, hr, hE1⟩
            try dsimp only
            refine Awp.seq ?_
            refine Awp.region tabS_ok ?_
            refine AOps.sq (x := (AV.b (decide (((v42 : Nat) : Int) < (((bif decide ((((bif decide (((names.length : Nat) : Int) = (0 : Int)) then g.defaults else names).length : Nat) : Int) = (0 : Int)) then (m_graph_Outs g) else (bif decide (((names.length : Nat) : Int) = (0 : Int)) then g.defaults else names)).length : Nat) : Int))))) kr le ?_
            refine AOps.done ?_
            refine Awp.seq ?_
            rcases Nat.lt_or_ge v42 (bif decide ((((bif decide (((names.length : Nat) : Int) = (0 : Int)) then g.defaults else names).length : Nat) : Int) = (0 : Int)) then (m_graph_Outs g) else (bif decide (((names.length : Nat) : Int) = (0 : Int)) then g.defaults else names)).length with hl1 | hl1
            · have hc1 : decide (((v42 : Nat) : Int) < (((bif decide ((((bif decide (((names.length : Nat) : Int) = (0 : Int)) then g.defaults else names).length : Nat) : Int) = (0 : Int)) then (m_graph_Outs g) else (bif decide (((names.length : Nat) : Int) = (0 : Int)) then g.defaults else names)).length : Nat) : Int)) = true := decide_eq_true (by omega)
              refine Awp.cond (t := true) (by rw [← hc1] <;> kernel_rfl) (Awp.skip ?_)
              obtain ⟨x1, hx1⟩ : ∃ x, (bif decide ((((bif decide (((names.length : Nat) : Int) = (0 : Int)) then g.defaults else names).length : Nat) : Int) = (0 : Int)) then (m_graph_Outs g) else (bif decide (((names.length : Nat) : Int) = (0 : Int)) then g.defaults else names))[v42]? = some x := ⟨_, List.getElem?_eq_getElem hl1⟩
              rw [drop_at hx1, m_want_Of_L1.eq_2] at hE1
              have hmk := makes_lt g x1
              refine Awp.seq ?_
              refine Awp.block ?_
              refine Awp.seq ?_
              refine Awp.region tabS_ok ?_
              refine AOps.sq (x := (AV.pt (AV.s x1).cells)) (g_idx (k := 1) (nl := false) (e := 9) (kk := .i64) (A := AV.s) (xs := (bif decide ((((bif decide (((names.length : Nat) : Int) = (0 : Int)) then g.defaults else names).length : Nat) : Int) = (0 : Int)) then (m_graph_Outs g) else (bif decide (((names.length : Nat) : Int) = (0 : Int)) then g.defaults else names))) (i := v42) kr kr kr ⟨by kernel_rfl, by decide⟩ hx1) le ?_
              refine AOps.sq (x := (AV.s x1)) kr le ?_
              refine AOps.sq (x := (AV.s x1)) kr le ?_
              refine AOps.done ?_
              refine Awp.seq ?_
              refine Awp.region tabS_ok ?_
              refine AOps.sq (x := (AV.s x1)) kr le ?_
              refine AOps.sc0 (vs := [(AV.pt (DGraph.av g).cells), (AV.s x1)]) (r0 := (AV.i .i64 (m_graph_Makes g x1))) kr kr (w_graph_Makes W g x1) kr le ?_
              refine AOps.sq (x := (AV.i .i64 (m_graph_Makes g x1))) kr le ?_
              refine AOps.done ?_
              refine Awp.seq ?_
              refine Awp.seq ?_
              refine Awp.region tabS_ok ?_
              refine AOps.sq (x := (AV.i .i64 (m_graph_Makes g x1))) kr le ?_
              refine AOps.sq (x := (AV.b (decide ((m_graph_Makes g x1) < (0 : Int))))) kr le ?_
              refine AOps.done ?_
              cases c_5 : decide ((m_graph_Makes g x1) < (0 : Int))
              · have k_5 : ¬ ((m_graph_Makes g x1) < (0 : Int)) := of_decide_eq_false c_5
                refine Awp.cond (t := false) kr ?_
                refine Awp.skip ?_
                refine Awp.region tabS_ok ?_
                refine AOps.sq (x := (AV.own 0 0 g.edges.length)) kr le ?_
                refine AOps.sq (x := (AV.i .i64 (m_graph_Makes g x1))) kr le ?_
                refine AOps.sq (x := (AV.loc 0 ((m_graph_Makes g x1).toNat) 0)) (g_oidxI (e := 4) (id := 0) (len := g.edges.length) (kk := .i64) (ob := ⟨4, 1, row.map AV.b⟩) (n := (m_graph_Makes g x1)) kr kr kr rfl kr sd sd) le ?_
                refine AOps.st (x := AV.und) (h' := ⟨1, [(0, some ⟨4, 1, (row.set (m_graph_Makes g x1).toNat true).map AV.b⟩)]⟩) (g_set (e := 4) (k := 1) (i := tI_4) (id := 0) (A := AV.b) (xs := row) (y := true) (j := (m_graph_Makes g x1).toNat) kr kr kr rfl sd (fun _ => rfl) kr (fun _ => rfl) (fun _ => rfl)) ?_
                refine AOps.done ?_
                refine Awp.region tabS_ok ?_
                refine AOps.sq (x := (AV.i .i64 ((v42 + 1 : Nat) : Int))) (g_addN (i := v42) (m := 1) kr kr sd) le ?_
                refine AOps.sq (x := (AV.i .i64 ((v42 + 1 : Nat) : Int))) kr le ?_
                refine AOps.done ?_
                try simp only [c_5, sbt] at hE1
                refine ⟨(v42 + 1, (row.set (m_graph_Makes g x1).toNat true)), od, ⟨od, sdd, hE1⟩, ?_⟩
                exact ⟨[0], ⟨by decide, rfl, (FitsObjs.cons (obj_row (fun _ => rfl) (e := 4) (k := 1) (A := AV.b) (xs := (row.set (m_graph_Makes g x1).toNat true)) rfl rfl) FitsObjs.nil), (EntE.cons (Ent.c kr kr) (EntE.cons (Ent.c kr kr) (EntE.cons (Ent.f kr) (EntE.cons (Ent.c kr kr) (EntE.cons (Ent.c kr kr) (EntE.cons (Ent.c kr kr) EntE.nil))))))⟩, keep0⟩
              · have k_5 : ((m_graph_Makes g x1) < (0 : Int)) := of_decide_eq_true c_5
                refine Awp.cond (t := true) kr ?_
                refine Awp.seq ?_
                refine Awp.region tabS_ok ?_
                refine AOps.sq (x := (AV.sl 1 true [])) kr le ?_
                refine AOps.sq (x := (AV.i .i64 (2001 : Int))) kr le ?_
                refine AOps.done ?_
                refine Awp.ret ?_
                try simp only [c_5, sbt] at hE1
                subst hE1
                have hM : m_want_Of g names = (([] : List Bool), (2001 : Int)) := by simp only [m_want_Of, c_1, c_2, hR1, sbt]
                refine ⟨Or.inr rfl, ?_⟩
                rw [hM]
                exact Ent.cast (x' := (AV.tup [(AV.sl 1 true []), (AV.i .i64 (2001 : Int))])) (y' := (AV.tup [((slA 1 AV.b) ((([] : List Bool), (2001 : Int)).1)), (AV.i .i64 ((([] : List Bool), (2001 : Int)).2))])) kr kr (Ent.tup ⟨(Ent.w rfl (WeakC.nil 1)), ⟨(Ent.c kr kr), trivial⟩⟩ kr)
            · have hc1 : decide (((v42 : Nat) : Int) < (((bif decide ((((bif decide (((names.length : Nat) : Int) = (0 : Int)) then g.defaults else names).length : Nat) : Int) = (0 : Int)) then (m_graph_Outs g) else (bif decide (((names.length : Nat) : Int) = (0 : Int)) then g.defaults else names)).length : Nat) : Int)) = false := decide_eq_false (by omega)
              refine Awp.cond (t := false) (by rw [← hc1] <;> kernel_rfl) (Awp.exit ?_)
              rw [List.drop_eq_nil_of_le (hl1), m_want_Of_L1.eq_1] at hE1
              subst hE1
              refine Awp.seq ?_
              refine Awp.seq ?_
              refine Awp.region tabS_ok ?_
              refine AOps.sq (x := ((slA 1 (AV.i .i64)) ((m_order_Of g).1))) kr le ?_
              refine AOps.sq (x := (AV.i .i64 ((((m_order_Of g).1).length : Nat) : Int))) (g_len (k := 1) (nl := false) (e := 3) (A := (AV.i .i64)) (xs := ((m_order_Of g).1)) kr kr) le ?_
              refine AOps.sq (x := (AV.i .i64 (((((m_order_Of g).1).length : Nat) : Int) - (1 : Int)))) (g_subI (a := ((((m_order_Of g).1).length : Nat) : Int)) (b := (1 : Int)) kr kr sd sd) le ?_
              refine AOps.sq (x := (AV.i .i64 (((((m_order_Of g).1).length : Nat) : Int) - (1 : Int)))) kr le ?_
              refine AOps.done ?_
              refine Awp.block ?_
              obtain ⟨R2, hR2⟩ : ∃ R, m_want_Of_L2 g (((((((m_order_Of g).1).length : Nat) : Int) - (1 : Int)) + 1).toNat + 1) (((((m_order_Of g).1).length : Nat) : Int) - (1 : Int)) row = R := ⟨_, rfl⟩
              refine Awp.loopT (fun ((kf2, (k, row2)) : Nat × (Int × (List Bool))) => [(2, (AV.pt (DGraph.av g).cells)), (6, ((slA 1 (AV.i .i64)) ((m_order_Of g).1))), (8, (AV.own 0 0 g.edges.length)), (12, (AV.i .i64 k))]) (fun ((kf2, (k, row2)) : Nat × (Int × (List Bool))) => ⟨1, [(0, some ⟨4, 1, row2.map AV.b⟩)]⟩) (fun ((kf2, (k, row2)) : Nat × (Int × (List Bool))) => (k + 1).toNat < kf2 ∧ -1 ≤ k ∧ k < (((m_order_Of g).1.length : Nat) : Int) ∧ row2.length = g.edges.length ∧ m_want_Of_L2 g kf2 k row2 = R2) (fun ((kf2, (k, row2)) : Nat × (Int × (List Bool))) => kf2) (((((((m_order_Of g).1).length : Nat) : Int) - (1 : Int)) + 1).toNat + 1, ((((((m_order_Of g).1).length : Nat) : Int) - (1 : Int)), row)) ?_ ?_ ?_
              · exact ⟨[0], ⟨by decide, rfl, (FitsObjs.cons (obj_row (fun _ => rfl) (e := 4) (k := 1) (A := AV.b) (xs := row) rfl rfl) FitsObjs.nil), (EntE.cons (Ent.c kr kr) (EntE.cons (Ent.c kr kr) (EntE.cons (Ent.f kr) (EntE.cons (Ent.c kr kr) EntE.nil))))⟩, keep0⟩
              · exact ⟨od, sdd, sdd, sdd, hR2⟩
              · rintro ⟨kf2, k, row2⟩ ⟨hi2, hk, hk2, hr2, hE2⟩
                try dsimp only
                cases kf2 with
                | zero => exact absurd hi2 (Nat.not_lt_zero _)
                | succ kf2 =>
                  rw [m_want_Of_L2.eq_2] at hE2
                  refine Awp.seq ?_
                  refine Awp.seq ?_
                  refine Awp.region tabS_ok ?_
                  refine AOps.sq (x := (AV.i .i64 k)) kr le ?_
                  refine AOps.sq (x := (AV.b (decide ((0 : Int) ≤ k)))) kr le ?_
                  refine AOps.done ?_
                  cases c_6 : decide ((0 : Int) ≤ k)
                  · have k_6 : ¬ ((0 : Int) ≤ k) := of_decide_eq_false c_6
                    refine Awp.cond (t := false) kr ?_
                    refine Awp.exit ?_
                    try simp only [c_6, sbt] at hE2
                    subst hE2
                    refine Awp.seq ?_
                    refine Awp.region tabS_ok ?_
                    refine AOps.sq (x := (AV.own 0 0 g.edges.length)) kr le ?_
                    refine AOps.sq (x := (AV.own 0 0 g.edges.length)) kr le ?_
                    refine AOps.sq (x := (AV.i .i64 (0 : Int))) kr le ?_
                    refine AOps.done ?_
                    refine Awp.ret ?_
                    have hM : m_want_Of g names = (row2, (0 : Int)) := by simp only [m_want_Of, c_1, c_2, hR1, hR2, sbt]
                    refine ⟨Or.inr rfl, ?_⟩
                    rw [hM]
                    exact Ent.cast (x' := (AV.tup [(AV.own 0 0 g.edges.length), (AV.i .i64 (0 : Int))])) (y' := (AV.tup [((slA 1 AV.b) ((row2, (0 : Int)).1)), (AV.i .i64 ((row2, (0 : Int)).2))])) kr kr (Ent.tup ⟨(EntD.kk (x' := (AV.own 0 0 g.edges.length)) kr kr rfl (EntK.row (fun _ => rfl) (A := AV.b) (id := 0) (e := 4) (k := 1) (xs := row2) rfl rfl sd sd)), ⟨(Ent.c kr kr), trivial⟩⟩ kr)
                  · have k_6 : ((0 : Int) ≤ k) := of_decide_eq_true c_6
                    have q_6 := order_get (g := g) (k := k) (by omega) (by omega)
                    refine Awp.cond (t := true) kr ?_
                    refine Awp.skip ?_
                    refine Awp.seq ?_
                    refine Awp.block ?_
                    refine Awp.seq ?_
                    refine Awp.seq ?_
                    refine Awp.region tabS_ok ?_
                    refine AOps.sq (x := (AV.own 0 0 g.edges.length)) kr le ?_
                    refine AOps.sq (x := ((slA 1 (AV.i .i64)) ((m_order_Of g).1))) kr le ?_
                    refine AOps.sq (x := (AV.i .i64 k)) kr le ?_
                    refine AOps.sq (x := (AV.pt ((AV.i .i64) (((m_order_Of g).1).getD k.toNat default)).cells)) (g_idxI (k := 1) (nl := false) (e := 3) (kk := .i64) (A := (AV.i .i64)) (xs := ((m_order_Of g).1)) (n := k) kr kr kr ⟨by kernel_rfl, by decide⟩ sd (getD_some sd)) le ?_
                    refine AOps.sq (x := (AV.i .i64 (((m_order_Of g).1).getD k.toNat default))) kr le ?_
                    refine AOps.sq (x := (AV.loc 0 ((((m_order_Of g).1).getD k.toNat default).toNat) 0)) (g_oidxI (e := 4) (id := 0) (len := g.edges.length) (kk := .i64) (ob := ⟨4, 1, row2.map AV.b⟩) (n := (((m_order_Of g).1).getD k.toNat default)) kr kr kr rfl kr sd sd) le ?_
                    refine AOps.sq (x := (AV.b (row2.getD (((m_order_Of g).1).getD k.toNat default).toNat default))) (g_oload (e := 4) (k := 1) (i := tI_4) (id := 0) (xs := row2) (A := AV.b) (j := (((m_order_Of g).1).getD k.toNat default).toNat) kr kr rfl (getD_some sd) kr) le ?_
                    refine AOps.sq (x := (AV.b (!(row2.getD (((m_order_Of g).1).getD k.toNat default).toNat default)))) kr le ?_
                    refine AOps.done ?_
                    cases c_7 : (!(row2.getD (((m_order_Of g).1).getD k.toNat default).toNat default))
                    · refine Awp.cond (t := false) kr ?_
                      refine Awp.skip ?_
                      refine Awp.seq ?_
                      refine Awp.region tabS_ok ?_
                      refine AOps.sq (x := ((slA 1 (AV.i .i64)) ((m_order_Of g).1))) kr le ?_
                      refine AOps.sq (x := (AV.i .i64 k)) kr le ?_
                      refine AOps.sq (x := (AV.pt ((AV.i .i64) (((m_order_Of g).1).getD k.toNat default)).cells)) (g_idxI (k := 1) (nl := false) (e := 3) (kk := .i64) (A := (AV.i .i64)) (xs := ((m_order_Of g).1)) (n := k) kr kr kr ⟨by kernel_rfl, by decide⟩ sd (getD_some sd)) le ?_
                      refine AOps.sq (x := (AV.i .i64 (((m_order_Of g).1).getD k.toNat default))) kr le ?_
                      refine AOps.sc0 (vs := [(AV.pt (DGraph.av g).cells), (AV.i .i64 (((m_order_Of g).1).getD k.toNat default))]) (r0 := ((slA 1 (AV.i .i64)) (m_order_Needs g (((m_order_Of g).1).getD k.toNat default)))) kr kr (w_order_Needs W g (((m_order_Of g).1).getD k.toNat default) ⟨by omega, by omega⟩ (hz _)) kr le ?_
                      refine AOps.sq (x := (AV.i .i64 (((m_order_Needs g (((m_order_Of g).1).getD k.toNat default)).length : Nat) : Int))) (g_len (k := 1) (nl := false) (e := 3) (A := (AV.i .i64)) (xs := (m_order_Needs g (((m_order_Of g).1).getD k.toNat default))) kr kr) le ?_
                      refine AOps.sq (x := (AV.i .i64 (0 : Int))) kr le ?_
                      refine AOps.done ?_
                      refine Awp.block ?_
                      refine Awp.lim 73 (x := ((slA 1 (AV.i .i64)) (m_order_Needs g (((m_order_Of g).1).getD k.toNat default)))) kr fun hlm3 => ?_
                      have hB3 : (m_order_Needs g (((m_order_Of g).1).getD k.toNat default)).length ≤ 281474976710656 := lim_slA hlm3
                      obtain ⟨R3, hR3⟩ : ∃ R, m_want_Of_L3 (m_order_Needs g (((m_order_Of g).1).getD k.toNat default)) 0 row2 = R := ⟨_, rfl⟩
                      refine Awp.loopT (fun ((v75, row3) : Nat × (List Bool)) => [(2, (AV.pt (DGraph.av g).cells)), (6, ((slA 1 (AV.i .i64)) ((m_order_Of g).1))), (8, (AV.own 0 0 g.edges.length)), (12, (AV.i .i64 k)), (73, ((slA 1 (AV.i .i64)) (m_order_Needs g (((m_order_Of g).1).getD k.toNat default)))), (74, (AV.i .i64 (((m_order_Needs g (((m_order_Of g).1).getD k.toNat default)).length : Nat) : Int))), (75, (AV.i .i64 ((v75 : Nat) : Int)))]) (fun ((v75, row3) : Nat × (List Bool)) => ⟨1, [(0, some ⟨4, 1, row3.map AV.b⟩)]⟩) (fun ((v75, row3) : Nat × (List Bool)) => v75 ≤ (m_order_Needs g (((m_order_Of g).1).getD k.toNat default)).length ∧ row3.length = g.edges.length ∧ m_want_Of_L3 ((m_order_Needs g (((m_order_Of g).1).getD k.toNat default)).drop v75) v75 row3 = R3) (fun ((v75, row3) : Nat × (List Bool)) => (m_order_Needs g (((m_order_Of g).1).getD k.toNat default)).length - v75) (0, row2) ?_ ?_ ?_
                      · exact ⟨[0], ⟨by decide, rfl, (FitsObjs.cons (obj_row (fun _ => rfl) (e := 4) (k := 1) (A := AV.b) (xs := row2) rfl rfl) FitsObjs.nil), (EntE.cons (Ent.c kr kr) (EntE.cons (Ent.c kr kr) (EntE.cons (Ent.f kr) (EntE.cons (Ent.c kr kr) (EntE.cons (Ent.c kr kr) (EntE.cons (Ent.c kr kr) (EntE.cons (Ent.c kr kr) EntE.nil)))))))⟩, keep0⟩
                      · exact ⟨od, sdd, hR3⟩
                      · rintro ⟨v75, row3⟩ ⟨hi3, hr3, hE3⟩
                        try dsimp only
                        refine Awp.seq ?_
                        refine Awp.region tabS_ok ?_
                        refine AOps.sq (x := (AV.b (decide (((v75 : Nat) : Int) < (((m_order_Needs g (((m_order_Of g).1).getD k.toNat default)).length : Nat) : Int))))) kr le ?_
                        refine AOps.done ?_
                        refine Awp.seq ?_
                        rcases Nat.lt_or_ge v75 (m_order_Needs g (((m_order_Of g).1).getD k.toNat default)).length with hl3 | hl3
                        · have hc3 : decide (((v75 : Nat) : Int) < (((m_order_Needs g (((m_order_Of g).1).getD k.toNat default)).length : Nat) : Int)) = true := decide_eq_true (by omega)
                          refine Awp.cond (t := true) (by rw [← hc3] <;> kernel_rfl) (Awp.skip ?_)
                          obtain ⟨x3, hx3⟩ : ∃ x, (m_order_Needs g (((m_order_Of g).1).getD k.toNat default))[v75]? = some x := ⟨_, List.getElem?_eq_getElem hl3⟩
                          rw [drop_at hx3, m_want_Of_L3.eq_2] at hE3
                          have hnm := needs_mem (List.mem_of_getElem? hx3)
                          refine Awp.seq ?_
                          refine Awp.block ?_
                          refine Awp.seq ?_
                          refine Awp.region tabS_ok ?_
                          refine AOps.sq (x := (AV.pt ((AV.i .i64) x3).cells)) (g_idx (k := 1) (nl := false) (e := 3) (kk := .i64) (A := (AV.i .i64)) (xs := (m_order_Needs g (((m_order_Of g).1).getD k.toNat default))) (i := v75) kr kr kr ⟨by kernel_rfl, by decide⟩ hx3) le ?_
                          refine AOps.sq (x := (AV.i .i64 x3)) kr le ?_
                          refine AOps.sq (x := (AV.i .i64 x3)) kr le ?_
                          refine AOps.done ?_
                          refine Awp.region tabS_ok ?_
                          refine AOps.sq (x := (AV.own 0 0 g.edges.length)) kr le ?_
                          refine AOps.sq (x := (AV.i .i64 x3)) kr le ?_
                          refine AOps.sq (x := (AV.loc 0 x3.toNat 0)) (g_oidxI (e := 4) (id := 0) (len := g.edges.length) (kk := .i64) (ob := ⟨4, 1, row3.map AV.b⟩) (n := x3) kr kr kr rfl kr sd sd) le ?_
                          refine AOps.st (x := AV.und) (h' := ⟨1, [(0, some ⟨4, 1, (row3.set x3.toNat true).map AV.b⟩)]⟩) (g_set (e := 4) (k := 1) (i := tI_4) (id := 0) (A := AV.b) (xs := row3) (y := true) (j := x3.toNat) kr kr kr rfl sd (fun _ => rfl) kr (fun _ => rfl) (fun _ => rfl)) ?_
                          refine AOps.done ?_
                          refine Awp.region tabS_ok ?_
                          refine AOps.sq (x := (AV.i .i64 ((v75 + 1 : Nat) : Int))) (g_addN (i := v75) (m := 1) kr kr sd) le ?_
                          refine AOps.sq (x := (AV.i .i64 ((v75 + 1 : Nat) : Int))) kr le ?_
                          refine AOps.done ?_
                          refine ⟨(v75 + 1, (row3.set x3.toNat true)), od, ⟨od, sdd, hE3⟩, ?_⟩
                          exact ⟨[0], ⟨by decide, rfl, (FitsObjs.cons (obj_row (fun _ => rfl) (e := 4) (k := 1) (A := AV.b) (xs := (row3.set x3.toNat true)) rfl rfl) FitsObjs.nil), (EntE.cons (Ent.c kr kr) (EntE.cons (Ent.c kr kr) (EntE.cons (Ent.f kr) (EntE.cons (Ent.c kr kr) (EntE.cons (Ent.c kr kr) (EntE.cons (Ent.c kr kr) (EntE.cons (Ent.c kr kr) EntE.nil)))))))⟩, keep0⟩
                        · have hc3 : decide (((v75 : Nat) : Int) < (((m_order_Needs g (((m_order_Of g).1).getD k.toNat default)).length : Nat) : Int)) = false := decide_eq_false (by omega)
                          refine Awp.cond (t := false) (by rw [← hc3] <;> kernel_rfl) (Awp.exit ?_)
                          rw [List.drop_eq_nil_of_le (hl3), m_want_Of_L3.eq_1] at hE3
                          subst hE3
                          refine Awp.region tabS_ok ?_
                          refine AOps.sq (x := (AV.i .i64 k)) kr le ?_
                          refine AOps.sq (x := (AV.i .i64 (k - (1 : Int)))) (g_subI (a := k) (b := (1 : Int)) kr kr sd sd) le ?_
                          refine AOps.sq (x := (AV.i .i64 (k - (1 : Int)))) kr le ?_
                          refine AOps.done ?_
                          try simp only [c_6, c_7, hR3, sbt] at hE2
                          refine ⟨(kf2, ((k - (1 : Int)), row3)), od, ⟨sdd, sdd, sdd, sdd, hE2⟩, ?_⟩
                          exact ⟨[0], ⟨by decide, rfl, (FitsObjs.cons (obj_row (fun _ => rfl) (e := 4) (k := 1) (A := AV.b) (xs := row3) rfl rfl) FitsObjs.nil), (EntE.cons (Ent.c kr kr) (EntE.cons (Ent.c kr kr) (EntE.cons (Ent.f kr) (EntE.cons (Ent.c kr kr) EntE.nil))))⟩, keep0⟩
                    · refine Awp.cond (t := true) kr ?_
                      refine Awp.exit ?_
                      refine Awp.region tabS_ok ?_
                      refine AOps.sq (x := (AV.i .i64 k)) kr le ?_
                      refine AOps.sq (x := (AV.i .i64 (k - (1 : Int)))) (g_subI (a := k) (b := (1 : Int)) kr kr sd sd) le ?_
                      refine AOps.sq (x := (AV.i .i64 (k - (1 : Int)))) kr le ?_
                      refine AOps.done ?_
                      try simp only [c_6, c_7, sbt] at hE2
                      refine ⟨(kf2, ((k - (1 : Int)), row2)), od, ⟨sdd, sdd, sdd, sdd, hE2⟩, ?_⟩
                      exact ⟨[0], ⟨by decide, rfl, (FitsObjs.cons (obj_row (fun _ => rfl) (e := 4) (k := 1) (A := AV.b) (xs := row2) rfl rfl) FitsObjs.nil), (EntE.cons (Ent.c kr kr) (EntE.cons (Ent.c kr kr) (EntE.cons (Ent.f kr) (EntE.cons (Ent.c kr kr) EntE.nil))))⟩, keep0⟩
    · refine Awp.cond (t := true) kr ?_
      refine Awp.seq ?_
      refine Awp.region tabS_ok ?_
      refine AOps.sq (x := (AV.sl 1 true [])) kr le ?_
      refine AOps.sq (x := (AV.i .i64 (2000 : Int))) kr le ?_
      refine AOps.done ?_
      refine Awp.ret ?_
      have hM : m_want_Of g names = (([] : List Bool), (2000 : Int)) := by simp only [m_want_Of, c_1, c_2, sbt]
      refine ⟨Or.inr rfl, ?_⟩
      rw [hM]
      exact Ent.cast (x' := (AV.tup [(AV.sl 1 true []), (AV.i .i64 (2000 : Int))])) (y' := (AV.tup [((slA 1 AV.b) ((([] : List Bool), (2000 : Int)).1)), (AV.i .i64 ((([] : List Bool), (2000 : Int)).2))])) kr kr (Ent.tup ⟨(Ent.w rfl (WeakC.nil 1)), ⟨(Ent.c kr kr), trivial⟩⟩ kr)
  · have k_1 : ¬ ((m_order_Of g).2 = (0 : Int)) := of_decide_eq_false (by simpa using c_1)
    refine AOps.sgn rfl rfl kr rfl le ?_
    refine AOps.sgn rfl rfl kr rfl le ?_
    refine AOps.sgn rfl rfl kr rfl le ?_
    refine AOps.sq (x := (AV.b true)) kr le ?_
    refine AOps.done ?_
    refine Awp.cond (t := true) kr ?_
    refine Awp.seq ?_
    refine Awp.region tabS_ok ?_
    refine AOps.sq (x := (AV.sl 1 true [])) kr le ?_
    refine AOps.sq (x := (AV.i .i64 (2000 : Int))) kr le ?_
    refine AOps.done ?_
    refine Awp.ret ?_
    have hM : m_want_Of g names = (([] : List Bool), (2000 : Int)) := by simp only [m_want_Of, c_1, sbt]
    refine ⟨Or.inr rfl, ?_⟩
    rw [hM]
    exact Ent.cast (x' := (AV.tup [(AV.sl 1 true []), (AV.i .i64 (2000 : Int))])) (y' := (AV.tup [((slA 1 AV.b) ((([] : List Bool), (2000 : Int)).1)), (AV.i .i64 ((([] : List Bool), (2000 : Int)).2))])) kr kr (Ent.tup ⟨(Ent.w rfl (WeakC.nil 1)), ⟨(Ent.c kr kr), trivial⟩⟩ kr)

theorem w_law0_Num (W : World) (e : Int) : PureAt Go.Proofs.Tryd.prog W 19 [(AV.i .i64 e)] (AV.i .i64 (m_law0_Num e)) [] := by
  refine pure_of_bodyC (fn := Go.Proofs.Tryd.f19) Go.Proofs.Tryd.func19 rfl (en19 W) (ts := [2]) rfl le ?_
  refine Awp.seq ?_
  refine Awp.region tabS_ok ?_
  refine AOps.sq (x := (AV.i .i64 (0 : Int))) kr le ?_
  refine AOps.done ?_
  refine Awp.seq ?_
  refine Awp.region tabS_ok ?_
  refine AOps.sq (x := (AV.i .i64 e)) kr le ?_
  refine AOps.sq (x := (AV.i .i64 e)) kr le ?_
  refine AOps.done ?_
  refine Awp.ret ?_
  have hM : m_law0_Num e = e := by simp only [m_law0_Num, sbt]
  refine ⟨Or.inr rfl, ?_⟩
  rw [hM]
  exact Ent.cast (x' := (AV.i .i64 e)) (y' := (AV.i .i64 e)) kr kr (Ent.c kr kr)

theorem wd_law20_given (W : World) : PureAt Go.Proofs.Tryd.prog W 31 [] (AV.st [(AV.own 0 0 3), (AV.own 9 0 1), (AV.own 10 0 1)]) [⟨31, 7, [(AV.st [(AV.own 1 0 1), (AV.own 2 0 2), (AV.sl 1 true []), (AV.sl 1 true []), (AV.s (⟨#[97, 114]⟩ : ByteArray)), (AV.b false), (AV.s (⟨#[]⟩ : ByteArray))]), (AV.st [(AV.own 3 0 2), (AV.own 4 0 1), (AV.own 5 0 1), (AV.sl 1 true []), (AV.s (⟨#[99, 99, 32, 97]⟩ : ByteArray)), (AV.b true), (AV.s (⟨#[116, 119, 111]⟩ : ByteArray))]), (AV.st [(AV.own 6 0 1), (AV.own 7 0 1), (AV.sl 1 true []), (AV.own 8 0 1), (AV.s (⟨#[99, 99, 32, 98]⟩ : ByteArray)), (AV.b false), (AV.s (⟨#[116, 119, 111]⟩ : ByteArray))])]⟩, ⟨9, 1, [(⟨#[108, 105, 98]⟩ : ByteArray)].map AV.s⟩, ⟨9, 1, [(⟨#[97, 46, 111]⟩ : ByteArray), (⟨#[98, 46, 111]⟩ : ByteArray)].map AV.s⟩, ⟨9, 1, [(⟨#[97, 46, 111]⟩ : ByteArray), (⟨#[97, 46, 100]⟩ : ByteArray)].map AV.s⟩, ⟨9, 1, [(⟨#[97, 46, 99]⟩ : ByteArray)].map AV.s⟩, ⟨9, 1, [(⟨#[97, 46, 104]⟩ : ByteArray)].map AV.s⟩, ⟨9, 1, [(⟨#[98, 46, 111]⟩ : ByteArray)].map AV.s⟩, ⟨9, 1, [(⟨#[98, 46, 99]⟩ : ByteArray)].map AV.s⟩, ⟨9, 1, [(⟨#[97, 46, 111]⟩ : ByteArray)].map AV.s⟩, ⟨34, 2, [(⟨(⟨#[116, 119, 111]⟩ : ByteArray), (2 : Int)⟩ : DPool)].map DPool.av⟩, ⟨9, 1, [(⟨#[108, 105, 98]⟩ : ByteArray)].map AV.s⟩] := by
  refine pure_of_run tabS_ok (fn := Go.Proofs.Tryd.f31) Go.Proofs.Tryd.func31 rfl (en31 W) le ?_
  refine Awp.seq ?_
  refine Awp.region tabS_ok ?_
  refine AOps.sn (x := (AV.loc 0 0 0)) (h' := ⟨1, [(0, some ⟨27, 3, [(AV.st [(AV.sl 7 true []), (AV.sl 2 true []), (AV.sl 1 true [])])]⟩)]⟩) kr le ?_
  refine AOps.done ?_
  refine Awp.seq ?_
  refine Awp.region tabS_ok ?_
  refine AOps.sn (x := (AV.own 1 0 1)) (h' := ⟨2, [(1, some ⟨9, 1, [(⟨#[108, 105, 98]⟩ : ByteArray)].map AV.s⟩), (0, some ⟨27, 3, [(AV.st [(AV.sl 7 true []), (AV.sl 2 true []), (AV.sl 1 true [])])]⟩)]⟩) kr le ?_
  refine AOps.sn (x := (AV.own 2 0 2)) (h' := ⟨3, [(2, some ⟨9, 1, [(⟨#[97, 46, 111]⟩ : ByteArray), (⟨#[98, 46, 111]⟩ : ByteArray)].map AV.s⟩), (1, some ⟨9, 1, [(⟨#[108, 105, 98]⟩ : ByteArray)].map AV.s⟩), (0, some ⟨27, 3, [(AV.st [(AV.sl 7 true []), (AV.sl 2 true []), (AV.sl 1 true [])])]⟩)]⟩) kr le ?_
  refine AOps.sn (x := (AV.st [(AV.own 1 0 1), (AV.own 2 0 2), (AV.sl 1 true []), (AV.sl 1 true []), (AV.s (⟨#[97, 114]⟩ : ByteArray)), (AV.b false), (AV.s (⟨#[]⟩ : ByteArray))])) (h' := ⟨3, [(2, some ⟨9, 1, [(⟨#[97, 46, 111]⟩ : ByteArray), (⟨#[98, 46, 111]⟩ : ByteArray)].map AV.s⟩), (1, some ⟨9, 1, [(⟨#[108, 105, 98]⟩ : ByteArray)].map AV.s⟩), (0, some ⟨27, 3, [(AV.st [(AV.sl 7 true []), (AV.sl 2 true []), (AV.sl 1 true [])])]⟩)]⟩) kr le ?_
  refine AOps.sn (x := (AV.own 3 0 2)) (h' := ⟨4, [(3, some ⟨9, 1, [(⟨#[97, 46, 111]⟩ : ByteArray), (⟨#[97, 46, 100]⟩ : ByteArray)].map AV.s⟩), (2, some ⟨9, 1, [(⟨#[97, 46, 111]⟩ : ByteArray), (⟨#[98, 46, 111]⟩ : ByteArray)].map AV.s⟩), (1, some ⟨9, 1, [(⟨#[108, 105, 98]⟩ : ByteArray)].map AV.s⟩), (0, some ⟨27, 3, [(AV.st [(AV.sl 7 true []), (AV.sl 2 true []), (AV.sl 1 true [])])]⟩)]⟩) kr le ?_
  refine AOps.sn (x := (AV.own 4 0 1)) (h' := ⟨5, [(4, some ⟨9, 1, [(⟨#[97, 46, 99]⟩ : ByteArray)].map AV.s⟩), (3, some ⟨9, 1, [(⟨#[97, 46, 111]⟩ : ByteArray), (⟨#[97, 46, 100]⟩ : ByteArray)].map AV.s⟩), (2, some ⟨9, 1, [(⟨#[97, 46, 111]⟩ : ByteArray), (⟨#[98, 46, 111]⟩ : ByteArray)].map AV.s⟩), (1, some ⟨9, 1, [(⟨#[108, 105, 98]⟩ : ByteArray)].map AV.s⟩), (0, some ⟨27, 3, [(AV.st [(AV.sl 7 true []), (AV.sl 2 true []), (AV.sl 1 true [])])]⟩)]⟩) kr le ?_
  refine AOps.sn (x := (AV.own 5 0 1)) (h' := ⟨6, [(5, some ⟨9, 1, [(⟨#[97, 46, 104]⟩ : ByteArray)].map AV.s⟩), (4, some ⟨9, 1, [(⟨#[97, 46, 99]⟩ : ByteArray)].map AV.s⟩), (3, some ⟨9, 1, [(⟨#[97, 46, 111]⟩ : ByteArray), (⟨#[97, 46, 100]⟩ : ByteArray)].map AV.s⟩), (2, some ⟨9, 1, [(⟨#[97, 46, 111]⟩ : ByteArray), (⟨#[98, 46, 111]⟩ : ByteArray)].map AV.s⟩), (1, some ⟨9, 1, [(⟨#[108, 105, 98]⟩ : ByteArray)].map AV.s⟩), (0, some ⟨27, 3, [(AV.st [(AV.sl 7 true []), (AV.sl 2 true []), (AV.sl 1 true [])])]⟩)]⟩) kr le ?_
  refine AOps.sn (x := (AV.st [(AV.own 3 0 2), (AV.own 4 0 1), (AV.own 5 0 1), (AV.sl 1 true []), (AV.s (⟨#[99, 99, 32, 97]⟩ : ByteArray)), (AV.b true), (AV.s (⟨#[116, 119, 111]⟩ : ByteArray))])) (h' := ⟨6, [(5, some ⟨9, 1, [(⟨#[97, 46, 104]⟩ : ByteArray)].map AV.s⟩), (4, some ⟨9, 1, [(⟨#[97, 46, 99]⟩ : ByteArray)].map AV.s⟩), (3, some ⟨9, 1, [(⟨#[97, 46, 111]⟩ : ByteArray), (⟨#[97, 46, 100]⟩ : ByteArray)].map AV.s⟩), (2, some ⟨9, 1, [(⟨#[97, 46, 111]⟩ : ByteArray), (⟨#[98, 46, 111]⟩ : ByteArray)].map AV.s⟩), (1, some ⟨9, 1, [(⟨#[108, 105, 98]⟩ : ByteArray)].map AV.s⟩), (0, some ⟨27, 3, [(AV.st [(AV.sl 7 true []), (AV.sl 2 true []), (AV.sl 1 true [])])]⟩)]⟩) kr le ?_
  refine AOps.sn (x := (AV.own 6 0 1)) (h' := ⟨7, [(6, some ⟨9, 1, [(⟨#[98, 46, 111]⟩ : ByteArray)].map AV.s⟩), (5, some ⟨9, 1, [(⟨#[97, 46, 104]⟩ : ByteArray)].map AV.s⟩), (4, some ⟨9, 1, [(⟨#[97, 46, 99]⟩ : ByteArray)].map AV.s⟩), (3, some ⟨9, 1, [(⟨#[97, 46, 111]⟩ : ByteArray), (⟨#[97, 46, 100]⟩ : ByteArray)].map AV.s⟩), (2, some ⟨9, 1, [(⟨#[97, 46, 111]⟩ : ByteArray), (⟨#[98, 46, 111]⟩ : ByteArray)].map AV.s⟩), (1, some ⟨9, 1, [(⟨#[108, 105, 98]⟩ : ByteArray)].map AV.s⟩), (0, some ⟨27, 3, [(AV.st [(AV.sl 7 true []), (AV.sl 2 true []), (AV.sl 1 true [])])]⟩)]⟩) kr le ?_
  refine AOps.sn (x := (AV.own 7 0 1)) (h' := ⟨8, [(7, some ⟨9, 1, [(⟨#[98, 46, 99]⟩ : ByteArray)].map AV.s⟩), (6, some ⟨9, 1, [(⟨#[98, 46, 111]⟩ : ByteArray)].map AV.s⟩), (5, some ⟨9, 1, [(⟨#[97, 46, 104]⟩ : ByteArray)].map AV.s⟩), (4, some ⟨9, 1, [(⟨#[97, 46, 99]⟩ : ByteArray)].map AV.s⟩), (3, some ⟨9, 1, [(⟨#[97, 46, 111]⟩ : ByteArray), (⟨#[97, 46, 100]⟩ : ByteArray)].map AV.s⟩), (2, some ⟨9, 1, [(⟨#[97, 46, 111]⟩ : ByteArray), (⟨#[98, 46, 111]⟩ : ByteArray)].map AV.s⟩), (1, some ⟨9, 1, [(⟨#[108, 105, 98]⟩ : ByteArray)].map AV.s⟩), (0, some ⟨27, 3, [(AV.st [(AV.sl 7 true []), (AV.sl 2 true []), (AV.sl 1 true [])])]⟩)]⟩) kr le ?_
  refine AOps.sn (x := (AV.own 8 0 1)) (h' := ⟨9, [(8, some ⟨9, 1, [(⟨#[97, 46, 111]⟩ : ByteArray)].map AV.s⟩), (7, some ⟨9, 1, [(⟨#[98, 46, 99]⟩ : ByteArray)].map AV.s⟩), (6, some ⟨9, 1, [(⟨#[98, 46, 111]⟩ : ByteArray)].map AV.s⟩), (5, some ⟨9, 1, [(⟨#[97, 46, 104]⟩ : ByteArray)].map AV.s⟩), (4, some ⟨9, 1, [(⟨#[97, 46, 99]⟩ : ByteArray)].map AV.s⟩), (3, some ⟨9, 1, [(⟨#[97, 46, 111]⟩ : ByteArray), (⟨#[97, 46, 100]⟩ : ByteArray)].map AV.s⟩), (2, some ⟨9, 1, [(⟨#[97, 46, 111]⟩ : ByteArray), (⟨#[98, 46, 111]⟩ : ByteArray)].map AV.s⟩), (1, some ⟨9, 1, [(⟨#[108, 105, 98]⟩ : ByteArray)].map AV.s⟩), (0, some ⟨27, 3, [(AV.st [(AV.sl 7 true []), (AV.sl 2 true []), (AV.sl 1 true [])])]⟩)]⟩) kr le ?_
  refine AOps.sn (x := (AV.st [(AV.own 6 0 1), (AV.own 7 0 1), (AV.sl 1 true []), (AV.own 8 0 1), (AV.s (⟨#[99, 99, 32, 98]⟩ : ByteArray)), (AV.b false), (AV.s (⟨#[116, 119, 111]⟩ : ByteArray))])) (h' := ⟨9, [(8, some ⟨9, 1, [(⟨#[97, 46, 111]⟩ : ByteArray)].map AV.s⟩), (7, some ⟨9, 1, [(⟨#[98, 46, 99]⟩ : ByteArray)].map AV.s⟩), (6, some ⟨9, 1, [(⟨#[98, 46, 111]⟩ : ByteArray)].map AV.s⟩), (5, some ⟨9, 1, [(⟨#[97, 46, 104]⟩ : ByteArray)].map AV.s⟩), (4, some ⟨9, 1, [(⟨#[97, 46, 99]⟩ : ByteArray)].map AV.s⟩), (3, some ⟨9, 1, [(⟨#[97, 46, 111]⟩ : ByteArray), (⟨#[97, 46, 100]⟩ : ByteArray)].map AV.s⟩), (2, some ⟨9, 1, [(⟨#[97, 46, 111]⟩ : ByteArray), (⟨#[98, 46, 111]⟩ : ByteArray)].map AV.s⟩), (1, some ⟨9, 1, [(⟨#[108, 105, 98]⟩ : ByteArray)].map AV.s⟩), (0, some ⟨27, 3, [(AV.st [(AV.sl 7 true []), (AV.sl 2 true []), (AV.sl 1 true [])])]⟩)]⟩) kr le ?_
  refine AOps.sn (x := (AV.own 9 0 3)) (h' := ⟨10, [(9, some ⟨31, 7, [(AV.st [(AV.own 1 0 1), (AV.own 2 0 2), (AV.sl 1 true []), (AV.sl 1 true []), (AV.s (⟨#[97, 114]⟩ : ByteArray)), (AV.b false), (AV.s (⟨#[]⟩ : ByteArray))]), (AV.st [(AV.own 3 0 2), (AV.own 4 0 1), (AV.own 5 0 1), (AV.sl 1 true []), (AV.s (⟨#[99, 99, 32, 97]⟩ : ByteArray)), (AV.b true), (AV.s (⟨#[116, 119, 111]⟩ : ByteArray))]), (AV.st [(AV.own 6 0 1), (AV.own 7 0 1), (AV.sl 1 true []), (AV.own 8 0 1), (AV.s (⟨#[99, 99, 32, 98]⟩ : ByteArray)), (AV.b false), (AV.s (⟨#[116, 119, 111]⟩ : ByteArray))])]⟩), (8, some ⟨9, 1, [(⟨#[97, 46, 111]⟩ : ByteArray)].map AV.s⟩), (7, some ⟨9, 1, [(⟨#[98, 46, 99]⟩ : ByteArray)].map AV.s⟩), (6, some ⟨9, 1, [(⟨#[98, 46, 111]⟩ : ByteArray)].map AV.s⟩), (5, some ⟨9, 1, [(⟨#[97, 46, 104]⟩ : ByteArray)].map AV.s⟩), (4, some ⟨9, 1, [(⟨#[97, 46, 99]⟩ : ByteArray)].map AV.s⟩), (3, some ⟨9, 1, [(⟨#[97, 46, 111]⟩ : ByteArray), (⟨#[97, 46, 100]⟩ : ByteArray)].map AV.s⟩), (2, some ⟨9, 1, [(⟨#[97, 46, 111]⟩ : ByteArray), (⟨#[98, 46, 111]⟩ : ByteArray)].map AV.s⟩), (1, some ⟨9, 1, [(⟨#[108, 105, 98]⟩ : ByteArray)].map AV.s⟩), (0, some ⟨27, 3, [(AV.st [(AV.sl 7 true []), (AV.sl 2 true []), (AV.sl 1 true [])])]⟩)]⟩) kr le ?_
  refine AOps.sn (x := (AV.st [(AV.s (⟨#[116, 119, 111]⟩ : ByteArray)), (AV.i .i64 (2 : Int))])) (h' := ⟨10, [(9, some ⟨31, 7, [(AV.st [(AV.own 1 0 1), (AV.own 2 0 2), (AV.sl 1 true []), (AV.sl 1 true []), (AV.s (⟨#[97, 114]⟩ : ByteArray)), (AV.b false), (AV.s (⟨#[]⟩ : ByteArray))]), (AV.st [(AV.own 3 0 2), (AV.own 4 0 1), (AV.own 5 0 1), (AV.sl 1 true []), (AV.s (⟨#[99, 99, 32, 97]⟩ : ByteArray)), (AV.b true), (AV.s (⟨#[116, 119, 111]⟩ : ByteArray))]), (AV.st [(AV.own 6 0 1), (AV.own 7 0 1), (AV.sl 1 true []), (AV.own 8 0 1), (AV.s (⟨#[99, 99, 32, 98]⟩ : ByteArray)), (AV.b false), (AV.s (⟨#[116, 119, 111]⟩ : ByteArray))])]⟩), (8, some ⟨9, 1, [(⟨#[97, 46, 111]⟩ : ByteArray)].map AV.s⟩), (7, some ⟨9, 1, [(⟨#[98, 46, 99]⟩ : ByteArray)].map AV.s⟩), (6, some ⟨9, 1, [(⟨#[98, 46, 111]⟩ : ByteArray)].map AV.s⟩), (5, some ⟨9, 1, [(⟨#[97, 46, 104]⟩ : ByteArray)].map AV.s⟩), (4, some ⟨9, 1, [(⟨#[97, 46, 99]⟩ : ByteArray)].map AV.s⟩), (3, some ⟨9, 1, [(⟨#[97, 46, 111]⟩ : ByteArray), (⟨#[97, 46, 100]⟩ : ByteArray)].map AV.s⟩), (2, some ⟨9, 1, [(⟨#[97, 46, 111]⟩ : ByteArray), (⟨#[98, 46, 111]⟩ : ByteArray)].map AV.s⟩), (1, some ⟨9, 1, [(⟨#[108, 105, 98]⟩ : ByteArray)].map AV.s⟩), (0, some ⟨27, 3, [(AV.st [(AV.sl 7 true []), (AV.sl 2 true []), (AV.sl 1 true [])])]⟩)]⟩) kr le ?_
  refine AOps.sn (x := (AV.own 10 0 1)) (h' := ⟨11, [(10, some ⟨34, 2, [(⟨(⟨#[116, 119, 111]⟩ : ByteArray), (2 : Int)⟩ : DPool)].map DPool.av⟩), (9, some ⟨31, 7, [(AV.st [(AV.own 1 0 1), (AV.own 2 0 2), (AV.sl 1 true []), (AV.sl 1 true []), (AV.s (⟨#[97, 114]⟩ : ByteArray)), (AV.b false), (AV.s (⟨#[]⟩ : ByteArray))]), (AV.st [(AV.own 3 0 2), (AV.own 4 0 1), (AV.own 5 0 1), (AV.sl 1 true []), (AV.s (⟨#[99, 99, 32, 97]⟩ : ByteArray)), (AV.b true), (AV.s (⟨#[116, 119, 111]⟩ : ByteArray))]), (AV.st [(AV.own 6 0 1), (AV.own 7 0 1), (AV.sl 1 true []), (AV.own 8 0 1), (AV.s (⟨#[99, 99, 32, 98]⟩ : ByteArray)), (AV.b false), (AV.s (⟨#[116, 119, 111]⟩ : ByteArray))])]⟩), (8, some ⟨9, 1, [(⟨#[97, 46, 111]⟩ : ByteArray)].map AV.s⟩), (7, some ⟨9, 1, [(⟨#[98, 46, 99]⟩ : ByteArray)].map AV.s⟩), (6, some ⟨9, 1, [(⟨#[98, 46, 111]⟩ : ByteArray)].map AV.s⟩), (5, some ⟨9, 1, [(⟨#[97, 46, 104]⟩ : ByteArray)].map AV.s⟩), (4, some ⟨9, 1, [(⟨#[97, 46, 99]⟩ : ByteArray)].map AV.s⟩), (3, some ⟨9, 1, [(⟨#[97, 46, 111]⟩ : ByteArray), (⟨#[97, 46, 100]⟩ : ByteArray)].map AV.s⟩), (2, some ⟨9, 1, [(⟨#[97, 46, 111]⟩ : ByteArray), (⟨#[98, 46, 111]⟩ : ByteArray)].map AV.s⟩), (1, some ⟨9, 1, [(⟨#[108, 105, 98]⟩ : ByteArray)].map AV.s⟩), (0, some ⟨27, 3, [(AV.st [(AV.sl 7 true []), (AV.sl 2 true []), (AV.sl 1 true [])])]⟩)]⟩) kr le ?_
  refine AOps.sn (x := (AV.own 11 0 1)) (h' := ⟨12, [(11, some ⟨9, 1, [(⟨#[108, 105, 98]⟩ : ByteArray)].map AV.s⟩), (10, some ⟨34, 2, [(⟨(⟨#[116, 119, 111]⟩ : ByteArray), (2 : Int)⟩ : DPool)].map DPool.av⟩), (9, some ⟨31, 7, [(AV.st [(AV.own 1 0 1), (AV.own 2 0 2), (AV.sl 1 true []), (AV.sl 1 true []), (AV.s (⟨#[97, 114]⟩ : ByteArray)), (AV.b false), (AV.s (⟨#[]⟩ : ByteArray))]), (AV.st [(AV.own 3 0 2), (AV.own 4 0 1), (AV.own 5 0 1), (AV.sl 1 true []), (AV.s (⟨#[99, 99, 32, 97]⟩ : ByteArray)), (AV.b true), (AV.s (⟨#[116, 119, 111]⟩ : ByteArray))]), (AV.st [(AV.own 6 0 1), (AV.own 7 0 1), (AV.sl 1 true []), (AV.own 8 0 1), (AV.s (⟨#[99, 99, 32, 98]⟩ : ByteArray)), (AV.b false), (AV.s (⟨#[116, 119, 111]⟩ : ByteArray))])]⟩), (8, some ⟨9, 1, [(⟨#[97, 46, 111]⟩ : ByteArray)].map AV.s⟩), (7, some ⟨9, 1, [(⟨#[98, 46, 99]⟩ : ByteArray)].map AV.s⟩), (6, some ⟨9, 1, [(⟨#[98, 46, 111]⟩ : ByteArray)].map AV.s⟩), (5, some ⟨9, 1, [(⟨#[97, 46, 104]⟩ : ByteArray)].map AV.s⟩), (4, some ⟨9, 1, [(⟨#[97, 46, 99]⟩ : ByteArray)].map AV.s⟩), (3, some ⟨9, 1, [(⟨#[97, 46, 111]⟩ : ByteArray), (⟨#[97, 46, 100]⟩ : ByteArray)].map AV.s⟩), (2, some ⟨9, 1, [(⟨#[97, 46, 111]⟩ : ByteArray), (⟨#[98, 46, 111]⟩ : ByteArray)].map AV.s⟩), (1, some ⟨9, 1, [(⟨#[108, 105, 98]⟩ : ByteArray)].map AV.s⟩), (0, some ⟨27, 3, [(AV.st [(AV.sl 7 true []), (AV.sl 2 true []), (AV.sl 1 true [])])]⟩)]⟩) kr le ?_
  refine AOps.sn (x := (AV.st [(AV.own 9 0 3), (AV.own 10 0 1), (AV.own 11 0 1)])) (h' := ⟨12, [(11, some ⟨9, 1, [(⟨#[108, 105, 98]⟩ : ByteArray)].map AV.s⟩), (10, some ⟨34, 2, [(⟨(⟨#[116, 119, 111]⟩ : ByteArray), (2 : Int)⟩ : DPool)].map DPool.av⟩), (9, some ⟨31, 7, [(AV.st [(AV.own 1 0 1), (AV.own 2 0 2), (AV.sl 1 true []), (AV.sl 1 true []), (AV.s (⟨#[97, 114]⟩ : ByteArray)), (AV.b false), (AV.s (⟨#[]⟩ : ByteArray))]), (AV.st [(AV.own 3 0 2), (AV.own 4 0 1), (AV.own 5 0 1), (AV.sl 1 true []), (AV.s (⟨#[99, 99, 32, 97]⟩ : ByteArray)), (AV.b true), (AV.s (⟨#[116, 119, 111]⟩ : ByteArray))]), (AV.st [(AV.own 6 0 1), (AV.own 7 0 1), (AV.sl 1 true []), (AV.own 8 0 1), (AV.s (⟨#[99, 99, 32, 98]⟩ : ByteArray)), (AV.b false), (AV.s (⟨#[116, 119, 111]⟩ : ByteArray))])]⟩), (8, some ⟨9, 1, [(⟨#[97, 46, 111]⟩ : ByteArray)].map AV.s⟩), (7, some ⟨9, 1, [(⟨#[98, 46, 99]⟩ : ByteArray)].map AV.s⟩), (6, some ⟨9, 1, [(⟨#[98, 46, 111]⟩ : ByteArray)].map AV.s⟩), (5, some ⟨9, 1, [(⟨#[97, 46, 104]⟩ : ByteArray)].map AV.s⟩), (4, some ⟨9, 1, [(⟨#[97, 46, 99]⟩ : ByteArray)].map AV.s⟩), (3, some ⟨9, 1, [(⟨#[97, 46, 111]⟩ : ByteArray), (⟨#[97, 46, 100]⟩ : ByteArray)].map AV.s⟩), (2, some ⟨9, 1, [(⟨#[97, 46, 111]⟩ : ByteArray), (⟨#[98, 46, 111]⟩ : ByteArray)].map AV.s⟩), (1, some ⟨9, 1, [(⟨#[108, 105, 98]⟩ : ByteArray)].map AV.s⟩), (0, some ⟨27, 3, [(AV.st [(AV.sl 7 true []), (AV.sl 2 true []), (AV.sl 1 true [])])]⟩)]⟩) kr le ?_
  refine AOps.st (x := AV.und) (h' := ⟨12, [(11, some ⟨9, 1, [(⟨#[108, 105, 98]⟩ : ByteArray)].map AV.s⟩), (10, some ⟨34, 2, [(⟨(⟨#[116, 119, 111]⟩ : ByteArray), (2 : Int)⟩ : DPool)].map DPool.av⟩), (9, some ⟨31, 7, [(AV.st [(AV.own 1 0 1), (AV.own 2 0 2), (AV.sl 1 true []), (AV.sl 1 true []), (AV.s (⟨#[97, 114]⟩ : ByteArray)), (AV.b false), (AV.s (⟨#[]⟩ : ByteArray))]), (AV.st [(AV.own 3 0 2), (AV.own 4 0 1), (AV.own 5 0 1), (AV.sl 1 true []), (AV.s (⟨#[99, 99, 32, 97]⟩ : ByteArray)), (AV.b true), (AV.s (⟨#[116, 119, 111]⟩ : ByteArray))]), (AV.st [(AV.own 6 0 1), (AV.own 7 0 1), (AV.sl 1 true []), (AV.own 8 0 1), (AV.s (⟨#[99, 99, 32, 98]⟩ : ByteArray)), (AV.b false), (AV.s (⟨#[116, 119, 111]⟩ : ByteArray))])]⟩), (8, some ⟨9, 1, [(⟨#[97, 46, 111]⟩ : ByteArray)].map AV.s⟩), (7, some ⟨9, 1, [(⟨#[98, 46, 99]⟩ : ByteArray)].map AV.s⟩), (6, some ⟨9, 1, [(⟨#[98, 46, 111]⟩ : ByteArray)].map AV.s⟩), (5, some ⟨9, 1, [(⟨#[97, 46, 104]⟩ : ByteArray)].map AV.s⟩), (4, some ⟨9, 1, [(⟨#[97, 46, 99]⟩ : ByteArray)].map AV.s⟩), (3, some ⟨9, 1, [(⟨#[97, 46, 111]⟩ : ByteArray), (⟨#[97, 46, 100]⟩ : ByteArray)].map AV.s⟩), (2, some ⟨9, 1, [(⟨#[97, 46, 111]⟩ : ByteArray), (⟨#[98, 46, 111]⟩ : ByteArray)].map AV.s⟩), (1, some ⟨9, 1, [(⟨#[108, 105, 98]⟩ : ByteArray)].map AV.s⟩), (0, some ⟨27, 3, [(AV.st [(AV.own 9 0 3), (AV.own 10 0 1), (AV.own 11 0 1)])]⟩)]⟩) kr ?_
  refine AOps.done ?_
  refine Awp.ret ?_
  have hM : m_law20_given = (⟨[(⟨[(⟨#[108, 105, 98]⟩ : ByteArray)], [(⟨#[97, 46, 111]⟩ : ByteArray), (⟨#[98, 46, 111]⟩ : ByteArray)], [], [], (⟨#[97, 114]⟩ : ByteArray), false, (⟨#[]⟩ : ByteArray)⟩ : DEdge), (⟨[(⟨#[97, 46, 111]⟩ : ByteArray), (⟨#[97, 46, 100]⟩ : ByteArray)], [(⟨#[97, 46, 99]⟩ : ByteArray)], [(⟨#[97, 46, 104]⟩ : ByteArray)], [], (⟨#[99, 99, 32, 97]⟩ : ByteArray), true, (⟨#[116, 119, 111]⟩ : ByteArray)⟩ : DEdge), (⟨[(⟨#[98, 46, 111]⟩ : ByteArray)], [(⟨#[98, 46, 99]⟩ : ByteArray)], [], [(⟨#[97, 46, 111]⟩ : ByteArray)], (⟨#[99, 99, 32, 98]⟩ : ByteArray), false, (⟨#[116, 119, 111]⟩ : ByteArray)⟩ : DEdge)], [(⟨(⟨#[116, 119, 111]⟩ : ByteArray), (2 : Int)⟩ : DPool)], [(⟨#[108, 105, 98]⟩ : ByteArray)]⟩ : DGraph) := by simp only [m_law20_given, sbt]
  exact ⟨[9, 1, 2, 3, 4, 5, 6, 7, 8, 10, 11], Or.inr rfl, by decide, rfl, ⟨kr, ⟨kr, ⟨kr, ⟨kr, ⟨kr, ⟨kr, ⟨kr, ⟨kr, ⟨kr, ⟨kr, ⟨kr, trivial⟩⟩⟩⟩⟩⟩⟩⟩⟩⟩⟩, (AV.st [(AV.own 9 0 3), (AV.own 10 0 1), (AV.own 11 0 1)]), kr, kr⟩

end
end Go.Lift
