/-
  Lemmas of this claim: a layer over the kit's calls, contracts of the functions that the law reaches, and the law's row. No condition of its own.
-/
import Derived.Test.YtjbfjochilgnbaaDoorSc
import Derived.Test.YtjbfjochilgnbaaDoorSb
namespace Go.Lift
noncomputable section
open Go Go.RowKit
set_option linter.unusedSimpArgs false
set_option linter.unusedVariables false
set_option linter.unusedSectionVars false
set_option maxRecDepth 20000
theorem w_law9_awake (W : World) {m0 : Int} (hW : W.cell? ⟨0, 0, none⟩ = some (.int .i64 m0)) : PureAt Go.Proofs.Tryd.prog W 15 [] (.b m_law9_awake) [] := law9_awake W hW
theorem w_law0_Num (W : World) (e : Int) : PureAt Go.Proofs.Tryd.prog W 19 [(AV.i .i64 e)] (AV.i .i64 (m_law0_Num e)) [] := by
  refine pure_of_bodyC (fn := Go.Proofs.Tryd.f19) Go.Proofs.Tryd.func19 rfl (en19 W) (ts := [2]) rfl (Nat.le_of_ble_eq_true rfl) ?_
  refine Awp.seq ?_
  refine Awp.region tabS_ok ?_
  refine AOps.sq (x := (AV.i .i64 (0 : Int))) (by kernel_rfl) (Nat.le_of_ble_eq_true rfl) ?_
  refine AOps.done ?_
  refine Awp.seq ?_
  refine Awp.region tabS_ok ?_
  refine AOps.sq (x := (AV.i .i64 e)) (by kernel_rfl) (Nat.le_of_ble_eq_true rfl) ?_
  refine AOps.sq (x := (AV.i .i64 e)) (by kernel_rfl) (Nat.le_of_ble_eq_true rfl) ?_
  refine AOps.done ?_
  refine Awp.ret ?_
  have hM : m_law0_Num e = e := by simp only [m_law0_Num, List.length_nil, Int.natCast_zero, eq_self, decide_true, List.nil_append, List.take_nil, cond_true, cond_false, Bool.true_and, Bool.false_and, Bool.true_or, Bool.false_or, Bool.not_true, Bool.not_false]
  refine ⟨Or.inr rfl, ?_⟩
  rw [hM]
  exact Ent.cast (x' := (AV.i .i64 e)) (y' := (AV.i .i64 e)) (by kernel_rfl) (by kernel_rfl) (Ent.c (by kernel_rfl) (by kernel_rfl))

theorem w_law9_GraphRow (W : World) {m0 : Int} (hW : W.cell? ⟨0, 0, none⟩ = some (.int .i64 m0)) (g : DGraph) (by' : Int) (name : ByteArray) (hz : outsN g.edges ≤ 1048576) (hze : g.edges.length ≤ 1048576) : PureAt Go.Proofs.Tryd.prog W 6 [(DGraph.av g), (AV.i .i64 by'), (AV.s name)] (AV.b (m_law9_GraphRow g by' name)) [] := by
  refine pure_of_bodyC (fn := Go.Proofs.Tryd.f6) Go.Proofs.Tryd.func6 rfl (en6 W) (ts := [6]) rfl (Nat.le_of_ble_eq_true rfl) ?_
  refine Awp.seq ?_
  refine Awp.region tabS_ok ?_
  refine AOps.sn (x := (AV.loc 0 0 0)) (h' := ⟨1, [(0, some ⟨27, 3, [(DGraph.av g)]⟩)]⟩) (by kernel_rfl) (Nat.le_of_ble_eq_true rfl) ?_
  refine AOps.sq (x := (AV.b false)) (by kernel_rfl) (Nat.le_of_ble_eq_true rfl) ?_
  refine AOps.done ?_
  refine Awp.seq ?_
  refine Awp.seq ?_
  refine Awp.region tabS_ok ?_
  refine AOps.sc0 (vs := []) (r0 := (AV.b m_law9_awake)) (by kernel_rfl) (by kernel_rfl) (w_law9_awake W hW ) (by kernel_rfl) (Nat.le_of_ble_eq_true rfl) ?_
  refine AOps.sq (x := (AV.b (!m_law9_awake))) (by kernel_rfl) (Nat.le_of_ble_eq_true rfl) ?_
  refine AOps.done ?_
  cases c_1 : (!m_law9_awake)
  · refine Awp.cond (t := false) (by kernel_rfl) ?_
    refine Awp.skip ?_
    refine Awp.seq ?_
    refine Awp.region tabS_ok ?_
    refine AOps.sq (x := (AV.loc 0 0 0)) (by kernel_rfl) (Nat.le_of_ble_eq_true rfl) ?_
    refine AOps.sq (x := ((slA 7 DEdge.av) g.edges)) (by kernel_rfl) (Nat.le_of_ble_eq_true rfl) ?_
    refine AOps.sq (x := (AV.i .i64 ((g.edges.length : Nat) : Int))) (g_len (k := 7) (nl := false) (e := 31) (A := DEdge.av) (xs := g.edges) (by kernel_rfl) (by kernel_rfl)) (Nat.le_of_ble_eq_true rfl) ?_
    refine AOps.sq (x := (AV.i .i64 ((g.edges.length : Nat) : Int))) (by kernel_rfl) (Nat.le_of_ble_eq_true rfl) ?_
    refine AOps.done ?_
    refine Awp.seq ?_
    refine Awp.seq ?_
    refine Awp.region tabS_ok ?_
    refine AOps.sq (x := (AV.i .i64 ((g.edges.length : Nat) : Int))) (by kernel_rfl) (Nat.le_of_ble_eq_true rfl) ?_
    refine AOps.sq (x := (AV.b (decide (((g.edges.length : Nat) : Int) = (0 : Int))))) (by kernel_rfl) (Nat.le_of_ble_eq_true rfl) ?_
    refine AOps.done ?_
    cases c_2 : decide (((g.edges.length : Nat) : Int) = (0 : Int))
    · have k_2 : ¬ (((g.edges.length : Nat) : Int) = (0 : Int)) := of_decide_eq_false c_2
      have q_2 := uMod_lt (a := by') (show 0 < g.edges.length by omega)
      refine Awp.cond (t := false) (by kernel_rfl) ?_
      refine Awp.skip ?_
      refine Awp.seq ?_
      refine Awp.region tabS_ok ?_
      refine AOps.sq (x := (AV.i .i64 by')) (by kernel_rfl) (Nat.le_of_ble_eq_true rfl) ?_
      refine AOps.sq (x := (AV.i .u64 (IntKind.wrap .u64 by'))) (by kernel_rfl) (Nat.le_of_ble_eq_true rfl) ?_
      refine AOps.sq (x := (AV.i .i64 ((g.edges.length : Nat) : Int))) (by kernel_rfl) (Nat.le_of_ble_eq_true rfl) ?_
      refine AOps.sq (x := (AV.i .u64 (IntKind.wrap .u64 ((g.edges.length : Nat) : Int)))) (by kernel_rfl) (Nat.le_of_ble_eq_true rfl) ?_
      refine AOps.sq (x := (AV.i .u64 (((uMod by' g.edges.length) : Nat) : Int))) (g_umod (a := by') (k := g.edges.length) (by kernel_rfl) (by kernel_rfl) (by first | omega | (unfold LIM; omega) | (simp only [List.length_append, List.length_cons, List.length_nil, List.length_set, List.length_replicate, ByteArray.size_append, List.length_take, List.length_drop, LIM]; omega) | (simp [LIM]; done) | (simp [LIM]; omega)) (by first | omega | (unfold LIM; omega) | (simp only [List.length_append, List.length_cons, List.length_nil, List.length_set, List.length_replicate, ByteArray.size_append, List.length_take, List.length_drop, LIM]; omega) | (simp [LIM]; done) | (simp [LIM]; omega))) (Nat.le_of_ble_eq_true rfl) ?_
      refine AOps.sq (x := (AV.i .i64 (((uMod by' g.edges.length) : Nat) : Int))) (g_convN (k := .u64) (n := (uMod by' g.edges.length)) (by kernel_rfl) (by kernel_rfl) (by kernel_rfl) (by first | omega | (unfold LIM; omega) | (simp only [List.length_append, List.length_cons, List.length_nil, List.length_set, List.length_replicate, ByteArray.size_append, List.length_take, List.length_drop, LIM]; omega) | (simp [LIM]; done) | (simp [LIM]; omega))) (Nat.le_of_ble_eq_true rfl) ?_
      refine AOps.sq (x := (AV.i .i64 (((uMod by' g.edges.length) : Nat) : Int))) (by kernel_rfl) (Nat.le_of_ble_eq_true rfl) ?_
      refine AOps.done ?_
      refine Awp.seq ?_
      refine Awp.region tabS_ok ?_
      refine AOps.sq (x := (DGraph.av g)) (by kernel_rfl) (Nat.le_of_ble_eq_true rfl) ?_
      refine AOps.sn (x := (AV.loc 1 0 0)) (h' := ⟨2, [(1, some ⟨27, 3, [(AV.st [(AV.sl 7 true []), (AV.sl 2 true []), (AV.sl 1 true [])])]⟩), (0, some ⟨27, 3, [(DGraph.av g)]⟩)]⟩) (by kernel_rfl) (Nat.le_of_ble_eq_true rfl) ?_
      refine AOps.st (x := AV.und) (h' := ⟨2, [(1, some ⟨27, 3, [(AV.st [((slA 7 DEdge.av) g.edges), ((slA 2 DPool.av) g.pools), ((slA 1 AV.s) g.defaults)])]⟩), (0, some ⟨27, 3, [(DGraph.av g)]⟩)]⟩) (by kernel_rfl) ?_
      refine AOps.done ?_
      refine Awp.seq ?_
      refine Awp.region tabS_ok ?_
      refine AOps.sn (x := (AV.own 2 0 0)) (h' := ⟨3, [(2, some ⟨31, 7, [].map DEdge.av⟩), (1, some ⟨27, 3, [(AV.st [((slA 7 DEdge.av) g.edges), ((slA 2 DPool.av) g.pools), ((slA 1 AV.s) g.defaults)])]⟩), (0, some ⟨27, 3, [(DGraph.av g)]⟩)]⟩) (by kernel_rfl) (Nat.le_of_ble_eq_true rfl) ?_
      refine AOps.sq (x := (AV.loc 0 0 0)) (by kernel_rfl) (Nat.le_of_ble_eq_true rfl) ?_
      refine AOps.sq (x := ((slA 7 DEdge.av) g.edges)) (by kernel_rfl) (Nat.le_of_ble_eq_true rfl) ?_
      refine AOps.sq (x := (AV.i .i64 (((uMod by' g.edges.length) : Nat) : Int))) (by kernel_rfl) (Nat.le_of_ble_eq_true rfl) ?_
      refine AOps.sq (x := ((slA 7 DEdge.av) ((g.edges.take g.edges.length).drop (uMod by' g.edges.length)))) (g_cutL (k := 7) (nl := false) (e := 31) (l := (some (((uMod by' g.edges.length) : Nat) : Int))) (g := none) (A := DEdge.av) (xs := g.edges) (a := (uMod by' g.edges.length)) (b := g.edges.length) (by kernel_rfl) (by kernel_rfl) ⟨by kernel_rfl, by decide⟩ (by kernel_rfl) (by kernel_rfl) rfl rfl (by first | omega | (unfold LIM; omega) | (simp only [List.length_append, List.length_cons, List.length_nil, List.length_set, List.length_replicate, ByteArray.size_append, List.length_take, List.length_drop, LIM]; omega) | (simp [LIM]; done) | (simp [LIM]; omega)) (by first | omega | (unfold LIM; omega) | (simp only [List.length_append, List.length_cons, List.length_nil, List.length_set, List.length_replicate, ByteArray.size_append, List.length_take, List.length_drop, LIM]; omega) | (simp [LIM]; done) | (simp [LIM]; omega))) (Nat.le_of_ble_eq_true rfl) ?_
      refine AOps.se (x := (AV.own 3 0 (((g.edges.take g.edges.length).drop (uMod by' g.edges.length)).length))) (h' := ⟨4, [(3, some ⟨31, 7, ((g.edges.take g.edges.length).drop (uMod by' g.edges.length)).map DEdge.av⟩), (2, none), (1, some ⟨27, 3, [(AV.st [((slA 7 DEdge.av) g.edges), ((slA 2 DPool.av) g.pools), ((slA 1 AV.s) g.defaults)])]⟩), (0, some ⟨27, 3, [(DGraph.av g)]⟩)]⟩) (g_appR (len := 0) (e := 31) (X := ((slA 7 DEdge.av) ((g.edges.take g.edges.length).drop (uMod by' g.edges.length)))) (A := DEdge.av) (i := tI_31) (p := 2) (xs := []) (ys := ((g.edges.take g.edges.length).drop (uMod by' g.edges.length))) (by kernel_rfl) (by kernel_rfl) (by kernel_rfl) (hx := (by kernel_rfl)) (by kernel_rfl) ⟨by decide, by kernel_rfl⟩ rfl (by simp) (by show _ * 136 ≤ 140737488355328; first | omega | (simp only [List.length_append, List.length_cons, List.length_nil, List.length_set, List.length_replicate]; omega) | (simp; omega)) (by first | omega | (unfold LIM; omega) | (simp only [List.length_append, List.length_cons, List.length_nil, List.length_set, List.length_replicate, ByteArray.size_append, List.length_take, List.length_drop, LIM]; omega) | (simp [LIM]; done) | (simp [LIM]; omega))) (Nat.le_of_ble_eq_true rfl) ?_
      refine AOps.sq (x := (AV.loc 1 0 0)) (by kernel_rfl) (Nat.le_of_ble_eq_true rfl) ?_
      refine AOps.st (x := AV.und) (h' := ⟨4, [(3, some ⟨31, 7, ((g.edges.take g.edges.length).drop (uMod by' g.edges.length)).map DEdge.av⟩), (2, none), (1, some ⟨27, 3, [(AV.st [(AV.own 3 0 (((g.edges.take g.edges.length).drop (uMod by' g.edges.length)).length)), ((slA 2 DPool.av) g.pools), ((slA 1 AV.s) g.defaults)])]⟩), (0, some ⟨27, 3, [(DGraph.av g)]⟩)]⟩) (by kernel_rfl) ?_
      refine AOps.done ?_
      refine Awp.seq ?_
      refine Awp.drawn tabS_ok mixed 6 (by kernel_rfl) (Nat.le_of_ble_eq_true rfl) ?_
      refine AOpsD.sq (x := (AV.loc 1 0 0)) (by kernel_rfl) (Nat.le_of_ble_eq_true rfl) ?_
      refine AOpsD.sq (x := (AV.own 3 0 (((g.edges.take g.edges.length).drop (uMod by' g.edges.length)).length))) (by kernel_rfl) (Nat.le_of_ble_eq_true rfl) ?_
      refine AOpsD.sq (x := (AV.loc 0 0 0)) (by kernel_rfl) (Nat.le_of_ble_eq_true rfl) ?_
      refine AOpsD.sq (x := ((slA 7 DEdge.av) g.edges)) (by kernel_rfl) (Nat.le_of_ble_eq_true rfl) ?_
      refine AOpsD.sq (x := (AV.i .i64 (((uMod by' g.edges.length) : Nat) : Int))) (by kernel_rfl) (Nat.le_of_ble_eq_true rfl) ?_
      refine AOpsD.sq (x := ((slA 7 DEdge.av) ((g.edges.take (uMod by' g.edges.length)).drop 0))) (g_cutL (k := 7) (nl := false) (e := 31) (l := none) (g := (some (((uMod by' g.edges.length) : Nat) : Int))) (A := DEdge.av) (xs := g.edges) (a := 0) (b := (uMod by' g.edges.length)) (by kernel_rfl) (by kernel_rfl) ⟨by kernel_rfl, by decide⟩ (by kernel_rfl) (by kernel_rfl) rfl rfl (by first | omega | (unfold LIM; omega) | (simp only [List.length_append, List.length_cons, List.length_nil, List.length_set, List.length_replicate, ByteArray.size_append, List.length_take, List.length_drop, LIM]; omega) | (simp [LIM]; done) | (simp [LIM]; omega)) (by first | omega | (unfold LIM; omega) | (simp only [List.length_append, List.length_cons, List.length_nil, List.length_set, List.length_replicate, ByteArray.size_append, List.length_take, List.length_drop, LIM]; omega) | (simp [LIM]; done) | (simp [LIM]; omega))) (Nat.le_of_ble_eq_true rfl) ?_
      refine AOpsD.se (by decide) (x := (AV.own 4 0 ((((g.edges.take g.edges.length).drop (uMod by' g.edges.length)) ++ ((g.edges.take (uMod by' g.edges.length)).drop 0)).length))) (h' := ⟨5, [(4, some ⟨31, 7, (((g.edges.take g.edges.length).drop (uMod by' g.edges.length)) ++ ((g.edges.take (uMod by' g.edges.length)).drop 0)).map DEdge.av⟩), (3, none), (2, none), (1, some ⟨27, 3, [(AV.st [(AV.own 3 0 (((g.edges.take g.edges.length).drop (uMod by' g.edges.length)).length)), ((slA 2 DPool.av) g.pools), ((slA 1 AV.s) g.defaults)])]⟩), (0, some ⟨27, 3, [(DGraph.av g)]⟩)]⟩) (g_appR (len := (((g.edges.take g.edges.length).drop (uMod by' g.edges.length)).length)) (e := 31) (X := ((slA 7 DEdge.av) ((g.edges.take (uMod by' g.edges.length)).drop 0))) (A := DEdge.av) (i := tI_31) (p := 3) (xs := ((g.edges.take g.edges.length).drop (uMod by' g.edges.length))) (ys := ((g.edges.take (uMod by' g.edges.length)).drop 0)) (by kernel_rfl) (by kernel_rfl) (by kernel_rfl) (hx := (by kernel_rfl)) (by kernel_rfl) ⟨by decide, by kernel_rfl⟩ rfl rfl (by show _ * 136 ≤ 140737488355328; first | omega | (simp only [List.length_append, List.length_cons, List.length_nil, List.length_set, List.length_replicate]; omega) | (simp; omega)) (by first | omega | (unfold LIM; omega) | (simp only [List.length_append, List.length_cons, List.length_nil, List.length_set, List.length_replicate, ByteArray.size_append, List.length_take, List.length_drop, LIM]; omega) | (simp [LIM]; done) | (simp [LIM]; omega))) (Nat.le_of_ble_eq_true rfl) ?_
      refine AOpsD.sq (x := (AV.loc 1 0 0)) (by kernel_rfl) (Nat.le_of_ble_eq_true rfl) ?_
      refine AOpsD.st (by decide) (x := AV.und) (h' := ⟨5, [(4, some ⟨31, 7, (((g.edges.take g.edges.length).drop (uMod by' g.edges.length)) ++ ((g.edges.take (uMod by' g.edges.length)).drop 0)).map DEdge.av⟩), (3, none), (2, none), (1, some ⟨27, 3, [(AV.st [(AV.own 4 0 ((((g.edges.take g.edges.length).drop (uMod by' g.edges.length)) ++ ((g.edges.take (uMod by' g.edges.length)).drop 0)).length)), ((slA 2 DPool.av) g.pools), ((slA 1 AV.s) g.defaults)])]⟩), (0, some ⟨27, 3, [(DGraph.av g)]⟩)]⟩) (by kernel_rfl) ?_
      refine AOpsD.fin ?_
      refine Awp.seq ?_
      refine Awp.region tabS_ok ?_
      refine AOps.sq (x := (DGraph.av g)) (by kernel_rfl) (Nat.le_of_ble_eq_true rfl) ?_
      refine AOps.sq (x := (AV.s name)) (by kernel_rfl) (Nat.le_of_ble_eq_true rfl) ?_
      refine AOps.sc0 (vs := [(DGraph.av g), (AV.s name)]) (r0 := (AV.tup [(AV.i .i64 ((m_graph_Maker g name).1)), (AV.b ((m_graph_Maker g name).2.1)), (AV.i .i64 ((m_graph_Maker g name).2.2))])) (by kernel_rfl) (by kernel_rfl) (w_graph_Maker W hW g name) (by kernel_rfl) (Nat.le_of_ble_eq_true rfl) ?_
      refine AOps.sq (x := (AV.tup [(AV.i .i64 ((m_graph_Maker g name).1)), (AV.b ((m_graph_Maker g name).2.1)), (AV.i .i64 ((m_graph_Maker g name).2.2))])) (by kernel_rfl) (Nat.le_of_ble_eq_true rfl) ?_
      refine AOps.sq (x := (AV.i .i64 ((m_graph_Maker g name).1))) (by kernel_rfl) (Nat.le_of_ble_eq_true rfl) ?_
      refine AOps.sq (x := (AV.b ((m_graph_Maker g name).2.1))) (by kernel_rfl) (Nat.le_of_ble_eq_true rfl) ?_
      refine AOps.sq (x := (AV.i .i64 ((m_graph_Maker g name).2.2))) (by kernel_rfl) (Nat.le_of_ble_eq_true rfl) ?_
      refine AOps.sq (x := (AV.i .i64 ((m_graph_Maker g name).1))) (by kernel_rfl) (Nat.le_of_ble_eq_true rfl) ?_
      refine AOps.sq (x := (AV.b ((m_graph_Maker g name).2.1))) (by kernel_rfl) (Nat.le_of_ble_eq_true rfl) ?_
      refine AOps.sq (x := (AV.i .i64 ((m_graph_Maker g name).2.2))) (by kernel_rfl) (Nat.le_of_ble_eq_true rfl) ?_
      refine AOps.done ?_
      refine Awp.seq ?_
      refine Awp.region tabS_ok ?_
      refine AOps.sq (x := (AV.st [(AV.own 4 0 ((((g.edges.take g.edges.length).drop (uMod by' g.edges.length)) ++ ((g.edges.take (uMod by' g.edges.length)).drop 0)).length)), ((slA 2 DPool.av) g.pools), ((slA 1 AV.s) g.defaults)])) (by kernel_rfl) (Nat.le_of_ble_eq_true rfl) ?_
      refine AOps.sq (x := (AV.s name)) (by kernel_rfl) (Nat.le_of_ble_eq_true rfl) ?_
      refine AOps.sfw (vs := [(AV.st [(AV.own 4 0 ((((g.edges.take g.edges.length).drop (uMod by' g.edges.length)) ++ ((g.edges.take (uMod by' g.edges.length)).drop 0)).length)), ((slA 2 DPool.av) g.pools), ((slA 1 AV.s) g.defaults)]), (AV.s name)]) (ss := [(DGraph.av (⟨(((g.edges.take g.edges.length).drop (uMod by' g.edges.length)) ++ ((g.edges.take (uMod by' g.edges.length)).drop 0)), g.pools, g.defaults⟩ : DGraph)), (AV.s name)]) (r0 := (AV.tup [(AV.i .i64 ((m_graph_Maker (⟨(((g.edges.take g.edges.length).drop (uMod by' g.edges.length)) ++ ((g.edges.take (uMod by' g.edges.length)).drop 0)), g.pools, g.defaults⟩ : DGraph) name).1)), (AV.b ((m_graph_Maker (⟨(((g.edges.take g.edges.length).drop (uMod by' g.edges.length)) ++ ((g.edges.take (uMod by' g.edges.length)).drop 0)), g.pools, g.defaults⟩ : DGraph) name).2.1)), (AV.i .i64 ((m_graph_Maker (⟨(((g.edges.take g.edges.length).drop (uMod by' g.edges.length)) ++ ((g.edges.take (uMod by' g.edges.length)).drop 0)), g.pools, g.defaults⟩ : DGraph) name).2.2))])) (by kernel_rfl) (show SnapW _ _ _ from ⟨SnapD.w (SnapD.cast (x' := (AV.st [(AV.own 4 0 ((((g.edges.take g.edges.length).drop (uMod by' g.edges.length)) ++ ((g.edges.take (uMod by' g.edges.length)).drop 0)).length)), ((slA 2 DPool.av) g.pools), ((slA 1 AV.s) g.defaults)])) (by kernel_rfl) (by kernel_rfl) (SnapD.st (SnapDs.cons (SnapD.row (fun _ => rfl) (A := DEdge.av) (e := 31) (k := 7) (xs := (((g.edges.take g.edges.length).drop (uMod by' g.edges.length)) ++ ((g.edges.take (uMod by' g.edges.length)).drop 0))) rfl rfl (by first | omega | (unfold LIM; omega) | (simp only [List.length_append, List.length_cons, List.length_nil, List.length_set, List.length_replicate, ByteArray.size_append, List.length_take, List.length_drop, LIM]; omega) | (simp [LIM]; done) | (simp [LIM]; omega))) (SnapDs.cons (SnapD.c (x := ((slA 2 DPool.av) g.pools)) (by kernel_rfl) (WeakC.refl _)) (SnapDs.cons (SnapD.c (x := ((slA 1 AV.s) g.defaults)) (by kernel_rfl) (WeakC.refl _)) SnapDs.nil))))), ⟨(SnapW.e (by kernel_rfl)), trivial⟩⟩) (w_graph_Maker W hW (⟨(((g.edges.take g.edges.length).drop (uMod by' g.edges.length)) ++ ((g.edges.take (uMod by' g.edges.length)).drop 0)), g.pools, g.defaults⟩ : DGraph) name) rfl (by kernel_rfl) (Nat.le_of_ble_eq_true rfl) ?_
      refine AOps.sq (x := (AV.tup [(AV.i .i64 ((m_graph_Maker (⟨(((g.edges.take g.edges.length).drop (uMod by' g.edges.length)) ++ ((g.edges.take (uMod by' g.edges.length)).drop 0)), g.pools, g.defaults⟩ : DGraph) name).1)), (AV.b ((m_graph_Maker (⟨(((g.edges.take g.edges.length).drop (uMod by' g.edges.length)) ++ ((g.edges.take (uMod by' g.edges.length)).drop 0)), g.pools, g.defaults⟩ : DGraph) name).2.1)), (AV.i .i64 ((m_graph_Maker (⟨(((g.edges.take g.edges.length).drop (uMod by' g.edges.length)) ++ ((g.edges.take (uMod by' g.edges.length)).drop 0)), g.pools, g.defaults⟩ : DGraph) name).2.2))])) (by kernel_rfl) (Nat.le_of_ble_eq_true rfl) ?_
      refine AOps.sq (x := (AV.i .i64 ((m_graph_Maker (⟨(((g.edges.take g.edges.length).drop (uMod by' g.edges.length)) ++ ((g.edges.take (uMod by' g.edges.length)).drop 0)), g.pools, g.defaults⟩ : DGraph) name).1))) (by kernel_rfl) (Nat.le_of_ble_eq_true rfl) ?_
      refine AOps.sq (x := (AV.b ((m_graph_Maker (⟨(((g.edges.take g.edges.length).drop (uMod by' g.edges.length)) ++ ((g.edges.take (uMod by' g.edges.length)).drop 0)), g.pools, g.defaults⟩ : DGraph) name).2.1))) (by kernel_rfl) (Nat.le_of_ble_eq_true rfl) ?_
      refine AOps.sq (x := (AV.i .i64 ((m_graph_Maker (⟨(((g.edges.take g.edges.length).drop (uMod by' g.edges.length)) ++ ((g.edges.take (uMod by' g.edges.length)).drop 0)), g.pools, g.defaults⟩ : DGraph) name).2.2))) (by kernel_rfl) (Nat.le_of_ble_eq_true rfl) ?_
      refine AOps.sq (x := (AV.i .i64 ((m_graph_Maker (⟨(((g.edges.take g.edges.length).drop (uMod by' g.edges.length)) ++ ((g.edges.take (uMod by' g.edges.length)).drop 0)), g.pools, g.defaults⟩ : DGraph) name).1))) (by kernel_rfl) (Nat.le_of_ble_eq_true rfl) ?_
      refine AOps.sq (x := (AV.b ((m_graph_Maker (⟨(((g.edges.take g.edges.length).drop (uMod by' g.edges.length)) ++ ((g.edges.take (uMod by' g.edges.length)).drop 0)), g.pools, g.defaults⟩ : DGraph) name).2.1))) (by kernel_rfl) (Nat.le_of_ble_eq_true rfl) ?_
      refine AOps.sq (x := (AV.i .i64 ((m_graph_Maker (⟨(((g.edges.take g.edges.length).drop (uMod by' g.edges.length)) ++ ((g.edges.take (uMod by' g.edges.length)).drop 0)), g.pools, g.defaults⟩ : DGraph) name).2.2))) (by kernel_rfl) (Nat.le_of_ble_eq_true rfl) ?_
      refine AOps.done ?_
      refine Awp.seq ?_
      refine Awp.drawn tabS_ok mixed 36 (by kernel_rfl) (Nat.le_of_ble_eq_true rfl) ?_
      refine AOpsD.sq (x := (DGraph.av g)) (by kernel_rfl) (Nat.le_of_ble_eq_true rfl) ?_
      refine AOpsD.sc0 (vs := [(DGraph.av g)]) (r0 := (AV.b (m_graph_May g))) (by kernel_rfl) (by kernel_rfl) (w_graph_May W hW g) (by kernel_rfl) (Nat.le_of_ble_eq_true rfl) ?_
      refine AOpsD.sq (x := (AV.st [(AV.own 4 0 ((((g.edges.take g.edges.length).drop (uMod by' g.edges.length)) ++ ((g.edges.take (uMod by' g.edges.length)).drop 0)).length)), ((slA 2 DPool.av) g.pools), ((slA 1 AV.s) g.defaults)])) (by kernel_rfl) (Nat.le_of_ble_eq_true rfl) ?_
      refine AOpsD.sfw (vs := [(AV.st [(AV.own 4 0 ((((g.edges.take g.edges.length).drop (uMod by' g.edges.length)) ++ ((g.edges.take (uMod by' g.edges.length)).drop 0)).length)), ((slA 2 DPool.av) g.pools), ((slA 1 AV.s) g.defaults)])]) (ss := [(DGraph.av (⟨(((g.edges.take g.edges.length).drop (uMod by' g.edges.length)) ++ ((g.edges.take (uMod by' g.edges.length)).drop 0)), g.pools, g.defaults⟩ : DGraph))]) (r0 := (AV.b (m_graph_May (⟨(((g.edges.take g.edges.length).drop (uMod by' g.edges.length)) ++ ((g.edges.take (uMod by' g.edges.length)).drop 0)), g.pools, g.defaults⟩ : DGraph)))) (by kernel_rfl) (show SnapW _ _ _ from ⟨SnapD.w (SnapD.cast (x' := (AV.st [(AV.own 4 0 ((((g.edges.take g.edges.length).drop (uMod by' g.edges.length)) ++ ((g.edges.take (uMod by' g.edges.length)).drop 0)).length)), ((slA 2 DPool.av) g.pools), ((slA 1 AV.s) g.defaults)])) (by kernel_rfl) (by kernel_rfl) (SnapD.st (SnapDs.cons (SnapD.row (fun _ => rfl) (A := DEdge.av) (e := 31) (k := 7) (xs := (((g.edges.take g.edges.length).drop (uMod by' g.edges.length)) ++ ((g.edges.take (uMod by' g.edges.length)).drop 0))) rfl rfl (by first | omega | (unfold LIM; omega) | (simp only [List.length_append, List.length_cons, List.length_nil, List.length_set, List.length_replicate, ByteArray.size_append, List.length_take, List.length_drop, LIM]; omega) | (simp [LIM]; done) | (simp [LIM]; omega))) (SnapDs.cons (SnapD.c (x := ((slA 2 DPool.av) g.pools)) (by kernel_rfl) (WeakC.refl _)) (SnapDs.cons (SnapD.c (x := ((slA 1 AV.s) g.defaults)) (by kernel_rfl) (WeakC.refl _)) SnapDs.nil))))), trivial⟩) (w_graph_May W hW (⟨(((g.edges.take g.edges.length).drop (uMod by' g.edges.length)) ++ ((g.edges.take (uMod by' g.edges.length)).drop 0)), g.pools, g.defaults⟩ : DGraph)) rfl (by kernel_rfl) (Nat.le_of_ble_eq_true rfl) ?_
      refine AOpsD.sq (x := (AV.b ((m_graph_May g) == (m_graph_May (⟨(((g.edges.take g.edges.length).drop (uMod by' g.edges.length)) ++ ((g.edges.take (uMod by' g.edges.length)).drop 0)), g.pools, g.defaults⟩ : DGraph))))) (by kernel_rfl) (Nat.le_of_ble_eq_true rfl) ?_
      refine AOpsD.sq (x := (AV.b ((m_graph_May g) == (m_graph_May (⟨(((g.edges.take g.edges.length).drop (uMod by' g.edges.length)) ++ ((g.edges.take (uMod by' g.edges.length)).drop 0)), g.pools, g.defaults⟩ : DGraph))))) (by kernel_rfl) (Nat.le_of_ble_eq_true rfl) ?_
      cases c_3 : ((m_graph_May g) == (m_graph_May (⟨(((g.edges.take g.edges.length).drop (uMod by' g.edges.length)) ++ ((g.edges.take (uMod by' g.edges.length)).drop 0)), g.pools, g.defaults⟩ : DGraph)))
      · refine AOpsD.sgn rfl rfl (by kernel_rfl) rfl (Nat.le_of_ble_eq_true rfl) ?_
        refine AOpsD.sgn rfl rfl (by kernel_rfl) rfl (Nat.le_of_ble_eq_true rfl) ?_
        refine AOpsD.sgn rfl rfl (by kernel_rfl) rfl (Nat.le_of_ble_eq_true rfl) ?_
        refine AOpsD.sgn rfl rfl (by kernel_rfl) rfl (Nat.le_of_ble_eq_true rfl) ?_
        refine AOpsD.sgn rfl rfl (by kernel_rfl) rfl (Nat.le_of_ble_eq_true rfl) ?_
        refine AOpsD.sgn rfl rfl (by kernel_rfl) rfl (Nat.le_of_ble_eq_true rfl) ?_
        refine AOpsD.sgn rfl rfl (by kernel_rfl) rfl (Nat.le_of_ble_eq_true rfl) ?_
        refine AOpsD.sq (x := (AV.b false)) (by kernel_rfl) (Nat.le_of_ble_eq_true rfl) ?_
        refine AOpsD.sq (x := (AV.b false)) (by kernel_rfl) (Nat.le_of_ble_eq_true rfl) ?_
        refine AOpsD.sgn rfl rfl (by kernel_rfl) rfl (Nat.le_of_ble_eq_true rfl) ?_
        refine AOpsD.sgn rfl rfl (by kernel_rfl) rfl (Nat.le_of_ble_eq_true rfl) ?_
        refine AOpsD.sgn rfl rfl (by kernel_rfl) rfl (Nat.le_of_ble_eq_true rfl) ?_
        refine AOpsD.sgn rfl rfl (by kernel_rfl) rfl (Nat.le_of_ble_eq_true rfl) ?_
        refine AOpsD.sgn rfl rfl (by kernel_rfl) rfl (Nat.le_of_ble_eq_true rfl) ?_
        refine AOpsD.sq (x := (AV.b false)) (by kernel_rfl) (Nat.le_of_ble_eq_true rfl) ?_
        refine AOpsD.sq (x := (AV.b false)) (by kernel_rfl) (Nat.le_of_ble_eq_true rfl) ?_
        refine AOpsD.sgn rfl rfl (by kernel_rfl) rfl (Nat.le_of_ble_eq_true rfl) ?_
        refine AOpsD.sgn rfl rfl (by kernel_rfl) rfl (Nat.le_of_ble_eq_true rfl) ?_
        refine AOpsD.sgn rfl rfl (by kernel_rfl) rfl (Nat.le_of_ble_eq_true rfl) ?_
        refine AOpsD.sq (x := (AV.b false)) (by kernel_rfl) (Nat.le_of_ble_eq_true rfl) ?_
        refine AOpsD.sq (x := (AV.b false)) (by kernel_rfl) (Nat.le_of_ble_eq_true rfl) ?_
        refine AOpsD.sgn rfl rfl (by kernel_rfl) rfl (Nat.le_of_ble_eq_true rfl) ?_
        refine AOpsD.sgn rfl rfl (by kernel_rfl) rfl (Nat.le_of_ble_eq_true rfl) ?_
        refine AOpsD.sgn rfl rfl (by kernel_rfl) rfl (Nat.le_of_ble_eq_true rfl) ?_
        refine AOpsD.sgu rfl rfl (by kernel_rfl) (Nat.le_of_ble_eq_true rfl) ?_
        refine AOpsD.sgu rfl rfl (by kernel_rfl) (Nat.le_of_ble_eq_true rfl) ?_
        refine AOpsD.sgu rfl rfl (by kernel_rfl) (Nat.le_of_ble_eq_true rfl) ?_
        refine AOpsD.sgu rfl rfl (by kernel_rfl) (Nat.le_of_ble_eq_true rfl) ?_
        refine AOpsD.sgu rfl rfl (by kernel_rfl) (Nat.le_of_ble_eq_true rfl) ?_
        refine AOpsD.sgu rfl rfl (by kernel_rfl) (Nat.le_of_ble_eq_true rfl) ?_
        refine AOpsD.sgu rfl rfl (by kernel_rfl) (Nat.le_of_ble_eq_true rfl) ?_
        refine AOpsD.sgn rfl rfl (by kernel_rfl) rfl (Nat.le_of_ble_eq_true rfl) ?_
        refine AOpsD.sq (x := (AV.b false)) (by kernel_rfl) (Nat.le_of_ble_eq_true rfl) ?_
        refine AOpsD.sq (x := (AV.b false)) (by kernel_rfl) (Nat.le_of_ble_eq_true rfl) ?_
        refine AOpsD.fin ?_
        refine Awp.ret ?_
        have hM : m_law9_GraphRow g by' name = false := by simp only [m_law9_GraphRow, c_1, c_2, c_3, List.length_nil, Int.natCast_zero, eq_self, decide_true, List.nil_append, List.take_nil, cond_true, cond_false, Bool.true_and, Bool.false_and, Bool.true_or, Bool.false_or, Bool.not_true, Bool.not_false]
        refine ⟨Or.inr rfl, ?_⟩
        rw [hM]
        exact Ent.cast (x' := (AV.b false)) (y' := (AV.b false)) (by kernel_rfl) (by kernel_rfl) (Ent.c (by kernel_rfl) (by kernel_rfl))
      · refine AOpsD.sgy rfl rfl (by kernel_rfl) rfl ?_
        refine AOpsD.sq (x := (DGraph.av g)) (by kernel_rfl) (Nat.le_of_ble_eq_true rfl) ?_
        refine AOpsD.sgy rfl rfl (by kernel_rfl) rfl ?_
        refine AOpsD.sc0 (vs := [(DGraph.av g)]) (r0 := (AV.i .i64 (m_graph_Check g))) (by kernel_rfl) (by kernel_rfl) (w_graph_Check W hW g) (by kernel_rfl) (Nat.le_of_ble_eq_true rfl) ?_
        refine AOpsD.sgy rfl rfl (by kernel_rfl) rfl ?_
        refine AOpsD.sc0 (vs := [(AV.i .i64 (m_graph_Check g))]) (r0 := (AV.i .i64 (m_law0_Num (m_graph_Check g)))) (by kernel_rfl) (by kernel_rfl) (w_law0_Num W (m_graph_Check g)) (by kernel_rfl) (Nat.le_of_ble_eq_true rfl) ?_
        refine AOpsD.sgy rfl rfl (by kernel_rfl) rfl ?_
        refine AOpsD.sq (x := (AV.st [(AV.own 4 0 ((((g.edges.take g.edges.length).drop (uMod by' g.edges.length)) ++ ((g.edges.take (uMod by' g.edges.length)).drop 0)).length)), ((slA 2 DPool.av) g.pools), ((slA 1 AV.s) g.defaults)])) (by kernel_rfl) (Nat.le_of_ble_eq_true rfl) ?_
        refine AOpsD.sgy rfl rfl (by kernel_rfl) rfl ?_
        refine AOpsD.sfw (vs := [(AV.st [(AV.own 4 0 ((((g.edges.take g.edges.length).drop (uMod by' g.edges.length)) ++ ((g.edges.take (uMod by' g.edges.length)).drop 0)).length)), ((slA 2 DPool.av) g.pools), ((slA 1 AV.s) g.defaults)])]) (ss := [(DGraph.av (⟨(((g.edges.take g.edges.length).drop (uMod by' g.edges.length)) ++ ((g.edges.take (uMod by' g.edges.length)).drop 0)), g.pools, g.defaults⟩ : DGraph))]) (r0 := (AV.i .i64 (m_graph_Check (⟨(((g.edges.take g.edges.length).drop (uMod by' g.edges.length)) ++ ((g.edges.take (uMod by' g.edges.length)).drop 0)), g.pools, g.defaults⟩ : DGraph)))) (by kernel_rfl) (show SnapW _ _ _ from ⟨SnapD.w (SnapD.cast (x' := (AV.st [(AV.own 4 0 ((((g.edges.take g.edges.length).drop (uMod by' g.edges.length)) ++ ((g.edges.take (uMod by' g.edges.length)).drop 0)).length)), ((slA 2 DPool.av) g.pools), ((slA 1 AV.s) g.defaults)])) (by kernel_rfl) (by kernel_rfl) (SnapD.st (SnapDs.cons (SnapD.row (fun _ => rfl) (A := DEdge.av) (e := 31) (k := 7) (xs := (((g.edges.take g.edges.length).drop (uMod by' g.edges.length)) ++ ((g.edges.take (uMod by' g.edges.length)).drop 0))) rfl rfl (by first | omega | (unfold LIM; omega) | (simp only [List.length_append, List.length_cons, List.length_nil, List.length_set, List.length_replicate, ByteArray.size_append, List.length_take, List.length_drop, LIM]; omega) | (simp [LIM]; done) | (simp [LIM]; omega))) (SnapDs.cons (SnapD.c (x := ((slA 2 DPool.av) g.pools)) (by kernel_rfl) (WeakC.refl _)) (SnapDs.cons (SnapD.c (x := ((slA 1 AV.s) g.defaults)) (by kernel_rfl) (WeakC.refl _)) SnapDs.nil))))), trivial⟩) (w_graph_Check W hW (⟨(((g.edges.take g.edges.length).drop (uMod by' g.edges.length)) ++ ((g.edges.take (uMod by' g.edges.length)).drop 0)), g.pools, g.defaults⟩ : DGraph)) rfl (by kernel_rfl) (Nat.le_of_ble_eq_true rfl) ?_
        refine AOpsD.sgy rfl rfl (by kernel_rfl) rfl ?_
        refine AOpsD.sc0 (vs := [(AV.i .i64 (m_graph_Check (⟨(((g.edges.take g.edges.length).drop (uMod by' g.edges.length)) ++ ((g.edges.take (uMod by' g.edges.length)).drop 0)), g.pools, g.defaults⟩ : DGraph)))]) (r0 := (AV.i .i64 (m_law0_Num (m_graph_Check (⟨(((g.edges.take g.edges.length).drop (uMod by' g.edges.length)) ++ ((g.edges.take (uMod by' g.edges.length)).drop 0)), g.pools, g.defaults⟩ : DGraph))))) (by kernel_rfl) (by kernel_rfl) (w_law0_Num W (m_graph_Check (⟨(((g.edges.take g.edges.length).drop (uMod by' g.edges.length)) ++ ((g.edges.take (uMod by' g.edges.length)).drop 0)), g.pools, g.defaults⟩ : DGraph))) (by kernel_rfl) (Nat.le_of_ble_eq_true rfl) ?_
        refine AOpsD.sgy rfl rfl (by kernel_rfl) rfl ?_
        refine AOpsD.sq (x := (AV.b (decide ((m_law0_Num (m_graph_Check g)) = (m_law0_Num (m_graph_Check (⟨(((g.edges.take g.edges.length).drop (uMod by' g.edges.length)) ++ ((g.edges.take (uMod by' g.edges.length)).drop 0)), g.pools, g.defaults⟩ : DGraph))))))) (by kernel_rfl) (Nat.le_of_ble_eq_true rfl) ?_
        refine AOpsD.sq (x := (AV.b (decide ((m_law0_Num (m_graph_Check g)) = (m_law0_Num (m_graph_Check (⟨(((g.edges.take g.edges.length).drop (uMod by' g.edges.length)) ++ ((g.edges.take (uMod by' g.edges.length)).drop 0)), g.pools, g.defaults⟩ : DGraph))))))) (by kernel_rfl) (Nat.le_of_ble_eq_true rfl) ?_
        refine AOpsD.sq (x := (AV.b (decide ((m_law0_Num (m_graph_Check g)) = (m_law0_Num (m_graph_Check (⟨(((g.edges.take g.edges.length).drop (uMod by' g.edges.length)) ++ ((g.edges.take (uMod by' g.edges.length)).drop 0)), g.pools, g.defaults⟩ : DGraph))))))) (by kernel_rfl) (Nat.le_of_ble_eq_true rfl) ?_
        cases c_4 : decide ((m_law0_Num (m_graph_Check g)) = (m_law0_Num (m_graph_Check (⟨(((g.edges.take g.edges.length).drop (uMod by' g.edges.length)) ++ ((g.edges.take (uMod by' g.edges.length)).drop 0)), g.pools, g.defaults⟩ : DGraph))))
        · have k_4 : ¬ ((m_law0_Num (m_graph_Check g)) = (m_law0_Num (m_graph_Check (⟨(((g.edges.take g.edges.length).drop (uMod by' g.edges.length)) ++ ((g.edges.take (uMod by' g.edges.length)).drop 0)), g.pools, g.defaults⟩ : DGraph)))) := of_decide_eq_false c_4
          refine AOpsD.sgn rfl rfl (by kernel_rfl) rfl (Nat.le_of_ble_eq_true rfl) ?_
          refine AOpsD.sgn rfl rfl (by kernel_rfl) rfl (Nat.le_of_ble_eq_true rfl) ?_
          refine AOpsD.sgn rfl rfl (by kernel_rfl) rfl (Nat.le_of_ble_eq_true rfl) ?_
          refine AOpsD.sgn rfl rfl (by kernel_rfl) rfl (Nat.le_of_ble_eq_true rfl) ?_
          refine AOpsD.sgn rfl rfl (by kernel_rfl) rfl (Nat.le_of_ble_eq_true rfl) ?_
          refine AOpsD.sq (x := (AV.b false)) (by kernel_rfl) (Nat.le_of_ble_eq_true rfl) ?_
          refine AOpsD.sq (x := (AV.b false)) (by kernel_rfl) (Nat.le_of_ble_eq_true rfl) ?_
          refine AOpsD.sgn rfl rfl (by kernel_rfl) rfl (Nat.le_of_ble_eq_true rfl) ?_
          refine AOpsD.sgn rfl rfl (by kernel_rfl) rfl (Nat.le_of_ble_eq_true rfl) ?_
          refine AOpsD.sgn rfl rfl (by kernel_rfl) rfl (Nat.le_of_ble_eq_true rfl) ?_
          refine AOpsD.sq (x := (AV.b false)) (by kernel_rfl) (Nat.le_of_ble_eq_true rfl) ?_
          refine AOpsD.sq (x := (AV.b false)) (by kernel_rfl) (Nat.le_of_ble_eq_true rfl) ?_
          refine AOpsD.sgn rfl rfl (by kernel_rfl) rfl (Nat.le_of_ble_eq_true rfl) ?_
          refine AOpsD.sgn rfl rfl (by kernel_rfl) rfl (Nat.le_of_ble_eq_true rfl) ?_
          refine AOpsD.sgn rfl rfl (by kernel_rfl) rfl (Nat.le_of_ble_eq_true rfl) ?_
          refine AOpsD.sgu rfl rfl (by kernel_rfl) (Nat.le_of_ble_eq_true rfl) ?_
          refine AOpsD.sgu rfl rfl (by kernel_rfl) (Nat.le_of_ble_eq_true rfl) ?_
          refine AOpsD.sgu rfl rfl (by kernel_rfl) (Nat.le_of_ble_eq_true rfl) ?_
          refine AOpsD.sgu rfl rfl (by kernel_rfl) (Nat.le_of_ble_eq_true rfl) ?_
          refine AOpsD.sgu rfl rfl (by kernel_rfl) (Nat.le_of_ble_eq_true rfl) ?_
          refine AOpsD.sgu rfl rfl (by kernel_rfl) (Nat.le_of_ble_eq_true rfl) ?_
          refine AOpsD.sgu rfl rfl (by kernel_rfl) (Nat.le_of_ble_eq_true rfl) ?_
          refine AOpsD.sgn rfl rfl (by kernel_rfl) rfl (Nat.le_of_ble_eq_true rfl) ?_
          refine AOpsD.sq (x := (AV.b false)) (by kernel_rfl) (Nat.le_of_ble_eq_true rfl) ?_
          refine AOpsD.sq (x := (AV.b false)) (by kernel_rfl) (Nat.le_of_ble_eq_true rfl) ?_
          refine AOpsD.fin ?_
          refine Awp.ret ?_
          have hM : m_law9_GraphRow g by' name = false := by simp only [m_law9_GraphRow, c_1, c_2, c_3, c_4, List.length_nil, Int.natCast_zero, eq_self, decide_true, List.nil_append, List.take_nil, cond_true, cond_false, Bool.true_and, Bool.false_and, Bool.true_or, Bool.false_or, Bool.not_true, Bool.not_false]
          refine ⟨Or.inr rfl, ?_⟩
          rw [hM]
          exact Ent.cast (x' := (AV.b false)) (y' := (AV.b false)) (by kernel_rfl) (by kernel_rfl) (Ent.c (by kernel_rfl) (by kernel_rfl))
        · have k_4 : ((m_law0_Num (m_graph_Check g)) = (m_law0_Num (m_graph_Check (⟨(((g.edges.take g.edges.length).drop (uMod by' g.edges.length)) ++ ((g.edges.take (uMod by' g.edges.length)).drop 0)), g.pools, g.defaults⟩ : DGraph)))) := of_decide_eq_true c_4
          refine AOpsD.sgy rfl rfl (by kernel_rfl) rfl ?_
          refine AOpsD.sq (x := (AV.i .i64 ((m_graph_Maker g name).2.2))) (by kernel_rfl) (Nat.le_of_ble_eq_true rfl) ?_
          refine AOpsD.sgy rfl rfl (by kernel_rfl) rfl ?_
          refine AOpsD.sc0 (vs := [(AV.i .i64 ((m_graph_Maker g name).2.2))]) (r0 := (AV.i .i64 (m_law0_Num ((m_graph_Maker g name).2.2)))) (by kernel_rfl) (by kernel_rfl) (w_law0_Num W ((m_graph_Maker g name).2.2)) (by kernel_rfl) (Nat.le_of_ble_eq_true rfl) ?_
          refine AOpsD.sgy rfl rfl (by kernel_rfl) rfl ?_
          refine AOpsD.sq (x := (AV.i .i64 ((m_graph_Maker (⟨(((g.edges.take g.edges.length).drop (uMod by' g.edges.length)) ++ ((g.edges.take (uMod by' g.edges.length)).drop 0)), g.pools, g.defaults⟩ : DGraph) name).2.2))) (by kernel_rfl) (Nat.le_of_ble_eq_true rfl) ?_
          refine AOpsD.sgy rfl rfl (by kernel_rfl) rfl ?_
          refine AOpsD.sc0 (vs := [(AV.i .i64 ((m_graph_Maker (⟨(((g.edges.take g.edges.length).drop (uMod by' g.edges.length)) ++ ((g.edges.take (uMod by' g.edges.length)).drop 0)), g.pools, g.defaults⟩ : DGraph) name).2.2))]) (r0 := (AV.i .i64 (m_law0_Num ((m_graph_Maker (⟨(((g.edges.take g.edges.length).drop (uMod by' g.edges.length)) ++ ((g.edges.take (uMod by' g.edges.length)).drop 0)), g.pools, g.defaults⟩ : DGraph) name).2.2)))) (by kernel_rfl) (by kernel_rfl) (w_law0_Num W ((m_graph_Maker (⟨(((g.edges.take g.edges.length).drop (uMod by' g.edges.length)) ++ ((g.edges.take (uMod by' g.edges.length)).drop 0)), g.pools, g.defaults⟩ : DGraph) name).2.2)) (by kernel_rfl) (Nat.le_of_ble_eq_true rfl) ?_
          refine AOpsD.sgy rfl rfl (by kernel_rfl) rfl ?_
          refine AOpsD.sq (x := (AV.b (decide ((m_law0_Num ((m_graph_Maker g name).2.2)) = (m_law0_Num ((m_graph_Maker (⟨(((g.edges.take g.edges.length).drop (uMod by' g.edges.length)) ++ ((g.edges.take (uMod by' g.edges.length)).drop 0)), g.pools, g.defaults⟩ : DGraph) name).2.2)))))) (by kernel_rfl) (Nat.le_of_ble_eq_true rfl) ?_
          refine AOpsD.sq (x := (AV.b (decide ((m_law0_Num ((m_graph_Maker g name).2.2)) = (m_law0_Num ((m_graph_Maker (⟨(((g.edges.take g.edges.length).drop (uMod by' g.edges.length)) ++ ((g.edges.take (uMod by' g.edges.length)).drop 0)), g.pools, g.defaults⟩ : DGraph) name).2.2)))))) (by kernel_rfl) (Nat.le_of_ble_eq_true rfl) ?_
          refine AOpsD.sq (x := (AV.b (decide ((m_law0_Num ((m_graph_Maker g name).2.2)) = (m_law0_Num ((m_graph_Maker (⟨(((g.edges.take g.edges.length).drop (uMod by' g.edges.length)) ++ ((g.edges.take (uMod by' g.edges.length)).drop 0)), g.pools, g.defaults⟩ : DGraph) name).2.2)))))) (by kernel_rfl) (Nat.le_of_ble_eq_true rfl) ?_
          cases c_5 : decide ((m_law0_Num ((m_graph_Maker g name).2.2)) = (m_law0_Num ((m_graph_Maker (⟨(((g.edges.take g.edges.length).drop (uMod by' g.edges.length)) ++ ((g.edges.take (uMod by' g.edges.length)).drop 0)), g.pools, g.defaults⟩ : DGraph) name).2.2)))
          · have k_5 : ¬ ((m_law0_Num ((m_graph_Maker g name).2.2)) = (m_law0_Num ((m_graph_Maker (⟨(((g.edges.take g.edges.length).drop (uMod by' g.edges.length)) ++ ((g.edges.take (uMod by' g.edges.length)).drop 0)), g.pools, g.defaults⟩ : DGraph) name).2.2))) := of_decide_eq_false c_5
            refine AOpsD.sgn rfl rfl (by kernel_rfl) rfl (Nat.le_of_ble_eq_true rfl) ?_
            refine AOpsD.sgn rfl rfl (by kernel_rfl) rfl (Nat.le_of_ble_eq_true rfl) ?_
            refine AOpsD.sgn rfl rfl (by kernel_rfl) rfl (Nat.le_of_ble_eq_true rfl) ?_
            refine AOpsD.sq (x := (AV.b false)) (by kernel_rfl) (Nat.le_of_ble_eq_true rfl) ?_
            refine AOpsD.sq (x := (AV.b false)) (by kernel_rfl) (Nat.le_of_ble_eq_true rfl) ?_
            refine AOpsD.sgn rfl rfl (by kernel_rfl) rfl (Nat.le_of_ble_eq_true rfl) ?_
            refine AOpsD.sgn rfl rfl (by kernel_rfl) rfl (Nat.le_of_ble_eq_true rfl) ?_
            refine AOpsD.sgn rfl rfl (by kernel_rfl) rfl (Nat.le_of_ble_eq_true rfl) ?_
            refine AOpsD.sgu rfl rfl (by kernel_rfl) (Nat.le_of_ble_eq_true rfl) ?_
            refine AOpsD.sgu rfl rfl (by kernel_rfl) (Nat.le_of_ble_eq_true rfl) ?_
            refine AOpsD.sgu rfl rfl (by kernel_rfl) (Nat.le_of_ble_eq_true rfl) ?_
            refine AOpsD.sgu rfl rfl (by kernel_rfl) (Nat.le_of_ble_eq_true rfl) ?_
            refine AOpsD.sgu rfl rfl (by kernel_rfl) (Nat.le_of_ble_eq_true rfl) ?_
            refine AOpsD.sgu rfl rfl (by kernel_rfl) (Nat.le_of_ble_eq_true rfl) ?_
            refine AOpsD.sgu rfl rfl (by kernel_rfl) (Nat.le_of_ble_eq_true rfl) ?_
            refine AOpsD.sgn rfl rfl (by kernel_rfl) rfl (Nat.le_of_ble_eq_true rfl) ?_
            refine AOpsD.sq (x := (AV.b false)) (by kernel_rfl) (Nat.le_of_ble_eq_true rfl) ?_
            refine AOpsD.sq (x := (AV.b false)) (by kernel_rfl) (Nat.le_of_ble_eq_true rfl) ?_
            refine AOpsD.fin ?_
            refine Awp.ret ?_
            have hM : m_law9_GraphRow g by' name = false := by simp only [m_law9_GraphRow, c_1, c_2, c_3, c_4, c_5, List.length_nil, Int.natCast_zero, eq_self, decide_true, List.nil_append, List.take_nil, cond_true, cond_false, Bool.true_and, Bool.false_and, Bool.true_or, Bool.false_or, Bool.not_true, Bool.not_false]
            refine ⟨Or.inr rfl, ?_⟩
            rw [hM]
            exact Ent.cast (x' := (AV.b false)) (y' := (AV.b false)) (by kernel_rfl) (by kernel_rfl) (Ent.c (by kernel_rfl) (by kernel_rfl))
          · have k_5 : ((m_law0_Num ((m_graph_Maker g name).2.2)) = (m_law0_Num ((m_graph_Maker (⟨(((g.edges.take g.edges.length).drop (uMod by' g.edges.length)) ++ ((g.edges.take (uMod by' g.edges.length)).drop 0)), g.pools, g.defaults⟩ : DGraph) name).2.2))) := of_decide_eq_true c_5
            refine AOpsD.sgy rfl rfl (by kernel_rfl) rfl ?_
            refine AOpsD.sq (x := (AV.b ((m_graph_Maker g name).2.1))) (by kernel_rfl) (Nat.le_of_ble_eq_true rfl) ?_
            refine AOpsD.sgy rfl rfl (by kernel_rfl) rfl ?_
            refine AOpsD.sq (x := (AV.b ((m_graph_Maker (⟨(((g.edges.take g.edges.length).drop (uMod by' g.edges.length)) ++ ((g.edges.take (uMod by' g.edges.length)).drop 0)), g.pools, g.defaults⟩ : DGraph) name).2.1))) (by kernel_rfl) (Nat.le_of_ble_eq_true rfl) ?_
            refine AOpsD.sgy rfl rfl (by kernel_rfl) rfl ?_
            refine AOpsD.sq (x := (AV.b ((m_graph_Maker g name).2.1 == (m_graph_Maker (⟨(((g.edges.take g.edges.length).drop (uMod by' g.edges.length)) ++ ((g.edges.take (uMod by' g.edges.length)).drop 0)), g.pools, g.defaults⟩ : DGraph) name).2.1))) (by kernel_rfl) (Nat.le_of_ble_eq_true rfl) ?_
            refine AOpsD.sq (x := (AV.b ((m_graph_Maker g name).2.1 == (m_graph_Maker (⟨(((g.edges.take g.edges.length).drop (uMod by' g.edges.length)) ++ ((g.edges.take (uMod by' g.edges.length)).drop 0)), g.pools, g.defaults⟩ : DGraph) name).2.1))) (by kernel_rfl) (Nat.le_of_ble_eq_true rfl) ?_
            refine AOpsD.sq (x := (AV.b ((m_graph_Maker g name).2.1 == (m_graph_Maker (⟨(((g.edges.take g.edges.length).drop (uMod by' g.edges.length)) ++ ((g.edges.take (uMod by' g.edges.length)).drop 0)), g.pools, g.defaults⟩ : DGraph) name).2.1))) (by kernel_rfl) (Nat.le_of_ble_eq_true rfl) ?_
            cases c_6 : ((m_graph_Maker g name).2.1 == (m_graph_Maker (⟨(((g.edges.take g.edges.length).drop (uMod by' g.edges.length)) ++ ((g.edges.take (uMod by' g.edges.length)).drop 0)), g.pools, g.defaults⟩ : DGraph) name).2.1)
            · refine AOpsD.sgn rfl rfl (by kernel_rfl) rfl (Nat.le_of_ble_eq_true rfl) ?_
              refine AOpsD.sgn rfl rfl (by kernel_rfl) rfl (Nat.le_of_ble_eq_true rfl) ?_
              refine AOpsD.sgn rfl rfl (by kernel_rfl) rfl (Nat.le_of_ble_eq_true rfl) ?_
              refine AOpsD.sgu rfl rfl (by kernel_rfl) (Nat.le_of_ble_eq_true rfl) ?_
              refine AOpsD.sgu rfl rfl (by kernel_rfl) (Nat.le_of_ble_eq_true rfl) ?_
              refine AOpsD.sgu rfl rfl (by kernel_rfl) (Nat.le_of_ble_eq_true rfl) ?_
              refine AOpsD.sgu rfl rfl (by kernel_rfl) (Nat.le_of_ble_eq_true rfl) ?_
              refine AOpsD.sgu rfl rfl (by kernel_rfl) (Nat.le_of_ble_eq_true rfl) ?_
              refine AOpsD.sgu rfl rfl (by kernel_rfl) (Nat.le_of_ble_eq_true rfl) ?_
              refine AOpsD.sgu rfl rfl (by kernel_rfl) (Nat.le_of_ble_eq_true rfl) ?_
              refine AOpsD.sgn rfl rfl (by kernel_rfl) rfl (Nat.le_of_ble_eq_true rfl) ?_
              refine AOpsD.sq (x := (AV.b false)) (by kernel_rfl) (Nat.le_of_ble_eq_true rfl) ?_
              refine AOpsD.sq (x := (AV.b false)) (by kernel_rfl) (Nat.le_of_ble_eq_true rfl) ?_
              refine AOpsD.fin ?_
              refine Awp.ret ?_
              have hM : m_law9_GraphRow g by' name = false := by simp only [m_law9_GraphRow, c_1, c_2, c_3, c_4, c_5, c_6, List.length_nil, Int.natCast_zero, eq_self, decide_true, List.nil_append, List.take_nil, cond_true, cond_false, Bool.true_and, Bool.false_and, Bool.true_or, Bool.false_or, Bool.not_true, Bool.not_false]
              refine ⟨Or.inr rfl, ?_⟩
              rw [hM]
              exact Ent.cast (x' := (AV.b false)) (y' := (AV.b false)) (by kernel_rfl) (by kernel_rfl) (Ent.c (by kernel_rfl) (by kernel_rfl))
            · refine AOpsD.sgy rfl rfl (by kernel_rfl) rfl ?_
              refine AOpsD.sq (x := (AV.b ((m_graph_Maker g name).2.1))) (by kernel_rfl) (Nat.le_of_ble_eq_true rfl) ?_
              refine AOpsD.sgy rfl rfl (by kernel_rfl) rfl ?_
              refine AOpsD.sq (x := (AV.b (!(m_graph_Maker g name).2.1))) (by kernel_rfl) (Nat.le_of_ble_eq_true rfl) ?_
              refine AOpsD.sgy rfl rfl (by kernel_rfl) rfl ?_
              refine AOpsD.sq (x := (AV.b (!(m_graph_Maker g name).2.1))) (by kernel_rfl) (Nat.le_of_ble_eq_true rfl) ?_
              cases c_7 : (!(m_graph_Maker g name).2.1)
              · refine AOpsD.sgy rfl rfl (by kernel_rfl) rfl ?_
                refine AOpsD.sq (x := (AV.i .i64 ((m_graph_Maker (⟨(((g.edges.take g.edges.length).drop (uMod by' g.edges.length)) ++ ((g.edges.take (uMod by' g.edges.length)).drop 0)), g.pools, g.defaults⟩ : DGraph) name).1))) (by kernel_rfl) (Nat.le_of_ble_eq_true rfl) ?_
                refine AOpsD.sgy rfl rfl (by kernel_rfl) rfl ?_
                refine AOpsD.sq (x := (AV.i .i64 (((uMod by' g.edges.length) : Nat) : Int))) (by kernel_rfl) (Nat.le_of_ble_eq_true rfl) ?_
                refine AOpsD.sgy rfl rfl (by kernel_rfl) rfl ?_
                refine AOpsD.sq (x := (AV.i .i64 (IntKind.wrap .i64 ((m_graph_Maker (⟨(((g.edges.take g.edges.length).drop (uMod by' g.edges.length)) ++ ((g.edges.take (uMod by' g.edges.length)).drop 0)), g.pools, g.defaults⟩ : DGraph) name).1 + (((uMod by' g.edges.length) : Nat) : Int))))) (by kernel_rfl) (Nat.le_of_ble_eq_true rfl) ?_
                refine AOpsD.sgy rfl rfl (by kernel_rfl) rfl ?_
                refine AOpsD.sq (x := (AV.i .i64 ((g.edges.length : Nat) : Int))) (by kernel_rfl) (Nat.le_of_ble_eq_true rfl) ?_
                refine AOpsD.sgy rfl rfl (by kernel_rfl) rfl ?_
                refine AOpsD.sq (x := (AV.i .i64 ((IntKind.wrap .i64 ((m_graph_Maker (⟨(((g.edges.take g.edges.length).drop (uMod by' g.edges.length)) ++ ((g.edges.take (uMod by' g.edges.length)).drop 0)), g.pools, g.defaults⟩ : DGraph) name).1 + (((uMod by' g.edges.length) : Nat) : Int))).tmod ((g.edges.length : Nat) : Int)))) (g_rem (k := .i64) (a := (IntKind.wrap .i64 ((m_graph_Maker (⟨(((g.edges.take g.edges.length).drop (uMod by' g.edges.length)) ++ ((g.edges.take (uMod by' g.edges.length)).drop 0)), g.pools, g.defaults⟩ : DGraph) name).1 + (((uMod by' g.edges.length) : Nat) : Int)))) (b := ((g.edges.length : Nat) : Int)) (by kernel_rfl) (by kernel_rfl) (by first | omega | (unfold LIM; omega) | (simp only [List.length_append, List.length_cons, List.length_nil, List.length_set, List.length_replicate, ByteArray.size_append, List.length_take, List.length_drop, LIM]; omega) | (simp [LIM]; done) | (simp [LIM]; omega))) (Nat.le_of_ble_eq_true rfl) ?_
                refine AOpsD.sgy rfl rfl (by kernel_rfl) rfl ?_
                refine AOpsD.sq (x := (AV.i .i64 ((m_graph_Maker g name).1))) (by kernel_rfl) (Nat.le_of_ble_eq_true rfl) ?_
                refine AOpsD.sgy rfl rfl (by kernel_rfl) rfl ?_
                refine AOpsD.sq (x := (AV.b (decide (((IntKind.wrap .i64 ((m_graph_Maker (⟨(((g.edges.take g.edges.length).drop (uMod by' g.edges.length)) ++ ((g.edges.take (uMod by' g.edges.length)).drop 0)), g.pools, g.defaults⟩ : DGraph) name).1 + (((uMod by' g.edges.length) : Nat) : Int))).tmod ((g.edges.length : Nat) : Int)) = (m_graph_Maker g name).1)))) (by kernel_rfl) (Nat.le_of_ble_eq_true rfl) ?_
                refine AOpsD.sgy rfl rfl (by kernel_rfl) rfl ?_
                refine AOpsD.sq (x := (AV.b (decide (((IntKind.wrap .i64 ((m_graph_Maker (⟨(((g.edges.take g.edges.length).drop (uMod by' g.edges.length)) ++ ((g.edges.take (uMod by' g.edges.length)).drop 0)), g.pools, g.defaults⟩ : DGraph) name).1 + (((uMod by' g.edges.length) : Nat) : Int))).tmod ((g.edges.length : Nat) : Int)) = (m_graph_Maker g name).1)))) (by kernel_rfl) (Nat.le_of_ble_eq_true rfl) ?_
                refine AOpsD.sq (x := (AV.b (decide (((IntKind.wrap .i64 ((m_graph_Maker (⟨(((g.edges.take g.edges.length).drop (uMod by' g.edges.length)) ++ ((g.edges.take (uMod by' g.edges.length)).drop 0)), g.pools, g.defaults⟩ : DGraph) name).1 + (((uMod by' g.edges.length) : Nat) : Int))).tmod ((g.edges.length : Nat) : Int)) = (m_graph_Maker g name).1)))) (by kernel_rfl) (Nat.le_of_ble_eq_true rfl) ?_
                refine AOpsD.sq (x := (AV.b (decide (((IntKind.wrap .i64 ((m_graph_Maker (⟨(((g.edges.take g.edges.length).drop (uMod by' g.edges.length)) ++ ((g.edges.take (uMod by' g.edges.length)).drop 0)), g.pools, g.defaults⟩ : DGraph) name).1 + (((uMod by' g.edges.length) : Nat) : Int))).tmod ((g.edges.length : Nat) : Int)) = (m_graph_Maker g name).1)))) (by kernel_rfl) (Nat.le_of_ble_eq_true rfl) ?_
                refine AOpsD.fin ?_
                refine Awp.ret ?_
                have hM : m_law9_GraphRow g by' name = decide (((IntKind.wrap .i64 ((m_graph_Maker (⟨(((g.edges.take g.edges.length).drop (uMod by' g.edges.length)) ++ ((g.edges.take (uMod by' g.edges.length)).drop 0)), g.pools, g.defaults⟩ : DGraph) name).1 + (((uMod by' g.edges.length) : Nat) : Int))).tmod ((g.edges.length : Nat) : Int)) = (m_graph_Maker g name).1) := by simp only [m_law9_GraphRow, c_1, c_2, c_3, c_4, c_5, c_6, c_7, List.length_nil, Int.natCast_zero, eq_self, decide_true, List.nil_append, List.take_nil, cond_true, cond_false, Bool.true_and, Bool.false_and, Bool.true_or, Bool.false_or, Bool.not_true, Bool.not_false]
                refine ⟨Or.inr rfl, ?_⟩
                rw [hM]
                exact Ent.cast (x' := (AV.b (decide (((IntKind.wrap .i64 ((m_graph_Maker (⟨(((g.edges.take g.edges.length).drop (uMod by' g.edges.length)) ++ ((g.edges.take (uMod by' g.edges.length)).drop 0)), g.pools, g.defaults⟩ : DGraph) name).1 + (((uMod by' g.edges.length) : Nat) : Int))).tmod ((g.edges.length : Nat) : Int)) = (m_graph_Maker g name).1)))) (y' := (AV.b (decide (((IntKind.wrap .i64 ((m_graph_Maker (⟨(((g.edges.take g.edges.length).drop (uMod by' g.edges.length)) ++ ((g.edges.take (uMod by' g.edges.length)).drop 0)), g.pools, g.defaults⟩ : DGraph) name).1 + (((uMod by' g.edges.length) : Nat) : Int))).tmod ((g.edges.length : Nat) : Int)) = (m_graph_Maker g name).1)))) (by kernel_rfl) (by kernel_rfl) (Ent.c (by kernel_rfl) (by kernel_rfl))
              · refine AOpsD.sgn rfl rfl (by kernel_rfl) rfl (Nat.le_of_ble_eq_true rfl) ?_
                refine AOpsD.sgn rfl rfl (by kernel_rfl) rfl (Nat.le_of_ble_eq_true rfl) ?_
                refine AOpsD.sgn rfl rfl (by kernel_rfl) rfl (Nat.le_of_ble_eq_true rfl) ?_
                refine AOpsD.sgn rfl rfl (by kernel_rfl) rfl (Nat.le_of_ble_eq_true rfl) ?_
                refine AOpsD.sgn rfl rfl (by kernel_rfl) rfl (Nat.le_of_ble_eq_true rfl) ?_
                refine AOpsD.sgn rfl rfl (by kernel_rfl) rfl (Nat.le_of_ble_eq_true rfl) ?_
                refine AOpsD.sgn rfl rfl (by kernel_rfl) rfl (Nat.le_of_ble_eq_true rfl) ?_
                refine AOpsD.sgy rfl rfl (by kernel_rfl) rfl ?_
                refine AOpsD.sq (x := (AV.b true)) (by kernel_rfl) (Nat.le_of_ble_eq_true rfl) ?_
                refine AOpsD.sq (x := (AV.b true)) (by kernel_rfl) (Nat.le_of_ble_eq_true rfl) ?_
                refine AOpsD.sq (x := (AV.b true)) (by kernel_rfl) (Nat.le_of_ble_eq_true rfl) ?_
                refine AOpsD.fin ?_
                refine Awp.ret ?_
                have hM : m_law9_GraphRow g by' name = true := by simp only [m_law9_GraphRow, c_1, c_2, c_3, c_4, c_5, c_6, c_7, List.length_nil, Int.natCast_zero, eq_self, decide_true, List.nil_append, List.take_nil, cond_true, cond_false, Bool.true_and, Bool.false_and, Bool.true_or, Bool.false_or, Bool.not_true, Bool.not_false]
                refine ⟨Or.inr rfl, ?_⟩
                rw [hM]
                exact Ent.cast (x' := (AV.b true)) (y' := (AV.b true)) (by kernel_rfl) (by kernel_rfl) (Ent.c (by kernel_rfl) (by kernel_rfl))
    · have k_2 : (((g.edges.length : Nat) : Int) = (0 : Int)) := of_decide_eq_true c_2
      refine Awp.cond (t := true) (by kernel_rfl) ?_
      refine Awp.seq ?_
      refine Awp.drawn tabS_ok mixed 4 (by kernel_rfl) (Nat.le_of_ble_eq_true rfl) ?_
      refine AOpsD.sq (x := (DGraph.av g)) (by kernel_rfl) (Nat.le_of_ble_eq_true rfl) ?_
      refine AOpsD.sc0 (vs := [(DGraph.av g)]) (r0 := (AV.i .i64 (m_graph_Check g))) (by kernel_rfl) (by kernel_rfl) (w_graph_Check W hW g) (by kernel_rfl) (Nat.le_of_ble_eq_true rfl) ?_
      refine AOpsD.sc0 (vs := [(AV.i .i64 (m_graph_Check g))]) (r0 := (AV.i .i64 (m_law0_Num (m_graph_Check g)))) (by kernel_rfl) (by kernel_rfl) (w_law0_Num W (m_graph_Check g)) (by kernel_rfl) (Nat.le_of_ble_eq_true rfl) ?_
      refine AOpsD.sq (x := (DGraph.av g)) (by kernel_rfl) (Nat.le_of_ble_eq_true rfl) ?_
      refine AOpsD.sc0 (vs := [(DGraph.av g)]) (r0 := (AV.i .i64 (m_ref1_Check g))) (by kernel_rfl) (by kernel_rfl) (w_ref1_Check W g (by first | omega | (unfold LIM; omega) | (simp only [List.length_append, List.length_cons, List.length_nil, List.length_set, List.length_replicate, ByteArray.size_append, List.length_take, List.length_drop, LIM]; omega) | (simp [LIM]; done) | (simp [LIM]; omega))) (by kernel_rfl) (Nat.le_of_ble_eq_true rfl) ?_
      refine AOpsD.sq (x := (AV.b (decide ((m_law0_Num (m_graph_Check g)) = (m_ref1_Check g))))) (by kernel_rfl) (Nat.le_of_ble_eq_true rfl) ?_
      refine AOpsD.sq (x := (AV.b (decide ((m_law0_Num (m_graph_Check g)) = (m_ref1_Check g))))) (by kernel_rfl) (Nat.le_of_ble_eq_true rfl) ?_
      refine AOpsD.fin ?_
      refine Awp.ret ?_
      have hM : m_law9_GraphRow g by' name = decide ((m_law0_Num (m_graph_Check g)) = (m_ref1_Check g)) := by simp only [m_law9_GraphRow, c_1, c_2, List.length_nil, Int.natCast_zero, eq_self, decide_true, List.nil_append, List.take_nil, cond_true, cond_false, Bool.true_and, Bool.false_and, Bool.true_or, Bool.false_or, Bool.not_true, Bool.not_false]
      refine ⟨Or.inr rfl, ?_⟩
      rw [hM]
      exact Ent.cast (x' := (AV.b (decide ((m_law0_Num (m_graph_Check g)) = (m_ref1_Check g))))) (y' := (AV.b (decide ((m_law0_Num (m_graph_Check g)) = (m_ref1_Check g))))) (by kernel_rfl) (by kernel_rfl) (Ent.c (by kernel_rfl) (by kernel_rfl))
  · refine Awp.cond (t := true) (by kernel_rfl) ?_
    refine Awp.seq ?_
    refine Awp.region tabS_ok ?_
    refine AOps.sq (x := (AV.b false)) (by kernel_rfl) (Nat.le_of_ble_eq_true rfl) ?_
    refine AOps.done ?_
    refine Awp.ret ?_
    have hM : m_law9_GraphRow g by' name = false := by simp only [m_law9_GraphRow, c_1, List.length_nil, Int.natCast_zero, eq_self, decide_true, List.nil_append, List.take_nil, cond_true, cond_false, Bool.true_and, Bool.false_and, Bool.true_or, Bool.false_or, Bool.not_true, Bool.not_false]
    refine ⟨Or.inr rfl, ?_⟩
    rw [hM]
    exact Ent.cast (x' := (AV.b false)) (y' := (AV.b false)) (by kernel_rfl) (by kernel_rfl) (Ent.c (by kernel_rfl) (by kernel_rfl))
end
end Go.Lift
