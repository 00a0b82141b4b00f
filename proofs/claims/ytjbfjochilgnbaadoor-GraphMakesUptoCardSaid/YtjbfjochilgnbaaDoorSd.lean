/-
  Lemmas of this claim: a layer over the kit's calls, contracts of the functions that the law reaches, and the law's row. No condition of its own.
-/
import Derived.Test.YtjbfjochilgnbaaDoorSc
import Derived.Test.YtjbfjochilgnbaaDoorSb
namespace Go.Lift
noncomputable section
open Go Go.RowKit
set_option linter.unusedSimpArgs false
set_option linter.unusedVariables false
set_option linter.unusedSectionVars false
set_option maxRecDepth 20000
theorem w_law9_awake (W : World) {m0 : Int} (hW : W.cell? ⟨0, 0, none⟩ = some (.int .i64 m0)) : PureAt Go.Proofs.Tryd.prog W 15 [] (.b m_law9_awake) [] := law9_awake W hW
theorem w_law0_Num (W : World) (e : Int) : PureAt Go.Proofs.Tryd.prog W 19 [(AV.i .i64 e)] (AV.i .i64 (m_law0_Num e)) [] := by
  refine pure_of_bodyC (fn := Go.Proofs.Tryd.f19) Go.Proofs.Tryd.func19 rfl (en19 W) (ts := [2]) rfl (Nat.le_of_ble_eq_true rfl) ?_
  refine Awp.seq ?_
  refine Awp.region tabS_ok ?_
  refine AOps.sq (x := (AV.i .i64 (0 : Int))) (by kernel_rfl) (Nat.le_of_ble_eq_true rfl) ?_
  refine AOps.done ?_
  refine Awp.seq ?_
  refine Awp.region tabS_ok ?_
  refine AOps.sq (x := (AV.i .i64 e)) (by kernel_rfl) (Nat.le_of_ble_eq_true rfl) ?_
  refine AOps.sq (x := (AV.i .i64 e)) (by kernel_rfl) (Nat.le_of_ble_eq_true rfl) ?_
  refine AOps.done ?_
  refine Awp.ret ?_
  have hM : m_law0_Num e = e := by simp only [m_law0_Num, List.length_nil, Int.natCast_zero, eq_self, decide_true, List.nil_append, List.take_nil, cond_true, cond_false, Bool.true_and, Bool.false_and, Bool.true_or, Bool.false_or, Bool.not_true, Bool.not_false]
  refine ⟨Or.inr rfl, ?_⟩
  rw [hM]
  exact Ent.cast (x' := (AV.i .i64 e)) (y' := (AV.i .i64 e)) (by kernel_rfl) (by kernel_rfl) (Ent.c (by kernel_rfl) (by kernel_rfl))

theorem w_law9_GraphMakes (W : World) {m0 : Int} (hW : W.cell? ⟨0, 0, none⟩ = some (.int .i64 m0)) (g : DGraph) (name : ByteArray) (hz : outsN g.edges ≤ 1048576) (hze : g.edges.length ≤ 1048576) : PureAt Go.Proofs.Tryd.prog W 5 [(DGraph.av g), (AV.s name)] (AV.b (m_law9_GraphMakes g name)) [] := by
  refine pure_of_bodyC (fn := Go.Proofs.Tryd.f5) Go.Proofs.Tryd.func5 rfl (en5 W) (ts := [4]) rfl (Nat.le_of_ble_eq_true rfl) ?_
  refine Awp.seq ?_
  refine Awp.region tabS_ok ?_
  refine AOps.sn (x := (AV.loc 0 0 0)) (h' := ⟨1, [(0, some ⟨27, 3, [(DGraph.av g)]⟩)]⟩) (by kernel_rfl) (Nat.le_of_ble_eq_true rfl) ?_
  refine AOps.sq (x := (AV.b false)) (by kernel_rfl) (Nat.le_of_ble_eq_true rfl) ?_
  refine AOps.done ?_
  refine Awp.seq ?_
  refine Awp.seq ?_
  refine Awp.region tabS_ok ?_
  refine AOps.sc0 (vs := []) (r0 := (AV.b m_law9_awake)) (by kernel_rfl) (by kernel_rfl) (w_law9_awake W hW ) (by kernel_rfl) (Nat.le_of_ble_eq_true rfl) ?_
  refine AOps.sq (x := (AV.b (!m_law9_awake))) (by kernel_rfl) (Nat.le_of_ble_eq_true rfl) ?_
  refine AOps.done ?_
  cases c_1 : (!m_law9_awake)
  · refine Awp.cond (t := false) (by kernel_rfl) ?_
    refine Awp.skip ?_
    refine Awp.seq ?_
    refine Awp.seq ?_
    refine Awp.region tabS_ok ?_
    refine AOps.sq (x := (DGraph.av g)) (by kernel_rfl) (Nat.le_of_ble_eq_true rfl) ?_
    refine AOps.sc0 (vs := [(DGraph.av g)]) (r0 := (AV.i .i64 (m_graph_Check g))) (by kernel_rfl) (by kernel_rfl) (w_graph_Check W hW g) (by kernel_rfl) (Nat.le_of_ble_eq_true rfl) ?_
    refine AOps.sc0 (vs := [(AV.i .i64 (m_graph_Check g))]) (r0 := (AV.i .i64 (m_law0_Num (m_graph_Check g)))) (by kernel_rfl) (by kernel_rfl) (w_law0_Num W (m_graph_Check g)) (by kernel_rfl) (Nat.le_of_ble_eq_true rfl) ?_
    refine AOps.sq (x := (AV.b (!decide ((m_law0_Num (m_graph_Check g)) = (0 : Int))))) (by kernel_rfl) (Nat.le_of_ble_eq_true rfl) ?_
    refine AOps.done ?_
    cases c_2 : (!decide ((m_law0_Num (m_graph_Check g)) = (0 : Int)))
    · have k_2 : ((m_law0_Num (m_graph_Check g)) = (0 : Int)) := of_decide_eq_true (by simpa using c_2)
      refine Awp.cond (t := false) (by kernel_rfl) ?_
      refine Awp.skip ?_
      refine Awp.seq ?_
      refine Awp.seq ?_
      refine Awp.region tabS_ok ?_
      refine AOps.sq (x := (AV.i .i64 (0 : Int))) (by kernel_rfl) (Nat.le_of_ble_eq_true rfl) ?_
      refine AOps.done ?_
      refine Awp.block ?_
      refine Awp.lim 0 (x := (DGraph.av g)) (by kernel_rfl) fun hlm1 => ?_
      have hB1 : g.edges.length ≤ 281474976710656 := lim_slA (DGraph.lim_edges hlm1)
      obtain ⟨R1, hR1⟩ : ∃ R, m_law9_GraphMakes_L1 g g.edges 0 = R := ⟨_, rfl⟩
      refine Awp.loopT (fun (i : Nat) => [(1, (AV.s name)), (2, (AV.loc 0 0 0)), (5, (AV.i .i64 ((i : Nat) : Int)))]) (fun (i : Nat) => ⟨1, [(0, some ⟨27, 3, [(DGraph.av g)]⟩)]⟩) (fun (i : Nat) => i ≤ g.edges.length ∧ m_law9_GraphMakes_L1 g (g.edges.drop i) i = R1) (fun (i : Nat) => g.edges.length - i) 0 ?_ ?_ ?_
      · exact ⟨[0], ⟨by decide, rfl, (FitsObjs.cons (by kernel_rfl) FitsObjs.nil), (EntE.cons (Ent.c (by kernel_rfl) (by kernel_rfl)) (EntE.cons (Ent.f (by kernel_rfl)) (EntE.cons (Ent.c (by kernel_rfl) (by kernel_rfl)) EntE.nil)))⟩, keep0⟩
      · exact ⟨by (try dsimp only); omega, hR1⟩
      · rintro i ⟨hi1, hE1⟩
        try dsimp only
        refine Awp.seq ?_
        refine Awp.seq ?_
        refine Awp.region tabS_ok ?_
        refine AOps.sq (x := (AV.i .i64 ((i : Nat) : Int))) (by kernel_rfl) (Nat.le_of_ble_eq_true rfl) ?_
        refine AOps.sq (x := (AV.loc 0 0 0)) (by kernel_rfl) (Nat.le_of_ble_eq_true rfl) ?_
        refine AOps.sq (x := ((slA 7 DEdge.av) g.edges)) (by kernel_rfl) (Nat.le_of_ble_eq_true rfl) ?_
        refine AOps.sq (x := (AV.i .i64 ((g.edges.length : Nat) : Int))) (g_len (k := 7) (nl := false) (e := 31) (A := DEdge.av) (xs := g.edges) (by kernel_rfl) (by kernel_rfl)) (Nat.le_of_ble_eq_true rfl) ?_
        refine AOps.sq (x := (AV.b (decide (((i : Nat) : Int) < ((g.edges.length : Nat) : Int))))) (by kernel_rfl) (Nat.le_of_ble_eq_true rfl) ?_
        refine AOps.done ?_
        rcases Nat.lt_or_ge i g.edges.length with hl1 | hl1
        · have hc1 : decide (((i : Nat) : Int) < ((g.edges.length : Nat) : Int)) = true := decide_eq_true (by omega)
          refine Awp.cond (t := true) (by rw [← hc1] <;> kernel_rfl) (Awp.skip ?_)
          obtain ⟨x1, hx1⟩ : ∃ x, g.edges[i]? = some x := ⟨_, List.getElem?_eq_getElem hl1⟩
          rw [drop_at hx1, m_law9_GraphMakes_L1.eq_2] at hE1
          refine Awp.seq ?_
          refine Awp.block ?_
          refine Awp.seq ?_
          refine Awp.region tabS_ok ?_
          refine AOps.sq (x := (AV.i .i64 (0 : Int))) (by kernel_rfl) (Nat.le_of_ble_eq_true rfl) ?_
          refine AOps.done ?_
          refine Awp.block ?_
          refine Awp.lim 25 (x := ((slA 7 DEdge.av) g.edges)) (by kernel_rfl) fun hlm2 => ?_
          have hB2 : x1.outs.length ≤ 281474976710656 := lim_slA (DEdge.lim_outs (lim_mem hlm2 hx1))
          obtain ⟨R2, hR2⟩ : ∃ R, m_law9_GraphMakes_L2 g i x1.outs 0 = R := ⟨_, rfl⟩
          refine Awp.loopT (fun (k : Nat) => [(1, (AV.s name)), (2, (AV.loc 0 0 0)), (5, (AV.i .i64 ((i : Nat) : Int))), (6, (AV.i .i64 ((k : Nat) : Int)))]) (fun (k : Nat) => ⟨1, [(0, some ⟨27, 3, [(DGraph.av g)]⟩)]⟩) (fun (k : Nat) => k ≤ x1.outs.length ∧ m_law9_GraphMakes_L2 g i (x1.outs.drop k) k = R2) (fun (k : Nat) => x1.outs.length - k) 0 ?_ ?_ ?_
          · exact ⟨[0], ⟨by decide, rfl, (FitsObjs.cons (by kernel_rfl) FitsObjs.nil), (EntE.cons (Ent.c (by kernel_rfl) (by kernel_rfl)) (EntE.cons (Ent.f (by kernel_rfl)) (EntE.cons (Ent.c (by kernel_rfl) (by kernel_rfl)) (EntE.cons (Ent.c (by kernel_rfl) (by kernel_rfl)) EntE.nil))))⟩, keep0⟩
          · exact ⟨by (try dsimp only); omega, hR2⟩
          · rintro k ⟨hi2, hE2⟩
            try dsimp only
            refine Awp.seq ?_
            refine Awp.seq ?_
            refine Awp.region tabS_ok ?_
            refine AOps.sq (x := (AV.i .i64 ((k : Nat) : Int))) (by kernel_rfl) (Nat.le_of_ble_eq_true rfl) ?_
            refine AOps.sq (x := (AV.loc 0 0 0)) (by kernel_rfl) (Nat.le_of_ble_eq_true rfl) ?_
            refine AOps.sq (x := ((slA 7 DEdge.av) g.edges)) (by kernel_rfl) (Nat.le_of_ble_eq_true rfl) ?_
            refine AOps.sq (x := (AV.i .i64 ((i : Nat) : Int))) (by kernel_rfl) (Nat.le_of_ble_eq_true rfl) ?_
            refine AOps.sq (x := (AV.pt (DEdge.av x1).cells)) (g_idx (k := 7) (nl := false) (e := 31) (kk := .i64) (A := DEdge.av) (xs := g.edges) (i := i) (by kernel_rfl) (by kernel_rfl) (by kernel_rfl) ⟨by kernel_rfl, by decide⟩ hx1) (Nat.le_of_ble_eq_true rfl) ?_
            refine AOps.sq (x := (AV.pt ((DEdge.av x1).cells.drop 0))) (by kernel_rfl) (Nat.le_of_ble_eq_true rfl) ?_
            refine AOps.sq (x := ((slA 1 AV.s) x1.outs)) (by kernel_rfl) (Nat.le_of_ble_eq_true rfl) ?_
            refine AOps.sq (x := (AV.i .i64 ((x1.outs.length : Nat) : Int))) (g_len (k := 1) (nl := false) (e := 9) (A := AV.s) (xs := x1.outs) (by kernel_rfl) (by kernel_rfl)) (Nat.le_of_ble_eq_true rfl) ?_
            refine AOps.sq (x := (AV.b (decide (((k : Nat) : Int) < ((x1.outs.length : Nat) : Int))))) (by kernel_rfl) (Nat.le_of_ble_eq_true rfl) ?_
            refine AOps.done ?_
            rcases Nat.lt_or_ge k x1.outs.length with hl2 | hl2
            · have hc2 : decide (((k : Nat) : Int) < ((x1.outs.length : Nat) : Int)) = true := decide_eq_true (by omega)
              refine Awp.cond (t := true) (by rw [← hc2] <;> kernel_rfl) (Awp.skip ?_)
              obtain ⟨x2, hx2⟩ : ∃ x, x1.outs[k]? = some x := ⟨_, List.getElem?_eq_getElem hl2⟩
              rw [drop_at hx2, m_law9_GraphMakes_L2.eq_2] at hE2
              refine Awp.seq ?_
              refine Awp.block ?_
              refine Awp.seq ?_
              refine Awp.drawn tabS_ok mixed 17 (by kernel_rfl) (Nat.le_of_ble_eq_true rfl) ?_
              refine AOpsD.sq (x := (DGraph.av g)) (by kernel_rfl) (Nat.le_of_ble_eq_true rfl) ?_
              refine AOpsD.sq (x := (AV.loc 0 0 0)) (by kernel_rfl) (Nat.le_of_ble_eq_true rfl) ?_
              refine AOpsD.sq (x := ((slA 7 DEdge.av) g.edges)) (by kernel_rfl) (Nat.le_of_ble_eq_true rfl) ?_
              refine AOpsD.sq (x := (AV.i .i64 ((i : Nat) : Int))) (by kernel_rfl) (Nat.le_of_ble_eq_true rfl) ?_
              refine AOpsD.sq (x := (AV.pt (DEdge.av x1).cells)) (g_idx (k := 7) (nl := false) (e := 31) (kk := .i64) (A := DEdge.av) (xs := g.edges) (i := i) (by kernel_rfl) (by kernel_rfl) (by kernel_rfl) ⟨by kernel_rfl, by decide⟩ hx1) (Nat.le_of_ble_eq_true rfl) ?_
              refine AOpsD.sq (x := (AV.pt ((DEdge.av x1).cells.drop 0))) (by kernel_rfl) (Nat.le_of_ble_eq_true rfl) ?_
              refine AOpsD.sq (x := ((slA 1 AV.s) x1.outs)) (by kernel_rfl) (Nat.le_of_ble_eq_true rfl) ?_
              refine AOpsD.sq (x := (AV.i .i64 ((k : Nat) : Int))) (by kernel_rfl) (Nat.le_of_ble_eq_true rfl) ?_
              refine AOpsD.sq (x := (AV.pt (AV.s x2).cells)) (g_idx (k := 1) (nl := false) (e := 9) (kk := .i64) (A := AV.s) (xs := x1.outs) (i := k) (by kernel_rfl) (by kernel_rfl) (by kernel_rfl) ⟨by kernel_rfl, by decide⟩ hx2) (Nat.le_of_ble_eq_true rfl) ?_
              refine AOpsD.sq (x := (AV.s x2)) (by kernel_rfl) (Nat.le_of_ble_eq_true rfl) ?_
              refine AOpsD.sc0 (vs := [(DGraph.av g), (AV.s x2)]) (r0 := (AV.tup [(AV.i .i64 ((m_graph_Maker g x2).1)), (AV.b ((m_graph_Maker g x2).2.1)), (AV.i .i64 ((m_graph_Maker g x2).2.2))])) (by kernel_rfl) (by kernel_rfl) (w_graph_Maker W hW g x2) (by kernel_rfl) (Nat.le_of_ble_eq_true rfl) ?_
              refine AOpsD.sq (x := (AV.tup [(AV.i .i64 ((m_graph_Maker g x2).1)), (AV.b ((m_graph_Maker g x2).2.1)), (AV.i .i64 ((m_graph_Maker g x2).2.2))])) (by kernel_rfl) (Nat.le_of_ble_eq_true rfl) ?_
              refine AOpsD.sq (x := (AV.i .i64 ((m_graph_Maker g x2).1))) (by kernel_rfl) (Nat.le_of_ble_eq_true rfl) ?_
              refine AOpsD.sq (x := (AV.b ((m_graph_Maker g x2).2.1))) (by kernel_rfl) (Nat.le_of_ble_eq_true rfl) ?_
              refine AOpsD.sq (x := (AV.i .i64 ((m_graph_Maker g x2).2.2))) (by kernel_rfl) (Nat.le_of_ble_eq_true rfl) ?_
              refine AOpsD.sq (x := (AV.i .i64 ((m_graph_Maker g x2).1))) (by kernel_rfl) (Nat.le_of_ble_eq_true rfl) ?_
              refine AOpsD.sq (x := (AV.b ((m_graph_Maker g x2).2.1))) (by kernel_rfl) (Nat.le_of_ble_eq_true rfl) ?_
              refine AOpsD.sq (x := (AV.i .i64 ((m_graph_Maker g x2).2.2))) (by kernel_rfl) (Nat.le_of_ble_eq_true rfl) ?_
              refine AOpsD.fin ?_
              refine Awp.seq ?_
              refine Awp.region tabS_ok ?_
              refine AOps.sq (x := (AV.i .i64 ((m_graph_Maker g x2).1))) (by kernel_rfl) (Nat.le_of_ble_eq_true rfl) ?_
              refine AOps.sq (x := (AV.i .i64 ((i : Nat) : Int))) (by kernel_rfl) (Nat.le_of_ble_eq_true rfl) ?_
              refine AOps.sq (x := (AV.b (!decide ((m_graph_Maker g x2).1 = ((i : Nat) : Int))))) (by kernel_rfl) (Nat.le_of_ble_eq_true rfl) ?_
              refine AOps.sq (x := (AV.b (!decide ((m_graph_Maker g x2).1 = ((i : Nat) : Int))))) (by kernel_rfl) (Nat.le_of_ble_eq_true rfl) ?_
              cases c_3 : (!decide ((m_graph_Maker g x2).1 = ((i : Nat) : Int)))
              · have k_3 : ((m_graph_Maker g x2).1 = ((i : Nat) : Int)) := of_decide_eq_true (by simpa using c_3)
                refine AOps.sgy rfl rfl (by kernel_rfl) rfl ?_
                refine AOps.sq (x := (AV.b ((m_graph_Maker g x2).2.1))) (by kernel_rfl) (Nat.le_of_ble_eq_true rfl) ?_
                refine AOps.sgy rfl rfl (by kernel_rfl) rfl ?_
                refine AOps.sq (x := (AV.b (!(m_graph_Maker g x2).2.1))) (by kernel_rfl) (Nat.le_of_ble_eq_true rfl) ?_
                refine AOps.sq (x := (AV.b (!(m_graph_Maker g x2).2.1))) (by kernel_rfl) (Nat.le_of_ble_eq_true rfl) ?_
                refine AOps.sq (x := (AV.b (!(m_graph_Maker g x2).2.1))) (by kernel_rfl) (Nat.le_of_ble_eq_true rfl) ?_
                cases c_4 : (!(m_graph_Maker g x2).2.1)
                · refine AOps.sgy rfl rfl (by kernel_rfl) rfl ?_
                  refine AOps.sq (x := (AV.i .i64 ((m_graph_Maker g x2).2.2))) (by kernel_rfl) (Nat.le_of_ble_eq_true rfl) ?_
                  refine AOps.sgy rfl rfl (by kernel_rfl) rfl ?_
                  refine AOps.sc0 (vs := [(AV.i .i64 ((m_graph_Maker g x2).2.2))]) (r0 := (AV.i .i64 (m_law0_Num ((m_graph_Maker g x2).2.2)))) (by kernel_rfl) (by kernel_rfl) (w_law0_Num W ((m_graph_Maker g x2).2.2)) (by kernel_rfl) (Nat.le_of_ble_eq_true rfl) ?_
                  refine AOps.sgy rfl rfl (by kernel_rfl) rfl ?_
                  refine AOps.sq (x := (AV.b (!decide ((m_law0_Num ((m_graph_Maker g x2).2.2)) = (0 : Int))))) (by kernel_rfl) (Nat.le_of_ble_eq_true rfl) ?_
                  refine AOps.sq (x := (AV.b (!decide ((m_law0_Num ((m_graph_Maker g x2).2.2)) = (0 : Int))))) (by kernel_rfl) (Nat.le_of_ble_eq_true rfl) ?_
                  refine AOps.done ?_
                  cases c_5 : (!decide ((m_law0_Num ((m_graph_Maker g x2).2.2)) = (0 : Int)))
                  · have k_5 : ((m_law0_Num ((m_graph_Maker g x2).2.2)) = (0 : Int)) := of_decide_eq_true (by simpa using c_5)
                    refine Awp.cond (t := false) (by kernel_rfl) ?_
                    refine Awp.skip ?_
                    refine Awp.region tabS_ok ?_
                    refine AOps.sq (x := (AV.i .i64 ((k : Nat) : Int))) (by kernel_rfl) (Nat.le_of_ble_eq_true rfl) ?_
                    refine AOps.sq (x := (AV.i .i64 ((k + 1 : Nat) : Int))) (g_addN (i := k) (m := 1) (by kernel_rfl) (by kernel_rfl) (by first | omega | (unfold LIM; omega) | (simp only [List.length_append, List.length_cons, List.length_nil, List.length_set, List.length_replicate, ByteArray.size_append, List.length_take, List.length_drop, LIM]; omega) | (simp [LIM]; done) | (simp [LIM]; omega))) (Nat.le_of_ble_eq_true rfl) ?_
                    refine AOps.sq (x := (AV.i .i64 ((k + 1 : Nat) : Int))) (by kernel_rfl) (Nat.le_of_ble_eq_true rfl) ?_
                    refine AOps.done ?_
                    try simp only [c_3, c_4, c_5, List.length_nil, Int.natCast_zero, eq_self, decide_true, List.nil_append, List.take_nil, cond_true, cond_false, Bool.true_and, Bool.false_and, Bool.true_or, Bool.false_or, Bool.not_true, Bool.not_false] at hE2
                    refine ⟨k + 1, by (try dsimp only); omega, ⟨by (try dsimp only); omega, hE2⟩, ?_⟩
                    exact ⟨[0], ⟨by decide, rfl, (FitsObjs.cons (by kernel_rfl) FitsObjs.nil), (EntE.cons (Ent.c (by kernel_rfl) (by kernel_rfl)) (EntE.cons (Ent.f (by kernel_rfl)) (EntE.cons (Ent.c (by kernel_rfl) (by kernel_rfl)) (EntE.cons (Ent.c (by kernel_rfl) (by kernel_rfl)) EntE.nil))))⟩, keep0⟩
                  · have k_5 : ¬ ((m_law0_Num ((m_graph_Maker g x2).2.2)) = (0 : Int)) := of_decide_eq_false (by simpa using c_5)
                    refine Awp.cond (t := true) (by kernel_rfl) ?_
                    refine Awp.seq ?_
                    refine Awp.region tabS_ok ?_
                    refine AOps.sq (x := (AV.b false)) (by kernel_rfl) (Nat.le_of_ble_eq_true rfl) ?_
                    refine AOps.done ?_
                    refine Awp.ret ?_
                    try simp only [c_3, c_4, c_5, List.length_nil, Int.natCast_zero, eq_self, decide_true, List.nil_append, List.take_nil, cond_true, cond_false, Bool.true_and, Bool.false_and, Bool.true_or, Bool.false_or, Bool.not_true, Bool.not_false] at hE2
                    subst hE2
                    try simp only [hR2, List.length_nil, Int.natCast_zero, eq_self, decide_true, List.nil_append, List.take_nil, cond_true, cond_false, Bool.true_and, Bool.false_and, Bool.true_or, Bool.false_or, Bool.not_true, Bool.not_false] at hE1
                    subst hE1
                    have hM : m_law9_GraphMakes g name = false := by simp only [m_law9_GraphMakes, c_1, c_2, hR1, List.length_nil, Int.natCast_zero, eq_self, decide_true, List.nil_append, List.take_nil, cond_true, cond_false, Bool.true_and, Bool.false_and, Bool.true_or, Bool.false_or, Bool.not_true, Bool.not_false]
                    refine ⟨Or.inr rfl, ?_⟩
                    rw [hM]
                    exact Ent.cast (x' := (AV.b false)) (y' := (AV.b false)) (by kernel_rfl) (by kernel_rfl) (Ent.c (by kernel_rfl) (by kernel_rfl))
                · refine AOps.sgn rfl rfl (by kernel_rfl) rfl (Nat.le_of_ble_eq_true rfl) ?_
                  refine AOps.sgn rfl rfl (by kernel_rfl) rfl (Nat.le_of_ble_eq_true rfl) ?_
                  refine AOps.sgn rfl rfl (by kernel_rfl) rfl (Nat.le_of_ble_eq_true rfl) ?_
                  refine AOps.sq (x := (AV.b true)) (by kernel_rfl) (Nat.le_of_ble_eq_true rfl) ?_
                  refine AOps.done ?_
                  refine Awp.cond (t := true) (by kernel_rfl) ?_
                  refine Awp.seq ?_
                  refine Awp.region tabS_ok ?_
                  refine AOps.sq (x := (AV.b false)) (by kernel_rfl) (Nat.le_of_ble_eq_true rfl) ?_
                  refine AOps.done ?_
                  refine Awp.ret ?_
                  try simp only [c_3, c_4, List.length_nil, Int.natCast_zero, eq_self, decide_true, List.nil_append, List.take_nil, cond_true, cond_false, Bool.true_and, Bool.false_and, Bool.true_or, Bool.false_or, Bool.not_true, Bool.not_false] at hE2
                  subst hE2
                  try simp only [hR2, List.length_nil, Int.natCast_zero, eq_self, decide_true, List.nil_append, List.take_nil, cond_true, cond_false, Bool.true_and, Bool.false_and, Bool.true_or, Bool.false_or, Bool.not_true, Bool.not_false] at hE1
                  subst hE1
                  have hM : m_law9_GraphMakes g name = false := by simp only [m_law9_GraphMakes, c_1, c_2, hR1, List.length_nil, Int.natCast_zero, eq_self, decide_true, List.nil_append, List.take_nil, cond_true, cond_false, Bool.true_and, Bool.false_and, Bool.true_or, Bool.false_or, Bool.not_true, Bool.not_false]
                  refine ⟨Or.inr rfl, ?_⟩
                  rw [hM]
                  exact Ent.cast (x' := (AV.b false)) (y' := (AV.b false)) (by kernel_rfl) (by kernel_rfl) (Ent.c (by kernel_rfl) (by kernel_rfl))
              · have k_3 : ¬ ((m_graph_Maker g x2).1 = ((i : Nat) : Int)) := of_decide_eq_false (by simpa using c_3)
                refine AOps.sgn rfl rfl (by kernel_rfl) rfl (Nat.le_of_ble_eq_true rfl) ?_
                refine AOps.sgn rfl rfl (by kernel_rfl) rfl (Nat.le_of_ble_eq_true rfl) ?_
                refine AOps.sq (x := (AV.b true)) (by kernel_rfl) (Nat.le_of_ble_eq_true rfl) ?_
                refine AOps.sq (x := (AV.b true)) (by kernel_rfl) (Nat.le_of_ble_eq_true rfl) ?_
                refine AOps.sgn rfl rfl (by kernel_rfl) rfl (Nat.le_of_ble_eq_true rfl) ?_
                refine AOps.sgn rfl rfl (by kernel_rfl) rfl (Nat.le_of_ble_eq_true rfl) ?_
                refine AOps.sgn rfl rfl (by kernel_rfl) rfl (Nat.le_of_ble_eq_true rfl) ?_
                refine AOps.sq (x := (AV.b true)) (by kernel_rfl) (Nat.le_of_ble_eq_true rfl) ?_
                refine AOps.done ?_
                refine Awp.cond (t := true) (by kernel_rfl) ?_
                refine Awp.seq ?_
                refine Awp.region tabS_ok ?_
                refine AOps.sq (x := (AV.b false)) (by kernel_rfl) (Nat.le_of_ble_eq_true rfl) ?_
                refine AOps.done ?_
                refine Awp.ret ?_
                try simp only [c_3, List.length_nil, Int.natCast_zero, eq_self, decide_true, List.nil_append, List.take_nil, cond_true, cond_false, Bool.true_and, Bool.false_and, Bool.true_or, Bool.false_or, Bool.not_true, Bool.not_false] at hE2
                subst hE2
                try simp only [hR2, List.length_nil, Int.natCast_zero, eq_self, decide_true, List.nil_append, List.take_nil, cond_true, cond_false, Bool.true_and, Bool.false_and, Bool.true_or, Bool.false_or, Bool.not_true, Bool.not_false] at hE1
                subst hE1
                have hM : m_law9_GraphMakes g name = false := by simp only [m_law9_GraphMakes, c_1, c_2, hR1, List.length_nil, Int.natCast_zero, eq_self, decide_true, List.nil_append, List.take_nil, cond_true, cond_false, Bool.true_and, Bool.false_and, Bool.true_or, Bool.false_or, Bool.not_true, Bool.not_false]
                refine ⟨Or.inr rfl, ?_⟩
                rw [hM]
                exact Ent.cast (x' := (AV.b false)) (y' := (AV.b false)) (by kernel_rfl) (by kernel_rfl) (Ent.c (by kernel_rfl) (by kernel_rfl))
            · have hc2 : decide (((k : Nat) : Int) < ((x1.outs.length : Nat) : Int)) = false := decide_eq_false (by omega)
              refine Awp.cond (t := false) (by rw [← hc2] <;> kernel_rfl) (Awp.exit ?_)
              rw [List.drop_eq_nil_of_le (hl2), m_law9_GraphMakes_L2.eq_1] at hE2
              subst hE2
              refine Awp.region tabS_ok ?_
              refine AOps.sq (x := (AV.i .i64 ((i : Nat) : Int))) (by kernel_rfl) (Nat.le_of_ble_eq_true rfl) ?_
              refine AOps.sq (x := (AV.i .i64 ((i + 1 : Nat) : Int))) (g_addN (i := i) (m := 1) (by kernel_rfl) (by kernel_rfl) (by first | omega | (unfold LIM; omega) | (simp only [List.length_append, List.length_cons, List.length_nil, List.length_set, List.length_replicate, ByteArray.size_append, List.length_take, List.length_drop, LIM]; omega) | (simp [LIM]; done) | (simp [LIM]; omega))) (Nat.le_of_ble_eq_true rfl) ?_
              refine AOps.sq (x := (AV.i .i64 ((i + 1 : Nat) : Int))) (by kernel_rfl) (Nat.le_of_ble_eq_true rfl) ?_
              refine AOps.done ?_
              try simp only [hR2, List.length_nil, Int.natCast_zero, eq_self, decide_true, List.nil_append, List.take_nil, cond_true, cond_false, Bool.true_and, Bool.false_and, Bool.true_or, Bool.false_or, Bool.not_true, Bool.not_false] at hE1
              refine ⟨i + 1, by (try dsimp only); omega, ⟨by (try dsimp only); omega, hE1⟩, ?_⟩
              exact ⟨[0], ⟨by decide, rfl, (FitsObjs.cons (by kernel_rfl) FitsObjs.nil), (EntE.cons (Ent.c (by kernel_rfl) (by kernel_rfl)) (EntE.cons (Ent.f (by kernel_rfl)) (EntE.cons (Ent.c (by kernel_rfl) (by kernel_rfl)) EntE.nil)))⟩, keep0⟩
        · have hc1 : decide (((i : Nat) : Int) < ((g.edges.length : Nat) : Int)) = false := decide_eq_false (by omega)
          refine Awp.cond (t := false) (by rw [← hc1] <;> kernel_rfl) (Awp.exit ?_)
          rw [List.drop_eq_nil_of_le (hl1), m_law9_GraphMakes_L1.eq_1] at hE1
          subst hE1
          refine Awp.seq ?_
          refine Awp.region tabS_ok ?_
          refine AOps.sq (x := (DGraph.av g)) (by kernel_rfl) (Nat.le_of_ble_eq_true rfl) ?_
          refine AOps.sq (x := (AV.s name)) (by kernel_rfl) (Nat.le_of_ble_eq_true rfl) ?_
          refine AOps.sc0 (vs := [(DGraph.av g), (AV.s name)]) (r0 := (AV.tup [(AV.i .i64 ((m_graph_Maker g name).1)), (AV.b ((m_graph_Maker g name).2.1)), (AV.i .i64 ((m_graph_Maker g name).2.2))])) (by kernel_rfl) (by kernel_rfl) (w_graph_Maker W hW g name) (by kernel_rfl) (Nat.le_of_ble_eq_true rfl) ?_
          refine AOps.sq (x := (AV.tup [(AV.i .i64 ((m_graph_Maker g name).1)), (AV.b ((m_graph_Maker g name).2.1)), (AV.i .i64 ((m_graph_Maker g name).2.2))])) (by kernel_rfl) (Nat.le_of_ble_eq_true rfl) ?_
          refine AOps.sq (x := (AV.i .i64 ((m_graph_Maker g name).1))) (by kernel_rfl) (Nat.le_of_ble_eq_true rfl) ?_
          refine AOps.sq (x := (AV.b ((m_graph_Maker g name).2.1))) (by kernel_rfl) (Nat.le_of_ble_eq_true rfl) ?_
          refine AOps.sq (x := (AV.i .i64 ((m_graph_Maker g name).2.2))) (by kernel_rfl) (Nat.le_of_ble_eq_true rfl) ?_
          refine AOps.sq (x := (AV.i .i64 ((m_graph_Maker g name).1))) (by kernel_rfl) (Nat.le_of_ble_eq_true rfl) ?_
          refine AOps.sq (x := (AV.b ((m_graph_Maker g name).2.1))) (by kernel_rfl) (Nat.le_of_ble_eq_true rfl) ?_
          refine AOps.sq (x := (AV.i .i64 ((m_graph_Maker g name).2.2))) (by kernel_rfl) (Nat.le_of_ble_eq_true rfl) ?_
          refine AOps.done ?_
          refine Awp.seq ?_
          refine Awp.seq ?_
          refine Awp.region tabS_ok ?_
          refine AOps.sq (x := (AV.i .i64 ((m_graph_Maker g name).2.2))) (by kernel_rfl) (Nat.le_of_ble_eq_true rfl) ?_
          refine AOps.sc0 (vs := [(AV.i .i64 ((m_graph_Maker g name).2.2))]) (r0 := (AV.i .i64 (m_law0_Num ((m_graph_Maker g name).2.2)))) (by kernel_rfl) (by kernel_rfl) (w_law0_Num W ((m_graph_Maker g name).2.2)) (by kernel_rfl) (Nat.le_of_ble_eq_true rfl) ?_
          refine AOps.sq (x := (AV.b (!decide ((m_law0_Num ((m_graph_Maker g name).2.2)) = (0 : Int))))) (by kernel_rfl) (Nat.le_of_ble_eq_true rfl) ?_
          refine AOps.sq (x := (AV.b (!decide ((m_law0_Num ((m_graph_Maker g name).2.2)) = (0 : Int))))) (by kernel_rfl) (Nat.le_of_ble_eq_true rfl) ?_
          cases c_6 : (!decide ((m_law0_Num ((m_graph_Maker g name).2.2)) = (0 : Int)))
          · have k_6 : ((m_law0_Num ((m_graph_Maker g name).2.2)) = (0 : Int)) := of_decide_eq_true (by simpa using c_6)
            refine AOps.sgy rfl rfl (by kernel_rfl) rfl ?_
            refine AOps.sq (x := (AV.b ((m_graph_Maker g name).2.1))) (by kernel_rfl) (Nat.le_of_ble_eq_true rfl) ?_
            refine AOps.sgy rfl rfl (by kernel_rfl) rfl ?_
            refine AOps.sq (x := (AV.b (!(m_graph_Maker g name).2.1))) (by kernel_rfl) (Nat.le_of_ble_eq_true rfl) ?_
            refine AOps.sq (x := (AV.b (!(m_graph_Maker g name).2.1))) (by kernel_rfl) (Nat.le_of_ble_eq_true rfl) ?_
            refine AOps.done ?_
            cases c_7 : (!(m_graph_Maker g name).2.1)
            · refine Awp.cond (t := false) (by kernel_rfl) ?_
              refine Awp.skip ?_
              refine Awp.seq ?_
              refine Awp.seq ?_
              refine Awp.region tabS_ok ?_
              refine AOps.sq (x := (AV.i .i64 ((m_graph_Maker g name).1))) (by kernel_rfl) (Nat.le_of_ble_eq_true rfl) ?_
              refine AOps.sq (x := (AV.b (decide ((m_graph_Maker g name).1 < (0 : Int))))) (by kernel_rfl) (Nat.le_of_ble_eq_true rfl) ?_
              refine AOps.sq (x := (AV.b (decide ((m_graph_Maker g name).1 < (0 : Int))))) (by kernel_rfl) (Nat.le_of_ble_eq_true rfl) ?_
              cases c_8 : decide ((m_graph_Maker g name).1 < (0 : Int))
              · have k_8 : ¬ ((m_graph_Maker g name).1 < (0 : Int)) := of_decide_eq_false c_8
                refine AOps.sgy rfl rfl (by kernel_rfl) rfl ?_
                refine AOps.sq (x := (AV.i .i64 ((m_graph_Maker g name).1))) (by kernel_rfl) (Nat.le_of_ble_eq_true rfl) ?_
                refine AOps.sgy rfl rfl (by kernel_rfl) rfl ?_
                refine AOps.sq (x := (AV.loc 0 0 0)) (by kernel_rfl) (Nat.le_of_ble_eq_true rfl) ?_
                refine AOps.sgy rfl rfl (by kernel_rfl) rfl ?_
                refine AOps.sq (x := ((slA 7 DEdge.av) g.edges)) (by kernel_rfl) (Nat.le_of_ble_eq_true rfl) ?_
                refine AOps.sgy rfl rfl (by kernel_rfl) rfl ?_
                refine AOps.sq (x := (AV.i .i64 ((g.edges.length : Nat) : Int))) (g_len (k := 7) (nl := false) (e := 31) (A := DEdge.av) (xs := g.edges) (by kernel_rfl) (by kernel_rfl)) (Nat.le_of_ble_eq_true rfl) ?_
                refine AOps.sgy rfl rfl (by kernel_rfl) rfl ?_
                refine AOps.sq (x := (AV.b (decide (((g.edges.length : Nat) : Int) ≤ (m_graph_Maker g name).1)))) (by kernel_rfl) (Nat.le_of_ble_eq_true rfl) ?_
                refine AOps.sq (x := (AV.b (decide (((g.edges.length : Nat) : Int) ≤ (m_graph_Maker g name).1)))) (by kernel_rfl) (Nat.le_of_ble_eq_true rfl) ?_
                refine AOps.done ?_
                cases c_9 : decide (((g.edges.length : Nat) : Int) ≤ (m_graph_Maker g name).1)
                · have k_9 : ¬ (((g.edges.length : Nat) : Int) ≤ (m_graph_Maker g name).1) := of_decide_eq_false c_9
                  refine Awp.cond (t := false) (by kernel_rfl) ?_
                  refine Awp.skip ?_
                  refine Awp.seq ?_
                  refine Awp.seq ?_
                  refine Awp.region tabS_ok ?_
                  refine AOps.sq (x := (AV.i .i64 (0 : Int))) (by kernel_rfl) (Nat.le_of_ble_eq_true rfl) ?_
                  refine AOps.done ?_
                  refine Awp.block ?_
                  obtain ⟨R3, hR3⟩ : ∃ R, m_law9_GraphMakes_L3 name ((g.edges.getD ((m_graph_Maker g name).1).toNat default).outs) 0 = R := ⟨_, rfl⟩
                  refine Awp.loopT (fun (k2 : Nat) => [(1, (AV.s name)), (2, (AV.loc 0 0 0)), (10, (AV.i .i64 ((m_graph_Maker g name).1))), (13, (AV.i .i64 ((k2 : Nat) : Int)))]) (fun (k2 : Nat) => ⟨1, [(0, some ⟨27, 3, [(DGraph.av g)]⟩)]⟩) (fun (k2 : Nat) => k2 ≤ ((g.edges.getD ((m_graph_Maker g name).1).toNat default).outs).length ∧ m_law9_GraphMakes_L3 name (((g.edges.getD ((m_graph_Maker g name).1).toNat default).outs).drop k2) k2 = R3) (fun (k2 : Nat) => ((g.edges.getD ((m_graph_Maker g name).1).toNat default).outs).length - k2) 0 ?_ ?_ ?_
                  · exact ⟨[0], ⟨by decide, rfl, (FitsObjs.cons (by kernel_rfl) FitsObjs.nil), (EntE.cons (Ent.c (by kernel_rfl) (by kernel_rfl)) (EntE.cons (Ent.f (by kernel_rfl)) (EntE.cons (Ent.c (by kernel_rfl) (by kernel_rfl)) (EntE.cons (Ent.c (by kernel_rfl) (by kernel_rfl)) EntE.nil))))⟩, keep0⟩
                  · exact ⟨by (try dsimp only); omega, hR3⟩
                  · rintro k2 ⟨hi3, hE3⟩
                    try dsimp only
                    refine Awp.seq ?_
                    refine Awp.seq ?_
                    refine Awp.region tabS_ok ?_
                    refine AOps.sq (x := (AV.i .i64 ((k2 : Nat) : Int))) (by kernel_rfl) (Nat.le_of_ble_eq_true rfl) ?_
                    refine AOps.sq (x := (AV.loc 0 0 0)) (by kernel_rfl) (Nat.le_of_ble_eq_true rfl) ?_
                    refine AOps.sq (x := ((slA 7 DEdge.av) g.edges)) (by kernel_rfl) (Nat.le_of_ble_eq_true rfl) ?_
                    refine AOps.sq (x := (AV.i .i64 ((m_graph_Maker g name).1))) (by kernel_rfl) (Nat.le_of_ble_eq_true rfl) ?_
                    refine AOps.sq (x := (AV.pt (DEdge.av (g.edges.getD ((m_graph_Maker g name).1).toNat default)).cells)) (g_idxI (k := 7) (nl := false) (e := 31) (kk := .i64) (A := DEdge.av) (xs := g.edges) (n := ((m_graph_Maker g name).1)) (by kernel_rfl) (by kernel_rfl) (by kernel_rfl) ⟨by kernel_rfl, by decide⟩ (by first | omega | (unfold LIM; omega) | (simp only [List.length_append, List.length_cons, List.length_nil, List.length_set, List.length_replicate, ByteArray.size_append, List.length_take, List.length_drop, LIM]; omega) | (simp [LIM]; done) | (simp [LIM]; omega)) (getD_some (by first | omega | (unfold LIM; omega) | (simp only [List.length_append, List.length_cons, List.length_nil, List.length_set, List.length_replicate, ByteArray.size_append, List.length_take, List.length_drop, LIM]; omega) | (simp [LIM]; done) | (simp [LIM]; omega)))) (Nat.le_of_ble_eq_true rfl) ?_
                    refine AOps.sq (x := (AV.pt ((DEdge.av (g.edges.getD ((m_graph_Maker g name).1).toNat default)).cells.drop 0))) (by kernel_rfl) (Nat.le_of_ble_eq_true rfl) ?_
                    refine AOps.sq (x := ((slA 1 AV.s) ((g.edges.getD ((m_graph_Maker g name).1).toNat default).outs))) (by kernel_rfl) (Nat.le_of_ble_eq_true rfl) ?_
                    refine AOps.sq (x := (AV.i .i64 ((((g.edges.getD ((m_graph_Maker g name).1).toNat default).outs).length : Nat) : Int))) (g_len (k := 1) (nl := false) (e := 9) (A := AV.s) (xs := ((g.edges.getD ((m_graph_Maker g name).1).toNat default).outs)) (by kernel_rfl) (by kernel_rfl)) (Nat.le_of_ble_eq_true rfl) ?_
                    refine AOps.sq (x := (AV.b (decide (((k2 : Nat) : Int) < ((((g.edges.getD ((m_graph_Maker g name).1).toNat default).outs).length : Nat) : Int))))) (by kernel_rfl) (Nat.le_of_ble_eq_true rfl) ?_
                    refine AOps.done ?_
                    rcases Nat.lt_or_ge k2 ((g.edges.getD ((m_graph_Maker g name).1).toNat default).outs).length with hl3 | hl3
                    · have hc3 : decide (((k2 : Nat) : Int) < ((((g.edges.getD ((m_graph_Maker g name).1).toNat default).outs).length : Nat) : Int)) = true := decide_eq_true (by omega)
                      refine Awp.cond (t := true) (by rw [← hc3] <;> kernel_rfl) (Awp.skip ?_)
                      obtain ⟨x3, hx3⟩ : ∃ x, ((g.edges.getD ((m_graph_Maker g name).1).toNat default).outs)[k2]? = some x := ⟨_, List.getElem?_eq_getElem hl3⟩
                      rw [drop_at hx3, m_law9_GraphMakes_L3.eq_2] at hE3
                      have hgo := outs_getD g.edges ((m_graph_Maker g name).1).toNat
                      refine Awp.seq ?_
                      refine Awp.block ?_
                      refine Awp.seq ?_
                      refine Awp.region tabS_ok ?_
                      refine AOps.sq (x := (AV.loc 0 0 0)) (by kernel_rfl) (Nat.le_of_ble_eq_true rfl) ?_
                      refine AOps.sq (x := ((slA 7 DEdge.av) g.edges)) (by kernel_rfl) (Nat.le_of_ble_eq_true rfl) ?_
                      refine AOps.sq (x := (AV.i .i64 ((m_graph_Maker g name).1))) (by kernel_rfl) (Nat.le_of_ble_eq_true rfl) ?_
                      refine AOps.sq (x := (AV.pt (DEdge.av (g.edges.getD ((m_graph_Maker g name).1).toNat default)).cells)) (g_idxI (k := 7) (nl := false) (e := 31) (kk := .i64) (A := DEdge.av) (xs := g.edges) (n := ((m_graph_Maker g name).1)) (by kernel_rfl) (by kernel_rfl) (by kernel_rfl) ⟨by kernel_rfl, by decide⟩ (by first | omega | (unfold LIM; omega) | (simp only [List.length_append, List.length_cons, List.length_nil, List.length_set, List.length_replicate, ByteArray.size_append, List.length_take, List.length_drop, LIM]; omega) | (simp [LIM]; done) | (simp [LIM]; omega)) (getD_some (by first | omega | (unfold LIM; omega) | (simp only [List.length_append, List.length_cons, List.length_nil, List.length_set, List.length_replicate, ByteArray.size_append, List.length_take, List.length_drop, LIM]; omega) | (simp [LIM]; done) | (simp [LIM]; omega)))) (Nat.le_of_ble_eq_true rfl) ?_
                      refine AOps.sq (x := (AV.pt ((DEdge.av (g.edges.getD ((m_graph_Maker g name).1).toNat default)).cells.drop 0))) (by kernel_rfl) (Nat.le_of_ble_eq_true rfl) ?_
                      refine AOps.sq (x := ((slA 1 AV.s) ((g.edges.getD ((m_graph_Maker g name).1).toNat default).outs))) (by kernel_rfl) (Nat.le_of_ble_eq_true rfl) ?_
                      refine AOps.sq (x := (AV.i .i64 ((k2 : Nat) : Int))) (by kernel_rfl) (Nat.le_of_ble_eq_true rfl) ?_
                      refine AOps.sq (x := (AV.pt (AV.s x3).cells)) (g_idx (k := 1) (nl := false) (e := 9) (kk := .i64) (A := AV.s) (xs := ((g.edges.getD ((m_graph_Maker g name).1).toNat default).outs)) (i := k2) (by kernel_rfl) (by kernel_rfl) (by kernel_rfl) ⟨by kernel_rfl, by decide⟩ hx3) (Nat.le_of_ble_eq_true rfl) ?_
                      refine AOps.sq (x := (AV.s x3)) (by kernel_rfl) (Nat.le_of_ble_eq_true rfl) ?_
                      refine AOps.sq (x := (AV.s name)) (by kernel_rfl) (Nat.le_of_ble_eq_true rfl) ?_
                      refine AOps.sq (x := (AV.b (decide (x3 = name)))) (by kernel_rfl) (Nat.le_of_ble_eq_true rfl) ?_
                      refine AOps.done ?_
                      cases c_10 : decide (x3 = name)
                      · have k_10 : ¬ (x3 = name) := of_decide_eq_false c_10
                        refine Awp.cond (t := false) (by kernel_rfl) ?_
                        refine Awp.skip ?_
                        refine Awp.region tabS_ok ?_
                        refine AOps.sq (x := (AV.i .i64 ((k2 : Nat) : Int))) (by kernel_rfl) (Nat.le_of_ble_eq_true rfl) ?_
                        refine AOps.sq (x := (AV.i .i64 ((k2 + 1 : Nat) : Int))) (g_addN (i := k2) (m := 1) (by kernel_rfl) (by kernel_rfl) (by first | omega | (unfold LIM; omega) | (simp only [List.length_append, List.length_cons, List.length_nil, List.length_set, List.length_replicate, ByteArray.size_append, List.length_take, List.length_drop, LIM]; omega) | (simp [LIM]; done) | (simp [LIM]; omega))) (Nat.le_of_ble_eq_true rfl) ?_
                        refine AOps.sq (x := (AV.i .i64 ((k2 + 1 : Nat) : Int))) (by kernel_rfl) (Nat.le_of_ble_eq_true rfl) ?_
                        refine AOps.done ?_
                        try simp only [c_10, List.length_nil, Int.natCast_zero, eq_self, decide_true, List.nil_append, List.take_nil, cond_true, cond_false, Bool.true_and, Bool.false_and, Bool.true_or, Bool.false_or, Bool.not_true, Bool.not_false] at hE3
                        refine ⟨k2 + 1, by (try dsimp only); omega, ⟨by (try dsimp only); omega, hE3⟩, ?_⟩
                        exact ⟨[0], ⟨by decide, rfl, (FitsObjs.cons (by kernel_rfl) FitsObjs.nil), (EntE.cons (Ent.c (by kernel_rfl) (by kernel_rfl)) (EntE.cons (Ent.f (by kernel_rfl)) (EntE.cons (Ent.c (by kernel_rfl) (by kernel_rfl)) (EntE.cons (Ent.c (by kernel_rfl) (by kernel_rfl)) EntE.nil))))⟩, keep0⟩
                      · have k_10 : (x3 = name) := of_decide_eq_true c_10
                        refine Awp.cond (t := true) (by kernel_rfl) ?_
                        refine Awp.seq ?_
                        refine Awp.region tabS_ok ?_
                        refine AOps.sq (x := (AV.b true)) (by kernel_rfl) (Nat.le_of_ble_eq_true rfl) ?_
                        refine AOps.done ?_
                        refine Awp.ret ?_
                        try simp only [c_10, List.length_nil, Int.natCast_zero, eq_self, decide_true, List.nil_append, List.take_nil, cond_true, cond_false, Bool.true_and, Bool.false_and, Bool.true_or, Bool.false_or, Bool.not_true, Bool.not_false] at hE3
                        subst hE3
                        have hM : m_law9_GraphMakes g name = true := by simp only [m_law9_GraphMakes, c_1, c_2, hR1, c_6, c_7, c_8, c_9, hR3, List.length_nil, Int.natCast_zero, eq_self, decide_true, List.nil_append, List.take_nil, cond_true, cond_false, Bool.true_and, Bool.false_and, Bool.true_or, Bool.false_or, Bool.not_true, Bool.not_false]
                        refine ⟨Or.inr rfl, ?_⟩
                        rw [hM]
                        exact Ent.cast (x' := (AV.b true)) (y' := (AV.b true)) (by kernel_rfl) (by kernel_rfl) (Ent.c (by kernel_rfl) (by kernel_rfl))
                    · have hc3 : decide (((k2 : Nat) : Int) < ((((g.edges.getD ((m_graph_Maker g name).1).toNat default).outs).length : Nat) : Int)) = false := decide_eq_false (by omega)
                      refine Awp.cond (t := false) (by rw [← hc3] <;> kernel_rfl) (Awp.exit ?_)
                      rw [List.drop_eq_nil_of_le (hl3), m_law9_GraphMakes_L3.eq_1] at hE3
                      subst hE3
                      refine Awp.seq ?_
                      refine Awp.region tabS_ok ?_
                      refine AOps.sq (x := (AV.b false)) (by kernel_rfl) (Nat.le_of_ble_eq_true rfl) ?_
                      refine AOps.done ?_
                      refine Awp.ret ?_
                      have hM : m_law9_GraphMakes g name = false := by simp only [m_law9_GraphMakes, c_1, c_2, hR1, c_6, c_7, c_8, c_9, hR3, List.length_nil, Int.natCast_zero, eq_self, decide_true, List.nil_append, List.take_nil, cond_true, cond_false, Bool.true_and, Bool.false_and, Bool.true_or, Bool.false_or, Bool.not_true, Bool.not_false]
                      refine ⟨Or.inr rfl, ?_⟩
                      rw [hM]
                      exact Ent.cast (x' := (AV.b false)) (y' := (AV.b false)) (by kernel_rfl) (by kernel_rfl) (Ent.c (by kernel_rfl) (by kernel_rfl))
                · have k_9 : (((g.edges.length : Nat) : Int) ≤ (m_graph_Maker g name).1) := of_decide_eq_true c_9
                  refine Awp.cond (t := true) (by kernel_rfl) ?_
                  refine Awp.seq ?_
                  refine Awp.region tabS_ok ?_
                  refine AOps.sq (x := (AV.b false)) (by kernel_rfl) (Nat.le_of_ble_eq_true rfl) ?_
                  refine AOps.done ?_
                  refine Awp.ret ?_
                  have hM : m_law9_GraphMakes g name = false := by simp only [m_law9_GraphMakes, c_1, c_2, hR1, c_6, c_7, c_8, c_9, List.length_nil, Int.natCast_zero, eq_self, decide_true, List.nil_append, List.take_nil, cond_true, cond_false, Bool.true_and, Bool.false_and, Bool.true_or, Bool.false_or, Bool.not_true, Bool.not_false]
                  refine ⟨Or.inr rfl, ?_⟩
                  rw [hM]
                  exact Ent.cast (x' := (AV.b false)) (y' := (AV.b false)) (by kernel_rfl) (by kernel_rfl) (Ent.c (by kernel_rfl) (by kernel_rfl))
              · have k_8 : ((m_graph_Maker g name).1 < (0 : Int)) := of_decide_eq_true c_8
                refine AOps.sgn rfl rfl (by kernel_rfl) rfl (Nat.le_of_ble_eq_true rfl) ?_
                refine AOps.sgn rfl rfl (by kernel_rfl) rfl (Nat.le_of_ble_eq_true rfl) ?_
                refine AOps.sgn rfl rfl (by kernel_rfl) rfl (Nat.le_of_ble_eq_true rfl) ?_
                refine AOps.sgn rfl rfl (by kernel_rfl) rfl (Nat.le_of_ble_eq_true rfl) ?_
                refine AOps.sgn rfl rfl (by kernel_rfl) rfl (Nat.le_of_ble_eq_true rfl) ?_
                refine AOps.sq (x := (AV.b true)) (by kernel_rfl) (Nat.le_of_ble_eq_true rfl) ?_
                refine AOps.done ?_
                refine Awp.cond (t := true) (by kernel_rfl) ?_
                refine Awp.seq ?_
                refine Awp.region tabS_ok ?_
                refine AOps.sq (x := (AV.b false)) (by kernel_rfl) (Nat.le_of_ble_eq_true rfl) ?_
                refine AOps.done ?_
                refine Awp.ret ?_
                have hM : m_law9_GraphMakes g name = false := by simp only [m_law9_GraphMakes, c_1, c_2, hR1, c_6, c_7, c_8, List.length_nil, Int.natCast_zero, eq_self, decide_true, List.nil_append, List.take_nil, cond_true, cond_false, Bool.true_and, Bool.false_and, Bool.true_or, Bool.false_or, Bool.not_true, Bool.not_false]
                refine ⟨Or.inr rfl, ?_⟩
                rw [hM]
                exact Ent.cast (x' := (AV.b false)) (y' := (AV.b false)) (by kernel_rfl) (by kernel_rfl) (Ent.c (by kernel_rfl) (by kernel_rfl))
            · refine Awp.cond (t := true) (by kernel_rfl) ?_
              refine Awp.seq ?_
              refine Awp.region tabS_ok ?_
              refine AOps.sq (x := (AV.i .i64 ((m_graph_Maker g name).2.2))) (by kernel_rfl) (Nat.le_of_ble_eq_true rfl) ?_
              refine AOps.sc0 (vs := [(AV.i .i64 ((m_graph_Maker g name).2.2))]) (r0 := (AV.i .i64 (m_law0_Num ((m_graph_Maker g name).2.2)))) (by kernel_rfl) (by kernel_rfl) (w_law0_Num W ((m_graph_Maker g name).2.2)) (by kernel_rfl) (Nat.le_of_ble_eq_true rfl) ?_
              refine AOps.sq (x := (AV.b (decide ((m_law0_Num ((m_graph_Maker g name).2.2)) = (0 : Int))))) (by kernel_rfl) (Nat.le_of_ble_eq_true rfl) ?_
              refine AOps.sq (x := (AV.b (decide ((m_law0_Num ((m_graph_Maker g name).2.2)) = (0 : Int))))) (by kernel_rfl) (Nat.le_of_ble_eq_true rfl) ?_
              cases c_11 : decide ((m_law0_Num ((m_graph_Maker g name).2.2)) = (0 : Int))
              · exact absurd (c_11.symm.trans (show decide ((m_law0_Num ((m_graph_Maker g name).2.2)) = (0 : Int)) = true by simpa using c_6)) (by decide)
              · have k_11 : ((m_law0_Num ((m_graph_Maker g name).2.2)) = (0 : Int)) := of_decide_eq_true c_11
                refine AOps.sgy rfl rfl (by kernel_rfl) rfl ?_
                refine AOps.sq (x := (AV.i .i64 ((m_graph_Maker g name).1))) (by kernel_rfl) (Nat.le_of_ble_eq_true rfl) ?_
                refine AOps.sgy rfl rfl (by kernel_rfl) rfl ?_
                refine AOps.sq (x := (AV.b (decide ((m_graph_Maker g name).1 = (0 : Int))))) (by kernel_rfl) (Nat.le_of_ble_eq_true rfl) ?_
                refine AOps.sq (x := (AV.b (decide ((m_graph_Maker g name).1 = (0 : Int))))) (by kernel_rfl) (Nat.le_of_ble_eq_true rfl) ?_
                refine AOps.sq (x := (AV.b (decide ((m_graph_Maker g name).1 = (0 : Int))))) (by kernel_rfl) (Nat.le_of_ble_eq_true rfl) ?_
                refine AOps.done ?_
                refine Awp.ret ?_
                have hM : m_law9_GraphMakes g name = decide ((m_graph_Maker g name).1 = (0 : Int)) := by simp only [m_law9_GraphMakes, c_1, c_2, hR1, c_6, c_7, c_11, List.length_nil, Int.natCast_zero, eq_self, decide_true, List.nil_append, List.take_nil, cond_true, cond_false, Bool.true_and, Bool.false_and, Bool.true_or, Bool.false_or, Bool.not_true, Bool.not_false]
                refine ⟨Or.inr rfl, ?_⟩
                rw [hM]
                exact Ent.cast (x' := (AV.b (decide ((m_graph_Maker g name).1 = (0 : Int))))) (y' := (AV.b (decide ((m_graph_Maker g name).1 = (0 : Int))))) (by kernel_rfl) (by kernel_rfl) (Ent.c (by kernel_rfl) (by kernel_rfl))
          · have k_6 : ¬ ((m_law0_Num ((m_graph_Maker g name).2.2)) = (0 : Int)) := of_decide_eq_false (by simpa using c_6)
            refine AOps.sgn rfl rfl (by kernel_rfl) rfl (Nat.le_of_ble_eq_true rfl) ?_
            refine AOps.sgn rfl rfl (by kernel_rfl) rfl (Nat.le_of_ble_eq_true rfl) ?_
            refine AOps.sq (x := (AV.b true)) (by kernel_rfl) (Nat.le_of_ble_eq_true rfl) ?_
            refine AOps.done ?_
            refine Awp.cond (t := true) (by kernel_rfl) ?_
            refine Awp.seq ?_
            refine Awp.region tabS_ok ?_
            refine AOps.sq (x := (AV.i .i64 ((m_graph_Maker g name).2.2))) (by kernel_rfl) (Nat.le_of_ble_eq_true rfl) ?_
            refine AOps.sc0 (vs := [(AV.i .i64 ((m_graph_Maker g name).2.2))]) (r0 := (AV.i .i64 (m_law0_Num ((m_graph_Maker g name).2.2)))) (by kernel_rfl) (by kernel_rfl) (w_law0_Num W ((m_graph_Maker g name).2.2)) (by kernel_rfl) (Nat.le_of_ble_eq_true rfl) ?_
            refine AOps.sq (x := (AV.b (decide ((m_law0_Num ((m_graph_Maker g name).2.2)) = (0 : Int))))) (by kernel_rfl) (Nat.le_of_ble_eq_true rfl) ?_
            refine AOps.sq (x := (AV.b (decide ((m_law0_Num ((m_graph_Maker g name).2.2)) = (0 : Int))))) (by kernel_rfl) (Nat.le_of_ble_eq_true rfl) ?_
            cases c_12 : decide ((m_law0_Num ((m_graph_Maker g name).2.2)) = (0 : Int))
            · have k_12 : ¬ ((m_law0_Num ((m_graph_Maker g name).2.2)) = (0 : Int)) := of_decide_eq_false c_12
              refine AOps.sgn rfl rfl (by kernel_rfl) rfl (Nat.le_of_ble_eq_true rfl) ?_
              refine AOps.sgn rfl rfl (by kernel_rfl) rfl (Nat.le_of_ble_eq_true rfl) ?_
              refine AOps.sq (x := (AV.b false)) (by kernel_rfl) (Nat.le_of_ble_eq_true rfl) ?_
              refine AOps.sq (x := (AV.b false)) (by kernel_rfl) (Nat.le_of_ble_eq_true rfl) ?_
              refine AOps.done ?_
              refine Awp.ret ?_
              have hM : m_law9_GraphMakes g name = false := by simp only [m_law9_GraphMakes, c_1, c_2, hR1, c_6, c_12, List.length_nil, Int.natCast_zero, eq_self, decide_true, List.nil_append, List.take_nil, cond_true, cond_false, Bool.true_and, Bool.false_and, Bool.true_or, Bool.false_or, Bool.not_true, Bool.not_false]
              refine ⟨Or.inr rfl, ?_⟩
              rw [hM]
              exact Ent.cast (x' := (AV.b false)) (y' := (AV.b false)) (by kernel_rfl) (by kernel_rfl) (Ent.c (by kernel_rfl) (by kernel_rfl))
            · exact absurd (c_12.symm.trans (show decide ((m_law0_Num ((m_graph_Maker g name).2.2)) = (0 : Int)) = false by simpa using c_6)) (by decide)
    · have k_2 : ¬ ((m_law0_Num (m_graph_Check g)) = (0 : Int)) := of_decide_eq_false (by simpa using c_2)
      refine Awp.cond (t := true) (by kernel_rfl) ?_
      refine Awp.seq ?_
      refine Awp.region tabS_ok ?_
      refine AOps.sq (x := (DGraph.av g)) (by kernel_rfl) (Nat.le_of_ble_eq_true rfl) ?_
      refine AOps.sc0 (vs := [(DGraph.av g)]) (r0 := (AV.i .i64 (m_ref1_Check g))) (by kernel_rfl) (by kernel_rfl) (w_ref1_Check W g (by first | omega | (unfold LIM; omega) | (simp only [List.length_append, List.length_cons, List.length_nil, List.length_set, List.length_replicate, ByteArray.size_append, List.length_take, List.length_drop, LIM]; omega) | (simp [LIM]; done) | (simp [LIM]; omega))) (by kernel_rfl) (Nat.le_of_ble_eq_true rfl) ?_
      refine AOps.sq (x := (AV.b (!decide ((m_ref1_Check g) = (0 : Int))))) (by kernel_rfl) (Nat.le_of_ble_eq_true rfl) ?_
      refine AOps.sq (x := (AV.b (!decide ((m_ref1_Check g) = (0 : Int))))) (by kernel_rfl) (Nat.le_of_ble_eq_true rfl) ?_
      refine AOps.done ?_
      refine Awp.ret ?_
      have hM : m_law9_GraphMakes g name = (!decide ((m_ref1_Check g) = (0 : Int))) := by simp only [m_law9_GraphMakes, c_1, c_2, List.length_nil, Int.natCast_zero, eq_self, decide_true, List.nil_append, List.take_nil, cond_true, cond_false, Bool.true_and, Bool.false_and, Bool.true_or, Bool.false_or, Bool.not_true, Bool.not_false]
      refine ⟨Or.inr rfl, ?_⟩
      rw [hM]
      exact Ent.cast (x' := (AV.b (!decide ((m_ref1_Check g) = (0 : Int))))) (y' := (AV.b (!decide ((m_ref1_Check g) = (0 : Int))))) (by kernel_rfl) (by kernel_rfl) (Ent.c (by kernel_rfl) (by kernel_rfl))
  · refine Awp.cond (t := true) (by kernel_rfl) ?_
    refine Awp.seq ?_
    refine Awp.region tabS_ok ?_
    refine AOps.sq (x := (AV.b false)) (by kernel_rfl) (Nat.le_of_ble_eq_true rfl) ?_
    refine AOps.done ?_
    refine Awp.ret ?_
    have hM : m_law9_GraphMakes g name = false := by simp only [m_law9_GraphMakes, c_1, List.length_nil, Int.natCast_zero, eq_self, decide_true, List.nil_append, List.take_nil, cond_true, cond_false, Bool.true_and, Bool.false_and, Bool.true_or, Bool.false_or, Bool.not_true, Bool.not_false]
    refine ⟨Or.inr rfl, ?_⟩
    rw [hM]
    exact Ent.cast (x' := (AV.b false)) (y' := (AV.b false)) (by kernel_rfl) (by kernel_rfl) (Ent.c (by kernel_rfl) (by kernel_rfl))
end
end Go.Lift
