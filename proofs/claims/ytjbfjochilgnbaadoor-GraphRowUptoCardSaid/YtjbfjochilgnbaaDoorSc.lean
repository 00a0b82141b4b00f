/-
  Lemmas of this claim: a layer over the kit's calls, contracts of the functions that the law reaches, and the law's row. No condition of its own.
-/
import Derived.Test.YtjbfjochilgnbaaDoorSb
namespace Go.Lift
noncomputable section
open Go Go.RowKit
set_option linter.unusedSimpArgs false
set_option linter.unusedVariables false
set_option linter.unusedSectionVars false
set_option maxRecDepth 20000
theorem w_name_May (W : World) (s : ByteArray) : PureAt Go.Proofs.Tryd.prog W 57 [.s s] (.b (mayS s)) [] := name_may W s
theorem w_path_Clean (W : World) {m0 : Int} (hW : W.cell? ⟨0, 0, none⟩ = some (.int .i64 m0)) (s : ByteArray) : PureAt Go.Proofs.Tryd.prog W 76 [.s s] (.tup [.s (cleanS s).1, .i .i64 (cleanS s).2]) [] := path_clean W hW s
theorem gOf_av (g : DGraph) : (gOf g).av = DGraph.av g := by
  have h1 : EdgeD.av ∘ eOf = DEdge.av := rfl
  have h2 : PoolD.av ∘ pOf = DPool.av := rfl
  simp only [GraphD.av, gOf, DGraph.av, slA, List.map_map, h1, h2, Strs.av]
theorem w_graph_May (W : World) {m0 : Int} (hW : W.cell? ⟨0, 0, none⟩ = some (.int .i64 m0)) (g : DGraph) : PureAt Go.Proofs.Tryd.prog W 18 [DGraph.av g] (.b (m_graph_May g)) [] := by
  rw [← gOf_av]; exact graph_may W hW (gOf g)
theorem w_graph_Check (W : World) {m0 : Int} (hW : W.cell? ⟨0, 0, none⟩ = some (.int .i64 m0)) (g : DGraph) : PureAt Go.Proofs.Tryd.prog W 20 [DGraph.av g] (.i .i64 (m_graph_Check g)) [] := by
  rw [← gOf_av]; exact graph_check W hW (gOf g)
theorem w_graph_Maker (W : World) {m0 : Int} (hW : W.cell? ⟨0, 0, none⟩ = some (.int .i64 m0)) (g : DGraph) (name : ByteArray) : PureAt Go.Proofs.Tryd.prog W 17 [DGraph.av g, .s name] (.tup [.i .i64 (m_graph_Maker g name).1, .b (m_graph_Maker g name).2.1, .i .i64 (m_graph_Maker g name).2.2]) [] := by
  rw [← gOf_av]; exact graph_maker W hW (gOf g) name
theorem w_ref1_has (W : World) (xs : List ByteArray) (x' : ByteArray) : PureAt Go.Proofs.Tryd.prog W 46 [((slA 1 AV.s) xs), (AV.s x')] (AV.b (m_ref1_has xs x')) [] := by
  refine pure_of_bodyC (fn := Go.Proofs.Tryd.f46) Go.Proofs.Tryd.func46 rfl (en46 W) (ts := [4]) rfl (Nat.le_of_ble_eq_true rfl) ?_
  refine Awp.seq ?_
  refine Awp.region tabS_ok ?_
  refine AOps.sq (x := (AV.b false)) (by kernel_rfl) (Nat.le_of_ble_eq_true rfl) ?_
  refine AOps.done ?_
  refine Awp.seq ?_
  refine Awp.seq ?_
  refine Awp.region tabS_ok ?_
  refine AOps.sq (x := (AV.i .i64 (0 : Int))) (by kernel_rfl) (Nat.le_of_ble_eq_true rfl) ?_
  refine AOps.done ?_
  refine Awp.block ?_
  refine Awp.lim 0 (x := ((slA 1 AV.s) xs)) (by kernel_rfl) fun hlm1 => ?_
  have hB1 : xs.length ≤ 281474976710656 := lim_slA hlm1
  obtain ⟨R1, hR1⟩ : ∃ R, m_ref1_has_L1 x' xs 0 = R := ⟨_, rfl⟩
  refine Awp.loopT (fun (i : Nat) => [(0, ((slA 1 AV.s) xs)), (1, (AV.s x')), (5, (AV.i .i64 ((i : Nat) : Int)))]) (fun (i : Nat) => ⟨0, []⟩) (fun (i : Nat) => i ≤ xs.length ∧ m_ref1_has_L1 x' (xs.drop i) i = R1) (fun (i : Nat) => xs.length - i) 0 ?_ ?_ ?_
  · exact ⟨[], ⟨by decide, rfl, FitsObjs.nil, (EntE.cons (Ent.c (by kernel_rfl) (by kernel_rfl)) (EntE.cons (Ent.c (by kernel_rfl) (by kernel_rfl)) (EntE.cons (Ent.c (by kernel_rfl) (by kernel_rfl)) EntE.nil)))⟩, keep0⟩
  · exact ⟨by (try dsimp only); omega, hR1⟩
  · rintro i ⟨hi1, hE1⟩
    try dsimp only
    refine Awp.seq ?_
    refine Awp.seq ?_
    refine Awp.region tabS_ok ?_
    refine AOps.sq (x := (AV.i .i64 ((i : Nat) : Int))) (by kernel_rfl) (Nat.le_of_ble_eq_true rfl) ?_
    refine AOps.sq (x := ((slA 1 AV.s) xs)) (by kernel_rfl) (Nat.le_of_ble_eq_true rfl) ?_
    refine AOps.sq (x := (AV.i .i64 ((xs.length : Nat) : Int))) (g_len (k := 1) (nl := false) (e := 9) (A := AV.s) (xs := xs) (by kernel_rfl) (by kernel_rfl)) (Nat.le_of_ble_eq_true rfl) ?_
    refine AOps.sq (x := (AV.b (decide (((i : Nat) : Int) < ((xs.length : Nat) : Int))))) (by kernel_rfl) (Nat.le_of_ble_eq_true rfl) ?_
    refine AOps.done ?_
    rcases Nat.lt_or_ge i xs.length with hl1 | hl1
    · have hc1 : decide (((i : Nat) : Int) < ((xs.length : Nat) : Int)) = true := decide_eq_true (by omega)
      refine Awp.cond (t := true) (by rw [← hc1] <;> kernel_rfl) (Awp.skip ?_)
      obtain ⟨x1, hx1⟩ : ∃ x, xs[i]? = some x := ⟨_, List.getElem?_eq_getElem hl1⟩
      rw [drop_at hx1, m_ref1_has_L1.eq_2] at hE1
      refine Awp.seq ?_
      refine Awp.block ?_
      refine Awp.seq ?_
      refine Awp.region tabS_ok ?_
      refine AOps.sq (x := ((slA 1 AV.s) xs)) (by kernel_rfl) (Nat.le_of_ble_eq_true rfl) ?_
      refine AOps.sq (x := (AV.i .i64 ((i : Nat) : Int))) (by kernel_rfl) (Nat.le_of_ble_eq_true rfl) ?_
      refine AOps.sq (x := (AV.pt (AV.s x1).cells)) (g_idx (k := 1) (nl := false) (e := 9) (kk := .i64) (A := AV.s) (xs := xs) (i := i) (by kernel_rfl) (by kernel_rfl) (by kernel_rfl) ⟨by kernel_rfl, by decide⟩ hx1) (Nat.le_of_ble_eq_true rfl) ?_
      refine AOps.sq (x := (AV.s x1)) (by kernel_rfl) (Nat.le_of_ble_eq_true rfl) ?_
      refine AOps.sq (x := (AV.s x')) (by kernel_rfl) (Nat.le_of_ble_eq_true rfl) ?_
      refine AOps.sq (x := (AV.b (decide (x1 = x')))) (by kernel_rfl) (Nat.le_of_ble_eq_true rfl) ?_
      refine AOps.done ?_
      cases c_1 : decide (x1 = x')
      · have k_1 : ¬ (x1 = x') := of_decide_eq_false c_1
        refine Awp.cond (t := false) (by kernel_rfl) ?_
        refine Awp.skip ?_
        refine Awp.region tabS_ok ?_
        refine AOps.sq (x := (AV.i .i64 ((i : Nat) : Int))) (by kernel_rfl) (Nat.le_of_ble_eq_true rfl) ?_
        refine AOps.sq (x := (AV.i .i64 ((i + 1 : Nat) : Int))) (g_addN (i := i) (m := 1) (by kernel_rfl) (by kernel_rfl) (by first | omega | (unfold LIM; omega) | (simp only [List.length_append, List.length_cons, List.length_nil, List.length_set, List.length_replicate, ByteArray.size_append, List.length_take, List.length_drop, LIM]; omega) | (simp [LIM]; done) | (simp [LIM]; omega))) (Nat.le_of_ble_eq_true rfl) ?_
        refine AOps.sq (x := (AV.i .i64 ((i + 1 : Nat) : Int))) (by kernel_rfl) (Nat.le_of_ble_eq_true rfl) ?_
        refine AOps.done ?_
        try simp only [c_1, List.length_nil, Int.natCast_zero, eq_self, decide_true, List.nil_append, List.take_nil, cond_true, cond_false, Bool.true_and, Bool.false_and, Bool.true_or, Bool.false_or, Bool.not_true, Bool.not_false] at hE1
        refine ⟨i + 1, by (try dsimp only); omega, ⟨by (try dsimp only); omega, hE1⟩, ?_⟩
        exact ⟨[], ⟨by decide, rfl, FitsObjs.nil, (EntE.cons (Ent.c (by kernel_rfl) (by kernel_rfl)) (EntE.cons (Ent.c (by kernel_rfl) (by kernel_rfl)) (EntE.cons (Ent.c (by kernel_rfl) (by kernel_rfl)) EntE.nil)))⟩, keep0⟩
      · have k_1 : (x1 = x') := of_decide_eq_true c_1
        refine Awp.cond (t := true) (by kernel_rfl) ?_
        refine Awp.seq ?_
        refine Awp.region tabS_ok ?_
        refine AOps.sq (x := (AV.b true)) (by kernel_rfl) (Nat.le_of_ble_eq_true rfl) ?_
        refine AOps.done ?_
        refine Awp.ret ?_
        try simp only [c_1, List.length_nil, Int.natCast_zero, eq_self, decide_true, List.nil_append, List.take_nil, cond_true, cond_false, Bool.true_and, Bool.false_and, Bool.true_or, Bool.false_or, Bool.not_true, Bool.not_false] at hE1
        subst hE1
        have hM : m_ref1_has xs x' = true := by simp only [m_ref1_has, hR1, List.length_nil, Int.natCast_zero, eq_self, decide_true, List.nil_append, List.take_nil, cond_true, cond_false, Bool.true_and, Bool.false_and, Bool.true_or, Bool.false_or, Bool.not_true, Bool.not_false]
        refine ⟨Or.inr rfl, ?_⟩
        rw [hM]
        exact Ent.cast (x' := (AV.b true)) (y' := (AV.b true)) (by kernel_rfl) (by kernel_rfl) (Ent.c (by kernel_rfl) (by kernel_rfl))
    · have hc1 : decide (((i : Nat) : Int) < ((xs.length : Nat) : Int)) = false := decide_eq_false (by omega)
      refine Awp.cond (t := false) (by rw [← hc1] <;> kernel_rfl) (Awp.exit ?_)
      rw [List.drop_eq_nil_of_le (hl1), m_ref1_has_L1.eq_1] at hE1
      subst hE1
      refine Awp.seq ?_
      refine Awp.region tabS_ok ?_
      refine AOps.sq (x := (AV.b false)) (by kernel_rfl) (Nat.le_of_ble_eq_true rfl) ?_
      refine AOps.done ?_
      refine Awp.ret ?_
      have hM : m_ref1_has xs x' = false := by simp only [m_ref1_has, hR1, List.length_nil, Int.natCast_zero, eq_self, decide_true, List.nil_append, List.take_nil, cond_true, cond_false, Bool.true_and, Bool.false_and, Bool.true_or, Bool.false_or, Bool.not_true, Bool.not_false]
      refine ⟨Or.inr rfl, ?_⟩
      rw [hM]
      exact Ent.cast (x' := (AV.b false)) (y' := (AV.b false)) (by kernel_rfl) (by kernel_rfl) (Ent.c (by kernel_rfl) (by kernel_rfl))

theorem w_ref1_small (W : World) (c : Int) : PureAt Go.Proofs.Tryd.prog W 44 [(AV.i .u8 c)] (AV.b (m_ref1_small c)) [] := by
  refine pure_of_bodyC (fn := Go.Proofs.Tryd.f44) Go.Proofs.Tryd.func44 rfl (en44 W) (ts := [2]) rfl (Nat.le_of_ble_eq_true rfl) ?_
  refine Awp.seq ?_
  refine Awp.region tabS_ok ?_
  refine AOps.sq (x := (AV.b false)) (by kernel_rfl) (Nat.le_of_ble_eq_true rfl) ?_
  refine AOps.done ?_
  refine Awp.seq ?_
  refine Awp.region tabS_ok ?_
  refine AOps.sq (x := (AV.i .u8 c)) (by kernel_rfl) (Nat.le_of_ble_eq_true rfl) ?_
  refine AOps.sq (x := (AV.b (decide ((97 : Int) ≤ c)))) (by kernel_rfl) (Nat.le_of_ble_eq_true rfl) ?_
  refine AOps.sq (x := (AV.b (decide ((97 : Int) ≤ c)))) (by kernel_rfl) (Nat.le_of_ble_eq_true rfl) ?_
  cases c_1 : decide ((97 : Int) ≤ c)
  · have k_1 : ¬ ((97 : Int) ≤ c) := of_decide_eq_false c_1
    refine AOps.sgn rfl rfl (by kernel_rfl) rfl (Nat.le_of_ble_eq_true rfl) ?_
    refine AOps.sgn rfl rfl (by kernel_rfl) rfl (Nat.le_of_ble_eq_true rfl) ?_
    refine AOps.sq (x := (AV.b false)) (by kernel_rfl) (Nat.le_of_ble_eq_true rfl) ?_
    refine AOps.sq (x := (AV.b false)) (by kernel_rfl) (Nat.le_of_ble_eq_true rfl) ?_
    refine AOps.sgy rfl rfl (by kernel_rfl) rfl ?_
    refine AOps.sq (x := (AV.i .u8 c)) (by kernel_rfl) (Nat.le_of_ble_eq_true rfl) ?_
    refine AOps.sgy rfl rfl (by kernel_rfl) rfl ?_
    refine AOps.sq (x := (AV.b (decide ((48 : Int) ≤ c)))) (by kernel_rfl) (Nat.le_of_ble_eq_true rfl) ?_
    refine AOps.sgy rfl rfl (by kernel_rfl) rfl ?_
    refine AOps.sq (x := (AV.b (decide ((48 : Int) ≤ c)))) (by kernel_rfl) (Nat.le_of_ble_eq_true rfl) ?_
    cases c_2 : decide ((48 : Int) ≤ c)
    · have k_2 : ¬ ((48 : Int) ≤ c) := of_decide_eq_false c_2
      refine AOps.sgn rfl rfl (by kernel_rfl) rfl (Nat.le_of_ble_eq_true rfl) ?_
      refine AOps.sgn rfl rfl (by kernel_rfl) rfl (Nat.le_of_ble_eq_true rfl) ?_
      refine AOps.sgy rfl rfl (by kernel_rfl) rfl ?_
      refine AOps.sq (x := (AV.b false)) (by kernel_rfl) (Nat.le_of_ble_eq_true rfl) ?_
      refine AOps.sq (x := (AV.b false)) (by kernel_rfl) (Nat.le_of_ble_eq_true rfl) ?_
      refine AOps.sq (x := (AV.b false)) (by kernel_rfl) (Nat.le_of_ble_eq_true rfl) ?_
      refine AOps.done ?_
      refine Awp.ret ?_
      have hM : m_ref1_small c = false := by simp only [m_ref1_small, c_1, c_2, List.length_nil, Int.natCast_zero, eq_self, decide_true, List.nil_append, List.take_nil, cond_true, cond_false, Bool.true_and, Bool.false_and, Bool.true_or, Bool.false_or, Bool.not_true, Bool.not_false]
      refine ⟨Or.inr rfl, ?_⟩
      rw [hM]
      exact Ent.cast (x' := (AV.b false)) (y' := (AV.b false)) (by kernel_rfl) (by kernel_rfl) (Ent.c (by kernel_rfl) (by kernel_rfl))
    · have k_2 : ((48 : Int) ≤ c) := of_decide_eq_true c_2
      refine AOps.sgy rfl rfl (by kernel_rfl) rfl ?_
      refine AOps.sq (x := (AV.i .u8 c)) (by kernel_rfl) (Nat.le_of_ble_eq_true rfl) ?_
      refine AOps.sgy rfl rfl (by kernel_rfl) rfl ?_
      refine AOps.sq (x := (AV.b (decide (c ≤ (57 : Int))))) (by kernel_rfl) (Nat.le_of_ble_eq_true rfl) ?_
      refine AOps.sgy rfl rfl (by kernel_rfl) rfl ?_
      refine AOps.sq (x := (AV.b (decide (c ≤ (57 : Int))))) (by kernel_rfl) (Nat.le_of_ble_eq_true rfl) ?_
      refine AOps.sq (x := (AV.b (decide (c ≤ (57 : Int))))) (by kernel_rfl) (Nat.le_of_ble_eq_true rfl) ?_
      refine AOps.sq (x := (AV.b (decide (c ≤ (57 : Int))))) (by kernel_rfl) (Nat.le_of_ble_eq_true rfl) ?_
      refine AOps.done ?_
      refine Awp.ret ?_
      have hM : m_ref1_small c = decide (c ≤ (57 : Int)) := by simp only [m_ref1_small, c_1, c_2, List.length_nil, Int.natCast_zero, eq_self, decide_true, List.nil_append, List.take_nil, cond_true, cond_false, Bool.true_and, Bool.false_and, Bool.true_or, Bool.false_or, Bool.not_true, Bool.not_false]
      refine ⟨Or.inr rfl, ?_⟩
      rw [hM]
      exact Ent.cast (x' := (AV.b (decide (c ≤ (57 : Int))))) (y' := (AV.b (decide (c ≤ (57 : Int))))) (by kernel_rfl) (by kernel_rfl) (Ent.c (by kernel_rfl) (by kernel_rfl))
  · have k_1 : ((97 : Int) ≤ c) := of_decide_eq_true c_1
    refine AOps.sgy rfl rfl (by kernel_rfl) rfl ?_
    refine AOps.sq (x := (AV.i .u8 c)) (by kernel_rfl) (Nat.le_of_ble_eq_true rfl) ?_
    refine AOps.sgy rfl rfl (by kernel_rfl) rfl ?_
    refine AOps.sq (x := (AV.b (decide (c ≤ (122 : Int))))) (by kernel_rfl) (Nat.le_of_ble_eq_true rfl) ?_
    refine AOps.sq (x := (AV.b (decide (c ≤ (122 : Int))))) (by kernel_rfl) (Nat.le_of_ble_eq_true rfl) ?_
    refine AOps.sq (x := (AV.b (decide (c ≤ (122 : Int))))) (by kernel_rfl) (Nat.le_of_ble_eq_true rfl) ?_
    cases c_3 : decide (c ≤ (122 : Int))
    · have k_3 : ¬ (c ≤ (122 : Int)) := of_decide_eq_false c_3
      refine AOps.sgy rfl rfl (by kernel_rfl) rfl ?_
      refine AOps.sq (x := (AV.i .u8 c)) (by kernel_rfl) (Nat.le_of_ble_eq_true rfl) ?_
      refine AOps.sgy rfl rfl (by kernel_rfl) rfl ?_
      refine AOps.sq (x := (AV.b (decide ((48 : Int) ≤ c)))) (by kernel_rfl) (Nat.le_of_ble_eq_true rfl) ?_
      refine AOps.sgy rfl rfl (by kernel_rfl) rfl ?_
      refine AOps.sq (x := (AV.b (decide ((48 : Int) ≤ c)))) (by kernel_rfl) (Nat.le_of_ble_eq_true rfl) ?_
      cases c_4 : decide ((48 : Int) ≤ c)
      · have k_4 : ¬ ((48 : Int) ≤ c) := of_decide_eq_false c_4
        refine AOps.sgn rfl rfl (by kernel_rfl) rfl (Nat.le_of_ble_eq_true rfl) ?_
        refine AOps.sgn rfl rfl (by kernel_rfl) rfl (Nat.le_of_ble_eq_true rfl) ?_
        refine AOps.sgy rfl rfl (by kernel_rfl) rfl ?_
        refine AOps.sq (x := (AV.b false)) (by kernel_rfl) (Nat.le_of_ble_eq_true rfl) ?_
        refine AOps.sq (x := (AV.b false)) (by kernel_rfl) (Nat.le_of_ble_eq_true rfl) ?_
        refine AOps.sq (x := (AV.b false)) (by kernel_rfl) (Nat.le_of_ble_eq_true rfl) ?_
        refine AOps.done ?_
        refine Awp.ret ?_
        have hM : m_ref1_small c = false := by simp only [m_ref1_small, c_1, c_3, c_4, List.length_nil, Int.natCast_zero, eq_self, decide_true, List.nil_append, List.take_nil, cond_true, cond_false, Bool.true_and, Bool.false_and, Bool.true_or, Bool.false_or, Bool.not_true, Bool.not_false]
        refine ⟨Or.inr rfl, ?_⟩
        rw [hM]
        exact Ent.cast (x' := (AV.b false)) (y' := (AV.b false)) (by kernel_rfl) (by kernel_rfl) (Ent.c (by kernel_rfl) (by kernel_rfl))
      · have k_4 : ((48 : Int) ≤ c) := of_decide_eq_true c_4
        refine AOps.sgy rfl rfl (by kernel_rfl) rfl ?_
        refine AOps.sq (x := (AV.i .u8 c)) (by kernel_rfl) (Nat.le_of_ble_eq_true rfl) ?_
        refine AOps.sgy rfl rfl (by kernel_rfl) rfl ?_
        refine AOps.sq (x := (AV.b (decide (c ≤ (57 : Int))))) (by kernel_rfl) (Nat.le_of_ble_eq_true rfl) ?_
        refine AOps.sgy rfl rfl (by kernel_rfl) rfl ?_
        refine AOps.sq (x := (AV.b (decide (c ≤ (57 : Int))))) (by kernel_rfl) (Nat.le_of_ble_eq_true rfl) ?_
        refine AOps.sq (x := (AV.b (decide (c ≤ (57 : Int))))) (by kernel_rfl) (Nat.le_of_ble_eq_true rfl) ?_
        refine AOps.sq (x := (AV.b (decide (c ≤ (57 : Int))))) (by kernel_rfl) (Nat.le_of_ble_eq_true rfl) ?_
        refine AOps.done ?_
        refine Awp.ret ?_
        have hM : m_ref1_small c = decide (c ≤ (57 : Int)) := by simp only [m_ref1_small, c_1, c_3, c_4, List.length_nil, Int.natCast_zero, eq_self, decide_true, List.nil_append, List.take_nil, cond_true, cond_false, Bool.true_and, Bool.false_and, Bool.true_or, Bool.false_or, Bool.not_true, Bool.not_false]
        refine ⟨Or.inr rfl, ?_⟩
        rw [hM]
        exact Ent.cast (x' := (AV.b (decide (c ≤ (57 : Int))))) (y' := (AV.b (decide (c ≤ (57 : Int))))) (by kernel_rfl) (by kernel_rfl) (Ent.c (by kernel_rfl) (by kernel_rfl))
    · have k_3 : (c ≤ (122 : Int)) := of_decide_eq_true c_3
      refine AOps.sgn rfl rfl (by kernel_rfl) rfl (Nat.le_of_ble_eq_true rfl) ?_
      refine AOps.sgn rfl rfl (by kernel_rfl) rfl (Nat.le_of_ble_eq_true rfl) ?_
      refine AOps.sgn rfl rfl (by kernel_rfl) rfl (Nat.le_of_ble_eq_true rfl) ?_
      refine AOps.sgu rfl rfl (by kernel_rfl) (Nat.le_of_ble_eq_true rfl) ?_
      refine AOps.sgu rfl rfl (by kernel_rfl) (Nat.le_of_ble_eq_true rfl) ?_
      refine AOps.sgn rfl rfl (by kernel_rfl) rfl (Nat.le_of_ble_eq_true rfl) ?_
      refine AOps.sq (x := (AV.b true)) (by kernel_rfl) (Nat.le_of_ble_eq_true rfl) ?_
      refine AOps.sq (x := (AV.b true)) (by kernel_rfl) (Nat.le_of_ble_eq_true rfl) ?_
      refine AOps.done ?_
      refine Awp.ret ?_
      have hM : m_ref1_small c = true := by simp only [m_ref1_small, c_1, c_3, List.length_nil, Int.natCast_zero, eq_self, decide_true, List.nil_append, List.take_nil, cond_true, cond_false, Bool.true_and, Bool.false_and, Bool.true_or, Bool.false_or, Bool.not_true, Bool.not_false]
      refine ⟨Or.inr rfl, ?_⟩
      rw [hM]
      exact Ent.cast (x' := (AV.b true)) (y' := (AV.b true)) (by kernel_rfl) (by kernel_rfl) (Ent.c (by kernel_rfl) (by kernel_rfl))

theorem w_ref1_Plain (W : World) (s' : ByteArray) (least : Int) (most' : Int) : PureAt Go.Proofs.Tryd.prog W 88 [(AV.s s'), (AV.i .i64 least), (AV.i .i64 most')] (AV.b (m_ref1_Plain s' least most')) [] := by
  refine pure_of_bodyC (fn := Go.Proofs.Tryd.f88) Go.Proofs.Tryd.func88 rfl (en88 W) (ts := [6]) rfl (Nat.le_of_ble_eq_true rfl) ?_
  refine Awp.seq ?_
  refine Awp.region tabS_ok ?_
  refine AOps.sq (x := (AV.b false)) (by kernel_rfl) (Nat.le_of_ble_eq_true rfl) ?_
  refine AOps.done ?_
  refine Awp.seq ?_
  refine Awp.seq ?_
  refine Awp.region tabS_ok ?_
  refine AOps.sq (x := (AV.i .i64 (0 : Int))) (by kernel_rfl) (Nat.le_of_ble_eq_true rfl) ?_
  refine AOps.done ?_
  refine Awp.block ?_
  refine Awp.lim 0 (x := (AV.s s')) (by kernel_rfl) fun hlm1 => ?_
  have hB1 : s'.size ≤ 281474976710656 := lim_s hlm1
  obtain ⟨R1, hR1⟩ : ∃ R, m_ref1_Plain_L1 s'.data.toList 0 = R := ⟨_, rfl⟩
  refine Awp.loopT (fun (i : Nat) => [(0, (AV.s s')), (1, (AV.i .i64 least)), (2, (AV.i .i64 most')), (7, (AV.i .i64 ((i : Nat) : Int)))]) (fun (i : Nat) => ⟨0, []⟩) (fun (i : Nat) => i ≤ s'.size ∧ m_ref1_Plain_L1 (s'.data.toList.drop i) i = R1) (fun (i : Nat) => s'.size - i) 0 ?_ ?_ ?_
  · exact ⟨[], ⟨by decide, rfl, FitsObjs.nil, (EntE.cons (Ent.c (by kernel_rfl) (by kernel_rfl)) (EntE.cons (Ent.c (by kernel_rfl) (by kernel_rfl)) (EntE.cons (Ent.c (by kernel_rfl) (by kernel_rfl)) (EntE.cons (Ent.c (by kernel_rfl) (by kernel_rfl)) EntE.nil))))⟩, keep0⟩
  · exact ⟨by (try dsimp only); omega, hR1⟩
  · rintro i ⟨hi1, hE1⟩
    try dsimp only
    refine Awp.seq ?_
    refine Awp.seq ?_
    refine Awp.region tabS_ok ?_
    refine AOps.sq (x := (AV.i .i64 ((i : Nat) : Int))) (by kernel_rfl) (Nat.le_of_ble_eq_true rfl) ?_
    refine AOps.sq (x := (AV.s s')) (by kernel_rfl) (Nat.le_of_ble_eq_true rfl) ?_
    refine AOps.sq (x := (AV.i .i64 ((s'.size : Nat) : Int))) (by kernel_rfl) (Nat.le_of_ble_eq_true rfl) ?_
    refine AOps.sq (x := (AV.b (decide (((i : Nat) : Int) < ((s'.size : Nat) : Int))))) (by kernel_rfl) (Nat.le_of_ble_eq_true rfl) ?_
    refine AOps.done ?_
    rcases Nat.lt_or_ge i s'.size with hl1 | hl1
    · have hc1 : decide (((i : Nat) : Int) < ((s'.size : Nat) : Int)) = true := decide_eq_true (by omega)
      refine Awp.cond (t := true) (by rw [← hc1] <;> kernel_rfl) (Awp.skip ?_)
      obtain ⟨x1, hx1, hx1l⟩ := data_get hl1
      rw [drop_at hx1l, m_ref1_Plain_L1.eq_2] at hE1
      refine Awp.seq ?_
      refine Awp.block ?_
      refine Awp.seq ?_
      refine Awp.region tabS_ok ?_
      refine AOps.sq (x := (AV.s s')) (by kernel_rfl) (Nat.le_of_ble_eq_true rfl) ?_
      refine AOps.sq (x := (AV.i .i64 ((i : Nat) : Int))) (by kernel_rfl) (Nat.le_of_ble_eq_true rfl) ?_
      refine AOps.sq (x := (AV.i .u8 (x1.toNat : Int))) (g_str (kk := .i64) (s := s') (i := i) (b := x1) (by kernel_rfl) (by kernel_rfl) (by kernel_rfl) hx1) (Nat.le_of_ble_eq_true rfl) ?_
      refine AOps.sq (x := (AV.b (decide ((x1.toNat : Int) < (32 : Int))))) (by kernel_rfl) (Nat.le_of_ble_eq_true rfl) ?_
      refine AOps.sq (x := (AV.b (decide ((x1.toNat : Int) < (32 : Int))))) (by kernel_rfl) (Nat.le_of_ble_eq_true rfl) ?_
      cases c_1 : decide ((x1.toNat : Int) < (32 : Int))
      · have k_1 : ¬ ((x1.toNat : Int) < (32 : Int)) := of_decide_eq_false c_1
        refine AOps.sgy rfl rfl (by kernel_rfl) rfl ?_
        refine AOps.sq (x := (AV.s s')) (by kernel_rfl) (Nat.le_of_ble_eq_true rfl) ?_
        refine AOps.sgy rfl rfl (by kernel_rfl) rfl ?_
        refine AOps.sq (x := (AV.i .i64 ((i : Nat) : Int))) (by kernel_rfl) (Nat.le_of_ble_eq_true rfl) ?_
        refine AOps.sgy rfl rfl (by kernel_rfl) rfl ?_
        refine AOps.sq (x := (AV.i .u8 (x1.toNat : Int))) (g_str (kk := .i64) (s := s') (i := i) (b := x1) (by kernel_rfl) (by kernel_rfl) (by kernel_rfl) hx1) (Nat.le_of_ble_eq_true rfl) ?_
        refine AOps.sgy rfl rfl (by kernel_rfl) rfl ?_
        refine AOps.sq (x := (AV.b (decide ((126 : Int) < (x1.toNat : Int))))) (by kernel_rfl) (Nat.le_of_ble_eq_true rfl) ?_
        refine AOps.sq (x := (AV.b (decide ((126 : Int) < (x1.toNat : Int))))) (by kernel_rfl) (Nat.le_of_ble_eq_true rfl) ?_
        refine AOps.done ?_
        cases c_2 : decide ((126 : Int) < (x1.toNat : Int))
        · have k_2 : ¬ ((126 : Int) < (x1.toNat : Int)) := of_decide_eq_false c_2
          refine Awp.cond (t := false) (by kernel_rfl) ?_
          refine Awp.skip ?_
          refine Awp.region tabS_ok ?_
          refine AOps.sq (x := (AV.i .i64 ((i : Nat) : Int))) (by kernel_rfl) (Nat.le_of_ble_eq_true rfl) ?_
          refine AOps.sq (x := (AV.i .i64 ((i + 1 : Nat) : Int))) (g_addN (i := i) (m := 1) (by kernel_rfl) (by kernel_rfl) (by first | omega | (unfold LIM; omega) | (simp only [List.length_append, List.length_cons, List.length_nil, List.length_set, List.length_replicate, ByteArray.size_append, List.length_take, List.length_drop, LIM]; omega) | (simp [LIM]; done) | (simp [LIM]; omega))) (Nat.le_of_ble_eq_true rfl) ?_
          refine AOps.sq (x := (AV.i .i64 ((i + 1 : Nat) : Int))) (by kernel_rfl) (Nat.le_of_ble_eq_true rfl) ?_
          refine AOps.done ?_
          try simp only [c_1, c_2, List.length_nil, Int.natCast_zero, eq_self, decide_true, List.nil_append, List.take_nil, cond_true, cond_false, Bool.true_and, Bool.false_and, Bool.true_or, Bool.false_or, Bool.not_true, Bool.not_false] at hE1
          refine ⟨i + 1, by (try dsimp only); omega, ⟨by (try dsimp only); omega, hE1⟩, ?_⟩
          exact ⟨[], ⟨by decide, rfl, FitsObjs.nil, (EntE.cons (Ent.c (by kernel_rfl) (by kernel_rfl)) (EntE.cons (Ent.c (by kernel_rfl) (by kernel_rfl)) (EntE.cons (Ent.c (by kernel_rfl) (by kernel_rfl)) (EntE.cons (Ent.c (by kernel_rfl) (by kernel_rfl)) EntE.nil))))⟩, keep0⟩
        · have k_2 : ((126 : Int) < (x1.toNat : Int)) := of_decide_eq_true c_2
          refine Awp.cond (t := true) (by kernel_rfl) ?_
          refine Awp.seq ?_
          refine Awp.region tabS_ok ?_
          refine AOps.sq (x := (AV.b false)) (by kernel_rfl) (Nat.le_of_ble_eq_true rfl) ?_
          refine AOps.done ?_
          refine Awp.ret ?_
          try simp only [c_1, c_2, List.length_nil, Int.natCast_zero, eq_self, decide_true, List.nil_append, List.take_nil, cond_true, cond_false, Bool.true_and, Bool.false_and, Bool.true_or, Bool.false_or, Bool.not_true, Bool.not_false] at hE1
          subst hE1
          have hM : m_ref1_Plain s' least most' = false := by simp only [m_ref1_Plain, hR1, List.length_nil, Int.natCast_zero, eq_self, decide_true, List.nil_append, List.take_nil, cond_true, cond_false, Bool.true_and, Bool.false_and, Bool.true_or, Bool.false_or, Bool.not_true, Bool.not_false]
          refine ⟨Or.inr rfl, ?_⟩
          rw [hM]
          exact Ent.cast (x' := (AV.b false)) (y' := (AV.b false)) (by kernel_rfl) (by kernel_rfl) (Ent.c (by kernel_rfl) (by kernel_rfl))
      · have k_1 : ((x1.toNat : Int) < (32 : Int)) := of_decide_eq_true c_1
        refine AOps.sgn rfl rfl (by kernel_rfl) rfl (Nat.le_of_ble_eq_true rfl) ?_
        refine AOps.sgn rfl rfl (by kernel_rfl) rfl (Nat.le_of_ble_eq_true rfl) ?_
        refine AOps.sgn rfl rfl (by kernel_rfl) rfl (Nat.le_of_ble_eq_true rfl) ?_
        refine AOps.sgn rfl rfl (by kernel_rfl) rfl (Nat.le_of_ble_eq_true rfl) ?_
        refine AOps.sq (x := (AV.b true)) (by kernel_rfl) (Nat.le_of_ble_eq_true rfl) ?_
        refine AOps.done ?_
        refine Awp.cond (t := true) (by kernel_rfl) ?_
        refine Awp.seq ?_
        refine Awp.region tabS_ok ?_
        refine AOps.sq (x := (AV.b false)) (by kernel_rfl) (Nat.le_of_ble_eq_true rfl) ?_
        refine AOps.done ?_
        refine Awp.ret ?_
        try simp only [c_1, List.length_nil, Int.natCast_zero, eq_self, decide_true, List.nil_append, List.take_nil, cond_true, cond_false, Bool.true_and, Bool.false_and, Bool.true_or, Bool.false_or, Bool.not_true, Bool.not_false] at hE1
        subst hE1
        have hM : m_ref1_Plain s' least most' = false := by simp only [m_ref1_Plain, hR1, List.length_nil, Int.natCast_zero, eq_self, decide_true, List.nil_append, List.take_nil, cond_true, cond_false, Bool.true_and, Bool.false_and, Bool.true_or, Bool.false_or, Bool.not_true, Bool.not_false]
        refine ⟨Or.inr rfl, ?_⟩
        rw [hM]
        exact Ent.cast (x' := (AV.b false)) (y' := (AV.b false)) (by kernel_rfl) (by kernel_rfl) (Ent.c (by kernel_rfl) (by kernel_rfl))
    · have hc1 : decide (((i : Nat) : Int) < ((s'.size : Nat) : Int)) = false := decide_eq_false (by omega)
      refine Awp.cond (t := false) (by rw [← hc1] <;> kernel_rfl) (Awp.exit ?_)
      rw [List.drop_eq_nil_of_le (bytes_le hl1), m_ref1_Plain_L1.eq_1] at hE1
      subst hE1
      refine Awp.seq ?_
      refine Awp.region tabS_ok ?_
      refine AOps.sq (x := (AV.s s')) (by kernel_rfl) (Nat.le_of_ble_eq_true rfl) ?_
      refine AOps.sq (x := (AV.i .i64 ((s'.size : Nat) : Int))) (by kernel_rfl) (Nat.le_of_ble_eq_true rfl) ?_
      refine AOps.sq (x := (AV.i .i64 least)) (by kernel_rfl) (Nat.le_of_ble_eq_true rfl) ?_
      refine AOps.sq (x := (AV.b (decide (least ≤ ((s'.size : Nat) : Int))))) (by kernel_rfl) (Nat.le_of_ble_eq_true rfl) ?_
      refine AOps.sq (x := (AV.b (decide (least ≤ ((s'.size : Nat) : Int))))) (by kernel_rfl) (Nat.le_of_ble_eq_true rfl) ?_
      cases c_3 : decide (least ≤ ((s'.size : Nat) : Int))
      · have k_3 : ¬ (least ≤ ((s'.size : Nat) : Int)) := of_decide_eq_false c_3
        refine AOps.sgn rfl rfl (by kernel_rfl) rfl (Nat.le_of_ble_eq_true rfl) ?_
        refine AOps.sgn rfl rfl (by kernel_rfl) rfl (Nat.le_of_ble_eq_true rfl) ?_
        refine AOps.sgn rfl rfl (by kernel_rfl) rfl (Nat.le_of_ble_eq_true rfl) ?_
        refine AOps.sgn rfl rfl (by kernel_rfl) rfl (Nat.le_of_ble_eq_true rfl) ?_
        refine AOps.sq (x := (AV.b false)) (by kernel_rfl) (Nat.le_of_ble_eq_true rfl) ?_
        refine AOps.sq (x := (AV.b false)) (by kernel_rfl) (Nat.le_of_ble_eq_true rfl) ?_
        refine AOps.done ?_
        refine Awp.ret ?_
        have hM : m_ref1_Plain s' least most' = false := by simp only [m_ref1_Plain, hR1, c_3, List.length_nil, Int.natCast_zero, eq_self, decide_true, List.nil_append, List.take_nil, cond_true, cond_false, Bool.true_and, Bool.false_and, Bool.true_or, Bool.false_or, Bool.not_true, Bool.not_false]
        refine ⟨Or.inr rfl, ?_⟩
        rw [hM]
        exact Ent.cast (x' := (AV.b false)) (y' := (AV.b false)) (by kernel_rfl) (by kernel_rfl) (Ent.c (by kernel_rfl) (by kernel_rfl))
      · have k_3 : (least ≤ ((s'.size : Nat) : Int)) := of_decide_eq_true c_3
        refine AOps.sgy rfl rfl (by kernel_rfl) rfl ?_
        refine AOps.sq (x := (AV.s s')) (by kernel_rfl) (Nat.le_of_ble_eq_true rfl) ?_
        refine AOps.sgy rfl rfl (by kernel_rfl) rfl ?_
        refine AOps.sq (x := (AV.i .i64 ((s'.size : Nat) : Int))) (by kernel_rfl) (Nat.le_of_ble_eq_true rfl) ?_
        refine AOps.sgy rfl rfl (by kernel_rfl) rfl ?_
        refine AOps.sq (x := (AV.i .i64 most')) (by kernel_rfl) (Nat.le_of_ble_eq_true rfl) ?_
        refine AOps.sgy rfl rfl (by kernel_rfl) rfl ?_
        refine AOps.sq (x := (AV.b (decide (((s'.size : Nat) : Int) ≤ most')))) (by kernel_rfl) (Nat.le_of_ble_eq_true rfl) ?_
        refine AOps.sq (x := (AV.b (decide (((s'.size : Nat) : Int) ≤ most')))) (by kernel_rfl) (Nat.le_of_ble_eq_true rfl) ?_
        refine AOps.sq (x := (AV.b (decide (((s'.size : Nat) : Int) ≤ most')))) (by kernel_rfl) (Nat.le_of_ble_eq_true rfl) ?_
        refine AOps.done ?_
        refine Awp.ret ?_
        have hM : m_ref1_Plain s' least most' = decide (((s'.size : Nat) : Int) ≤ most') := by simp only [m_ref1_Plain, hR1, c_3, List.length_nil, Int.natCast_zero, eq_self, decide_true, List.nil_append, List.take_nil, cond_true, cond_false, Bool.true_and, Bool.false_and, Bool.true_or, Bool.false_or, Bool.not_true, Bool.not_false]
        refine ⟨Or.inr rfl, ?_⟩
        rw [hM]
        exact Ent.cast (x' := (AV.b (decide (((s'.size : Nat) : Int) ≤ most')))) (y' := (AV.b (decide (((s'.size : Nat) : Int) ≤ most')))) (by kernel_rfl) (by kernel_rfl) (Ent.c (by kernel_rfl) (by kernel_rfl))

theorem w_ref1_NameMay (W : World) (s' : ByteArray) : PureAt Go.Proofs.Tryd.prog W 21 [(AV.s s')] (AV.b (m_ref1_NameMay s')) [] := by
  refine pure_of_bodyC (fn := Go.Proofs.Tryd.f21) Go.Proofs.Tryd.func21 rfl (en21 W) (ts := [2]) rfl (Nat.le_of_ble_eq_true rfl) ?_
  refine Awp.seq ?_
  refine Awp.region tabS_ok ?_
  refine AOps.sq (x := (AV.b false)) (by kernel_rfl) (Nat.le_of_ble_eq_true rfl) ?_
  refine AOps.done ?_
  refine Awp.seq ?_
  refine Awp.seq ?_
  refine Awp.region tabS_ok ?_
  refine AOps.sq (x := (AV.i .i64 (0 : Int))) (by kernel_rfl) (Nat.le_of_ble_eq_true rfl) ?_
  refine AOps.done ?_
  refine Awp.block ?_
  refine Awp.lim 0 (x := (AV.s s')) (by kernel_rfl) fun hlm1 => ?_
  have hB1 : s'.size ≤ 281474976710656 := lim_s hlm1
  obtain ⟨R1, hR1⟩ : ∃ R, m_ref1_NameMay_L1 s'.data.toList 0 = R := ⟨_, rfl⟩
  refine Awp.loopT (fun (i : Nat) => [(0, (AV.s s')), (3, (AV.i .i64 ((i : Nat) : Int)))]) (fun (i : Nat) => ⟨0, []⟩) (fun (i : Nat) => i ≤ s'.size ∧ m_ref1_NameMay_L1 (s'.data.toList.drop i) i = R1) (fun (i : Nat) => s'.size - i) 0 ?_ ?_ ?_
  · exact ⟨[], ⟨by decide, rfl, FitsObjs.nil, (EntE.cons (Ent.c (by kernel_rfl) (by kernel_rfl)) (EntE.cons (Ent.c (by kernel_rfl) (by kernel_rfl)) EntE.nil))⟩, keep0⟩
  · exact ⟨by (try dsimp only); omega, hR1⟩
  · rintro i ⟨hi1, hE1⟩
    try dsimp only
    refine Awp.seq ?_
    refine Awp.seq ?_
    refine Awp.region tabS_ok ?_
    refine AOps.sq (x := (AV.i .i64 ((i : Nat) : Int))) (by kernel_rfl) (Nat.le_of_ble_eq_true rfl) ?_
    refine AOps.sq (x := (AV.s s')) (by kernel_rfl) (Nat.le_of_ble_eq_true rfl) ?_
    refine AOps.sq (x := (AV.i .i64 ((s'.size : Nat) : Int))) (by kernel_rfl) (Nat.le_of_ble_eq_true rfl) ?_
    refine AOps.sq (x := (AV.b (decide (((i : Nat) : Int) < ((s'.size : Nat) : Int))))) (by kernel_rfl) (Nat.le_of_ble_eq_true rfl) ?_
    refine AOps.done ?_
    rcases Nat.lt_or_ge i s'.size with hl1 | hl1
    · have hc1 : decide (((i : Nat) : Int) < ((s'.size : Nat) : Int)) = true := decide_eq_true (by omega)
      refine Awp.cond (t := true) (by rw [← hc1] <;> kernel_rfl) (Awp.skip ?_)
      obtain ⟨x1, hx1, hx1l⟩ := data_get hl1
      rw [drop_at hx1l, m_ref1_NameMay_L1.eq_2] at hE1
      refine Awp.seq ?_
      refine Awp.block ?_
      refine Awp.seq ?_
      refine Awp.region tabS_ok ?_
      refine AOps.sq (x := (AV.s s')) (by kernel_rfl) (Nat.le_of_ble_eq_true rfl) ?_
      refine AOps.sq (x := (AV.i .i64 ((i : Nat) : Int))) (by kernel_rfl) (Nat.le_of_ble_eq_true rfl) ?_
      refine AOps.sq (x := (AV.i .u8 (x1.toNat : Int))) (g_str (kk := .i64) (s := s') (i := i) (b := x1) (by kernel_rfl) (by kernel_rfl) (by kernel_rfl) hx1) (Nat.le_of_ble_eq_true rfl) ?_
      refine AOps.sc0 (vs := [(AV.i .u8 (x1.toNat : Int))]) (r0 := (AV.b (m_ref1_small (x1.toNat : Int)))) (by kernel_rfl) (by kernel_rfl) (w_ref1_small W (x1.toNat : Int)) (by kernel_rfl) (Nat.le_of_ble_eq_true rfl) ?_
      refine AOps.sq (x := (AV.b (!(m_ref1_small (x1.toNat : Int))))) (by kernel_rfl) (Nat.le_of_ble_eq_true rfl) ?_
      refine AOps.sq (x := (AV.b (!(m_ref1_small (x1.toNat : Int))))) (by kernel_rfl) (Nat.le_of_ble_eq_true rfl) ?_
      cases c_1 : (!(m_ref1_small (x1.toNat : Int)))
      · refine AOps.sgn rfl rfl (by kernel_rfl) rfl (Nat.le_of_ble_eq_true rfl) ?_
        refine AOps.sgn rfl rfl (by kernel_rfl) rfl (Nat.le_of_ble_eq_true rfl) ?_
        refine AOps.sgn rfl rfl (by kernel_rfl) rfl (Nat.le_of_ble_eq_true rfl) ?_
        refine AOps.sgn rfl rfl (by kernel_rfl) rfl (Nat.le_of_ble_eq_true rfl) ?_
        refine AOps.sq (x := (AV.b false)) (by kernel_rfl) (Nat.le_of_ble_eq_true rfl) ?_
        refine AOps.sq (x := (AV.b false)) (by kernel_rfl) (Nat.le_of_ble_eq_true rfl) ?_
        refine AOps.sgn rfl rfl (by kernel_rfl) rfl (Nat.le_of_ble_eq_true rfl) ?_
        refine AOps.sgn rfl rfl (by kernel_rfl) rfl (Nat.le_of_ble_eq_true rfl) ?_
        refine AOps.sgn rfl rfl (by kernel_rfl) rfl (Nat.le_of_ble_eq_true rfl) ?_
        refine AOps.sgn rfl rfl (by kernel_rfl) rfl (Nat.le_of_ble_eq_true rfl) ?_
        refine AOps.sq (x := (AV.b false)) (by kernel_rfl) (Nat.le_of_ble_eq_true rfl) ?_
        refine AOps.sq (x := (AV.b false)) (by kernel_rfl) (Nat.le_of_ble_eq_true rfl) ?_
        refine AOps.sgn rfl rfl (by kernel_rfl) rfl (Nat.le_of_ble_eq_true rfl) ?_
        refine AOps.sgn rfl rfl (by kernel_rfl) rfl (Nat.le_of_ble_eq_true rfl) ?_
        refine AOps.sgn rfl rfl (by kernel_rfl) rfl (Nat.le_of_ble_eq_true rfl) ?_
        refine AOps.sgn rfl rfl (by kernel_rfl) rfl (Nat.le_of_ble_eq_true rfl) ?_
        refine AOps.sq (x := (AV.b false)) (by kernel_rfl) (Nat.le_of_ble_eq_true rfl) ?_
        refine AOps.sq (x := (AV.b false)) (by kernel_rfl) (Nat.le_of_ble_eq_true rfl) ?_
        refine AOps.sgn rfl rfl (by kernel_rfl) rfl (Nat.le_of_ble_eq_true rfl) ?_
        refine AOps.sgn rfl rfl (by kernel_rfl) rfl (Nat.le_of_ble_eq_true rfl) ?_
        refine AOps.sgn rfl rfl (by kernel_rfl) rfl (Nat.le_of_ble_eq_true rfl) ?_
        refine AOps.sgn rfl rfl (by kernel_rfl) rfl (Nat.le_of_ble_eq_true rfl) ?_
        refine AOps.sq (x := (AV.b false)) (by kernel_rfl) (Nat.le_of_ble_eq_true rfl) ?_
        refine AOps.done ?_
        refine Awp.cond (t := false) (by kernel_rfl) ?_
        refine Awp.skip ?_
        refine Awp.region tabS_ok ?_
        refine AOps.sq (x := (AV.i .i64 ((i : Nat) : Int))) (by kernel_rfl) (Nat.le_of_ble_eq_true rfl) ?_
        refine AOps.sq (x := (AV.i .i64 ((i + 1 : Nat) : Int))) (g_addN (i := i) (m := 1) (by kernel_rfl) (by kernel_rfl) (by first | omega | (unfold LIM; omega) | (simp only [List.length_append, List.length_cons, List.length_nil, List.length_set, List.length_replicate, ByteArray.size_append, List.length_take, List.length_drop, LIM]; omega) | (simp [LIM]; done) | (simp [LIM]; omega))) (Nat.le_of_ble_eq_true rfl) ?_
        refine AOps.sq (x := (AV.i .i64 ((i + 1 : Nat) : Int))) (by kernel_rfl) (Nat.le_of_ble_eq_true rfl) ?_
        refine AOps.done ?_
        try simp only [c_1, List.length_nil, Int.natCast_zero, eq_self, decide_true, List.nil_append, List.take_nil, cond_true, cond_false, Bool.true_and, Bool.false_and, Bool.true_or, Bool.false_or, Bool.not_true, Bool.not_false] at hE1
        refine ⟨i + 1, by (try dsimp only); omega, ⟨by (try dsimp only); omega, hE1⟩, ?_⟩
        exact ⟨[], ⟨by decide, rfl, FitsObjs.nil, (EntE.cons (Ent.c (by kernel_rfl) (by kernel_rfl)) (EntE.cons (Ent.c (by kernel_rfl) (by kernel_rfl)) EntE.nil))⟩, keep0⟩
      · refine AOps.sgy rfl rfl (by kernel_rfl) rfl ?_
        refine AOps.sq (x := (AV.s s')) (by kernel_rfl) (Nat.le_of_ble_eq_true rfl) ?_
        refine AOps.sgy rfl rfl (by kernel_rfl) rfl ?_
        refine AOps.sq (x := (AV.i .i64 ((i : Nat) : Int))) (by kernel_rfl) (Nat.le_of_ble_eq_true rfl) ?_
        refine AOps.sgy rfl rfl (by kernel_rfl) rfl ?_
        refine AOps.sq (x := (AV.i .u8 (x1.toNat : Int))) (g_str (kk := .i64) (s := s') (i := i) (b := x1) (by kernel_rfl) (by kernel_rfl) (by kernel_rfl) hx1) (Nat.le_of_ble_eq_true rfl) ?_
        refine AOps.sgy rfl rfl (by kernel_rfl) rfl ?_
        refine AOps.sq (x := (AV.b (!decide ((x1.toNat : Int) = (46 : Int))))) (by kernel_rfl) (Nat.le_of_ble_eq_true rfl) ?_
        refine AOps.sq (x := (AV.b (!decide ((x1.toNat : Int) = (46 : Int))))) (by kernel_rfl) (Nat.le_of_ble_eq_true rfl) ?_
        refine AOps.sq (x := (AV.b (!decide ((x1.toNat : Int) = (46 : Int))))) (by kernel_rfl) (Nat.le_of_ble_eq_true rfl) ?_
        cases c_2 : (!decide ((x1.toNat : Int) = (46 : Int)))
        · have k_2 : ((x1.toNat : Int) = (46 : Int)) := of_decide_eq_true (by simpa using c_2)
          refine AOps.sgn rfl rfl (by kernel_rfl) rfl (Nat.le_of_ble_eq_true rfl) ?_
          refine AOps.sgn rfl rfl (by kernel_rfl) rfl (Nat.le_of_ble_eq_true rfl) ?_
          refine AOps.sgn rfl rfl (by kernel_rfl) rfl (Nat.le_of_ble_eq_true rfl) ?_
          refine AOps.sgn rfl rfl (by kernel_rfl) rfl (Nat.le_of_ble_eq_true rfl) ?_
          refine AOps.sq (x := (AV.b false)) (by kernel_rfl) (Nat.le_of_ble_eq_true rfl) ?_
          refine AOps.sq (x := (AV.b false)) (by kernel_rfl) (Nat.le_of_ble_eq_true rfl) ?_
          refine AOps.sgn rfl rfl (by kernel_rfl) rfl (Nat.le_of_ble_eq_true rfl) ?_
          refine AOps.sgn rfl rfl (by kernel_rfl) rfl (Nat.le_of_ble_eq_true rfl) ?_
          refine AOps.sgn rfl rfl (by kernel_rfl) rfl (Nat.le_of_ble_eq_true rfl) ?_
          refine AOps.sgn rfl rfl (by kernel_rfl) rfl (Nat.le_of_ble_eq_true rfl) ?_
          refine AOps.sq (x := (AV.b false)) (by kernel_rfl) (Nat.le_of_ble_eq_true rfl) ?_
          refine AOps.sq (x := (AV.b false)) (by kernel_rfl) (Nat.le_of_ble_eq_true rfl) ?_
          refine AOps.sgn rfl rfl (by kernel_rfl) rfl (Nat.le_of_ble_eq_true rfl) ?_
          refine AOps.sgn rfl rfl (by kernel_rfl) rfl (Nat.le_of_ble_eq_true rfl) ?_
          refine AOps.sgn rfl rfl (by kernel_rfl) rfl (Nat.le_of_ble_eq_true rfl) ?_
          refine AOps.sgn rfl rfl (by kernel_rfl) rfl (Nat.le_of_ble_eq_true rfl) ?_
          refine AOps.sq (x := (AV.b false)) (by kernel_rfl) (Nat.le_of_ble_eq_true rfl) ?_
          refine AOps.done ?_
          refine Awp.cond (t := false) (by kernel_rfl) ?_
          refine Awp.skip ?_
          refine Awp.region tabS_ok ?_
          refine AOps.sq (x := (AV.i .i64 ((i : Nat) : Int))) (by kernel_rfl) (Nat.le_of_ble_eq_true rfl) ?_
          refine AOps.sq (x := (AV.i .i64 ((i + 1 : Nat) : Int))) (g_addN (i := i) (m := 1) (by kernel_rfl) (by kernel_rfl) (by first | omega | (unfold LIM; omega) | (simp only [List.length_append, List.length_cons, List.length_nil, List.length_set, List.length_replicate, ByteArray.size_append, List.length_take, List.length_drop, LIM]; omega) | (simp [LIM]; done) | (simp [LIM]; omega))) (Nat.le_of_ble_eq_true rfl) ?_
          refine AOps.sq (x := (AV.i .i64 ((i + 1 : Nat) : Int))) (by kernel_rfl) (Nat.le_of_ble_eq_true rfl) ?_
          refine AOps.done ?_
          try simp only [c_1, c_2, List.length_nil, Int.natCast_zero, eq_self, decide_true, List.nil_append, List.take_nil, cond_true, cond_false, Bool.true_and, Bool.false_and, Bool.true_or, Bool.false_or, Bool.not_true, Bool.not_false] at hE1
          refine ⟨i + 1, by (try dsimp only); omega, ⟨by (try dsimp only); omega, hE1⟩, ?_⟩
          exact ⟨[], ⟨by decide, rfl, FitsObjs.nil, (EntE.cons (Ent.c (by kernel_rfl) (by kernel_rfl)) (EntE.cons (Ent.c (by kernel_rfl) (by kernel_rfl)) EntE.nil))⟩, keep0⟩
        · have k_2 : ¬ ((x1.toNat : Int) = (46 : Int)) := of_decide_eq_false (by simpa using c_2)
          refine AOps.sgy rfl rfl (by kernel_rfl) rfl ?_
          refine AOps.sq (x := (AV.s s')) (by kernel_rfl) (Nat.le_of_ble_eq_true rfl) ?_
          refine AOps.sgy rfl rfl (by kernel_rfl) rfl ?_
          refine AOps.sq (x := (AV.i .i64 ((i : Nat) : Int))) (by kernel_rfl) (Nat.le_of_ble_eq_true rfl) ?_
          refine AOps.sgy rfl rfl (by kernel_rfl) rfl ?_
          refine AOps.sq (x := (AV.i .u8 (x1.toNat : Int))) (g_str (kk := .i64) (s := s') (i := i) (b := x1) (by kernel_rfl) (by kernel_rfl) (by kernel_rfl) hx1) (Nat.le_of_ble_eq_true rfl) ?_
          refine AOps.sgy rfl rfl (by kernel_rfl) rfl ?_
          refine AOps.sq (x := (AV.b (!decide ((x1.toNat : Int) = (95 : Int))))) (by kernel_rfl) (Nat.le_of_ble_eq_true rfl) ?_
          refine AOps.sq (x := (AV.b (!decide ((x1.toNat : Int) = (95 : Int))))) (by kernel_rfl) (Nat.le_of_ble_eq_true rfl) ?_
          refine AOps.sq (x := (AV.b (!decide ((x1.toNat : Int) = (95 : Int))))) (by kernel_rfl) (Nat.le_of_ble_eq_true rfl) ?_
          cases c_3 : (!decide ((x1.toNat : Int) = (95 : Int)))
          · have k_3 : ((x1.toNat : Int) = (95 : Int)) := of_decide_eq_true (by simpa using c_3)
            refine AOps.sgn rfl rfl (by kernel_rfl) rfl (Nat.le_of_ble_eq_true rfl) ?_
            refine AOps.sgn rfl rfl (by kernel_rfl) rfl (Nat.le_of_ble_eq_true rfl) ?_
            refine AOps.sgn rfl rfl (by kernel_rfl) rfl (Nat.le_of_ble_eq_true rfl) ?_
            refine AOps.sgn rfl rfl (by kernel_rfl) rfl (Nat.le_of_ble_eq_true rfl) ?_
            refine AOps.sq (x := (AV.b false)) (by kernel_rfl) (Nat.le_of_ble_eq_true rfl) ?_
            refine AOps.sq (x := (AV.b false)) (by kernel_rfl) (Nat.le_of_ble_eq_true rfl) ?_
            refine AOps.sgn rfl rfl (by kernel_rfl) rfl (Nat.le_of_ble_eq_true rfl) ?_
            refine AOps.sgn rfl rfl (by kernel_rfl) rfl (Nat.le_of_ble_eq_true rfl) ?_
            refine AOps.sgn rfl rfl (by kernel_rfl) rfl (Nat.le_of_ble_eq_true rfl) ?_
            refine AOps.sgn rfl rfl (by kernel_rfl) rfl (Nat.le_of_ble_eq_true rfl) ?_
            refine AOps.sq (x := (AV.b false)) (by kernel_rfl) (Nat.le_of_ble_eq_true rfl) ?_
            refine AOps.done ?_
            refine Awp.cond (t := false) (by kernel_rfl) ?_
            refine Awp.skip ?_
            refine Awp.region tabS_ok ?_
            refine AOps.sq (x := (AV.i .i64 ((i : Nat) : Int))) (by kernel_rfl) (Nat.le_of_ble_eq_true rfl) ?_
            refine AOps.sq (x := (AV.i .i64 ((i + 1 : Nat) : Int))) (g_addN (i := i) (m := 1) (by kernel_rfl) (by kernel_rfl) (by first | omega | (unfold LIM; omega) | (simp only [List.length_append, List.length_cons, List.length_nil, List.length_set, List.length_replicate, ByteArray.size_append, List.length_take, List.length_drop, LIM]; omega) | (simp [LIM]; done) | (simp [LIM]; omega))) (Nat.le_of_ble_eq_true rfl) ?_
            refine AOps.sq (x := (AV.i .i64 ((i + 1 : Nat) : Int))) (by kernel_rfl) (Nat.le_of_ble_eq_true rfl) ?_
            refine AOps.done ?_
            try simp only [c_1, c_2, c_3, List.length_nil, Int.natCast_zero, eq_self, decide_true, List.nil_append, List.take_nil, cond_true, cond_false, Bool.true_and, Bool.false_and, Bool.true_or, Bool.false_or, Bool.not_true, Bool.not_false] at hE1
            refine ⟨i + 1, by (try dsimp only); omega, ⟨by (try dsimp only); omega, hE1⟩, ?_⟩
            exact ⟨[], ⟨by decide, rfl, FitsObjs.nil, (EntE.cons (Ent.c (by kernel_rfl) (by kernel_rfl)) (EntE.cons (Ent.c (by kernel_rfl) (by kernel_rfl)) EntE.nil))⟩, keep0⟩
          · have k_3 : ¬ ((x1.toNat : Int) = (95 : Int)) := of_decide_eq_false (by simpa using c_3)
            refine AOps.sgy rfl rfl (by kernel_rfl) rfl ?_
            refine AOps.sq (x := (AV.s s')) (by kernel_rfl) (Nat.le_of_ble_eq_true rfl) ?_
            refine AOps.sgy rfl rfl (by kernel_rfl) rfl ?_
            refine AOps.sq (x := (AV.i .i64 ((i : Nat) : Int))) (by kernel_rfl) (Nat.le_of_ble_eq_true rfl) ?_
            refine AOps.sgy rfl rfl (by kernel_rfl) rfl ?_
            refine AOps.sq (x := (AV.i .u8 (x1.toNat : Int))) (g_str (kk := .i64) (s := s') (i := i) (b := x1) (by kernel_rfl) (by kernel_rfl) (by kernel_rfl) hx1) (Nat.le_of_ble_eq_true rfl) ?_
            refine AOps.sgy rfl rfl (by kernel_rfl) rfl ?_
            refine AOps.sq (x := (AV.b (!decide ((x1.toNat : Int) = (45 : Int))))) (by kernel_rfl) (Nat.le_of_ble_eq_true rfl) ?_
            refine AOps.sq (x := (AV.b (!decide ((x1.toNat : Int) = (45 : Int))))) (by kernel_rfl) (Nat.le_of_ble_eq_true rfl) ?_
            refine AOps.sq (x := (AV.b (!decide ((x1.toNat : Int) = (45 : Int))))) (by kernel_rfl) (Nat.le_of_ble_eq_true rfl) ?_
            cases c_4 : (!decide ((x1.toNat : Int) = (45 : Int)))
            · have k_4 : ((x1.toNat : Int) = (45 : Int)) := of_decide_eq_true (by simpa using c_4)
              refine AOps.sgn rfl rfl (by kernel_rfl) rfl (Nat.le_of_ble_eq_true rfl) ?_
              refine AOps.sgn rfl rfl (by kernel_rfl) rfl (Nat.le_of_ble_eq_true rfl) ?_
              refine AOps.sgn rfl rfl (by kernel_rfl) rfl (Nat.le_of_ble_eq_true rfl) ?_
              refine AOps.sgn rfl rfl (by kernel_rfl) rfl (Nat.le_of_ble_eq_true rfl) ?_
              refine AOps.sq (x := (AV.b false)) (by kernel_rfl) (Nat.le_of_ble_eq_true rfl) ?_
              refine AOps.done ?_
              refine Awp.cond (t := false) (by kernel_rfl) ?_
              refine Awp.skip ?_
              refine Awp.region tabS_ok ?_
              refine AOps.sq (x := (AV.i .i64 ((i : Nat) : Int))) (by kernel_rfl) (Nat.le_of_ble_eq_true rfl) ?_
              refine AOps.sq (x := (AV.i .i64 ((i + 1 : Nat) : Int))) (g_addN (i := i) (m := 1) (by kernel_rfl) (by kernel_rfl) (by first | omega | (unfold LIM; omega) | (simp only [List.length_append, List.length_cons, List.length_nil, List.length_set, List.length_replicate, ByteArray.size_append, List.length_take, List.length_drop, LIM]; omega) | (simp [LIM]; done) | (simp [LIM]; omega))) (Nat.le_of_ble_eq_true rfl) ?_
              refine AOps.sq (x := (AV.i .i64 ((i + 1 : Nat) : Int))) (by kernel_rfl) (Nat.le_of_ble_eq_true rfl) ?_
              refine AOps.done ?_
              try simp only [c_1, c_2, c_3, c_4, List.length_nil, Int.natCast_zero, eq_self, decide_true, List.nil_append, List.take_nil, cond_true, cond_false, Bool.true_and, Bool.false_and, Bool.true_or, Bool.false_or, Bool.not_true, Bool.not_false] at hE1
              refine ⟨i + 1, by (try dsimp only); omega, ⟨by (try dsimp only); omega, hE1⟩, ?_⟩
              exact ⟨[], ⟨by decide, rfl, FitsObjs.nil, (EntE.cons (Ent.c (by kernel_rfl) (by kernel_rfl)) (EntE.cons (Ent.c (by kernel_rfl) (by kernel_rfl)) EntE.nil))⟩, keep0⟩
            · have k_4 : ¬ ((x1.toNat : Int) = (45 : Int)) := of_decide_eq_false (by simpa using c_4)
              refine AOps.sgy rfl rfl (by kernel_rfl) rfl ?_
              refine AOps.sq (x := (AV.s s')) (by kernel_rfl) (Nat.le_of_ble_eq_true rfl) ?_
              refine AOps.sgy rfl rfl (by kernel_rfl) rfl ?_
              refine AOps.sq (x := (AV.i .i64 ((i : Nat) : Int))) (by kernel_rfl) (Nat.le_of_ble_eq_true rfl) ?_
              refine AOps.sgy rfl rfl (by kernel_rfl) rfl ?_
              refine AOps.sq (x := (AV.i .u8 (x1.toNat : Int))) (g_str (kk := .i64) (s := s') (i := i) (b := x1) (by kernel_rfl) (by kernel_rfl) (by kernel_rfl) hx1) (Nat.le_of_ble_eq_true rfl) ?_
              refine AOps.sgy rfl rfl (by kernel_rfl) rfl ?_
              refine AOps.sq (x := (AV.b (!decide ((x1.toNat : Int) = (47 : Int))))) (by kernel_rfl) (Nat.le_of_ble_eq_true rfl) ?_
              refine AOps.sq (x := (AV.b (!decide ((x1.toNat : Int) = (47 : Int))))) (by kernel_rfl) (Nat.le_of_ble_eq_true rfl) ?_
              refine AOps.done ?_
              cases c_5 : (!decide ((x1.toNat : Int) = (47 : Int)))
              · have k_5 : ((x1.toNat : Int) = (47 : Int)) := of_decide_eq_true (by simpa using c_5)
                refine Awp.cond (t := false) (by kernel_rfl) ?_
                refine Awp.skip ?_
                refine Awp.region tabS_ok ?_
                refine AOps.sq (x := (AV.i .i64 ((i : Nat) : Int))) (by kernel_rfl) (Nat.le_of_ble_eq_true rfl) ?_
                refine AOps.sq (x := (AV.i .i64 ((i + 1 : Nat) : Int))) (g_addN (i := i) (m := 1) (by kernel_rfl) (by kernel_rfl) (by first | omega | (unfold LIM; omega) | (simp only [List.length_append, List.length_cons, List.length_nil, List.length_set, List.length_replicate, ByteArray.size_append, List.length_take, List.length_drop, LIM]; omega) | (simp [LIM]; done) | (simp [LIM]; omega))) (Nat.le_of_ble_eq_true rfl) ?_
                refine AOps.sq (x := (AV.i .i64 ((i + 1 : Nat) : Int))) (by kernel_rfl) (Nat.le_of_ble_eq_true rfl) ?_
                refine AOps.done ?_
                try simp only [c_1, c_2, c_3, c_4, c_5, List.length_nil, Int.natCast_zero, eq_self, decide_true, List.nil_append, List.take_nil, cond_true, cond_false, Bool.true_and, Bool.false_and, Bool.true_or, Bool.false_or, Bool.not_true, Bool.not_false] at hE1
                refine ⟨i + 1, by (try dsimp only); omega, ⟨by (try dsimp only); omega, hE1⟩, ?_⟩
                exact ⟨[], ⟨by decide, rfl, FitsObjs.nil, (EntE.cons (Ent.c (by kernel_rfl) (by kernel_rfl)) (EntE.cons (Ent.c (by kernel_rfl) (by kernel_rfl)) EntE.nil))⟩, keep0⟩
              · have k_5 : ¬ ((x1.toNat : Int) = (47 : Int)) := of_decide_eq_false (by simpa using c_5)
                refine Awp.cond (t := true) (by kernel_rfl) ?_
                refine Awp.seq ?_
                refine Awp.region tabS_ok ?_
                refine AOps.sq (x := (AV.b false)) (by kernel_rfl) (Nat.le_of_ble_eq_true rfl) ?_
                refine AOps.done ?_
                refine Awp.ret ?_
                try simp only [c_1, c_2, c_3, c_4, c_5, List.length_nil, Int.natCast_zero, eq_self, decide_true, List.nil_append, List.take_nil, cond_true, cond_false, Bool.true_and, Bool.false_and, Bool.true_or, Bool.false_or, Bool.not_true, Bool.not_false] at hE1
                subst hE1
                have hM : m_ref1_NameMay s' = false := by simp only [m_ref1_NameMay, hR1, List.length_nil, Int.natCast_zero, eq_self, decide_true, List.nil_append, List.take_nil, cond_true, cond_false, Bool.true_and, Bool.false_and, Bool.true_or, Bool.false_or, Bool.not_true, Bool.not_false]
                refine ⟨Or.inr rfl, ?_⟩
                rw [hM]
                exact Ent.cast (x' := (AV.b false)) (y' := (AV.b false)) (by kernel_rfl) (by kernel_rfl) (Ent.c (by kernel_rfl) (by kernel_rfl))
    · have hc1 : decide (((i : Nat) : Int) < ((s'.size : Nat) : Int)) = false := decide_eq_false (by omega)
      refine Awp.cond (t := false) (by rw [← hc1] <;> kernel_rfl) (Awp.exit ?_)
      rw [List.drop_eq_nil_of_le (bytes_le hl1), m_ref1_NameMay_L1.eq_1] at hE1
      subst hE1
      refine Awp.seq ?_
      refine Awp.region tabS_ok ?_
      refine AOps.sq (x := (AV.s s')) (by kernel_rfl) (Nat.le_of_ble_eq_true rfl) ?_
      refine AOps.sq (x := (AV.i .i64 ((s'.size : Nat) : Int))) (by kernel_rfl) (Nat.le_of_ble_eq_true rfl) ?_
      refine AOps.sq (x := (AV.b (decide ((1 : Int) ≤ ((s'.size : Nat) : Int))))) (by kernel_rfl) (Nat.le_of_ble_eq_true rfl) ?_
      refine AOps.sq (x := (AV.b (decide ((1 : Int) ≤ ((s'.size : Nat) : Int))))) (by kernel_rfl) (Nat.le_of_ble_eq_true rfl) ?_
      cases c_6 : decide ((1 : Int) ≤ ((s'.size : Nat) : Int))
      · have k_6 : ¬ ((1 : Int) ≤ ((s'.size : Nat) : Int)) := of_decide_eq_false c_6
        refine AOps.sgn rfl rfl (by kernel_rfl) rfl (Nat.le_of_ble_eq_true rfl) ?_
        refine AOps.sgn rfl rfl (by kernel_rfl) rfl (Nat.le_of_ble_eq_true rfl) ?_
        refine AOps.sgn rfl rfl (by kernel_rfl) rfl (Nat.le_of_ble_eq_true rfl) ?_
        refine AOps.sq (x := (AV.b false)) (by kernel_rfl) (Nat.le_of_ble_eq_true rfl) ?_
        refine AOps.sq (x := (AV.b false)) (by kernel_rfl) (Nat.le_of_ble_eq_true rfl) ?_
        refine AOps.done ?_
        refine Awp.ret ?_
        have hM : m_ref1_NameMay s' = false := by simp only [m_ref1_NameMay, hR1, c_6, List.length_nil, Int.natCast_zero, eq_self, decide_true, List.nil_append, List.take_nil, cond_true, cond_false, Bool.true_and, Bool.false_and, Bool.true_or, Bool.false_or, Bool.not_true, Bool.not_false]
        refine ⟨Or.inr rfl, ?_⟩
        rw [hM]
        exact Ent.cast (x' := (AV.b false)) (y' := (AV.b false)) (by kernel_rfl) (by kernel_rfl) (Ent.c (by kernel_rfl) (by kernel_rfl))
      · have k_6 : ((1 : Int) ≤ ((s'.size : Nat) : Int)) := of_decide_eq_true c_6
        refine AOps.sgy rfl rfl (by kernel_rfl) rfl ?_
        refine AOps.sq (x := (AV.s s')) (by kernel_rfl) (Nat.le_of_ble_eq_true rfl) ?_
        refine AOps.sgy rfl rfl (by kernel_rfl) rfl ?_
        refine AOps.sq (x := (AV.i .i64 ((s'.size : Nat) : Int))) (by kernel_rfl) (Nat.le_of_ble_eq_true rfl) ?_
        refine AOps.sgy rfl rfl (by kernel_rfl) rfl ?_
        refine AOps.sq (x := (AV.b (decide (((s'.size : Nat) : Int) ≤ (16 : Int))))) (by kernel_rfl) (Nat.le_of_ble_eq_true rfl) ?_
        refine AOps.sq (x := (AV.b (decide (((s'.size : Nat) : Int) ≤ (16 : Int))))) (by kernel_rfl) (Nat.le_of_ble_eq_true rfl) ?_
        refine AOps.sq (x := (AV.b (decide (((s'.size : Nat) : Int) ≤ (16 : Int))))) (by kernel_rfl) (Nat.le_of_ble_eq_true rfl) ?_
        refine AOps.done ?_
        refine Awp.ret ?_
        have hM : m_ref1_NameMay s' = decide (((s'.size : Nat) : Int) ≤ (16 : Int)) := by simp only [m_ref1_NameMay, hR1, c_6, List.length_nil, Int.natCast_zero, eq_self, decide_true, List.nil_append, List.take_nil, cond_true, cond_false, Bool.true_and, Bool.false_and, Bool.true_or, Bool.false_or, Bool.not_true, Bool.not_false]
        refine ⟨Or.inr rfl, ?_⟩
        rw [hM]
        exact Ent.cast (x' := (AV.b (decide (((s'.size : Nat) : Int) ≤ (16 : Int))))) (y' := (AV.b (decide (((s'.size : Nat) : Int) ≤ (16 : Int))))) (by kernel_rfl) (by kernel_rfl) (Ent.c (by kernel_rfl) (by kernel_rfl))

theorem w_ref1_Join (W : World) (xs : List ByteArray) (sign : ByteArray) (hz : szsum xs sign.size ≤ 281474976710656) : PureAt Go.Proofs.Tryd.prog W 70 [((slA 1 AV.s) xs), (AV.s sign)] (AV.s (m_ref1_Join xs sign)) [] := by
  refine pure_of_bodyC (fn := Go.Proofs.Tryd.f70) Go.Proofs.Tryd.func70 rfl (en70 W) (ts := [4]) rfl (Nat.le_of_ble_eq_true rfl) ?_
  refine Awp.seq ?_
  refine Awp.region tabS_ok ?_
  refine AOps.sq (x := (AV.s (⟨#[]⟩ : ByteArray))) (by kernel_rfl) (Nat.le_of_ble_eq_true rfl) ?_
  refine AOps.done ?_
  refine Awp.seq ?_
  refine Awp.region tabS_ok ?_
  refine AOps.sq (x := (AV.s (⟨#[]⟩ : ByteArray))) (by kernel_rfl) (Nat.le_of_ble_eq_true rfl) ?_
  refine AOps.done ?_
  refine Awp.seq ?_
  refine Awp.seq ?_
  refine Awp.region tabS_ok ?_
  refine AOps.sq (x := (AV.i .i64 (0 : Int))) (by kernel_rfl) (Nat.le_of_ble_eq_true rfl) ?_
  refine AOps.done ?_
  refine Awp.block ?_
  refine Awp.lim 0 (x := ((slA 1 AV.s) xs)) (by kernel_rfl) fun hlm1 => ?_
  have hB1 : xs.length ≤ 281474976710656 := lim_slA hlm1
  obtain ⟨R1, hR1⟩ : ∃ R, m_ref1_Join_L1 sign xs 0 (⟨#[]⟩ : ByteArray) = R := ⟨_, rfl⟩
  refine Awp.loopT (fun ((s', i) : ByteArray × Nat) => [(0, ((slA 1 AV.s) xs)), (1, (AV.s sign)), (5, (AV.s s')), (6, (AV.i .i64 ((i : Nat) : Int)))]) (fun ((s', i) : ByteArray × Nat) => ⟨0, []⟩) (fun ((s', i) : ByteArray × Nat) => i ≤ xs.length ∧ s'.size + szsum (xs.drop i) sign.size ≤ 281474976710656 ∧ m_ref1_Join_L1 sign (xs.drop i) i s' = R1) (fun ((s', i) : ByteArray × Nat) => xs.length - i) ((⟨#[]⟩ : ByteArray), 0) ?_ ?_ ?_
  · exact ⟨[], ⟨by decide, rfl, FitsObjs.nil, (EntE.cons (Ent.c (by kernel_rfl) (by kernel_rfl)) (EntE.cons (Ent.c (by kernel_rfl) (by kernel_rfl)) (EntE.cons (Ent.c (by kernel_rfl) (by kernel_rfl)) (EntE.cons (Ent.c (by kernel_rfl) (by kernel_rfl)) EntE.nil))))⟩, keep0⟩
  · exact ⟨by (try dsimp only); omega, by (try dsimp only) <;> (show 0 + szsum xs sign.size ≤ _; omega), hR1⟩
  · rintro ⟨s', i⟩ ⟨hi1, hj, hE1⟩
    try dsimp only
    refine Awp.seq ?_
    refine Awp.seq ?_
    refine Awp.region tabS_ok ?_
    refine AOps.sq (x := (AV.i .i64 ((i : Nat) : Int))) (by kernel_rfl) (Nat.le_of_ble_eq_true rfl) ?_
    refine AOps.sq (x := ((slA 1 AV.s) xs)) (by kernel_rfl) (Nat.le_of_ble_eq_true rfl) ?_
    refine AOps.sq (x := (AV.i .i64 ((xs.length : Nat) : Int))) (g_len (k := 1) (nl := false) (e := 9) (A := AV.s) (xs := xs) (by kernel_rfl) (by kernel_rfl)) (Nat.le_of_ble_eq_true rfl) ?_
    refine AOps.sq (x := (AV.b (decide (((i : Nat) : Int) < ((xs.length : Nat) : Int))))) (by kernel_rfl) (Nat.le_of_ble_eq_true rfl) ?_
    refine AOps.done ?_
    rcases Nat.lt_or_ge i xs.length with hl1 | hl1
    · have hc1 : decide (((i : Nat) : Int) < ((xs.length : Nat) : Int)) = true := decide_eq_true (by omega)
      refine Awp.cond (t := true) (by rw [← hc1] <;> kernel_rfl) (Awp.skip ?_)
      obtain ⟨x1, hx1⟩ : ∃ x, xs[i]? = some x := ⟨_, List.getElem?_eq_getElem hl1⟩
      rw [drop_at hx1, m_ref1_Join_L1.eq_2] at hE1
      rw [drop_at hx1] at hj
      simp only [szsum] at hj
      refine Awp.seq ?_
      refine Awp.block ?_
      refine Awp.seq ?_
      refine Awp.seq ?_
      refine Awp.region tabS_ok ?_
      refine AOps.sq (x := (AV.i .i64 ((i : Nat) : Int))) (by kernel_rfl) (Nat.le_of_ble_eq_true rfl) ?_
      refine AOps.sq (x := (AV.b (decide ((0 : Int) < ((i : Nat) : Int))))) (by kernel_rfl) (Nat.le_of_ble_eq_true rfl) ?_
      refine AOps.done ?_
      cases c_1 : decide ((0 : Int) < ((i : Nat) : Int))
      · have k_1 : ¬ ((0 : Int) < ((i : Nat) : Int)) := of_decide_eq_false c_1
        refine Awp.cond (t := false) (by kernel_rfl) ?_
        refine Awp.skip ?_
        refine Awp.region tabS_ok ?_
        refine AOps.sq (x := (AV.s s')) (by kernel_rfl) (Nat.le_of_ble_eq_true rfl) ?_
        refine AOps.sq (x := ((slA 1 AV.s) xs)) (by kernel_rfl) (Nat.le_of_ble_eq_true rfl) ?_
        refine AOps.sq (x := (AV.i .i64 ((i : Nat) : Int))) (by kernel_rfl) (Nat.le_of_ble_eq_true rfl) ?_
        refine AOps.sq (x := (AV.pt (AV.s x1).cells)) (g_idx (k := 1) (nl := false) (e := 9) (kk := .i64) (A := AV.s) (xs := xs) (i := i) (by kernel_rfl) (by kernel_rfl) (by kernel_rfl) ⟨by kernel_rfl, by decide⟩ hx1) (Nat.le_of_ble_eq_true rfl) ?_
        refine AOps.sq (x := (AV.s x1)) (by kernel_rfl) (Nat.le_of_ble_eq_true rfl) ?_
        refine AOps.sq (x := (AV.s (s' ++ x1))) (g_sadd (a := s') (b := x1) (by kernel_rfl) (by kernel_rfl) (by first | omega | (unfold LIM; omega) | (simp only [List.length_append, List.length_cons, List.length_nil, List.length_set, List.length_replicate, ByteArray.size_append, List.length_take, List.length_drop, LIM]; omega) | (simp [LIM]; done) | (simp [LIM]; omega))) (Nat.le_of_ble_eq_true rfl) ?_
        refine AOps.sq (x := (AV.s (s' ++ x1))) (by kernel_rfl) (Nat.le_of_ble_eq_true rfl) ?_
        refine AOps.done ?_
        refine Awp.region tabS_ok ?_
        refine AOps.sq (x := (AV.i .i64 ((i : Nat) : Int))) (by kernel_rfl) (Nat.le_of_ble_eq_true rfl) ?_
        refine AOps.sq (x := (AV.i .i64 ((i + 1 : Nat) : Int))) (g_addN (i := i) (m := 1) (by kernel_rfl) (by kernel_rfl) (by first | omega | (unfold LIM; omega) | (simp only [List.length_append, List.length_cons, List.length_nil, List.length_set, List.length_replicate, ByteArray.size_append, List.length_take, List.length_drop, LIM]; omega) | (simp [LIM]; done) | (simp [LIM]; omega))) (Nat.le_of_ble_eq_true rfl) ?_
        refine AOps.sq (x := (AV.i .i64 ((i + 1 : Nat) : Int))) (by kernel_rfl) (Nat.le_of_ble_eq_true rfl) ?_
        refine AOps.done ?_
        try simp only [c_1, List.length_nil, Int.natCast_zero, eq_self, decide_true, List.nil_append, List.take_nil, cond_true, cond_false, Bool.true_and, Bool.false_and, Bool.true_or, Bool.false_or, Bool.not_true, Bool.not_false] at hE1
        refine ⟨((s' ++ x1), i + 1), by (try dsimp only); omega, ⟨by (try dsimp only); omega, by (try dsimp only) <;> (first | omega | (simp only [ByteArray.size_append]; omega)), hE1⟩, ?_⟩
        exact ⟨[], ⟨by decide, rfl, FitsObjs.nil, (EntE.cons (Ent.c (by kernel_rfl) (by kernel_rfl)) (EntE.cons (Ent.c (by kernel_rfl) (by kernel_rfl)) (EntE.cons (Ent.c (by kernel_rfl) (by kernel_rfl)) (EntE.cons (Ent.c (by kernel_rfl) (by kernel_rfl)) EntE.nil))))⟩, keep0⟩
      · have k_1 : ((0 : Int) < ((i : Nat) : Int)) := of_decide_eq_true c_1
        refine Awp.cond (t := true) (by kernel_rfl) ?_
        refine Awp.region tabS_ok ?_
        refine AOps.sq (x := (AV.s s')) (by kernel_rfl) (Nat.le_of_ble_eq_true rfl) ?_
        refine AOps.sq (x := (AV.s sign)) (by kernel_rfl) (Nat.le_of_ble_eq_true rfl) ?_
        refine AOps.sq (x := (AV.s (s' ++ sign))) (g_sadd (a := s') (b := sign) (by kernel_rfl) (by kernel_rfl) (by first | omega | (unfold LIM; omega) | (simp only [List.length_append, List.length_cons, List.length_nil, List.length_set, List.length_replicate, ByteArray.size_append, List.length_take, List.length_drop, LIM]; omega) | (simp [LIM]; done) | (simp [LIM]; omega))) (Nat.le_of_ble_eq_true rfl) ?_
        refine AOps.sq (x := (AV.s (s' ++ sign))) (by kernel_rfl) (Nat.le_of_ble_eq_true rfl) ?_
        refine AOps.done ?_
        refine Awp.region tabS_ok ?_
        refine AOps.sq (x := (AV.s (s' ++ sign))) (by kernel_rfl) (Nat.le_of_ble_eq_true rfl) ?_
        refine AOps.sq (x := ((slA 1 AV.s) xs)) (by kernel_rfl) (Nat.le_of_ble_eq_true rfl) ?_
        refine AOps.sq (x := (AV.i .i64 ((i : Nat) : Int))) (by kernel_rfl) (Nat.le_of_ble_eq_true rfl) ?_
        refine AOps.sq (x := (AV.pt (AV.s x1).cells)) (g_idx (k := 1) (nl := false) (e := 9) (kk := .i64) (A := AV.s) (xs := xs) (i := i) (by kernel_rfl) (by kernel_rfl) (by kernel_rfl) ⟨by kernel_rfl, by decide⟩ hx1) (Nat.le_of_ble_eq_true rfl) ?_
        refine AOps.sq (x := (AV.s x1)) (by kernel_rfl) (Nat.le_of_ble_eq_true rfl) ?_
        refine AOps.sq (x := (AV.s ((s' ++ sign) ++ x1))) (g_sadd (a := (s' ++ sign)) (b := x1) (by kernel_rfl) (by kernel_rfl) (by first | omega | (unfold LIM; omega) | (simp only [List.length_append, List.length_cons, List.length_nil, List.length_set, List.length_replicate, ByteArray.size_append, List.length_take, List.length_drop, LIM]; omega) | (simp [LIM]; done) | (simp [LIM]; omega))) (Nat.le_of_ble_eq_true rfl) ?_
        refine AOps.sq (x := (AV.s ((s' ++ sign) ++ x1))) (by kernel_rfl) (Nat.le_of_ble_eq_true rfl) ?_
        refine AOps.done ?_
        refine Awp.region tabS_ok ?_
        refine AOps.sq (x := (AV.i .i64 ((i : Nat) : Int))) (by kernel_rfl) (Nat.le_of_ble_eq_true rfl) ?_
        refine AOps.sq (x := (AV.i .i64 ((i + 1 : Nat) : Int))) (g_addN (i := i) (m := 1) (by kernel_rfl) (by kernel_rfl) (by first | omega | (unfold LIM; omega) | (simp only [List.length_append, List.length_cons, List.length_nil, List.length_set, List.length_replicate, ByteArray.size_append, List.length_take, List.length_drop, LIM]; omega) | (simp [LIM]; done) | (simp [LIM]; omega))) (Nat.le_of_ble_eq_true rfl) ?_
        refine AOps.sq (x := (AV.i .i64 ((i + 1 : Nat) : Int))) (by kernel_rfl) (Nat.le_of_ble_eq_true rfl) ?_
        refine AOps.done ?_
        try simp only [c_1, List.length_nil, Int.natCast_zero, eq_self, decide_true, List.nil_append, List.take_nil, cond_true, cond_false, Bool.true_and, Bool.false_and, Bool.true_or, Bool.false_or, Bool.not_true, Bool.not_false] at hE1
        refine ⟨(((s' ++ sign) ++ x1), i + 1), by (try dsimp only); omega, ⟨by (try dsimp only); omega, by (try dsimp only) <;> (first | omega | (simp only [ByteArray.size_append]; omega)), hE1⟩, ?_⟩
        exact ⟨[], ⟨by decide, rfl, FitsObjs.nil, (EntE.cons (Ent.c (by kernel_rfl) (by kernel_rfl)) (EntE.cons (Ent.c (by kernel_rfl) (by kernel_rfl)) (EntE.cons (Ent.c (by kernel_rfl) (by kernel_rfl)) (EntE.cons (Ent.c (by kernel_rfl) (by kernel_rfl)) EntE.nil))))⟩, keep0⟩
    · have hc1 : decide (((i : Nat) : Int) < ((xs.length : Nat) : Int)) = false := decide_eq_false (by omega)
      refine Awp.cond (t := false) (by rw [← hc1] <;> kernel_rfl) (Awp.exit ?_)
      rw [List.drop_eq_nil_of_le (hl1), m_ref1_Join_L1.eq_1] at hE1
      subst hE1
      refine Awp.seq ?_
      refine Awp.region tabS_ok ?_
      refine AOps.sq (x := (AV.s s')) (by kernel_rfl) (Nat.le_of_ble_eq_true rfl) ?_
      refine AOps.sq (x := (AV.s s')) (by kernel_rfl) (Nat.le_of_ble_eq_true rfl) ?_
      refine AOps.done ?_
      refine Awp.ret ?_
      have hM : m_ref1_Join xs sign = s' := by simp only [m_ref1_Join, hR1, List.length_nil, Int.natCast_zero, eq_self, decide_true, List.nil_append, List.take_nil, cond_true, cond_false, Bool.true_and, Bool.false_and, Bool.true_or, Bool.false_or, Bool.not_true, Bool.not_false]
      refine ⟨Or.inr rfl, ?_⟩
      rw [hM]
      exact Ent.cast (x' := (AV.s s')) (y' := (AV.s s')) (by kernel_rfl) (by kernel_rfl) (Ent.c (by kernel_rfl) (by kernel_rfl))

theorem w_ref1_split (W : World) (s' : ByteArray) (sign : Int) (hs : s'.size ≤ 1048576) : PureAt Go.Proofs.Tryd.prog W 69 [(AV.s s'), (AV.i .u8 sign)] ((slA 1 AV.s) (m_ref1_split s' sign)) [] := by
  refine pure_of_bodyC (fn := Go.Proofs.Tryd.f69) Go.Proofs.Tryd.func69 rfl (en69 W) (ts := [4]) rfl (Nat.le_of_ble_eq_true rfl) ?_
  refine Awp.seq ?_
  refine Awp.region tabS_ok ?_
  refine AOps.sq (x := (AV.sl 1 true [])) (by kernel_rfl) (Nat.le_of_ble_eq_true rfl) ?_
  refine AOps.done ?_
  refine Awp.seq ?_
  refine Awp.region tabS_ok ?_
  refine AOps.sq (x := (AV.sl 1 true [])) (by kernel_rfl) (Nat.le_of_ble_eq_true rfl) ?_
  refine AOps.done ?_
  refine Awp.seq ?_
  refine Awp.region tabS_ok ?_
  refine AOps.sq (x := (AV.i .i64 (0 : Int))) (by kernel_rfl) (Nat.le_of_ble_eq_true rfl) ?_
  refine AOps.done ?_
  refine Awp.seq ?_
  refine Awp.seq ?_
  refine Awp.region tabS_ok ?_
  refine AOps.sq (x := (AV.i .i64 (0 : Int))) (by kernel_rfl) (Nat.le_of_ble_eq_true rfl) ?_
  refine AOps.done ?_
  refine Awp.block ?_
  refine Awp.lim 0 (x := (AV.s s')) (by kernel_rfl) fun hlm12 => ?_
  have hB1_2 : s'.size ≤ 281474976710656 := lim_s hlm12
  obtain ⟨R1, hR1⟩ : ∃ R, m_ref1_split_L1 s' sign (s'.size + 1 - 0 + 1) [] 0 0 = R := ⟨_, rfl⟩
  refine Awp.loopT (fun ((kf1, (out, from', i)) : Nat × ((List ByteArray) × Nat × Nat)) => [(0, (AV.s s')), (1, (AV.i .u8 sign)), (5, (accV 0 1 AV.s out)), (6, (AV.i .i64 ((from' : Nat) : Int))), (7, (AV.i .i64 ((i : Nat) : Int)))]) (fun ((kf1, (out, from', i)) : Nat × ((List ByteArray) × Nat × Nat)) => ⟨1, [(0, accO 9 1 AV.s out)]⟩) (fun ((kf1, (out, from', i)) : Nat × ((List ByteArray) × Nat × Nat)) => s'.size + 1 - i < kf1 ∧ from' ≤ i ∧ i ≤ s'.size + 1 ∧ out.length ≤ i ∧ m_ref1_split_L1 s' sign kf1 out from' i = R1) (fun ((kf1, (out, from', i)) : Nat × ((List ByteArray) × Nat × Nat)) => kf1) (s'.size + 1 - 0 + 1, ([], 0, 0)) ?_ ?_ ?_
  · exact ⟨[1000000], ⟨by decide, rfl, (FitsObjs.cons rfl FitsObjs.nil), (EntE.cons (Ent.c (by kernel_rfl) (by kernel_rfl)) (EntE.cons (Ent.c (by kernel_rfl) (by kernel_rfl)) (EntE.cons (Ent.c (by kernel_rfl) (by kernel_rfl)) (EntE.cons (Ent.c (by kernel_rfl) (by kernel_rfl)) (EntE.cons (Ent.c (by kernel_rfl) (by kernel_rfl)) EntE.nil)))))⟩, keep0⟩
  · exact ⟨by (try dsimp only); omega, by (try dsimp only) <;> (first | omega | (unfold LIM; omega) | (simp only [List.length_append, List.length_cons, List.length_nil, List.length_set, List.length_replicate, ByteArray.size_append, List.length_take, List.length_drop, LIM]; omega) | (simp [LIM]; done) | (simp [LIM]; omega)), by (try dsimp only) <;> (first | omega | (unfold LIM; omega) | (simp only [List.length_append, List.length_cons, List.length_nil, List.length_set, List.length_replicate, ByteArray.size_append, List.length_take, List.length_drop, LIM]; omega) | (simp [LIM]; done) | (simp [LIM]; omega)), by (try dsimp only) <;> (first | omega | (unfold LIM; omega) | (simp only [List.length_append, List.length_cons, List.length_nil, List.length_set, List.length_replicate, ByteArray.size_append, List.length_take, List.length_drop, LIM]; omega) | (simp [LIM]; done) | (simp [LIM]; omega)), hR1⟩
  · rintro ⟨kf1, out, from', i⟩ ⟨hi1, hf, hi2, hl, hE1⟩
    try dsimp only
    cases kf1 with
    | zero => exact absurd hi1 (Nat.not_lt_zero _)
    | succ kf1 =>
      rw [m_ref1_split_L1.eq_2] at hE1
      refine Awp.seq ?_
      refine Awp.seq ?_
      refine Awp.region tabS_ok ?_
      refine AOps.sq (x := (AV.i .i64 ((i : Nat) : Int))) (by kernel_rfl) (Nat.le_of_ble_eq_true rfl) ?_
      refine AOps.sq (x := (AV.s s')) (by kernel_rfl) (Nat.le_of_ble_eq_true rfl) ?_
      refine AOps.sq (x := (AV.i .i64 ((s'.size : Nat) : Int))) (by kernel_rfl) (Nat.le_of_ble_eq_true rfl) ?_
      refine AOps.sq (x := (AV.b (decide (((i : Nat) : Int) ≤ ((s'.size : Nat) : Int))))) (by kernel_rfl) (Nat.le_of_ble_eq_true rfl) ?_
      refine AOps.done ?_
      cases c_1 : decide (((i : Nat) : Int) ≤ ((s'.size : Nat) : Int))
      · have k_1 : ¬ (((i : Nat) : Int) ≤ ((s'.size : Nat) : Int)) := of_decide_eq_false c_1
        refine Awp.cond (t := false) (by kernel_rfl) ?_
        refine Awp.exit ?_
        try simp only [c_1, List.length_nil, Int.natCast_zero, eq_self, decide_true, List.nil_append, List.take_nil, cond_true, cond_false, Bool.true_and, Bool.false_and, Bool.true_or, Bool.false_or, Bool.not_true, Bool.not_false] at hE1
        subst hE1
        refine Awp.seq ?_
        refine Awp.region tabS_ok ?_
        refine AOps.sq (x := (accV 0 1 AV.s out)) (by kernel_rfl) (Nat.le_of_ble_eq_true rfl) ?_
        refine AOps.sq (x := (accV 0 1 AV.s out)) (by kernel_rfl) (Nat.le_of_ble_eq_true rfl) ?_
        refine AOps.done ?_
        refine Awp.ret ?_
        have hM : m_ref1_split s' sign = out := by simp only [m_ref1_split, hR1, List.length_nil, Int.natCast_zero, eq_self, decide_true, List.nil_append, List.take_nil, cond_true, cond_false, Bool.true_and, Bool.false_and, Bool.true_or, Bool.false_or, Bool.not_true, Bool.not_false]
        refine ⟨Or.inr rfl, ?_⟩
        rw [hM]
        exact Ent.cast (x' := (accV 0 1 AV.s out)) (y' := ((slA 1 AV.s) out)) (by kernel_rfl) (by kernel_rfl) (Ent.cast (x' := (accV 0 1 AV.s out)) (y' := slA 1 AV.s out) (by kernel_rfl) (by kernel_rfl) (ent_acc (fun _ => rfl) (by decide) (by decide) (e := 9) (k := 1) rfl (by first | omega | (unfold LIM; omega) | (simp only [List.length_append, List.length_cons, List.length_nil, List.length_set, List.length_replicate, ByteArray.size_append, List.length_take, List.length_drop, LIM]; omega) | (simp [LIM]; done) | (simp [LIM]; omega))))
      · have k_1 : (((i : Nat) : Int) ≤ ((s'.size : Nat) : Int)) := of_decide_eq_true c_1
        refine Awp.cond (t := true) (by kernel_rfl) ?_
        refine Awp.skip ?_
        refine Awp.seq ?_
        refine Awp.block ?_
        refine Awp.cut [(0, (AV.s s')), (1, (AV.i .u8 sign)), (5, (accV 0 1 AV.s out)), (6, (AV.i .i64 ((from' : Nat) : Int))), (7, (AV.i .i64 ((i : Nat) : Int))), (24, (AV.b (decide (((i : Nat) : Int) = ((s'.size : Nat) : Int)) || decide (((s'.data.getD i 0).toNat : Int) = sign))))] ⟨1, [(0, accO 9 1 AV.s out)]⟩ ?_ ?_
        · refine Awp.region tabS_ok ?_
          refine AOps.sq (x := (AV.i .i64 ((i : Nat) : Int))) (by kernel_rfl) (Nat.le_of_ble_eq_true rfl) ?_
          refine AOps.sq (x := (AV.s s')) (by kernel_rfl) (Nat.le_of_ble_eq_true rfl) ?_
          refine AOps.sq (x := (AV.i .i64 ((s'.size : Nat) : Int))) (by kernel_rfl) (Nat.le_of_ble_eq_true rfl) ?_
          refine AOps.sq (x := (AV.b (decide (((i : Nat) : Int) = ((s'.size : Nat) : Int))))) (by kernel_rfl) (Nat.le_of_ble_eq_true rfl) ?_
          refine AOps.sq (x := (AV.b (decide (((i : Nat) : Int) = ((s'.size : Nat) : Int))))) (by kernel_rfl) (Nat.le_of_ble_eq_true rfl) ?_
          cases c_2 : decide (((i : Nat) : Int) = ((s'.size : Nat) : Int))
          · have k_2 : ¬ (((i : Nat) : Int) = ((s'.size : Nat) : Int)) := of_decide_eq_false c_2
            refine AOps.sgy rfl rfl (by kernel_rfl) rfl ?_
            refine AOps.sq (x := (AV.s s')) (by kernel_rfl) (Nat.le_of_ble_eq_true rfl) ?_
            refine AOps.sgy rfl rfl (by kernel_rfl) rfl ?_
            refine AOps.sq (x := (AV.i .i64 ((i : Nat) : Int))) (by kernel_rfl) (Nat.le_of_ble_eq_true rfl) ?_
            refine AOps.sgy rfl rfl (by kernel_rfl) rfl ?_
            refine AOps.sq (x := (AV.i .u8 ((s'.data.getD i 0).toNat : Int))) (g_str (kk := .i64) (s := s') (i := i) (b := (s'.data.getD i 0)) (by kernel_rfl) (by kernel_rfl) (by kernel_rfl) (byteD_some (by first | omega | (unfold LIM; omega) | (simp only [List.length_append, List.length_cons, List.length_nil, List.length_set, List.length_replicate, ByteArray.size_append, List.length_take, List.length_drop, LIM]; omega) | (simp [LIM]; done) | (simp [LIM]; omega)))) (Nat.le_of_ble_eq_true rfl) ?_
            refine AOps.sgy rfl rfl (by kernel_rfl) rfl ?_
            refine AOps.sq (x := (AV.i .u8 sign)) (by kernel_rfl) (Nat.le_of_ble_eq_true rfl) ?_
            refine AOps.sgy rfl rfl (by kernel_rfl) rfl ?_
            refine AOps.sq (x := (AV.b (decide (((s'.data.getD i 0).toNat : Int) = sign)))) (by kernel_rfl) (Nat.le_of_ble_eq_true rfl) ?_
            refine AOps.sq (x := (AV.b (decide (((s'.data.getD i 0).toNat : Int) = sign)))) (by kernel_rfl) (Nat.le_of_ble_eq_true rfl) ?_
            refine AOps.done ?_
            exact ⟨[0], ⟨by decide, rfl, (FitsObjs.cons (obj_acc (fun _ => rfl) (e := 9) (k := 1) (A := AV.s) (xs := out) rfl rfl) FitsObjs.nil), (EntE.cons (Ent.c (by kernel_rfl) (by kernel_rfl)) (EntE.cons (Ent.c (by kernel_rfl) (by kernel_rfl)) (EntE.cons (ent_keepA (by decide)) (EntE.cons (Ent.c (by kernel_rfl) (by kernel_rfl)) (EntE.cons (Ent.c (by kernel_rfl) (by kernel_rfl)) (EntE.cons (Ent.c (by kernel_rfl) (by kernel_rfl)) EntE.nil))))))⟩, keep0⟩
          · have k_2 : (((i : Nat) : Int) = ((s'.size : Nat) : Int)) := of_decide_eq_true c_2
            refine AOps.sgn rfl rfl (by kernel_rfl) rfl (Nat.le_of_ble_eq_true rfl) ?_
            refine AOps.sgn rfl rfl (by kernel_rfl) rfl (Nat.le_of_ble_eq_true rfl) ?_
            refine AOps.sgn rfl rfl (by kernel_rfl) rfl (Nat.le_of_ble_eq_true rfl) ?_
            refine AOps.sgn rfl rfl (by kernel_rfl) rfl (Nat.le_of_ble_eq_true rfl) ?_
            refine AOps.sgn rfl rfl (by kernel_rfl) rfl (Nat.le_of_ble_eq_true rfl) ?_
            refine AOps.sq (x := (AV.b true)) (by kernel_rfl) (Nat.le_of_ble_eq_true rfl) ?_
            refine AOps.done ?_
            exact ⟨[0], ⟨by decide, rfl, (FitsObjs.cons (obj_acc (fun _ => rfl) (e := 9) (k := 1) (A := AV.s) (xs := out) rfl rfl) FitsObjs.nil), (EntE.cons (Ent.c (by kernel_rfl) (by kernel_rfl)) (EntE.cons (Ent.c (by kernel_rfl) (by kernel_rfl)) (EntE.cons (ent_keepA (by decide)) (EntE.cons (Ent.c (by kernel_rfl) (by kernel_rfl)) (EntE.cons (Ent.c (by kernel_rfl) (by kernel_rfl)) (EntE.cons (Ent.c (by kernel_rfl) (by kernel_rfl)) EntE.nil))))))⟩, keep0⟩
        · cases c_3 : (decide (((i : Nat) : Int) = ((s'.size : Nat) : Int)) || decide (((s'.data.getD i 0).toNat : Int) = sign))
          · refine Awp.cond (t := false) (by kernel_rfl) ?_
            refine Awp.skip ?_
            refine Awp.region tabS_ok ?_
            refine AOps.sq (x := (AV.i .i64 ((i : Nat) : Int))) (by kernel_rfl) (Nat.le_of_ble_eq_true rfl) ?_
            refine AOps.sq (x := (AV.i .i64 ((i + 1 : Nat) : Int))) (g_addN (i := i) (m := 1) (by kernel_rfl) (by kernel_rfl) (by first | omega | (unfold LIM; omega) | (simp only [List.length_append, List.length_cons, List.length_nil, List.length_set, List.length_replicate, ByteArray.size_append, List.length_take, List.length_drop, LIM]; omega) | (simp [LIM]; done) | (simp [LIM]; omega))) (Nat.le_of_ble_eq_true rfl) ?_
            refine AOps.sq (x := (AV.i .i64 ((i + 1 : Nat) : Int))) (by kernel_rfl) (Nat.le_of_ble_eq_true rfl) ?_
            refine AOps.done ?_
            try simp only [c_1, c_3, List.length_nil, Int.natCast_zero, eq_self, decide_true, List.nil_append, List.take_nil, cond_true, cond_false, Bool.true_and, Bool.false_and, Bool.true_or, Bool.false_or, Bool.not_true, Bool.not_false] at hE1
            refine ⟨(kf1, (out, from', i + 1)), by (try dsimp only); omega, ⟨by (try dsimp only) <;> (first | omega | (unfold LIM; omega) | (simp only [List.length_append, List.length_cons, List.length_nil, List.length_set, List.length_replicate, ByteArray.size_append, List.length_take, List.length_drop, LIM]; omega) | (simp [LIM]; done) | (simp [LIM]; omega)), by (try dsimp only) <;> (first | omega | (unfold LIM; omega) | (simp only [List.length_append, List.length_cons, List.length_nil, List.length_set, List.length_replicate, ByteArray.size_append, List.length_take, List.length_drop, LIM]; omega) | (simp [LIM]; done) | (simp [LIM]; omega)), by (try dsimp only) <;> (first | omega | (unfold LIM; omega) | (simp only [List.length_append, List.length_cons, List.length_nil, List.length_set, List.length_replicate, ByteArray.size_append, List.length_take, List.length_drop, LIM]; omega) | (simp [LIM]; done) | (simp [LIM]; omega)), by (try dsimp only) <;> (first | omega | (unfold LIM; omega) | (simp only [List.length_append, List.length_cons, List.length_nil, List.length_set, List.length_replicate, ByteArray.size_append, List.length_take, List.length_drop, LIM]; omega) | (simp [LIM]; done) | (simp [LIM]; omega)), hE1⟩, ?_⟩
            exact ⟨[0], ⟨by decide, rfl, (FitsObjs.cons (obj_acc (fun _ => rfl) (e := 9) (k := 1) (A := AV.s) (xs := out) rfl rfl) FitsObjs.nil), (EntE.cons (Ent.c (by kernel_rfl) (by kernel_rfl)) (EntE.cons (Ent.c (by kernel_rfl) (by kernel_rfl)) (EntE.cons (ent_keepA (by decide)) (EntE.cons (Ent.c (by kernel_rfl) (by kernel_rfl)) (EntE.cons (Ent.c (by kernel_rfl) (by kernel_rfl)) EntE.nil)))))⟩, keep0⟩
          · refine Awp.cond (t := true) (by kernel_rfl) ?_
            refine Awp.seq ?_
            refine Awp.region tabS_ok ?_
            refine AOps.sq (x := (accV 0 1 AV.s out)) (by kernel_rfl) (Nat.le_of_ble_eq_true rfl) ?_
            refine AOps.sq (x := (AV.s s')) (by kernel_rfl) (Nat.le_of_ble_eq_true rfl) ?_
            refine AOps.sq (x := (AV.i .i64 ((from' : Nat) : Int))) (by kernel_rfl) (Nat.le_of_ble_eq_true rfl) ?_
            refine AOps.sq (x := (AV.i .i64 ((i : Nat) : Int))) (by kernel_rfl) (Nat.le_of_ble_eq_true rfl) ?_
            refine AOps.sq (x := (AV.s (s'.extract from' i))) (g_sub (s := s') (l := (some ((from' : Nat) : Int))) (g := (some ((i : Nat) : Int))) (a := from') (b := i) (by kernel_rfl) (by kernel_rfl) (by kernel_rfl) (by kernel_rfl) rfl rfl (by first | omega | (unfold LIM; omega) | (simp only [List.length_append, List.length_cons, List.length_nil, List.length_set, List.length_replicate, ByteArray.size_append, List.length_take, List.length_drop, LIM]; omega) | (simp [LIM]; done) | (simp [LIM]; omega)) (by first | omega | (unfold LIM; omega) | (simp only [List.length_append, List.length_cons, List.length_nil, List.length_set, List.length_replicate, ByteArray.size_append, List.length_take, List.length_drop, LIM]; omega) | (simp [LIM]; done) | (simp [LIM]; omega))) (Nat.le_of_ble_eq_true rfl) ?_
            refine AOps.sn (x := (AV.own 1 0 1)) (h' := ⟨2, [(1, some ⟨9, 1, [(s'.extract from' i)].map AV.s⟩), (0, accO 9 1 AV.s out)]⟩) (by kernel_rfl) (Nat.le_of_ble_eq_true rfl) ?_
            refine AOps.se (x := (AV.own 2 0 ((out ++ [(s'.extract from' i)]).length))) (h' := ⟨3, [(2, some ⟨9, 1, (out ++ [(s'.extract from' i)]).map AV.s⟩), (1, some ⟨9, 1, [(s'.extract from' i)].map AV.s⟩), (0, none)]⟩) (g_app (e := 9) (X := (AV.own 1 0 1)) (A := AV.s) (i := tI_9) (p := 0) (xs := out) (ys := [(s'.extract from' i)]) (by kernel_rfl) (by kernel_rfl) (by kernel_rfl) (hx := (by kernel_rfl)) (by kernel_rfl) (by simp) ⟨by decide, by kernel_rfl⟩ rfl (fun q => by subst q; rfl) (by show _ * 16 ≤ 140737488355328; first | omega | (simp only [List.length_append, List.length_cons, List.length_nil, List.length_set, List.length_replicate]; omega) | (simp; omega)) (by first | omega | (unfold LIM; omega) | (simp only [List.length_append, List.length_cons, List.length_nil, List.length_set, List.length_replicate, ByteArray.size_append, List.length_take, List.length_drop, LIM]; omega) | (simp [LIM]; done) | (simp [LIM]; omega))) (Nat.le_of_ble_eq_true rfl) ?_
            refine AOps.sq (x := (AV.own 2 0 ((out ++ [(s'.extract from' i)]).length))) (by kernel_rfl) (Nat.le_of_ble_eq_true rfl) ?_
            refine AOps.done ?_
            refine Awp.region tabS_ok ?_
            refine AOps.sq (x := (AV.i .i64 ((i : Nat) : Int))) (by kernel_rfl) (Nat.le_of_ble_eq_true rfl) ?_
            refine AOps.sq (x := (AV.i .i64 ((i + 1 : Nat) : Int))) (g_addN (i := i) (m := 1) (by kernel_rfl) (by kernel_rfl) (by first | omega | (unfold LIM; omega) | (simp only [List.length_append, List.length_cons, List.length_nil, List.length_set, List.length_replicate, ByteArray.size_append, List.length_take, List.length_drop, LIM]; omega) | (simp [LIM]; done) | (simp [LIM]; omega))) (Nat.le_of_ble_eq_true rfl) ?_
            refine AOps.sq (x := (AV.i .i64 ((i + 1 : Nat) : Int))) (by kernel_rfl) (Nat.le_of_ble_eq_true rfl) ?_
            refine AOps.done ?_
            refine Awp.region tabS_ok ?_
            refine AOps.sq (x := (AV.i .i64 ((i : Nat) : Int))) (by kernel_rfl) (Nat.le_of_ble_eq_true rfl) ?_
            refine AOps.sq (x := (AV.i .i64 ((i + 1 : Nat) : Int))) (g_addN (i := i) (m := 1) (by kernel_rfl) (by kernel_rfl) (by first | omega | (unfold LIM; omega) | (simp only [List.length_append, List.length_cons, List.length_nil, List.length_set, List.length_replicate, ByteArray.size_append, List.length_take, List.length_drop, LIM]; omega) | (simp [LIM]; done) | (simp [LIM]; omega))) (Nat.le_of_ble_eq_true rfl) ?_
            refine AOps.sq (x := (AV.i .i64 ((i + 1 : Nat) : Int))) (by kernel_rfl) (Nat.le_of_ble_eq_true rfl) ?_
            refine AOps.done ?_
            try simp only [c_1, c_3, List.length_nil, Int.natCast_zero, eq_self, decide_true, List.nil_append, List.take_nil, cond_true, cond_false, Bool.true_and, Bool.false_and, Bool.true_or, Bool.false_or, Bool.not_true, Bool.not_false] at hE1
            refine ⟨(kf1, ((out ++ [(s'.extract from' i)]), i + 1, i + 1)), by (try dsimp only); omega, ⟨by (try dsimp only) <;> (first | omega | (unfold LIM; omega) | (simp only [List.length_append, List.length_cons, List.length_nil, List.length_set, List.length_replicate, ByteArray.size_append, List.length_take, List.length_drop, LIM]; omega) | (simp [LIM]; done) | (simp [LIM]; omega)), by (try dsimp only) <;> (first | omega | (unfold LIM; omega) | (simp only [List.length_append, List.length_cons, List.length_nil, List.length_set, List.length_replicate, ByteArray.size_append, List.length_take, List.length_drop, LIM]; omega) | (simp [LIM]; done) | (simp [LIM]; omega)), by (try dsimp only) <;> (first | omega | (unfold LIM; omega) | (simp only [List.length_append, List.length_cons, List.length_nil, List.length_set, List.length_replicate, ByteArray.size_append, List.length_take, List.length_drop, LIM]; omega) | (simp [LIM]; done) | (simp [LIM]; omega)), by (try dsimp only) <;> (first | omega | (unfold LIM; omega) | (simp only [List.length_append, List.length_cons, List.length_nil, List.length_set, List.length_replicate, ByteArray.size_append, List.length_take, List.length_drop, LIM]; omega) | (simp [LIM]; done) | (simp [LIM]; omega)), hE1⟩, ?_⟩
            exact ⟨[2], ⟨by decide, rfl, (FitsObjs.cons (obj_acc' (fun _ => rfl) (e := 9) (k := 1) (A := AV.s) (xs := (out ++ [(s'.extract from' i)])) (by simp) rfl rfl) FitsObjs.nil), (EntE.cons (Ent.c (by kernel_rfl) (by kernel_rfl)) (EntE.cons (Ent.c (by kernel_rfl) (by kernel_rfl)) (EntE.cons (ent_keep (A := AV.s) (xs := (out ++ [(s'.extract from' i)])) (by decide) (by simp) rfl) (EntE.cons (Ent.c (by kernel_rfl) (by kernel_rfl)) (EntE.cons (Ent.c (by kernel_rfl) (by kernel_rfl)) EntE.nil)))))⟩, keep0⟩

theorem w_ref1_CleanPath (W : World) (s' : ByteArray) : PureAt Go.Proofs.Tryd.prog W 52 [(AV.s s')] (AV.tup [(AV.s ((m_ref1_CleanPath s').1)), (AV.i .i64 ((m_ref1_CleanPath s').2))]) [] := by
  refine pure_of_bodyC (fn := Go.Proofs.Tryd.f52) Go.Proofs.Tryd.func52 rfl (en52 W) (ts := [2, 3]) rfl (Nat.le_of_ble_eq_true rfl) ?_
  refine Awp.seq ?_
  refine Awp.region tabS_ok ?_
  refine AOps.sq (x := (AV.s (⟨#[]⟩ : ByteArray))) (by kernel_rfl) (Nat.le_of_ble_eq_true rfl) ?_
  refine AOps.sq (x := (AV.i .i64 (0 : Int))) (by kernel_rfl) (Nat.le_of_ble_eq_true rfl) ?_
  refine AOps.done ?_
  refine Awp.seq ?_
  refine Awp.seq ?_
  refine Awp.region tabS_ok ?_
  refine AOps.sq (x := (AV.s s')) (by kernel_rfl) (Nat.le_of_ble_eq_true rfl) ?_
  refine AOps.sc0 (vs := [(AV.s s')]) (r0 := (AV.b (m_ref1_NameMay s'))) (by kernel_rfl) (by kernel_rfl) (w_ref1_NameMay W s') (by kernel_rfl) (Nat.le_of_ble_eq_true rfl) ?_
  refine AOps.sq (x := (AV.b (!(m_ref1_NameMay s')))) (by kernel_rfl) (Nat.le_of_ble_eq_true rfl) ?_
  refine AOps.sq (x := (AV.b (!(m_ref1_NameMay s')))) (by kernel_rfl) (Nat.le_of_ble_eq_true rfl) ?_
  cases c_1 : (!(m_ref1_NameMay s'))
  · have q_1 := ref1_NameMay_sz c_1
    refine AOps.sgy rfl rfl (by kernel_rfl) rfl ?_
    refine AOps.sq (x := (AV.s s')) (by kernel_rfl) (Nat.le_of_ble_eq_true rfl) ?_
    refine AOps.sgy rfl rfl (by kernel_rfl) rfl ?_
    refine AOps.sq (x := (AV.i .u8 ((s'.data.getD 0 0).toNat : Int))) (g_str (kk := .i64) (s := s') (i := 0) (b := (s'.data.getD 0 0)) (by kernel_rfl) (by kernel_rfl) (by kernel_rfl) (byteD_some (by first | omega | (unfold LIM; omega) | (simp only [List.length_append, List.length_cons, List.length_nil, List.length_set, List.length_replicate, ByteArray.size_append, List.length_take, List.length_drop, LIM]; omega) | (simp [LIM]; done) | (simp [LIM]; omega)))) (Nat.le_of_ble_eq_true rfl) ?_
    refine AOps.sgy rfl rfl (by kernel_rfl) rfl ?_
    refine AOps.sq (x := (AV.b (decide (((s'.data.getD 0 0).toNat : Int) = (47 : Int))))) (by kernel_rfl) (Nat.le_of_ble_eq_true rfl) ?_
    refine AOps.sq (x := (AV.b (decide (((s'.data.getD 0 0).toNat : Int) = (47 : Int))))) (by kernel_rfl) (Nat.le_of_ble_eq_true rfl) ?_
    refine AOps.done ?_
    cases c_2 : decide (((s'.data.getD 0 0).toNat : Int) = (47 : Int))
    · have k_2 : ¬ (((s'.data.getD 0 0).toNat : Int) = (47 : Int)) := of_decide_eq_false c_2
      refine Awp.cond (t := false) (by kernel_rfl) ?_
      refine Awp.skip ?_
      refine Awp.seq ?_
      refine Awp.region tabS_ok ?_
      refine AOps.sq (x := (AV.s s')) (by kernel_rfl) (Nat.le_of_ble_eq_true rfl) ?_
      refine AOps.sc0 (vs := [(AV.s s'), (AV.i .u8 (47 : Int))]) (r0 := ((slA 1 AV.s) (m_ref1_split s' (47 : Int)))) (by kernel_rfl) (by kernel_rfl) (w_ref1_split W s' (47 : Int) (by omega)) (by kernel_rfl) (Nat.le_of_ble_eq_true rfl) ?_
      refine AOps.sq (x := ((slA 1 AV.s) (m_ref1_split s' (47 : Int)))) (by kernel_rfl) (Nat.le_of_ble_eq_true rfl) ?_
      refine AOps.done ?_
      refine Awp.seq ?_
      refine Awp.region tabS_ok ?_
      refine AOps.sq (x := (AV.sl 1 true [])) (by kernel_rfl) (Nat.le_of_ble_eq_true rfl) ?_
      refine AOps.done ?_
      refine Awp.seq ?_
      refine Awp.seq ?_
      refine Awp.region tabS_ok ?_
      refine AOps.sq (x := (AV.i .i64 (0 : Int))) (by kernel_rfl) (Nat.le_of_ble_eq_true rfl) ?_
      refine AOps.done ?_
      refine Awp.block ?_
      refine Awp.lim 16 (x := ((slA 1 AV.s) (m_ref1_split s' (47 : Int)))) (by kernel_rfl) fun hlm1 => ?_
      have hB1 : (m_ref1_split s' (47 : Int)).length ≤ 281474976710656 := lim_slA hlm1
      obtain ⟨R1, hR1⟩ : ∃ R, m_ref1_CleanPath_L1 (m_ref1_split s' (47 : Int)) 0 [] = R := ⟨_, rfl⟩
      refine Awp.loopT (fun ((b_kept, kept, i) : Bool × (List ByteArray) × Nat) => [(4, ((slA 1 AV.s) (m_ref1_split s' (47 : Int)))), (5, (accW 0 1 AV.s b_kept kept)), (6, (AV.i .i64 ((i : Nat) : Int)))]) (fun ((b_kept, kept, i) : Bool × (List ByteArray) × Nat) => ⟨1, [(0, accWO 9 1 AV.s b_kept kept)]⟩) (fun ((b_kept, kept, i) : Bool × (List ByteArray) × Nat) => i ≤ (m_ref1_split s' (47 : Int)).length ∧ (b_kept = false → kept = []) ∧ szsum kept 1 + szsum ((m_ref1_split s' (47 : Int)).drop i) 1 ≤ szsum (m_ref1_split s' (47 : Int)) 1 ∧ kept.length ≤ i ∧ m_ref1_CleanPath_L1 ((m_ref1_split s' (47 : Int)).drop i) i kept = R1) (fun ((b_kept, kept, i) : Bool × (List ByteArray) × Nat) => (m_ref1_split s' (47 : Int)).length - i) (false, [], 0) ?_ ?_ ?_
      · exact ⟨[1000000], ⟨by decide, rfl, (FitsObjs.cons rfl FitsObjs.nil), (EntE.cons (Ent.c (by kernel_rfl) (by kernel_rfl)) (EntE.cons (Ent.c (by kernel_rfl) (by kernel_rfl)) (EntE.cons (Ent.c (by kernel_rfl) (by kernel_rfl)) EntE.nil)))⟩, keep0⟩
      · exact ⟨by (try dsimp only); omega, (by simp), by (try dsimp only) <;> (simp only [szsum, Nat.zero_add]; exact Nat.le_refl _), by (try dsimp only) <;> (simp), hR1⟩
      · rintro ⟨b_kept, kept, i⟩ ⟨hi1, hn_kept, hk, hl, hE1⟩
        try dsimp only
        cases b_kept
        · have hz_kept := hn_kept rfl
          subst hz_kept
          try dsimp only
          refine Awp.seq ?_
          refine Awp.seq ?_
          refine Awp.region tabS_ok ?_
          refine AOps.sq (x := (AV.i .i64 ((i : Nat) : Int))) (by kernel_rfl) (Nat.le_of_ble_eq_true rfl) ?_
          refine AOps.sq (x := ((slA 1 AV.s) (m_ref1_split s' (47 : Int)))) (by kernel_rfl) (Nat.le_of_ble_eq_true rfl) ?_
          refine AOps.sq (x := (AV.i .i64 (((m_ref1_split s' (47 : Int)).length : Nat) : Int))) (g_len (k := 1) (nl := false) (e := 9) (A := AV.s) (xs := (m_ref1_split s' (47 : Int))) (by kernel_rfl) (by kernel_rfl)) (Nat.le_of_ble_eq_true rfl) ?_
          refine AOps.sq (x := (AV.b (decide (((i : Nat) : Int) < (((m_ref1_split s' (47 : Int)).length : Nat) : Int))))) (by kernel_rfl) (Nat.le_of_ble_eq_true rfl) ?_
          refine AOps.done ?_
          rcases Nat.lt_or_ge i (m_ref1_split s' (47 : Int)).length with hl1 | hl1
          · have hc1 : decide (((i : Nat) : Int) < (((m_ref1_split s' (47 : Int)).length : Nat) : Int)) = true := decide_eq_true (by omega)
            refine Awp.cond (t := true) (by rw [← hc1] <;> kernel_rfl) (Awp.skip ?_)
            obtain ⟨x1, hx1⟩ : ∃ x, (m_ref1_split s' (47 : Int))[i]? = some x := ⟨_, List.getElem?_eq_getElem hl1⟩
            rw [drop_at hx1, m_ref1_CleanPath_L1.eq_2] at hE1
            have hz1 := split_sz s' 47
            have hz2 := szsum_len []
            rw [drop_at hx1] at hk
            simp only [szsum] at hk
            refine Awp.seq ?_
            refine Awp.block ?_
            refine Awp.seq ?_
            refine Awp.region tabS_ok ?_
            refine AOps.sq (x := ((slA 1 AV.s) (m_ref1_split s' (47 : Int)))) (by kernel_rfl) (Nat.le_of_ble_eq_true rfl) ?_
            refine AOps.sq (x := (AV.i .i64 ((i : Nat) : Int))) (by kernel_rfl) (Nat.le_of_ble_eq_true rfl) ?_
            refine AOps.sq (x := (AV.pt (AV.s x1).cells)) (g_idx (k := 1) (nl := false) (e := 9) (kk := .i64) (A := AV.s) (xs := (m_ref1_split s' (47 : Int))) (i := i) (by kernel_rfl) (by kernel_rfl) (by kernel_rfl) ⟨by kernel_rfl, by decide⟩ hx1) (Nat.le_of_ble_eq_true rfl) ?_
            refine AOps.sq (x := (AV.s x1)) (by kernel_rfl) (Nat.le_of_ble_eq_true rfl) ?_
            refine AOps.done ?_
            refine Awp.block ?_
            refine Awp.seq ?_
            refine Awp.seq ?_
            refine Awp.region tabS_ok ?_
            refine AOps.sq (x := (AV.b (decide (x1 = (⟨#[]⟩ : ByteArray))))) (by kernel_rfl) (Nat.le_of_ble_eq_true rfl) ?_
            refine AOps.sq (x := (AV.b (decide (x1 = (⟨#[]⟩ : ByteArray))))) (by kernel_rfl) (Nat.le_of_ble_eq_true rfl) ?_
            refine AOps.done ?_
            cases c_7 : decide (x1 = (⟨#[]⟩ : ByteArray))
            · have k_7 : ¬ (x1 = (⟨#[]⟩ : ByteArray)) := of_decide_eq_false c_7
              refine Awp.cond (t := false) (by kernel_rfl) ?_
              refine Awp.region tabS_ok ?_
              refine AOps.sq (x := (AV.b (decide (x1 = (⟨#[46]⟩ : ByteArray))))) (by kernel_rfl) (Nat.le_of_ble_eq_true rfl) ?_
              refine AOps.sq (x := (AV.b (decide (x1 = (⟨#[46]⟩ : ByteArray))))) (by kernel_rfl) (Nat.le_of_ble_eq_true rfl) ?_
              refine AOps.done ?_
              cases c_8 : decide (x1 = (⟨#[46]⟩ : ByteArray))
              · have k_8 : ¬ (x1 = (⟨#[46]⟩ : ByteArray)) := of_decide_eq_false c_8
                refine Awp.cond (t := false) (by kernel_rfl) ?_
                refine Awp.seq ?_
                refine Awp.region tabS_ok ?_
                refine AOps.sq (x := (AV.b (decide (x1 = (⟨#[46, 46]⟩ : ByteArray))))) (by kernel_rfl) (Nat.le_of_ble_eq_true rfl) ?_
                refine AOps.sq (x := (AV.b (decide (x1 = (⟨#[46, 46]⟩ : ByteArray))))) (by kernel_rfl) (Nat.le_of_ble_eq_true rfl) ?_
                refine AOps.done ?_
                cases c_9 : decide (x1 = (⟨#[46, 46]⟩ : ByteArray))
                · have k_9 : ¬ (x1 = (⟨#[46, 46]⟩ : ByteArray)) := of_decide_eq_false c_9
                  refine Awp.cond (t := false) (by kernel_rfl) ?_
                  refine Awp.region tabS_ok ?_
                  refine AOps.sq (x := (AV.sl 1 true [])) (by kernel_rfl) (Nat.le_of_ble_eq_true rfl) ?_
                  refine AOps.sq (x := ((slA 1 AV.s) (m_ref1_split s' (47 : Int)))) (by kernel_rfl) (Nat.le_of_ble_eq_true rfl) ?_
                  refine AOps.sq (x := (AV.i .i64 ((i : Nat) : Int))) (by kernel_rfl) (Nat.le_of_ble_eq_true rfl) ?_
                  refine AOps.sq (x := (AV.pt (AV.s x1).cells)) (g_idx (k := 1) (nl := false) (e := 9) (kk := .i64) (A := AV.s) (xs := (m_ref1_split s' (47 : Int))) (i := i) (by kernel_rfl) (by kernel_rfl) (by kernel_rfl) ⟨by kernel_rfl, by decide⟩ hx1) (Nat.le_of_ble_eq_true rfl) ?_
                  refine AOps.sq (x := (AV.s x1)) (by kernel_rfl) (Nat.le_of_ble_eq_true rfl) ?_
                  refine AOps.sn (x := (AV.own 1 0 1)) (h' := ⟨2, [(1, some ⟨9, 1, [x1].map AV.s⟩), (0, none)]⟩) (by kernel_rfl) (Nat.le_of_ble_eq_true rfl) ?_
                  refine AOps.se (x := (AV.own 2 0 1)) (h' := ⟨3, [(2, some ⟨9, 1, [x1].map AV.s⟩), (1, some ⟨9, 1, [x1].map AV.s⟩), (0, none)]⟩) (by kernel_rfl) (Nat.le_of_ble_eq_true rfl) ?_
                  refine AOps.sq (x := (AV.own 2 0 1)) (by kernel_rfl) (Nat.le_of_ble_eq_true rfl) ?_
                  refine AOps.done ?_
                  refine Awp.region tabS_ok ?_
                  refine AOps.sq (x := (AV.i .i64 ((i : Nat) : Int))) (by kernel_rfl) (Nat.le_of_ble_eq_true rfl) ?_
                  refine AOps.sq (x := (AV.i .i64 ((i + 1 : Nat) : Int))) (g_addN (i := i) (m := 1) (by kernel_rfl) (by kernel_rfl) (by first | omega | (unfold LIM; omega) | (simp only [List.length_append, List.length_cons, List.length_nil, List.length_set, List.length_replicate, ByteArray.size_append, List.length_take, List.length_drop, LIM]; omega) | (simp [LIM]; done) | (simp [LIM]; omega))) (Nat.le_of_ble_eq_true rfl) ?_
                  refine AOps.sq (x := (AV.i .i64 ((i + 1 : Nat) : Int))) (by kernel_rfl) (Nat.le_of_ble_eq_true rfl) ?_
                  refine AOps.done ?_
                  try simp only [c_7, c_8, c_9, List.length_nil, Int.natCast_zero, eq_self, decide_true, List.nil_append, List.take_nil, cond_true, cond_false, Bool.true_and, Bool.false_and, Bool.true_or, Bool.false_or, Bool.not_true, Bool.not_false] at hE1
                  refine ⟨(true, [x1], i + 1), by (try dsimp only); omega, ⟨by (try dsimp only); omega, (by simp), by (try dsimp only) <;> (first | omega | (simp only [szsum_append, szsum, Nat.add_zero]; omega) | (have := szsum_take kept (kept.length - 1) 1; omega)), by (try dsimp only) <;> (first | omega | (simp only [List.length_append, List.length_cons, List.length_nil, List.length_take]; omega)), hE1⟩, ?_⟩
                  exact ⟨[2], ⟨by decide, rfl, (FitsObjs.cons (obj_row (fun _ => rfl) (e := 9) (k := 1) (A := AV.s) (xs := [x1]) rfl rfl) FitsObjs.nil), (EntE.cons (Ent.c (by kernel_rfl) (by kernel_rfl)) (EntE.cons (ent_keepO (by decide) (by simp)) (EntE.cons (Ent.c (by kernel_rfl) (by kernel_rfl)) EntE.nil)))⟩, keep0⟩
                · have k_9 : (x1 = (⟨#[46, 46]⟩ : ByteArray)) := of_decide_eq_true c_9
                  refine Awp.cond (t := true) (by kernel_rfl) ?_
                  refine Awp.seq ?_
                  refine Awp.seq ?_
                  refine Awp.region tabS_ok ?_
                  refine AOps.sq (x := (AV.sl 1 true [])) (by kernel_rfl) (Nat.le_of_ble_eq_true rfl) ?_
                  refine AOps.sq (x := (AV.i .i64 (0 : Int))) (by kernel_rfl) (Nat.le_of_ble_eq_true rfl) ?_
                  refine AOps.sq (x := (AV.b true)) (by kernel_rfl) (Nat.le_of_ble_eq_true rfl) ?_
                  refine AOps.done ?_
                  refine Awp.cond (t := true) (by kernel_rfl) ?_
                  refine Awp.seq ?_
                  refine Awp.region tabS_ok ?_
                  refine AOps.sq (x := (AV.s (⟨#[]⟩ : ByteArray))) (by kernel_rfl) (Nat.le_of_ble_eq_true rfl) ?_
                  refine AOps.sq (x := (AV.i .i64 (200 : Int))) (by kernel_rfl) (Nat.le_of_ble_eq_true rfl) ?_
                  refine AOps.done ?_
                  refine Awp.ret ?_
                  try simp only [c_7, c_8, c_9, List.length_nil, Int.natCast_zero, eq_self, decide_true, List.nil_append, List.take_nil, cond_true, cond_false, Bool.true_and, Bool.false_and, Bool.true_or, Bool.false_or, Bool.not_true, Bool.not_false] at hE1
                  subst hE1
                  have hM : m_ref1_CleanPath s' = ((⟨#[]⟩ : ByteArray), (200 : Int)) := by simp only [m_ref1_CleanPath, c_1, c_2, hR1, List.length_nil, Int.natCast_zero, eq_self, decide_true, List.nil_append, List.take_nil, cond_true, cond_false, Bool.true_and, Bool.false_and, Bool.true_or, Bool.false_or, Bool.not_true, Bool.not_false]
                  refine ⟨Or.inr rfl, ?_⟩
                  rw [hM]
                  exact Ent.cast (x' := (AV.tup [(AV.s (⟨#[]⟩ : ByteArray)), (AV.i .i64 (200 : Int))])) (y' := (AV.tup [(AV.s (((⟨#[]⟩ : ByteArray), (200 : Int)).1)), (AV.i .i64 (((⟨#[]⟩ : ByteArray), (200 : Int)).2))])) (by kernel_rfl) (by kernel_rfl) (Ent.tup ⟨(Ent.c (by kernel_rfl) (by kernel_rfl)), ⟨(Ent.c (by kernel_rfl) (by kernel_rfl)), trivial⟩⟩ (by kernel_rfl))
              · have k_8 : (x1 = (⟨#[46]⟩ : ByteArray)) := of_decide_eq_true c_8
                refine Awp.cond (t := true) (by kernel_rfl) ?_
                refine Awp.skip ?_
                refine Awp.region tabS_ok ?_
                refine AOps.sq (x := (AV.i .i64 ((i : Nat) : Int))) (by kernel_rfl) (Nat.le_of_ble_eq_true rfl) ?_
                refine AOps.sq (x := (AV.i .i64 ((i + 1 : Nat) : Int))) (g_addN (i := i) (m := 1) (by kernel_rfl) (by kernel_rfl) (by first | omega | (unfold LIM; omega) | (simp only [List.length_append, List.length_cons, List.length_nil, List.length_set, List.length_replicate, ByteArray.size_append, List.length_take, List.length_drop, LIM]; omega) | (simp [LIM]; done) | (simp [LIM]; omega))) (Nat.le_of_ble_eq_true rfl) ?_
                refine AOps.sq (x := (AV.i .i64 ((i + 1 : Nat) : Int))) (by kernel_rfl) (Nat.le_of_ble_eq_true rfl) ?_
                refine AOps.done ?_
                try simp only [c_7, c_8, List.length_nil, Int.natCast_zero, eq_self, decide_true, List.nil_append, List.take_nil, cond_true, cond_false, Bool.true_and, Bool.false_and, Bool.true_or, Bool.false_or, Bool.not_true, Bool.not_false] at hE1
                refine ⟨(false, [], i + 1), by (try dsimp only); omega, ⟨by (try dsimp only); omega, (by simp), by (try dsimp only) <;> (first | omega | (simp only [szsum_append, szsum, Nat.add_zero]; omega) | (have := szsum_take kept (kept.length - 1) 1; omega)), by (try dsimp only) <;> (first | omega | (simp only [List.length_append, List.length_cons, List.length_nil, List.length_take]; omega)), hE1⟩, ?_⟩
                exact ⟨[1000000], ⟨by decide, rfl, (FitsObjs.cons rfl FitsObjs.nil), (EntE.cons (Ent.c (by kernel_rfl) (by kernel_rfl)) (EntE.cons (Ent.c (by kernel_rfl) (by kernel_rfl)) (EntE.cons (Ent.c (by kernel_rfl) (by kernel_rfl)) EntE.nil)))⟩, keep0⟩
            · have k_7 : (x1 = (⟨#[]⟩ : ByteArray)) := of_decide_eq_true c_7
              refine Awp.cond (t := true) (by kernel_rfl) ?_
              refine Awp.skip ?_
              refine Awp.cond (t := true) (by kernel_rfl) ?_
              refine Awp.skip ?_
              refine Awp.region tabS_ok ?_
              refine AOps.sq (x := (AV.i .i64 ((i : Nat) : Int))) (by kernel_rfl) (Nat.le_of_ble_eq_true rfl) ?_
              refine AOps.sq (x := (AV.i .i64 ((i + 1 : Nat) : Int))) (g_addN (i := i) (m := 1) (by kernel_rfl) (by kernel_rfl) (by first | omega | (unfold LIM; omega) | (simp only [List.length_append, List.length_cons, List.length_nil, List.length_set, List.length_replicate, ByteArray.size_append, List.length_take, List.length_drop, LIM]; omega) | (simp [LIM]; done) | (simp [LIM]; omega))) (Nat.le_of_ble_eq_true rfl) ?_
              refine AOps.sq (x := (AV.i .i64 ((i + 1 : Nat) : Int))) (by kernel_rfl) (Nat.le_of_ble_eq_true rfl) ?_
              refine AOps.done ?_
              try simp only [c_7, List.length_nil, Int.natCast_zero, eq_self, decide_true, List.nil_append, List.take_nil, cond_true, cond_false, Bool.true_and, Bool.false_and, Bool.true_or, Bool.false_or, Bool.not_true, Bool.not_false] at hE1
              refine ⟨(false, [], i + 1), by (try dsimp only); omega, ⟨by (try dsimp only); omega, (by simp), by (try dsimp only) <;> (first | omega | (simp only [szsum_append, szsum, Nat.add_zero]; omega) | (have := szsum_take kept (kept.length - 1) 1; omega)), by (try dsimp only) <;> (first | omega | (simp only [List.length_append, List.length_cons, List.length_nil, List.length_take]; omega)), hE1⟩, ?_⟩
              exact ⟨[1000000], ⟨by decide, rfl, (FitsObjs.cons rfl FitsObjs.nil), (EntE.cons (Ent.c (by kernel_rfl) (by kernel_rfl)) (EntE.cons (Ent.c (by kernel_rfl) (by kernel_rfl)) (EntE.cons (Ent.c (by kernel_rfl) (by kernel_rfl)) EntE.nil)))⟩, keep0⟩
          · have hc1 : decide (((i : Nat) : Int) < (((m_ref1_split s' (47 : Int)).length : Nat) : Int)) = false := decide_eq_false (by omega)
            refine Awp.cond (t := false) (by rw [← hc1] <;> kernel_rfl) (Awp.exit ?_)
            rw [List.drop_eq_nil_of_le (hl1), m_ref1_CleanPath_L1.eq_1] at hE1
            subst hE1
            refine Awp.seq ?_
            refine Awp.seq ?_
            refine Awp.region tabS_ok ?_
            refine AOps.sq (x := (AV.sl 1 true [])) (by kernel_rfl) (Nat.le_of_ble_eq_true rfl) ?_
            refine AOps.sq (x := (AV.i .i64 (0 : Int))) (by kernel_rfl) (Nat.le_of_ble_eq_true rfl) ?_
            refine AOps.sq (x := (AV.b true)) (by kernel_rfl) (Nat.le_of_ble_eq_true rfl) ?_
            refine AOps.done ?_
            refine Awp.cond (t := true) (by kernel_rfl) ?_
            refine Awp.seq ?_
            refine Awp.region tabS_ok ?_
            refine AOps.sq (x := (AV.s (⟨#[]⟩ : ByteArray))) (by kernel_rfl) (Nat.le_of_ble_eq_true rfl) ?_
            refine AOps.sq (x := (AV.i .i64 (200 : Int))) (by kernel_rfl) (Nat.le_of_ble_eq_true rfl) ?_
            refine AOps.done ?_
            refine Awp.ret ?_
            have hM : m_ref1_CleanPath s' = ((⟨#[]⟩ : ByteArray), (200 : Int)) := by simp only [m_ref1_CleanPath, c_1, c_2, hR1, List.length_nil, Int.natCast_zero, eq_self, decide_true, List.nil_append, List.take_nil, cond_true, cond_false, Bool.true_and, Bool.false_and, Bool.true_or, Bool.false_or, Bool.not_true, Bool.not_false]
            refine ⟨Or.inr rfl, ?_⟩
            rw [hM]
            exact Ent.cast (x' := (AV.tup [(AV.s (⟨#[]⟩ : ByteArray)), (AV.i .i64 (200 : Int))])) (y' := (AV.tup [(AV.s (((⟨#[]⟩ : ByteArray), (200 : Int)).1)), (AV.i .i64 (((⟨#[]⟩ : ByteArray), (200 : Int)).2))])) (by kernel_rfl) (by kernel_rfl) (Ent.tup ⟨(Ent.c (by kernel_rfl) (by kernel_rfl)), ⟨(Ent.c (by kernel_rfl) (by kernel_rfl)), trivial⟩⟩ (by kernel_rfl))
        · try dsimp only
          refine Awp.seq ?_
          refine Awp.seq ?_
          refine Awp.region tabS_ok ?_
          refine AOps.sq (x := (AV.i .i64 ((i : Nat) : Int))) (by kernel_rfl) (Nat.le_of_ble_eq_true rfl) ?_
          refine AOps.sq (x := ((slA 1 AV.s) (m_ref1_split s' (47 : Int)))) (by kernel_rfl) (Nat.le_of_ble_eq_true rfl) ?_
          refine AOps.sq (x := (AV.i .i64 (((m_ref1_split s' (47 : Int)).length : Nat) : Int))) (g_len (k := 1) (nl := false) (e := 9) (A := AV.s) (xs := (m_ref1_split s' (47 : Int))) (by kernel_rfl) (by kernel_rfl)) (Nat.le_of_ble_eq_true rfl) ?_
          refine AOps.sq (x := (AV.b (decide (((i : Nat) : Int) < (((m_ref1_split s' (47 : Int)).length : Nat) : Int))))) (by kernel_rfl) (Nat.le_of_ble_eq_true rfl) ?_
          refine AOps.done ?_
          rcases Nat.lt_or_ge i (m_ref1_split s' (47 : Int)).length with hl1 | hl1
          · have hc1 : decide (((i : Nat) : Int) < (((m_ref1_split s' (47 : Int)).length : Nat) : Int)) = true := decide_eq_true (by omega)
            refine Awp.cond (t := true) (by rw [← hc1] <;> kernel_rfl) (Awp.skip ?_)
            obtain ⟨x1, hx1⟩ : ∃ x, (m_ref1_split s' (47 : Int))[i]? = some x := ⟨_, List.getElem?_eq_getElem hl1⟩
            rw [drop_at hx1, m_ref1_CleanPath_L1.eq_2] at hE1
            have hz1 := split_sz s' 47
            have hz2 := szsum_len kept
            rw [drop_at hx1] at hk
            simp only [szsum] at hk
            refine Awp.seq ?_
            refine Awp.block ?_
            refine Awp.seq ?_
            refine Awp.region tabS_ok ?_
            refine AOps.sq (x := ((slA 1 AV.s) (m_ref1_split s' (47 : Int)))) (by kernel_rfl) (Nat.le_of_ble_eq_true rfl) ?_
            refine AOps.sq (x := (AV.i .i64 ((i : Nat) : Int))) (by kernel_rfl) (Nat.le_of_ble_eq_true rfl) ?_
            refine AOps.sq (x := (AV.pt (AV.s x1).cells)) (g_idx (k := 1) (nl := false) (e := 9) (kk := .i64) (A := AV.s) (xs := (m_ref1_split s' (47 : Int))) (i := i) (by kernel_rfl) (by kernel_rfl) (by kernel_rfl) ⟨by kernel_rfl, by decide⟩ hx1) (Nat.le_of_ble_eq_true rfl) ?_
            refine AOps.sq (x := (AV.s x1)) (by kernel_rfl) (Nat.le_of_ble_eq_true rfl) ?_
            refine AOps.done ?_
            refine Awp.block ?_
            refine Awp.seq ?_
            refine Awp.seq ?_
            refine Awp.region tabS_ok ?_
            refine AOps.sq (x := (AV.b (decide (x1 = (⟨#[]⟩ : ByteArray))))) (by kernel_rfl) (Nat.le_of_ble_eq_true rfl) ?_
            refine AOps.sq (x := (AV.b (decide (x1 = (⟨#[]⟩ : ByteArray))))) (by kernel_rfl) (Nat.le_of_ble_eq_true rfl) ?_
            refine AOps.done ?_
            cases c_10 : decide (x1 = (⟨#[]⟩ : ByteArray))
            · have k_10 : ¬ (x1 = (⟨#[]⟩ : ByteArray)) := of_decide_eq_false c_10
              refine Awp.cond (t := false) (by kernel_rfl) ?_
              refine Awp.region tabS_ok ?_
              refine AOps.sq (x := (AV.b (decide (x1 = (⟨#[46]⟩ : ByteArray))))) (by kernel_rfl) (Nat.le_of_ble_eq_true rfl) ?_
              refine AOps.sq (x := (AV.b (decide (x1 = (⟨#[46]⟩ : ByteArray))))) (by kernel_rfl) (Nat.le_of_ble_eq_true rfl) ?_
              refine AOps.done ?_
              cases c_11 : decide (x1 = (⟨#[46]⟩ : ByteArray))
              · have k_11 : ¬ (x1 = (⟨#[46]⟩ : ByteArray)) := of_decide_eq_false c_11
                refine Awp.cond (t := false) (by kernel_rfl) ?_
                refine Awp.seq ?_
                refine Awp.region tabS_ok ?_
                refine AOps.sq (x := (AV.b (decide (x1 = (⟨#[46, 46]⟩ : ByteArray))))) (by kernel_rfl) (Nat.le_of_ble_eq_true rfl) ?_
                refine AOps.sq (x := (AV.b (decide (x1 = (⟨#[46, 46]⟩ : ByteArray))))) (by kernel_rfl) (Nat.le_of_ble_eq_true rfl) ?_
                refine AOps.done ?_
                cases c_12 : decide (x1 = (⟨#[46, 46]⟩ : ByteArray))
                · have k_12 : ¬ (x1 = (⟨#[46, 46]⟩ : ByteArray)) := of_decide_eq_false c_12
                  refine Awp.cond (t := false) (by kernel_rfl) ?_
                  refine Awp.region tabS_ok ?_
                  refine AOps.sq (x := (AV.own 0 0 kept.length)) (by kernel_rfl) (Nat.le_of_ble_eq_true rfl) ?_
                  refine AOps.sq (x := ((slA 1 AV.s) (m_ref1_split s' (47 : Int)))) (by kernel_rfl) (Nat.le_of_ble_eq_true rfl) ?_
                  refine AOps.sq (x := (AV.i .i64 ((i : Nat) : Int))) (by kernel_rfl) (Nat.le_of_ble_eq_true rfl) ?_
                  refine AOps.sq (x := (AV.pt (AV.s x1).cells)) (g_idx (k := 1) (nl := false) (e := 9) (kk := .i64) (A := AV.s) (xs := (m_ref1_split s' (47 : Int))) (i := i) (by kernel_rfl) (by kernel_rfl) (by kernel_rfl) ⟨by kernel_rfl, by decide⟩ hx1) (Nat.le_of_ble_eq_true rfl) ?_
                  refine AOps.sq (x := (AV.s x1)) (by kernel_rfl) (Nat.le_of_ble_eq_true rfl) ?_
                  refine AOps.sn (x := (AV.own 1 0 1)) (h' := ⟨2, [(1, some ⟨9, 1, [x1].map AV.s⟩), (0, some ⟨9, 1, kept.map AV.s⟩)]⟩) (by kernel_rfl) (Nat.le_of_ble_eq_true rfl) ?_
                  refine AOps.se (x := (AV.own 2 0 ((kept ++ [x1]).length))) (h' := ⟨3, [(2, some ⟨9, 1, (kept ++ [x1]).map AV.s⟩), (1, some ⟨9, 1, [x1].map AV.s⟩), (0, none)]⟩) (g_appR (len := kept.length) (e := 9) (X := (AV.own 1 0 1)) (A := AV.s) (i := tI_9) (p := 0) (xs := kept) (ys := [x1]) (by kernel_rfl) (by kernel_rfl) (by kernel_rfl) (hx := (by kernel_rfl)) (by kernel_rfl) ⟨by decide, by kernel_rfl⟩ rfl rfl (by show _ * 16 ≤ 140737488355328; first | omega | (simp only [List.length_append, List.length_cons, List.length_nil, List.length_set, List.length_replicate]; omega) | (simp; omega)) (by first | omega | (unfold LIM; omega) | (simp only [List.length_append, List.length_cons, List.length_nil, List.length_set, List.length_replicate, ByteArray.size_append, List.length_take, List.length_drop, LIM]; omega) | (simp [LIM]; done) | (simp [LIM]; omega))) (Nat.le_of_ble_eq_true rfl) ?_
                  refine AOps.sq (x := (AV.own 2 0 ((kept ++ [x1]).length))) (by kernel_rfl) (Nat.le_of_ble_eq_true rfl) ?_
                  refine AOps.done ?_
                  refine Awp.region tabS_ok ?_
                  refine AOps.sq (x := (AV.i .i64 ((i : Nat) : Int))) (by kernel_rfl) (Nat.le_of_ble_eq_true rfl) ?_
                  refine AOps.sq (x := (AV.i .i64 ((i + 1 : Nat) : Int))) (g_addN (i := i) (m := 1) (by kernel_rfl) (by kernel_rfl) (by first | omega | (unfold LIM; omega) | (simp only [List.length_append, List.length_cons, List.length_nil, List.length_set, List.length_replicate, ByteArray.size_append, List.length_take, List.length_drop, LIM]; omega) | (simp [LIM]; done) | (simp [LIM]; omega))) (Nat.le_of_ble_eq_true rfl) ?_
                  refine AOps.sq (x := (AV.i .i64 ((i + 1 : Nat) : Int))) (by kernel_rfl) (Nat.le_of_ble_eq_true rfl) ?_
                  refine AOps.done ?_
                  try simp only [c_10, c_11, c_12, List.length_nil, Int.natCast_zero, eq_self, decide_true, List.nil_append, List.take_nil, cond_true, cond_false, Bool.true_and, Bool.false_and, Bool.true_or, Bool.false_or, Bool.not_true, Bool.not_false] at hE1
                  refine ⟨(true, (kept ++ [x1]), i + 1), by (try dsimp only); omega, ⟨by (try dsimp only); omega, (by simp), by (try dsimp only) <;> (first | omega | (simp only [szsum_append, szsum, Nat.add_zero]; omega) | (have := szsum_take kept (kept.length - 1) 1; omega)), by (try dsimp only) <;> (first | omega | (simp only [List.length_append, List.length_cons, List.length_nil, List.length_take]; omega)), hE1⟩, ?_⟩
                  exact ⟨[2], ⟨by decide, rfl, (FitsObjs.cons (obj_row (fun _ => rfl) (e := 9) (k := 1) (A := AV.s) (xs := (kept ++ [x1])) rfl rfl) FitsObjs.nil), (EntE.cons (Ent.c (by kernel_rfl) (by kernel_rfl)) (EntE.cons (ent_keepO (by decide) rfl) (EntE.cons (Ent.c (by kernel_rfl) (by kernel_rfl)) EntE.nil)))⟩, keep0⟩
                · have k_12 : (x1 = (⟨#[46, 46]⟩ : ByteArray)) := of_decide_eq_true c_12
                  refine Awp.cond (t := true) (by kernel_rfl) ?_
                  refine Awp.seq ?_
                  refine Awp.seq ?_
                  refine Awp.region tabS_ok ?_
                  refine AOps.sq (x := (AV.own 0 0 kept.length)) (by kernel_rfl) (Nat.le_of_ble_eq_true rfl) ?_
                  refine AOps.sq (x := (AV.i .i64 ((kept.length : Nat) : Int))) (by kernel_rfl) (Nat.le_of_ble_eq_true rfl) ?_
                  refine AOps.sq (x := (AV.b (decide (((kept.length : Nat) : Int) = (0 : Int))))) (by kernel_rfl) (Nat.le_of_ble_eq_true rfl) ?_
                  refine AOps.done ?_
                  cases c_13 : decide (((kept.length : Nat) : Int) = (0 : Int))
                  · have k_13 : ¬ (((kept.length : Nat) : Int) = (0 : Int)) := of_decide_eq_false c_13
                    refine Awp.cond (t := false) (by kernel_rfl) ?_
                    refine Awp.skip ?_
                    refine Awp.region tabS_ok ?_
                    refine AOps.sq (x := (AV.own 0 0 kept.length)) (by kernel_rfl) (Nat.le_of_ble_eq_true rfl) ?_
                    refine AOps.sq (x := (AV.own 0 0 kept.length)) (by kernel_rfl) (Nat.le_of_ble_eq_true rfl) ?_
                    refine AOps.sq (x := (AV.i .i64 ((kept.length : Nat) : Int))) (by kernel_rfl) (Nat.le_of_ble_eq_true rfl) ?_
                    refine AOps.sq (x := (AV.i .i64 ((kept.length - 1 : Nat) : Int))) (g_subN (i := kept.length) (m := 1) (by kernel_rfl) (by kernel_rfl) (by first | omega | (unfold LIM; omega) | (simp only [List.length_append, List.length_cons, List.length_nil, List.length_set, List.length_replicate, ByteArray.size_append, List.length_take, List.length_drop, LIM]; omega) | (simp [LIM]; done) | (simp [LIM]; omega)) (by first | omega | (unfold LIM; omega) | (simp only [List.length_append, List.length_cons, List.length_nil, List.length_set, List.length_replicate, ByteArray.size_append, List.length_take, List.length_drop, LIM]; omega) | (simp [LIM]; done) | (simp [LIM]; omega))) (Nat.le_of_ble_eq_true rfl) ?_
                    refine AOps.sq (x := (AV.own 0 0 (kept.length - 1))) (g_cutO (e := 9) (id := 0) (len := kept.length) (ob := ⟨9, 1, kept.map AV.s⟩) (l := none) (g := (some ((kept.length - 1 : Nat) : Int))) (b := kept.length - 1) (by kernel_rfl) (by kernel_rfl) (by kernel_rfl) (by kernel_rfl) (by kernel_rfl) (by kernel_rfl) rfl rfl (by simp only [List.length_map]; omega)) (Nat.le_of_ble_eq_true rfl) ?_
                    refine AOps.sq (x := (AV.own 0 0 (kept.length - 1))) (by kernel_rfl) (Nat.le_of_ble_eq_true rfl) ?_
                    refine AOps.done ?_
                    refine Awp.region tabS_ok ?_
                    refine AOps.sq (x := (AV.i .i64 ((i : Nat) : Int))) (by kernel_rfl) (Nat.le_of_ble_eq_true rfl) ?_
                    refine AOps.sq (x := (AV.i .i64 ((i + 1 : Nat) : Int))) (g_addN (i := i) (m := 1) (by kernel_rfl) (by kernel_rfl) (by first | omega | (unfold LIM; omega) | (simp only [List.length_append, List.length_cons, List.length_nil, List.length_set, List.length_replicate, ByteArray.size_append, List.length_take, List.length_drop, LIM]; omega) | (simp [LIM]; done) | (simp [LIM]; omega))) (Nat.le_of_ble_eq_true rfl) ?_
                    refine AOps.sq (x := (AV.i .i64 ((i + 1 : Nat) : Int))) (by kernel_rfl) (Nat.le_of_ble_eq_true rfl) ?_
                    refine AOps.done ?_
                    try simp only [c_10, c_11, c_12, c_13, List.length_nil, Int.natCast_zero, eq_self, decide_true, List.nil_append, List.take_nil, cond_true, cond_false, Bool.true_and, Bool.false_and, Bool.true_or, Bool.false_or, Bool.not_true, Bool.not_false] at hE1
                    refine ⟨(true, (kept.take (kept.length - 1)), i + 1), by (try dsimp only); omega, ⟨by (try dsimp only); omega, (by simp), by (try dsimp only) <;> (first | omega | (simp only [szsum_append, szsum, Nat.add_zero]; omega) | (have := szsum_take kept (kept.length - 1) 1; omega)), by (try dsimp only) <;> (first | omega | (simp only [List.length_append, List.length_cons, List.length_nil, List.length_take]; omega)), hE1⟩, ?_⟩
                    exact ⟨[0], ⟨by decide, rfl, (FitsObjs.consW (obj_pre (fun _ => rfl) (fun _ => rfl) (e := 9) (k := 1) (A := AV.s) (xs := kept) (ys := (kept.take (kept.length - 1))) (take_pre _ _) rfl rfl) FitsObjs.nil), (EntE.cons (Ent.c (by kernel_rfl) (by kernel_rfl)) (EntE.cons (ent_keepO (by decide) (by simp)) (EntE.cons (Ent.c (by kernel_rfl) (by kernel_rfl)) EntE.nil)))⟩, keep0⟩
                  · have k_13 : (((kept.length : Nat) : Int) = (0 : Int)) := of_decide_eq_true c_13
                    refine Awp.cond (t := true) (by kernel_rfl) ?_
                    refine Awp.seq ?_
                    refine Awp.region tabS_ok ?_
                    refine AOps.sq (x := (AV.s (⟨#[]⟩ : ByteArray))) (by kernel_rfl) (Nat.le_of_ble_eq_true rfl) ?_
                    refine AOps.sq (x := (AV.i .i64 (200 : Int))) (by kernel_rfl) (Nat.le_of_ble_eq_true rfl) ?_
                    refine AOps.done ?_
                    refine Awp.ret ?_
                    try simp only [c_10, c_11, c_12, c_13, List.length_nil, Int.natCast_zero, eq_self, decide_true, List.nil_append, List.take_nil, cond_true, cond_false, Bool.true_and, Bool.false_and, Bool.true_or, Bool.false_or, Bool.not_true, Bool.not_false] at hE1
                    subst hE1
                    have hM : m_ref1_CleanPath s' = ((⟨#[]⟩ : ByteArray), (200 : Int)) := by simp only [m_ref1_CleanPath, c_1, c_2, hR1, List.length_nil, Int.natCast_zero, eq_self, decide_true, List.nil_append, List.take_nil, cond_true, cond_false, Bool.true_and, Bool.false_and, Bool.true_or, Bool.false_or, Bool.not_true, Bool.not_false]
                    refine ⟨Or.inr rfl, ?_⟩
                    rw [hM]
                    exact Ent.cast (x' := (AV.tup [(AV.s (⟨#[]⟩ : ByteArray)), (AV.i .i64 (200 : Int))])) (y' := (AV.tup [(AV.s (((⟨#[]⟩ : ByteArray), (200 : Int)).1)), (AV.i .i64 (((⟨#[]⟩ : ByteArray), (200 : Int)).2))])) (by kernel_rfl) (by kernel_rfl) (Ent.tup ⟨(Ent.c (by kernel_rfl) (by kernel_rfl)), ⟨(Ent.c (by kernel_rfl) (by kernel_rfl)), trivial⟩⟩ (by kernel_rfl))
              · have k_11 : (x1 = (⟨#[46]⟩ : ByteArray)) := of_decide_eq_true c_11
                refine Awp.cond (t := true) (by kernel_rfl) ?_
                refine Awp.skip ?_
                refine Awp.region tabS_ok ?_
                refine AOps.sq (x := (AV.i .i64 ((i : Nat) : Int))) (by kernel_rfl) (Nat.le_of_ble_eq_true rfl) ?_
                refine AOps.sq (x := (AV.i .i64 ((i + 1 : Nat) : Int))) (g_addN (i := i) (m := 1) (by kernel_rfl) (by kernel_rfl) (by first | omega | (unfold LIM; omega) | (simp only [List.length_append, List.length_cons, List.length_nil, List.length_set, List.length_replicate, ByteArray.size_append, List.length_take, List.length_drop, LIM]; omega) | (simp [LIM]; done) | (simp [LIM]; omega))) (Nat.le_of_ble_eq_true rfl) ?_
                refine AOps.sq (x := (AV.i .i64 ((i + 1 : Nat) : Int))) (by kernel_rfl) (Nat.le_of_ble_eq_true rfl) ?_
                refine AOps.done ?_
                try simp only [c_10, c_11, List.length_nil, Int.natCast_zero, eq_self, decide_true, List.nil_append, List.take_nil, cond_true, cond_false, Bool.true_and, Bool.false_and, Bool.true_or, Bool.false_or, Bool.not_true, Bool.not_false] at hE1
                refine ⟨(true, kept, i + 1), by (try dsimp only); omega, ⟨by (try dsimp only); omega, (by simp), by (try dsimp only) <;> (first | omega | (simp only [szsum_append, szsum, Nat.add_zero]; omega) | (have := szsum_take kept (kept.length - 1) 1; omega)), by (try dsimp only) <;> (first | omega | (simp only [List.length_append, List.length_cons, List.length_nil, List.length_take]; omega)), hE1⟩, ?_⟩
                exact ⟨[0], ⟨by decide, rfl, (FitsObjs.cons (obj_row (fun _ => rfl) (e := 9) (k := 1) (A := AV.s) (xs := kept) rfl rfl) FitsObjs.nil), (EntE.cons (Ent.c (by kernel_rfl) (by kernel_rfl)) (EntE.cons (ent_keepO (by decide) rfl) (EntE.cons (Ent.c (by kernel_rfl) (by kernel_rfl)) EntE.nil)))⟩, keep0⟩
            · have k_10 : (x1 = (⟨#[]⟩ : ByteArray)) := of_decide_eq_true c_10
              refine Awp.cond (t := true) (by kernel_rfl) ?_
              refine Awp.skip ?_
              refine Awp.cond (t := true) (by kernel_rfl) ?_
              refine Awp.skip ?_
              refine Awp.region tabS_ok ?_
              refine AOps.sq (x := (AV.i .i64 ((i : Nat) : Int))) (by kernel_rfl) (Nat.le_of_ble_eq_true rfl) ?_
              refine AOps.sq (x := (AV.i .i64 ((i + 1 : Nat) : Int))) (g_addN (i := i) (m := 1) (by kernel_rfl) (by kernel_rfl) (by first | omega | (unfold LIM; omega) | (simp only [List.length_append, List.length_cons, List.length_nil, List.length_set, List.length_replicate, ByteArray.size_append, List.length_take, List.length_drop, LIM]; omega) | (simp [LIM]; done) | (simp [LIM]; omega))) (Nat.le_of_ble_eq_true rfl) ?_
              refine AOps.sq (x := (AV.i .i64 ((i + 1 : Nat) : Int))) (by kernel_rfl) (Nat.le_of_ble_eq_true rfl) ?_
              refine AOps.done ?_
              try simp only [c_10, List.length_nil, Int.natCast_zero, eq_self, decide_true, List.nil_append, List.take_nil, cond_true, cond_false, Bool.true_and, Bool.false_and, Bool.true_or, Bool.false_or, Bool.not_true, Bool.not_false] at hE1
              refine ⟨(true, kept, i + 1), by (try dsimp only); omega, ⟨by (try dsimp only); omega, (by simp), by (try dsimp only) <;> (first | omega | (simp only [szsum_append, szsum, Nat.add_zero]; omega) | (have := szsum_take kept (kept.length - 1) 1; omega)), by (try dsimp only) <;> (first | omega | (simp only [List.length_append, List.length_cons, List.length_nil, List.length_take]; omega)), hE1⟩, ?_⟩
              exact ⟨[0], ⟨by decide, rfl, (FitsObjs.cons (obj_row (fun _ => rfl) (e := 9) (k := 1) (A := AV.s) (xs := kept) rfl rfl) FitsObjs.nil), (EntE.cons (Ent.c (by kernel_rfl) (by kernel_rfl)) (EntE.cons (ent_keepO (by decide) rfl) (EntE.cons (Ent.c (by kernel_rfl) (by kernel_rfl)) EntE.nil)))⟩, keep0⟩
          · have hc1 : decide (((i : Nat) : Int) < (((m_ref1_split s' (47 : Int)).length : Nat) : Int)) = false := decide_eq_false (by omega)
            refine Awp.cond (t := false) (by rw [← hc1] <;> kernel_rfl) (Awp.exit ?_)
            rw [List.drop_eq_nil_of_le (hl1), m_ref1_CleanPath_L1.eq_1] at hE1
            subst hE1
            refine Awp.seq ?_
            refine Awp.seq ?_
            refine Awp.region tabS_ok ?_
            refine AOps.sq (x := (AV.own 0 0 kept.length)) (by kernel_rfl) (Nat.le_of_ble_eq_true rfl) ?_
            refine AOps.sq (x := (AV.i .i64 ((kept.length : Nat) : Int))) (by kernel_rfl) (Nat.le_of_ble_eq_true rfl) ?_
            refine AOps.sq (x := (AV.b (decide (((kept.length : Nat) : Int) = (0 : Int))))) (by kernel_rfl) (Nat.le_of_ble_eq_true rfl) ?_
            refine AOps.done ?_
            cases c_14 : decide (((kept.length : Nat) : Int) = (0 : Int))
            · have k_14 : ¬ (((kept.length : Nat) : Int) = (0 : Int)) := of_decide_eq_false c_14
              refine Awp.cond (t := false) (by kernel_rfl) ?_
              refine Awp.skip ?_
              refine Awp.seq ?_
              refine Awp.region tabS_ok ?_
              refine AOps.sq (x := (AV.own 0 0 kept.length)) (by kernel_rfl) (Nat.le_of_ble_eq_true rfl) ?_
              refine AOps.sfw (vs := [(AV.own 0 0 kept.length), (AV.s (⟨#[47]⟩ : ByteArray))]) (ss := [((slA 1 AV.s) kept), (AV.s (⟨#[47]⟩ : ByteArray))]) (r0 := (AV.s (m_ref1_Join kept (⟨#[47]⟩ : ByteArray)))) (by kernel_rfl) (show SnapW _ _ _ from ⟨(SnapW.e (snapC_row (fun _ => rfl) (A := AV.s) (e := 9) (k := 1) (xs := kept) rfl rfl (by first | omega | (unfold LIM; omega) | (simp only [List.length_append, List.length_cons, List.length_nil, List.length_set, List.length_replicate, ByteArray.size_append, List.length_take, List.length_drop, LIM]; omega) | (simp [LIM]; done) | (simp [LIM]; omega)))), ⟨(SnapW.e (by kernel_rfl)), trivial⟩⟩) (w_ref1_Join W kept (⟨#[47]⟩ : ByteArray) (split_join (by omega) hk)) rfl (by kernel_rfl) (Nat.le_of_ble_eq_true rfl) ?_
              refine AOps.sq (x := (AV.s (m_ref1_Join kept (⟨#[47]⟩ : ByteArray)))) (by kernel_rfl) (Nat.le_of_ble_eq_true rfl) ?_
              refine AOps.sq (x := (AV.i .i64 (0 : Int))) (by kernel_rfl) (Nat.le_of_ble_eq_true rfl) ?_
              refine AOps.done ?_
              refine Awp.ret ?_
              have hM : m_ref1_CleanPath s' = ((m_ref1_Join kept (⟨#[47]⟩ : ByteArray)), (0 : Int)) := by simp only [m_ref1_CleanPath, c_1, c_2, hR1, c_14, List.length_nil, Int.natCast_zero, eq_self, decide_true, List.nil_append, List.take_nil, cond_true, cond_false, Bool.true_and, Bool.false_and, Bool.true_or, Bool.false_or, Bool.not_true, Bool.not_false]
              refine ⟨Or.inr rfl, ?_⟩
              rw [hM]
              exact Ent.cast (x' := (AV.tup [(AV.s (m_ref1_Join kept (⟨#[47]⟩ : ByteArray))), (AV.i .i64 (0 : Int))])) (y' := (AV.tup [(AV.s (((m_ref1_Join kept (⟨#[47]⟩ : ByteArray)), (0 : Int)).1)), (AV.i .i64 (((m_ref1_Join kept (⟨#[47]⟩ : ByteArray)), (0 : Int)).2))])) (by kernel_rfl) (by kernel_rfl) (Ent.tup ⟨(Ent.c (by kernel_rfl) (by kernel_rfl)), ⟨(Ent.c (by kernel_rfl) (by kernel_rfl)), trivial⟩⟩ (by kernel_rfl))
            · have k_14 : (((kept.length : Nat) : Int) = (0 : Int)) := of_decide_eq_true c_14
              refine Awp.cond (t := true) (by kernel_rfl) ?_
              refine Awp.seq ?_
              refine Awp.region tabS_ok ?_
              refine AOps.sq (x := (AV.s (⟨#[]⟩ : ByteArray))) (by kernel_rfl) (Nat.le_of_ble_eq_true rfl) ?_
              refine AOps.sq (x := (AV.i .i64 (200 : Int))) (by kernel_rfl) (Nat.le_of_ble_eq_true rfl) ?_
              refine AOps.done ?_
              refine Awp.ret ?_
              have hM : m_ref1_CleanPath s' = ((⟨#[]⟩ : ByteArray), (200 : Int)) := by simp only [m_ref1_CleanPath, c_1, c_2, hR1, c_14, List.length_nil, Int.natCast_zero, eq_self, decide_true, List.nil_append, List.take_nil, cond_true, cond_false, Bool.true_and, Bool.false_and, Bool.true_or, Bool.false_or, Bool.not_true, Bool.not_false]
              refine ⟨Or.inr rfl, ?_⟩
              rw [hM]
              exact Ent.cast (x' := (AV.tup [(AV.s (⟨#[]⟩ : ByteArray)), (AV.i .i64 (200 : Int))])) (y' := (AV.tup [(AV.s (((⟨#[]⟩ : ByteArray), (200 : Int)).1)), (AV.i .i64 (((⟨#[]⟩ : ByteArray), (200 : Int)).2))])) (by kernel_rfl) (by kernel_rfl) (Ent.tup ⟨(Ent.c (by kernel_rfl) (by kernel_rfl)), ⟨(Ent.c (by kernel_rfl) (by kernel_rfl)), trivial⟩⟩ (by kernel_rfl))
    · have k_2 : (((s'.data.getD 0 0).toNat : Int) = (47 : Int)) := of_decide_eq_true c_2
      refine Awp.cond (t := true) (by kernel_rfl) ?_
      refine Awp.seq ?_
      refine Awp.region tabS_ok ?_
      refine AOps.sq (x := (AV.s (⟨#[]⟩ : ByteArray))) (by kernel_rfl) (Nat.le_of_ble_eq_true rfl) ?_
      refine AOps.sq (x := (AV.i .i64 (200 : Int))) (by kernel_rfl) (Nat.le_of_ble_eq_true rfl) ?_
      refine AOps.done ?_
      refine Awp.ret ?_
      have hM : m_ref1_CleanPath s' = ((⟨#[]⟩ : ByteArray), (200 : Int)) := by simp only [m_ref1_CleanPath, c_1, c_2, List.length_nil, Int.natCast_zero, eq_self, decide_true, List.nil_append, List.take_nil, cond_true, cond_false, Bool.true_and, Bool.false_and, Bool.true_or, Bool.false_or, Bool.not_true, Bool.not_false]
      refine ⟨Or.inr rfl, ?_⟩
      rw [hM]
      exact Ent.cast (x' := (AV.tup [(AV.s (⟨#[]⟩ : ByteArray)), (AV.i .i64 (200 : Int))])) (y' := (AV.tup [(AV.s (((⟨#[]⟩ : ByteArray), (200 : Int)).1)), (AV.i .i64 (((⟨#[]⟩ : ByteArray), (200 : Int)).2))])) (by kernel_rfl) (by kernel_rfl) (Ent.tup ⟨(Ent.c (by kernel_rfl) (by kernel_rfl)), ⟨(Ent.c (by kernel_rfl) (by kernel_rfl)), trivial⟩⟩ (by kernel_rfl))
  · refine AOps.sgn rfl rfl (by kernel_rfl) rfl (Nat.le_of_ble_eq_true rfl) ?_
    refine AOps.sgn rfl rfl (by kernel_rfl) rfl (Nat.le_of_ble_eq_true rfl) ?_
    refine AOps.sgn rfl rfl (by kernel_rfl) rfl (Nat.le_of_ble_eq_true rfl) ?_
    refine AOps.sq (x := (AV.b true)) (by kernel_rfl) (Nat.le_of_ble_eq_true rfl) ?_
    refine AOps.done ?_
    refine Awp.cond (t := true) (by kernel_rfl) ?_
    refine Awp.seq ?_
    refine Awp.region tabS_ok ?_
    refine AOps.sq (x := (AV.s (⟨#[]⟩ : ByteArray))) (by kernel_rfl) (Nat.le_of_ble_eq_true rfl) ?_
    refine AOps.sq (x := (AV.i .i64 (200 : Int))) (by kernel_rfl) (Nat.le_of_ble_eq_true rfl) ?_
    refine AOps.done ?_
    refine Awp.ret ?_
    have hM : m_ref1_CleanPath s' = ((⟨#[]⟩ : ByteArray), (200 : Int)) := by simp only [m_ref1_CleanPath, c_1, List.length_nil, Int.natCast_zero, eq_self, decide_true, List.nil_append, List.take_nil, cond_true, cond_false, Bool.true_and, Bool.false_and, Bool.true_or, Bool.false_or, Bool.not_true, Bool.not_false]
    refine ⟨Or.inr rfl, ?_⟩
    rw [hM]
    exact Ent.cast (x' := (AV.tup [(AV.s (⟨#[]⟩ : ByteArray)), (AV.i .i64 (200 : Int))])) (y' := (AV.tup [(AV.s (((⟨#[]⟩ : ByteArray), (200 : Int)).1)), (AV.i .i64 (((⟨#[]⟩ : ByteArray), (200 : Int)).2))])) (by kernel_rfl) (by kernel_rfl) (Ent.tup ⟨(Ent.c (by kernel_rfl) (by kernel_rfl)), ⟨(Ent.c (by kernel_rfl) (by kernel_rfl)), trivial⟩⟩ (by kernel_rfl))

theorem w_ref1_PathMay (W : World) (s' : ByteArray) : PureAt Go.Proofs.Tryd.prog W 29 [(AV.s s')] (AV.b (m_ref1_PathMay s')) [] := by
  refine pure_of_bodyC (fn := Go.Proofs.Tryd.f29) Go.Proofs.Tryd.func29 rfl (en29 W) (ts := [2]) rfl (Nat.le_of_ble_eq_true rfl) ?_
  refine Awp.seq ?_
  refine Awp.region tabS_ok ?_
  refine AOps.sq (x := (AV.b false)) (by kernel_rfl) (Nat.le_of_ble_eq_true rfl) ?_
  refine AOps.done ?_
  refine Awp.seq ?_
  refine Awp.region tabS_ok ?_
  refine AOps.sq (x := (AV.s s')) (by kernel_rfl) (Nat.le_of_ble_eq_true rfl) ?_
  refine AOps.sc0 (vs := [(AV.s s')]) (r0 := (AV.tup [(AV.s ((m_ref1_CleanPath s').1)), (AV.i .i64 ((m_ref1_CleanPath s').2))])) (by kernel_rfl) (by kernel_rfl) (w_ref1_CleanPath W s') (by kernel_rfl) (Nat.le_of_ble_eq_true rfl) ?_
  refine AOps.sq (x := (AV.tup [(AV.s ((m_ref1_CleanPath s').1)), (AV.i .i64 ((m_ref1_CleanPath s').2))])) (by kernel_rfl) (Nat.le_of_ble_eq_true rfl) ?_
  refine AOps.sq (x := (AV.s ((m_ref1_CleanPath s').1))) (by kernel_rfl) (Nat.le_of_ble_eq_true rfl) ?_
  refine AOps.sq (x := (AV.i .i64 ((m_ref1_CleanPath s').2))) (by kernel_rfl) (Nat.le_of_ble_eq_true rfl) ?_
  refine AOps.sq (x := (AV.s ((m_ref1_CleanPath s').1))) (by kernel_rfl) (Nat.le_of_ble_eq_true rfl) ?_
  refine AOps.sq (x := (AV.i .i64 ((m_ref1_CleanPath s').2))) (by kernel_rfl) (Nat.le_of_ble_eq_true rfl) ?_
  refine AOps.done ?_
  refine Awp.seq ?_
  refine Awp.region tabS_ok ?_
  refine AOps.sq (x := (AV.i .i64 ((m_ref1_CleanPath s').2))) (by kernel_rfl) (Nat.le_of_ble_eq_true rfl) ?_
  refine AOps.sq (x := (AV.b (decide ((m_ref1_CleanPath s').2 = (0 : Int))))) (by kernel_rfl) (Nat.le_of_ble_eq_true rfl) ?_
  refine AOps.sq (x := (AV.b (decide ((m_ref1_CleanPath s').2 = (0 : Int))))) (by kernel_rfl) (Nat.le_of_ble_eq_true rfl) ?_
  cases c_1 : decide ((m_ref1_CleanPath s').2 = (0 : Int))
  · have k_1 : ¬ ((m_ref1_CleanPath s').2 = (0 : Int)) := of_decide_eq_false c_1
    refine AOps.sgn rfl rfl (by kernel_rfl) rfl (Nat.le_of_ble_eq_true rfl) ?_
    refine AOps.sgn rfl rfl (by kernel_rfl) rfl (Nat.le_of_ble_eq_true rfl) ?_
    refine AOps.sgn rfl rfl (by kernel_rfl) rfl (Nat.le_of_ble_eq_true rfl) ?_
    refine AOps.sq (x := (AV.b false)) (by kernel_rfl) (Nat.le_of_ble_eq_true rfl) ?_
    refine AOps.sq (x := (AV.b false)) (by kernel_rfl) (Nat.le_of_ble_eq_true rfl) ?_
    refine AOps.done ?_
    refine Awp.ret ?_
    have hM : m_ref1_PathMay s' = false := by simp only [m_ref1_PathMay, c_1, List.length_nil, Int.natCast_zero, eq_self, decide_true, List.nil_append, List.take_nil, cond_true, cond_false, Bool.true_and, Bool.false_and, Bool.true_or, Bool.false_or, Bool.not_true, Bool.not_false]
    refine ⟨Or.inr rfl, ?_⟩
    rw [hM]
    exact Ent.cast (x' := (AV.b false)) (y' := (AV.b false)) (by kernel_rfl) (by kernel_rfl) (Ent.c (by kernel_rfl) (by kernel_rfl))
  · have k_1 : ((m_ref1_CleanPath s').2 = (0 : Int)) := of_decide_eq_true c_1
    refine AOps.sgy rfl rfl (by kernel_rfl) rfl ?_
    refine AOps.sq (x := (AV.s ((m_ref1_CleanPath s').1))) (by kernel_rfl) (Nat.le_of_ble_eq_true rfl) ?_
    refine AOps.sgy rfl rfl (by kernel_rfl) rfl ?_
    refine AOps.sq (x := (AV.s s')) (by kernel_rfl) (Nat.le_of_ble_eq_true rfl) ?_
    refine AOps.sgy rfl rfl (by kernel_rfl) rfl ?_
    refine AOps.sq (x := (AV.b (decide ((m_ref1_CleanPath s').1 = s')))) (by kernel_rfl) (Nat.le_of_ble_eq_true rfl) ?_
    refine AOps.sq (x := (AV.b (decide ((m_ref1_CleanPath s').1 = s')))) (by kernel_rfl) (Nat.le_of_ble_eq_true rfl) ?_
    refine AOps.sq (x := (AV.b (decide ((m_ref1_CleanPath s').1 = s')))) (by kernel_rfl) (Nat.le_of_ble_eq_true rfl) ?_
    refine AOps.done ?_
    refine Awp.ret ?_
    have hM : m_ref1_PathMay s' = decide ((m_ref1_CleanPath s').1 = s') := by simp only [m_ref1_PathMay, c_1, List.length_nil, Int.natCast_zero, eq_self, decide_true, List.nil_append, List.take_nil, cond_true, cond_false, Bool.true_and, Bool.false_and, Bool.true_or, Bool.false_or, Bool.not_true, Bool.not_false]
    refine ⟨Or.inr rfl, ?_⟩
    rw [hM]
    exact Ent.cast (x' := (AV.b (decide ((m_ref1_CleanPath s').1 = s')))) (y' := (AV.b (decide ((m_ref1_CleanPath s').1 = s')))) (by kernel_rfl) (by kernel_rfl) (Ent.c (by kernel_rfl) (by kernel_rfl))

theorem w_ref1_PathsMay (W : World) (xs : List ByteArray) : PureAt Go.Proofs.Tryd.prog W 65 [((slA 1 AV.s) xs)] (AV.b (m_ref1_PathsMay xs)) [] := by
  refine pure_of_bodyC (fn := Go.Proofs.Tryd.f65) Go.Proofs.Tryd.func65 rfl (en65 W) (ts := [2]) rfl (Nat.le_of_ble_eq_true rfl) ?_
  refine Awp.seq ?_
  refine Awp.region tabS_ok ?_
  refine AOps.sq (x := (AV.b false)) (by kernel_rfl) (Nat.le_of_ble_eq_true rfl) ?_
  refine AOps.done ?_
  refine Awp.seq ?_
  refine Awp.seq ?_
  refine Awp.region tabS_ok ?_
  refine AOps.sq (x := (AV.i .i64 (0 : Int))) (by kernel_rfl) (Nat.le_of_ble_eq_true rfl) ?_
  refine AOps.done ?_
  refine Awp.block ?_
  refine Awp.lim 0 (x := ((slA 1 AV.s) xs)) (by kernel_rfl) fun hlm1 => ?_
  have hB1 : xs.length ≤ 281474976710656 := lim_slA hlm1
  obtain ⟨R1, hR1⟩ : ∃ R, m_ref1_PathsMay_L1 xs 0 = R := ⟨_, rfl⟩
  refine Awp.loopT (fun (i : Nat) => [(0, ((slA 1 AV.s) xs)), (3, (AV.i .i64 ((i : Nat) : Int)))]) (fun (i : Nat) => ⟨0, []⟩) (fun (i : Nat) => i ≤ xs.length ∧ m_ref1_PathsMay_L1 (xs.drop i) i = R1) (fun (i : Nat) => xs.length - i) 0 ?_ ?_ ?_
  · exact ⟨[], ⟨by decide, rfl, FitsObjs.nil, (EntE.cons (Ent.c (by kernel_rfl) (by kernel_rfl)) (EntE.cons (Ent.c (by kernel_rfl) (by kernel_rfl)) EntE.nil))⟩, keep0⟩
  · exact ⟨by (try dsimp only); omega, hR1⟩
  · rintro i ⟨hi1, hE1⟩
    try dsimp only
    refine Awp.seq ?_
    refine Awp.seq ?_
    refine Awp.region tabS_ok ?_
    refine AOps.sq (x := (AV.i .i64 ((i : Nat) : Int))) (by kernel_rfl) (Nat.le_of_ble_eq_true rfl) ?_
    refine AOps.sq (x := ((slA 1 AV.s) xs)) (by kernel_rfl) (Nat.le_of_ble_eq_true rfl) ?_
    refine AOps.sq (x := (AV.i .i64 ((xs.length : Nat) : Int))) (g_len (k := 1) (nl := false) (e := 9) (A := AV.s) (xs := xs) (by kernel_rfl) (by kernel_rfl)) (Nat.le_of_ble_eq_true rfl) ?_
    refine AOps.sq (x := (AV.b (decide (((i : Nat) : Int) < ((xs.length : Nat) : Int))))) (by kernel_rfl) (Nat.le_of_ble_eq_true rfl) ?_
    refine AOps.done ?_
    rcases Nat.lt_or_ge i xs.length with hl1 | hl1
    · have hc1 : decide (((i : Nat) : Int) < ((xs.length : Nat) : Int)) = true := decide_eq_true (by omega)
      refine Awp.cond (t := true) (by rw [← hc1] <;> kernel_rfl) (Awp.skip ?_)
      obtain ⟨x1, hx1⟩ : ∃ x, xs[i]? = some x := ⟨_, List.getElem?_eq_getElem hl1⟩
      rw [drop_at hx1, m_ref1_PathsMay_L1.eq_2] at hE1
      refine Awp.seq ?_
      refine Awp.block ?_
      refine Awp.seq ?_
      refine Awp.region tabS_ok ?_
      refine AOps.sq (x := ((slA 1 AV.s) xs)) (by kernel_rfl) (Nat.le_of_ble_eq_true rfl) ?_
      refine AOps.sq (x := (AV.i .i64 ((i : Nat) : Int))) (by kernel_rfl) (Nat.le_of_ble_eq_true rfl) ?_
      refine AOps.sq (x := (AV.pt (AV.s x1).cells)) (g_idx (k := 1) (nl := false) (e := 9) (kk := .i64) (A := AV.s) (xs := xs) (i := i) (by kernel_rfl) (by kernel_rfl) (by kernel_rfl) ⟨by kernel_rfl, by decide⟩ hx1) (Nat.le_of_ble_eq_true rfl) ?_
      refine AOps.sq (x := (AV.s x1)) (by kernel_rfl) (Nat.le_of_ble_eq_true rfl) ?_
      refine AOps.sc0 (vs := [(AV.s x1)]) (r0 := (AV.b (m_ref1_PathMay x1))) (by kernel_rfl) (by kernel_rfl) (w_ref1_PathMay W x1) (by kernel_rfl) (Nat.le_of_ble_eq_true rfl) ?_
      refine AOps.sq (x := (AV.b (!(m_ref1_PathMay x1)))) (by kernel_rfl) (Nat.le_of_ble_eq_true rfl) ?_
      refine AOps.done ?_
      cases c_1 : (!(m_ref1_PathMay x1))
      · refine Awp.cond (t := false) (by kernel_rfl) ?_
        refine Awp.skip ?_
        refine Awp.region tabS_ok ?_
        refine AOps.sq (x := (AV.i .i64 ((i : Nat) : Int))) (by kernel_rfl) (Nat.le_of_ble_eq_true rfl) ?_
        refine AOps.sq (x := (AV.i .i64 ((i + 1 : Nat) : Int))) (g_addN (i := i) (m := 1) (by kernel_rfl) (by kernel_rfl) (by first | omega | (unfold LIM; omega) | (simp only [List.length_append, List.length_cons, List.length_nil, List.length_set, List.length_replicate, ByteArray.size_append, List.length_take, List.length_drop, LIM]; omega) | (simp [LIM]; done) | (simp [LIM]; omega))) (Nat.le_of_ble_eq_true rfl) ?_
        refine AOps.sq (x := (AV.i .i64 ((i + 1 : Nat) : Int))) (by kernel_rfl) (Nat.le_of_ble_eq_true rfl) ?_
        refine AOps.done ?_
        try simp only [c_1, List.length_nil, Int.natCast_zero, eq_self, decide_true, List.nil_append, List.take_nil, cond_true, cond_false, Bool.true_and, Bool.false_and, Bool.true_or, Bool.false_or, Bool.not_true, Bool.not_false] at hE1
        refine ⟨i + 1, by (try dsimp only); omega, ⟨by (try dsimp only); omega, hE1⟩, ?_⟩
        exact ⟨[], ⟨by decide, rfl, FitsObjs.nil, (EntE.cons (Ent.c (by kernel_rfl) (by kernel_rfl)) (EntE.cons (Ent.c (by kernel_rfl) (by kernel_rfl)) EntE.nil))⟩, keep0⟩
      · refine Awp.cond (t := true) (by kernel_rfl) ?_
        refine Awp.seq ?_
        refine Awp.region tabS_ok ?_
        refine AOps.sq (x := (AV.b false)) (by kernel_rfl) (Nat.le_of_ble_eq_true rfl) ?_
        refine AOps.done ?_
        refine Awp.ret ?_
        try simp only [c_1, List.length_nil, Int.natCast_zero, eq_self, decide_true, List.nil_append, List.take_nil, cond_true, cond_false, Bool.true_and, Bool.false_and, Bool.true_or, Bool.false_or, Bool.not_true, Bool.not_false] at hE1
        subst hE1
        have hM : m_ref1_PathsMay xs = false := by simp only [m_ref1_PathsMay, hR1, List.length_nil, Int.natCast_zero, eq_self, decide_true, List.nil_append, List.take_nil, cond_true, cond_false, Bool.true_and, Bool.false_and, Bool.true_or, Bool.false_or, Bool.not_true, Bool.not_false]
        refine ⟨Or.inr rfl, ?_⟩
        rw [hM]
        exact Ent.cast (x' := (AV.b false)) (y' := (AV.b false)) (by kernel_rfl) (by kernel_rfl) (Ent.c (by kernel_rfl) (by kernel_rfl))
    · have hc1 : decide (((i : Nat) : Int) < ((xs.length : Nat) : Int)) = false := decide_eq_false (by omega)
      refine Awp.cond (t := false) (by rw [← hc1] <;> kernel_rfl) (Awp.exit ?_)
      rw [List.drop_eq_nil_of_le (hl1), m_ref1_PathsMay_L1.eq_1] at hE1
      subst hE1
      refine Awp.seq ?_
      refine Awp.region tabS_ok ?_
      refine AOps.sq (x := ((slA 1 AV.s) xs)) (by kernel_rfl) (Nat.le_of_ble_eq_true rfl) ?_
      refine AOps.sq (x := (AV.i .i64 ((xs.length : Nat) : Int))) (g_len (k := 1) (nl := false) (e := 9) (A := AV.s) (xs := xs) (by kernel_rfl) (by kernel_rfl)) (Nat.le_of_ble_eq_true rfl) ?_
      refine AOps.sq (x := (AV.b (decide (((xs.length : Nat) : Int) ≤ (8 : Int))))) (by kernel_rfl) (Nat.le_of_ble_eq_true rfl) ?_
      refine AOps.sq (x := (AV.b (decide (((xs.length : Nat) : Int) ≤ (8 : Int))))) (by kernel_rfl) (Nat.le_of_ble_eq_true rfl) ?_
      refine AOps.done ?_
      refine Awp.ret ?_
      have hM : m_ref1_PathsMay xs = decide (((xs.length : Nat) : Int) ≤ (8 : Int)) := by simp only [m_ref1_PathsMay, hR1, List.length_nil, Int.natCast_zero, eq_self, decide_true, List.nil_append, List.take_nil, cond_true, cond_false, Bool.true_and, Bool.false_and, Bool.true_or, Bool.false_or, Bool.not_true, Bool.not_false]
      refine ⟨Or.inr rfl, ?_⟩
      rw [hM]
      exact Ent.cast (x' := (AV.b (decide (((xs.length : Nat) : Int) ≤ (8 : Int))))) (y' := (AV.b (decide (((xs.length : Nat) : Int) ≤ (8 : Int))))) (by kernel_rfl) (by kernel_rfl) (Ent.c (by kernel_rfl) (by kernel_rfl))

theorem w_ref1_poolAt (W : World) (ps : List DPool) (name : ByteArray) : PureAt Go.Proofs.Tryd.prog W 63 [((slA 2 DPool.av) ps), (AV.s name)] (AV.i .i64 (m_ref1_poolAt ps name)) [] := by
  refine pure_of_bodyC (fn := Go.Proofs.Tryd.f63) Go.Proofs.Tryd.func63 rfl (en63 W) (ts := [4]) rfl (Nat.le_of_ble_eq_true rfl) ?_
  refine Awp.seq ?_
  refine Awp.region tabS_ok ?_
  refine AOps.sq (x := (AV.i .i64 (0 : Int))) (by kernel_rfl) (Nat.le_of_ble_eq_true rfl) ?_
  refine AOps.done ?_
  refine Awp.seq ?_
  refine Awp.seq ?_
  refine Awp.region tabS_ok ?_
  refine AOps.sq (x := (AV.i .i64 (0 : Int))) (by kernel_rfl) (Nat.le_of_ble_eq_true rfl) ?_
  refine AOps.done ?_
  refine Awp.block ?_
  refine Awp.lim 0 (x := ((slA 2 DPool.av) ps)) (by kernel_rfl) fun hlm1 => ?_
  have hB1 : ps.length ≤ 281474976710656 := lim_slA hlm1
  obtain ⟨R1, hR1⟩ : ∃ R, m_ref1_poolAt_L1 name ps 0 = R := ⟨_, rfl⟩
  refine Awp.loopT (fun (i : Nat) => [(0, ((slA 2 DPool.av) ps)), (1, (AV.s name)), (5, (AV.i .i64 ((i : Nat) : Int)))]) (fun (i : Nat) => ⟨0, []⟩) (fun (i : Nat) => i ≤ ps.length ∧ m_ref1_poolAt_L1 name (ps.drop i) i = R1) (fun (i : Nat) => ps.length - i) 0 ?_ ?_ ?_
  · exact ⟨[], ⟨by decide, rfl, FitsObjs.nil, (EntE.cons (Ent.c (by kernel_rfl) (by kernel_rfl)) (EntE.cons (Ent.c (by kernel_rfl) (by kernel_rfl)) (EntE.cons (Ent.c (by kernel_rfl) (by kernel_rfl)) EntE.nil)))⟩, keep0⟩
  · exact ⟨by (try dsimp only); omega, hR1⟩
  · rintro i ⟨hi1, hE1⟩
    try dsimp only
    refine Awp.seq ?_
    refine Awp.seq ?_
    refine Awp.region tabS_ok ?_
    refine AOps.sq (x := (AV.i .i64 ((i : Nat) : Int))) (by kernel_rfl) (Nat.le_of_ble_eq_true rfl) ?_
    refine AOps.sq (x := ((slA 2 DPool.av) ps)) (by kernel_rfl) (Nat.le_of_ble_eq_true rfl) ?_
    refine AOps.sq (x := (AV.i .i64 ((ps.length : Nat) : Int))) (g_len (k := 2) (nl := false) (e := 34) (A := DPool.av) (xs := ps) (by kernel_rfl) (by kernel_rfl)) (Nat.le_of_ble_eq_true rfl) ?_
    refine AOps.sq (x := (AV.b (decide (((i : Nat) : Int) < ((ps.length : Nat) : Int))))) (by kernel_rfl) (Nat.le_of_ble_eq_true rfl) ?_
    refine AOps.done ?_
    rcases Nat.lt_or_ge i ps.length with hl1 | hl1
    · have hc1 : decide (((i : Nat) : Int) < ((ps.length : Nat) : Int)) = true := decide_eq_true (by omega)
      refine Awp.cond (t := true) (by rw [← hc1] <;> kernel_rfl) (Awp.skip ?_)
      obtain ⟨x1, hx1⟩ : ∃ x, ps[i]? = some x := ⟨_, List.getElem?_eq_getElem hl1⟩
      rw [drop_at hx1, m_ref1_poolAt_L1.eq_2] at hE1
      refine Awp.seq ?_
      refine Awp.block ?_
      refine Awp.seq ?_
      refine Awp.region tabS_ok ?_
      refine AOps.sq (x := ((slA 2 DPool.av) ps)) (by kernel_rfl) (Nat.le_of_ble_eq_true rfl) ?_
      refine AOps.sq (x := (AV.i .i64 ((i : Nat) : Int))) (by kernel_rfl) (Nat.le_of_ble_eq_true rfl) ?_
      refine AOps.sq (x := (AV.pt (DPool.av x1).cells)) (g_idx (k := 2) (nl := false) (e := 34) (kk := .i64) (A := DPool.av) (xs := ps) (i := i) (by kernel_rfl) (by kernel_rfl) (by kernel_rfl) ⟨by kernel_rfl, by decide⟩ hx1) (Nat.le_of_ble_eq_true rfl) ?_
      refine AOps.sq (x := (AV.pt ((DPool.av x1).cells.drop 0))) (by kernel_rfl) (Nat.le_of_ble_eq_true rfl) ?_
      refine AOps.sq (x := (AV.s x1.name)) (by kernel_rfl) (Nat.le_of_ble_eq_true rfl) ?_
      refine AOps.sq (x := (AV.s name)) (by kernel_rfl) (Nat.le_of_ble_eq_true rfl) ?_
      refine AOps.sq (x := (AV.b (decide (x1.name = name)))) (by kernel_rfl) (Nat.le_of_ble_eq_true rfl) ?_
      refine AOps.done ?_
      cases c_1 : decide (x1.name = name)
      · have k_1 : ¬ (x1.name = name) := of_decide_eq_false c_1
        refine Awp.cond (t := false) (by kernel_rfl) ?_
        refine Awp.skip ?_
        refine Awp.region tabS_ok ?_
        refine AOps.sq (x := (AV.i .i64 ((i : Nat) : Int))) (by kernel_rfl) (Nat.le_of_ble_eq_true rfl) ?_
        refine AOps.sq (x := (AV.i .i64 ((i + 1 : Nat) : Int))) (g_addN (i := i) (m := 1) (by kernel_rfl) (by kernel_rfl) (by first | omega | (unfold LIM; omega) | (simp only [List.length_append, List.length_cons, List.length_nil, List.length_set, List.length_replicate, ByteArray.size_append, List.length_take, List.length_drop, LIM]; omega) | (simp [LIM]; done) | (simp [LIM]; omega))) (Nat.le_of_ble_eq_true rfl) ?_
        refine AOps.sq (x := (AV.i .i64 ((i + 1 : Nat) : Int))) (by kernel_rfl) (Nat.le_of_ble_eq_true rfl) ?_
        refine AOps.done ?_
        try simp only [c_1, List.length_nil, Int.natCast_zero, eq_self, decide_true, List.nil_append, List.take_nil, cond_true, cond_false, Bool.true_and, Bool.false_and, Bool.true_or, Bool.false_or, Bool.not_true, Bool.not_false] at hE1
        refine ⟨i + 1, by (try dsimp only); omega, ⟨by (try dsimp only); omega, hE1⟩, ?_⟩
        exact ⟨[], ⟨by decide, rfl, FitsObjs.nil, (EntE.cons (Ent.c (by kernel_rfl) (by kernel_rfl)) (EntE.cons (Ent.c (by kernel_rfl) (by kernel_rfl)) (EntE.cons (Ent.c (by kernel_rfl) (by kernel_rfl)) EntE.nil)))⟩, keep0⟩
      · have k_1 : (x1.name = name) := of_decide_eq_true c_1
        refine Awp.cond (t := true) (by kernel_rfl) ?_
        refine Awp.seq ?_
        refine Awp.region tabS_ok ?_
        refine AOps.sq (x := (AV.i .i64 ((i : Nat) : Int))) (by kernel_rfl) (Nat.le_of_ble_eq_true rfl) ?_
        refine AOps.sq (x := (AV.i .i64 ((i : Nat) : Int))) (by kernel_rfl) (Nat.le_of_ble_eq_true rfl) ?_
        refine AOps.done ?_
        refine Awp.ret ?_
        try simp only [c_1, List.length_nil, Int.natCast_zero, eq_self, decide_true, List.nil_append, List.take_nil, cond_true, cond_false, Bool.true_and, Bool.false_and, Bool.true_or, Bool.false_or, Bool.not_true, Bool.not_false] at hE1
        subst hE1
        have hM : m_ref1_poolAt ps name = ((i : Nat) : Int) := by simp only [m_ref1_poolAt, hR1, List.length_nil, Int.natCast_zero, eq_self, decide_true, List.nil_append, List.take_nil, cond_true, cond_false, Bool.true_and, Bool.false_and, Bool.true_or, Bool.false_or, Bool.not_true, Bool.not_false]
        refine ⟨Or.inr rfl, ?_⟩
        rw [hM]
        exact Ent.cast (x' := (AV.i .i64 ((i : Nat) : Int))) (y' := (AV.i .i64 ((i : Nat) : Int))) (by kernel_rfl) (by kernel_rfl) (Ent.c (by kernel_rfl) (by kernel_rfl))
    · have hc1 : decide (((i : Nat) : Int) < ((ps.length : Nat) : Int)) = false := decide_eq_false (by omega)
      refine Awp.cond (t := false) (by rw [← hc1] <;> kernel_rfl) (Awp.exit ?_)
      rw [List.drop_eq_nil_of_le (hl1), m_ref1_poolAt_L1.eq_1] at hE1
      subst hE1
      refine Awp.seq ?_
      refine Awp.region tabS_ok ?_
      refine AOps.sq (x := (AV.i .i64 (-1 : Int))) (by kernel_rfl) (Nat.le_of_ble_eq_true rfl) ?_
      refine AOps.done ?_
      refine Awp.ret ?_
      have hM : m_ref1_poolAt ps name = (-1 : Int) := by simp only [m_ref1_poolAt, hR1, List.length_nil, Int.natCast_zero, eq_self, decide_true, List.nil_append, List.take_nil, cond_true, cond_false, Bool.true_and, Bool.false_and, Bool.true_or, Bool.false_or, Bool.not_true, Bool.not_false]
      refine ⟨Or.inr rfl, ?_⟩
      rw [hM]
      exact Ent.cast (x' := (AV.i .i64 (-1 : Int))) (y' := (AV.i .i64 (-1 : Int))) (by kernel_rfl) (by kernel_rfl) (Ent.c (by kernel_rfl) (by kernel_rfl))

theorem w_ref1_EdgeMay (W : World) (e : DEdge) : PureAt Go.Proofs.Tryd.prog W 64 [(DEdge.av e)] (AV.b (m_ref1_EdgeMay e)) [] := by
  refine pure_of_bodyC (fn := Go.Proofs.Tryd.f64) Go.Proofs.Tryd.func64 rfl (en64 W) (ts := [2]) rfl (Nat.le_of_ble_eq_true rfl) ?_
  refine Awp.seq ?_
  refine Awp.region tabS_ok ?_
  refine AOps.sn (x := (AV.loc 0 0 0)) (h' := ⟨1, [(0, some ⟨31, 7, [(DEdge.av e)]⟩)]⟩) (by kernel_rfl) (Nat.le_of_ble_eq_true rfl) ?_
  refine AOps.sq (x := (AV.b false)) (by kernel_rfl) (Nat.le_of_ble_eq_true rfl) ?_
  refine AOps.done ?_
  refine Awp.seq ?_
  refine Awp.region tabS_ok ?_
  refine AOps.sq (x := (AV.loc 0 0 0)) (by kernel_rfl) (Nat.le_of_ble_eq_true rfl) ?_
  refine AOps.sq (x := ((slA 1 AV.s) e.outs)) (by kernel_rfl) (Nat.le_of_ble_eq_true rfl) ?_
  refine AOps.sq (x := (AV.i .i64 ((e.outs.length : Nat) : Int))) (g_len (k := 1) (nl := false) (e := 9) (A := AV.s) (xs := e.outs) (by kernel_rfl) (by kernel_rfl)) (Nat.le_of_ble_eq_true rfl) ?_
  refine AOps.sq (x := (AV.b (decide ((0 : Int) < ((e.outs.length : Nat) : Int))))) (by kernel_rfl) (Nat.le_of_ble_eq_true rfl) ?_
  refine AOps.sq (x := (AV.b (decide ((0 : Int) < ((e.outs.length : Nat) : Int))))) (by kernel_rfl) (Nat.le_of_ble_eq_true rfl) ?_
  cases c_1 : decide ((0 : Int) < ((e.outs.length : Nat) : Int))
  · have k_1 : ¬ ((0 : Int) < ((e.outs.length : Nat) : Int)) := of_decide_eq_false c_1
    refine AOps.sgn rfl rfl (by kernel_rfl) rfl (Nat.le_of_ble_eq_true rfl) ?_
    refine AOps.sgn rfl rfl (by kernel_rfl) rfl (Nat.le_of_ble_eq_true rfl) ?_
    refine AOps.sgn rfl rfl (by kernel_rfl) rfl (Nat.le_of_ble_eq_true rfl) ?_
    refine AOps.sq (x := (AV.b false)) (by kernel_rfl) (Nat.le_of_ble_eq_true rfl) ?_
    refine AOps.sq (x := (AV.b false)) (by kernel_rfl) (Nat.le_of_ble_eq_true rfl) ?_
    refine AOps.sgn rfl rfl (by kernel_rfl) rfl (Nat.le_of_ble_eq_true rfl) ?_
    refine AOps.sgn rfl rfl (by kernel_rfl) rfl (Nat.le_of_ble_eq_true rfl) ?_
    refine AOps.sgn rfl rfl (by kernel_rfl) rfl (Nat.le_of_ble_eq_true rfl) ?_
    refine AOps.sq (x := (AV.b false)) (by kernel_rfl) (Nat.le_of_ble_eq_true rfl) ?_
    refine AOps.sq (x := (AV.b false)) (by kernel_rfl) (Nat.le_of_ble_eq_true rfl) ?_
    refine AOps.sgn rfl rfl (by kernel_rfl) rfl (Nat.le_of_ble_eq_true rfl) ?_
    refine AOps.sgn rfl rfl (by kernel_rfl) rfl (Nat.le_of_ble_eq_true rfl) ?_
    refine AOps.sgn rfl rfl (by kernel_rfl) rfl (Nat.le_of_ble_eq_true rfl) ?_
    refine AOps.sq (x := (AV.b false)) (by kernel_rfl) (Nat.le_of_ble_eq_true rfl) ?_
    refine AOps.sq (x := (AV.b false)) (by kernel_rfl) (Nat.le_of_ble_eq_true rfl) ?_
    refine AOps.sgn rfl rfl (by kernel_rfl) rfl (Nat.le_of_ble_eq_true rfl) ?_
    refine AOps.sgn rfl rfl (by kernel_rfl) rfl (Nat.le_of_ble_eq_true rfl) ?_
    refine AOps.sgn rfl rfl (by kernel_rfl) rfl (Nat.le_of_ble_eq_true rfl) ?_
    refine AOps.sq (x := (AV.b false)) (by kernel_rfl) (Nat.le_of_ble_eq_true rfl) ?_
    refine AOps.sq (x := (AV.b false)) (by kernel_rfl) (Nat.le_of_ble_eq_true rfl) ?_
    refine AOps.sgn rfl rfl (by kernel_rfl) rfl (Nat.le_of_ble_eq_true rfl) ?_
    refine AOps.sgn rfl rfl (by kernel_rfl) rfl (Nat.le_of_ble_eq_true rfl) ?_
    refine AOps.sgn rfl rfl (by kernel_rfl) rfl (Nat.le_of_ble_eq_true rfl) ?_
    refine AOps.sq (x := (AV.b false)) (by kernel_rfl) (Nat.le_of_ble_eq_true rfl) ?_
    refine AOps.sq (x := (AV.b false)) (by kernel_rfl) (Nat.le_of_ble_eq_true rfl) ?_
    refine AOps.sgn rfl rfl (by kernel_rfl) rfl (Nat.le_of_ble_eq_true rfl) ?_
    refine AOps.sgn rfl rfl (by kernel_rfl) rfl (Nat.le_of_ble_eq_true rfl) ?_
    refine AOps.sgn rfl rfl (by kernel_rfl) rfl (Nat.le_of_ble_eq_true rfl) ?_
    refine AOps.sgn rfl rfl (by kernel_rfl) rfl (Nat.le_of_ble_eq_true rfl) ?_
    refine AOps.sgu rfl rfl (by kernel_rfl) (Nat.le_of_ble_eq_true rfl) ?_
    refine AOps.sgu rfl rfl (by kernel_rfl) (Nat.le_of_ble_eq_true rfl) ?_
    refine AOps.sgu rfl rfl (by kernel_rfl) (Nat.le_of_ble_eq_true rfl) ?_
    refine AOps.sgn rfl rfl (by kernel_rfl) rfl (Nat.le_of_ble_eq_true rfl) ?_
    refine AOps.sq (x := (AV.b false)) (by kernel_rfl) (Nat.le_of_ble_eq_true rfl) ?_
    refine AOps.sq (x := (AV.b false)) (by kernel_rfl) (Nat.le_of_ble_eq_true rfl) ?_
    refine AOps.done ?_
    refine Awp.ret ?_
    have hM : m_ref1_EdgeMay e = false := by simp only [m_ref1_EdgeMay, c_1, List.length_nil, Int.natCast_zero, eq_self, decide_true, List.nil_append, List.take_nil, cond_true, cond_false, Bool.true_and, Bool.false_and, Bool.true_or, Bool.false_or, Bool.not_true, Bool.not_false]
    refine ⟨Or.inr rfl, ?_⟩
    rw [hM]
    exact Ent.cast (x' := (AV.b false)) (y' := (AV.b false)) (by kernel_rfl) (by kernel_rfl) (Ent.c (by kernel_rfl) (by kernel_rfl))
  · have k_1 : ((0 : Int) < ((e.outs.length : Nat) : Int)) := of_decide_eq_true c_1
    refine AOps.sgy rfl rfl (by kernel_rfl) rfl ?_
    refine AOps.sq (x := (AV.loc 0 0 0)) (by kernel_rfl) (Nat.le_of_ble_eq_true rfl) ?_
    refine AOps.sgy rfl rfl (by kernel_rfl) rfl ?_
    refine AOps.sq (x := ((slA 1 AV.s) e.outs)) (by kernel_rfl) (Nat.le_of_ble_eq_true rfl) ?_
    refine AOps.sgy rfl rfl (by kernel_rfl) rfl ?_
    refine AOps.sc0 (vs := [((slA 1 AV.s) e.outs)]) (r0 := (AV.b (m_ref1_PathsMay e.outs))) (by kernel_rfl) (by kernel_rfl) (w_ref1_PathsMay W e.outs) (by kernel_rfl) (Nat.le_of_ble_eq_true rfl) ?_
    refine AOps.sq (x := (AV.b (m_ref1_PathsMay e.outs))) (by kernel_rfl) (Nat.le_of_ble_eq_true rfl) ?_
    refine AOps.sq (x := (AV.b (m_ref1_PathsMay e.outs))) (by kernel_rfl) (Nat.le_of_ble_eq_true rfl) ?_
    cases c_2 : (m_ref1_PathsMay e.outs)
    · refine AOps.sgn rfl rfl (by kernel_rfl) rfl (Nat.le_of_ble_eq_true rfl) ?_
      refine AOps.sgn rfl rfl (by kernel_rfl) rfl (Nat.le_of_ble_eq_true rfl) ?_
      refine AOps.sgn rfl rfl (by kernel_rfl) rfl (Nat.le_of_ble_eq_true rfl) ?_
      refine AOps.sq (x := (AV.b false)) (by kernel_rfl) (Nat.le_of_ble_eq_true rfl) ?_
      refine AOps.sq (x := (AV.b false)) (by kernel_rfl) (Nat.le_of_ble_eq_true rfl) ?_
      refine AOps.sgn rfl rfl (by kernel_rfl) rfl (Nat.le_of_ble_eq_true rfl) ?_
      refine AOps.sgn rfl rfl (by kernel_rfl) rfl (Nat.le_of_ble_eq_true rfl) ?_
      refine AOps.sgn rfl rfl (by kernel_rfl) rfl (Nat.le_of_ble_eq_true rfl) ?_
      refine AOps.sq (x := (AV.b false)) (by kernel_rfl) (Nat.le_of_ble_eq_true rfl) ?_
      refine AOps.sq (x := (AV.b false)) (by kernel_rfl) (Nat.le_of_ble_eq_true rfl) ?_
      refine AOps.sgn rfl rfl (by kernel_rfl) rfl (Nat.le_of_ble_eq_true rfl) ?_
      refine AOps.sgn rfl rfl (by kernel_rfl) rfl (Nat.le_of_ble_eq_true rfl) ?_
      refine AOps.sgn rfl rfl (by kernel_rfl) rfl (Nat.le_of_ble_eq_true rfl) ?_
      refine AOps.sq (x := (AV.b false)) (by kernel_rfl) (Nat.le_of_ble_eq_true rfl) ?_
      refine AOps.sq (x := (AV.b false)) (by kernel_rfl) (Nat.le_of_ble_eq_true rfl) ?_
      refine AOps.sgn rfl rfl (by kernel_rfl) rfl (Nat.le_of_ble_eq_true rfl) ?_
      refine AOps.sgn rfl rfl (by kernel_rfl) rfl (Nat.le_of_ble_eq_true rfl) ?_
      refine AOps.sgn rfl rfl (by kernel_rfl) rfl (Nat.le_of_ble_eq_true rfl) ?_
      refine AOps.sq (x := (AV.b false)) (by kernel_rfl) (Nat.le_of_ble_eq_true rfl) ?_
      refine AOps.sq (x := (AV.b false)) (by kernel_rfl) (Nat.le_of_ble_eq_true rfl) ?_
      refine AOps.sgn rfl rfl (by kernel_rfl) rfl (Nat.le_of_ble_eq_true rfl) ?_
      refine AOps.sgn rfl rfl (by kernel_rfl) rfl (Nat.le_of_ble_eq_true rfl) ?_
      refine AOps.sgn rfl rfl (by kernel_rfl) rfl (Nat.le_of_ble_eq_true rfl) ?_
      refine AOps.sgn rfl rfl (by kernel_rfl) rfl (Nat.le_of_ble_eq_true rfl) ?_
      refine AOps.sgu rfl rfl (by kernel_rfl) (Nat.le_of_ble_eq_true rfl) ?_
      refine AOps.sgu rfl rfl (by kernel_rfl) (Nat.le_of_ble_eq_true rfl) ?_
      refine AOps.sgu rfl rfl (by kernel_rfl) (Nat.le_of_ble_eq_true rfl) ?_
      refine AOps.sgn rfl rfl (by kernel_rfl) rfl (Nat.le_of_ble_eq_true rfl) ?_
      refine AOps.sq (x := (AV.b false)) (by kernel_rfl) (Nat.le_of_ble_eq_true rfl) ?_
      refine AOps.sq (x := (AV.b false)) (by kernel_rfl) (Nat.le_of_ble_eq_true rfl) ?_
      refine AOps.done ?_
      refine Awp.ret ?_
      have hM : m_ref1_EdgeMay e = false := by simp only [m_ref1_EdgeMay, c_1, c_2, List.length_nil, Int.natCast_zero, eq_self, decide_true, List.nil_append, List.take_nil, cond_true, cond_false, Bool.true_and, Bool.false_and, Bool.true_or, Bool.false_or, Bool.not_true, Bool.not_false]
      refine ⟨Or.inr rfl, ?_⟩
      rw [hM]
      exact Ent.cast (x' := (AV.b false)) (y' := (AV.b false)) (by kernel_rfl) (by kernel_rfl) (Ent.c (by kernel_rfl) (by kernel_rfl))
    · refine AOps.sgy rfl rfl (by kernel_rfl) rfl ?_
      refine AOps.sq (x := (AV.loc 0 0 1)) (by kernel_rfl) (Nat.le_of_ble_eq_true rfl) ?_
      refine AOps.sgy rfl rfl (by kernel_rfl) rfl ?_
      refine AOps.sq (x := ((slA 1 AV.s) e.ins)) (by kernel_rfl) (Nat.le_of_ble_eq_true rfl) ?_
      refine AOps.sgy rfl rfl (by kernel_rfl) rfl ?_
      refine AOps.sc0 (vs := [((slA 1 AV.s) e.ins)]) (r0 := (AV.b (m_ref1_PathsMay e.ins))) (by kernel_rfl) (by kernel_rfl) (w_ref1_PathsMay W e.ins) (by kernel_rfl) (Nat.le_of_ble_eq_true rfl) ?_
      refine AOps.sq (x := (AV.b (m_ref1_PathsMay e.ins))) (by kernel_rfl) (Nat.le_of_ble_eq_true rfl) ?_
      refine AOps.sq (x := (AV.b (m_ref1_PathsMay e.ins))) (by kernel_rfl) (Nat.le_of_ble_eq_true rfl) ?_
      cases c_3 : (m_ref1_PathsMay e.ins)
      · refine AOps.sgn rfl rfl (by kernel_rfl) rfl (Nat.le_of_ble_eq_true rfl) ?_
        refine AOps.sgn rfl rfl (by kernel_rfl) rfl (Nat.le_of_ble_eq_true rfl) ?_
        refine AOps.sgn rfl rfl (by kernel_rfl) rfl (Nat.le_of_ble_eq_true rfl) ?_
        refine AOps.sq (x := (AV.b false)) (by kernel_rfl) (Nat.le_of_ble_eq_true rfl) ?_
        refine AOps.sq (x := (AV.b false)) (by kernel_rfl) (Nat.le_of_ble_eq_true rfl) ?_
        refine AOps.sgn rfl rfl (by kernel_rfl) rfl (Nat.le_of_ble_eq_true rfl) ?_
        refine AOps.sgn rfl rfl (by kernel_rfl) rfl (Nat.le_of_ble_eq_true rfl) ?_
        refine AOps.sgn rfl rfl (by kernel_rfl) rfl (Nat.le_of_ble_eq_true rfl) ?_
        refine AOps.sq (x := (AV.b false)) (by kernel_rfl) (Nat.le_of_ble_eq_true rfl) ?_
        refine AOps.sq (x := (AV.b false)) (by kernel_rfl) (Nat.le_of_ble_eq_true rfl) ?_
        refine AOps.sgn rfl rfl (by kernel_rfl) rfl (Nat.le_of_ble_eq_true rfl) ?_
        refine AOps.sgn rfl rfl (by kernel_rfl) rfl (Nat.le_of_ble_eq_true rfl) ?_
        refine AOps.sgn rfl rfl (by kernel_rfl) rfl (Nat.le_of_ble_eq_true rfl) ?_
        refine AOps.sq (x := (AV.b false)) (by kernel_rfl) (Nat.le_of_ble_eq_true rfl) ?_
        refine AOps.sq (x := (AV.b false)) (by kernel_rfl) (Nat.le_of_ble_eq_true rfl) ?_
        refine AOps.sgn rfl rfl (by kernel_rfl) rfl (Nat.le_of_ble_eq_true rfl) ?_
        refine AOps.sgn rfl rfl (by kernel_rfl) rfl (Nat.le_of_ble_eq_true rfl) ?_
        refine AOps.sgn rfl rfl (by kernel_rfl) rfl (Nat.le_of_ble_eq_true rfl) ?_
        refine AOps.sgn rfl rfl (by kernel_rfl) rfl (Nat.le_of_ble_eq_true rfl) ?_
        refine AOps.sgu rfl rfl (by kernel_rfl) (Nat.le_of_ble_eq_true rfl) ?_
        refine AOps.sgu rfl rfl (by kernel_rfl) (Nat.le_of_ble_eq_true rfl) ?_
        refine AOps.sgu rfl rfl (by kernel_rfl) (Nat.le_of_ble_eq_true rfl) ?_
        refine AOps.sgn rfl rfl (by kernel_rfl) rfl (Nat.le_of_ble_eq_true rfl) ?_
        refine AOps.sq (x := (AV.b false)) (by kernel_rfl) (Nat.le_of_ble_eq_true rfl) ?_
        refine AOps.sq (x := (AV.b false)) (by kernel_rfl) (Nat.le_of_ble_eq_true rfl) ?_
        refine AOps.done ?_
        refine Awp.ret ?_
        have hM : m_ref1_EdgeMay e = false := by simp only [m_ref1_EdgeMay, c_1, c_2, c_3, List.length_nil, Int.natCast_zero, eq_self, decide_true, List.nil_append, List.take_nil, cond_true, cond_false, Bool.true_and, Bool.false_and, Bool.true_or, Bool.false_or, Bool.not_true, Bool.not_false]
        refine ⟨Or.inr rfl, ?_⟩
        rw [hM]
        exact Ent.cast (x' := (AV.b false)) (y' := (AV.b false)) (by kernel_rfl) (by kernel_rfl) (Ent.c (by kernel_rfl) (by kernel_rfl))
      · refine AOps.sgy rfl rfl (by kernel_rfl) rfl ?_
        refine AOps.sq (x := (AV.loc 0 0 2)) (by kernel_rfl) (Nat.le_of_ble_eq_true rfl) ?_
        refine AOps.sgy rfl rfl (by kernel_rfl) rfl ?_
        refine AOps.sq (x := ((slA 1 AV.s) e.implicit)) (by kernel_rfl) (Nat.le_of_ble_eq_true rfl) ?_
        refine AOps.sgy rfl rfl (by kernel_rfl) rfl ?_
        refine AOps.sc0 (vs := [((slA 1 AV.s) e.implicit)]) (r0 := (AV.b (m_ref1_PathsMay e.implicit))) (by kernel_rfl) (by kernel_rfl) (w_ref1_PathsMay W e.implicit) (by kernel_rfl) (Nat.le_of_ble_eq_true rfl) ?_
        refine AOps.sq (x := (AV.b (m_ref1_PathsMay e.implicit))) (by kernel_rfl) (Nat.le_of_ble_eq_true rfl) ?_
        refine AOps.sq (x := (AV.b (m_ref1_PathsMay e.implicit))) (by kernel_rfl) (Nat.le_of_ble_eq_true rfl) ?_
        cases c_4 : (m_ref1_PathsMay e.implicit)
        · refine AOps.sgn rfl rfl (by kernel_rfl) rfl (Nat.le_of_ble_eq_true rfl) ?_
          refine AOps.sgn rfl rfl (by kernel_rfl) rfl (Nat.le_of_ble_eq_true rfl) ?_
          refine AOps.sgn rfl rfl (by kernel_rfl) rfl (Nat.le_of_ble_eq_true rfl) ?_
          refine AOps.sq (x := (AV.b false)) (by kernel_rfl) (Nat.le_of_ble_eq_true rfl) ?_
          refine AOps.sq (x := (AV.b false)) (by kernel_rfl) (Nat.le_of_ble_eq_true rfl) ?_
          refine AOps.sgn rfl rfl (by kernel_rfl) rfl (Nat.le_of_ble_eq_true rfl) ?_
          refine AOps.sgn rfl rfl (by kernel_rfl) rfl (Nat.le_of_ble_eq_true rfl) ?_
          refine AOps.sgn rfl rfl (by kernel_rfl) rfl (Nat.le_of_ble_eq_true rfl) ?_
          refine AOps.sq (x := (AV.b false)) (by kernel_rfl) (Nat.le_of_ble_eq_true rfl) ?_
          refine AOps.sq (x := (AV.b false)) (by kernel_rfl) (Nat.le_of_ble_eq_true rfl) ?_
          refine AOps.sgn rfl rfl (by kernel_rfl) rfl (Nat.le_of_ble_eq_true rfl) ?_
          refine AOps.sgn rfl rfl (by kernel_rfl) rfl (Nat.le_of_ble_eq_true rfl) ?_
          refine AOps.sgn rfl rfl (by kernel_rfl) rfl (Nat.le_of_ble_eq_true rfl) ?_
          refine AOps.sgn rfl rfl (by kernel_rfl) rfl (Nat.le_of_ble_eq_true rfl) ?_
          refine AOps.sgu rfl rfl (by kernel_rfl) (Nat.le_of_ble_eq_true rfl) ?_
          refine AOps.sgu rfl rfl (by kernel_rfl) (Nat.le_of_ble_eq_true rfl) ?_
          refine AOps.sgu rfl rfl (by kernel_rfl) (Nat.le_of_ble_eq_true rfl) ?_
          refine AOps.sgn rfl rfl (by kernel_rfl) rfl (Nat.le_of_ble_eq_true rfl) ?_
          refine AOps.sq (x := (AV.b false)) (by kernel_rfl) (Nat.le_of_ble_eq_true rfl) ?_
          refine AOps.sq (x := (AV.b false)) (by kernel_rfl) (Nat.le_of_ble_eq_true rfl) ?_
          refine AOps.done ?_
          refine Awp.ret ?_
          have hM : m_ref1_EdgeMay e = false := by simp only [m_ref1_EdgeMay, c_1, c_2, c_3, c_4, List.length_nil, Int.natCast_zero, eq_self, decide_true, List.nil_append, List.take_nil, cond_true, cond_false, Bool.true_and, Bool.false_and, Bool.true_or, Bool.false_or, Bool.not_true, Bool.not_false]
          refine ⟨Or.inr rfl, ?_⟩
          rw [hM]
          exact Ent.cast (x' := (AV.b false)) (y' := (AV.b false)) (by kernel_rfl) (by kernel_rfl) (Ent.c (by kernel_rfl) (by kernel_rfl))
        · refine AOps.sgy rfl rfl (by kernel_rfl) rfl ?_
          refine AOps.sq (x := (AV.loc 0 0 3)) (by kernel_rfl) (Nat.le_of_ble_eq_true rfl) ?_
          refine AOps.sgy rfl rfl (by kernel_rfl) rfl ?_
          refine AOps.sq (x := ((slA 1 AV.s) e.order)) (by kernel_rfl) (Nat.le_of_ble_eq_true rfl) ?_
          refine AOps.sgy rfl rfl (by kernel_rfl) rfl ?_
          refine AOps.sc0 (vs := [((slA 1 AV.s) e.order)]) (r0 := (AV.b (m_ref1_PathsMay e.order))) (by kernel_rfl) (by kernel_rfl) (w_ref1_PathsMay W e.order) (by kernel_rfl) (Nat.le_of_ble_eq_true rfl) ?_
          refine AOps.sq (x := (AV.b (m_ref1_PathsMay e.order))) (by kernel_rfl) (Nat.le_of_ble_eq_true rfl) ?_
          refine AOps.sq (x := (AV.b (m_ref1_PathsMay e.order))) (by kernel_rfl) (Nat.le_of_ble_eq_true rfl) ?_
          cases c_5 : (m_ref1_PathsMay e.order)
          · refine AOps.sgn rfl rfl (by kernel_rfl) rfl (Nat.le_of_ble_eq_true rfl) ?_
            refine AOps.sgn rfl rfl (by kernel_rfl) rfl (Nat.le_of_ble_eq_true rfl) ?_
            refine AOps.sgn rfl rfl (by kernel_rfl) rfl (Nat.le_of_ble_eq_true rfl) ?_
            refine AOps.sq (x := (AV.b false)) (by kernel_rfl) (Nat.le_of_ble_eq_true rfl) ?_
            refine AOps.sq (x := (AV.b false)) (by kernel_rfl) (Nat.le_of_ble_eq_true rfl) ?_
            refine AOps.sgn rfl rfl (by kernel_rfl) rfl (Nat.le_of_ble_eq_true rfl) ?_
            refine AOps.sgn rfl rfl (by kernel_rfl) rfl (Nat.le_of_ble_eq_true rfl) ?_
            refine AOps.sgn rfl rfl (by kernel_rfl) rfl (Nat.le_of_ble_eq_true rfl) ?_
            refine AOps.sgn rfl rfl (by kernel_rfl) rfl (Nat.le_of_ble_eq_true rfl) ?_
            refine AOps.sgu rfl rfl (by kernel_rfl) (Nat.le_of_ble_eq_true rfl) ?_
            refine AOps.sgu rfl rfl (by kernel_rfl) (Nat.le_of_ble_eq_true rfl) ?_
            refine AOps.sgu rfl rfl (by kernel_rfl) (Nat.le_of_ble_eq_true rfl) ?_
            refine AOps.sgn rfl rfl (by kernel_rfl) rfl (Nat.le_of_ble_eq_true rfl) ?_
            refine AOps.sq (x := (AV.b false)) (by kernel_rfl) (Nat.le_of_ble_eq_true rfl) ?_
            refine AOps.sq (x := (AV.b false)) (by kernel_rfl) (Nat.le_of_ble_eq_true rfl) ?_
            refine AOps.done ?_
            refine Awp.ret ?_
            have hM : m_ref1_EdgeMay e = false := by simp only [m_ref1_EdgeMay, c_1, c_2, c_3, c_4, c_5, List.length_nil, Int.natCast_zero, eq_self, decide_true, List.nil_append, List.take_nil, cond_true, cond_false, Bool.true_and, Bool.false_and, Bool.true_or, Bool.false_or, Bool.not_true, Bool.not_false]
            refine ⟨Or.inr rfl, ?_⟩
            rw [hM]
            exact Ent.cast (x' := (AV.b false)) (y' := (AV.b false)) (by kernel_rfl) (by kernel_rfl) (Ent.c (by kernel_rfl) (by kernel_rfl))
          · refine AOps.sgy rfl rfl (by kernel_rfl) rfl ?_
            refine AOps.sq (x := (AV.loc 0 0 4)) (by kernel_rfl) (Nat.le_of_ble_eq_true rfl) ?_
            refine AOps.sgy rfl rfl (by kernel_rfl) rfl ?_
            refine AOps.sq (x := (AV.s e.command)) (by kernel_rfl) (Nat.le_of_ble_eq_true rfl) ?_
            refine AOps.sgy rfl rfl (by kernel_rfl) rfl ?_
            refine AOps.sc0 (vs := [(AV.s e.command), (AV.i .i64 (1 : Int)), (AV.i .i64 (256 : Int))]) (r0 := (AV.b (m_ref1_Plain e.command (1 : Int) (256 : Int)))) (by kernel_rfl) (by kernel_rfl) (w_ref1_Plain W e.command (1 : Int) (256 : Int)) (by kernel_rfl) (Nat.le_of_ble_eq_true rfl) ?_
            refine AOps.sq (x := (AV.b (m_ref1_Plain e.command (1 : Int) (256 : Int)))) (by kernel_rfl) (Nat.le_of_ble_eq_true rfl) ?_
            refine AOps.sq (x := (AV.b (m_ref1_Plain e.command (1 : Int) (256 : Int)))) (by kernel_rfl) (Nat.le_of_ble_eq_true rfl) ?_
            cases c_6 : (m_ref1_Plain e.command (1 : Int) (256 : Int))
            · refine AOps.sgn rfl rfl (by kernel_rfl) rfl (Nat.le_of_ble_eq_true rfl) ?_
              refine AOps.sgn rfl rfl (by kernel_rfl) rfl (Nat.le_of_ble_eq_true rfl) ?_
              refine AOps.sgn rfl rfl (by kernel_rfl) rfl (Nat.le_of_ble_eq_true rfl) ?_
              refine AOps.sgn rfl rfl (by kernel_rfl) rfl (Nat.le_of_ble_eq_true rfl) ?_
              refine AOps.sgu rfl rfl (by kernel_rfl) (Nat.le_of_ble_eq_true rfl) ?_
              refine AOps.sgu rfl rfl (by kernel_rfl) (Nat.le_of_ble_eq_true rfl) ?_
              refine AOps.sgu rfl rfl (by kernel_rfl) (Nat.le_of_ble_eq_true rfl) ?_
              refine AOps.sgn rfl rfl (by kernel_rfl) rfl (Nat.le_of_ble_eq_true rfl) ?_
              refine AOps.sq (x := (AV.b false)) (by kernel_rfl) (Nat.le_of_ble_eq_true rfl) ?_
              refine AOps.sq (x := (AV.b false)) (by kernel_rfl) (Nat.le_of_ble_eq_true rfl) ?_
              refine AOps.done ?_
              refine Awp.ret ?_
              have hM : m_ref1_EdgeMay e = false := by simp only [m_ref1_EdgeMay, c_1, c_2, c_3, c_4, c_5, c_6, List.length_nil, Int.natCast_zero, eq_self, decide_true, List.nil_append, List.take_nil, cond_true, cond_false, Bool.true_and, Bool.false_and, Bool.true_or, Bool.false_or, Bool.not_true, Bool.not_false]
              refine ⟨Or.inr rfl, ?_⟩
              rw [hM]
              exact Ent.cast (x' := (AV.b false)) (y' := (AV.b false)) (by kernel_rfl) (by kernel_rfl) (Ent.c (by kernel_rfl) (by kernel_rfl))
            · refine AOps.sgy rfl rfl (by kernel_rfl) rfl ?_
              refine AOps.sq (x := (AV.loc 0 0 6)) (by kernel_rfl) (Nat.le_of_ble_eq_true rfl) ?_
              refine AOps.sgy rfl rfl (by kernel_rfl) rfl ?_
              refine AOps.sq (x := (AV.s e.pool)) (by kernel_rfl) (Nat.le_of_ble_eq_true rfl) ?_
              refine AOps.sgy rfl rfl (by kernel_rfl) rfl ?_
              refine AOps.sq (x := (AV.b (decide (e.pool = (⟨#[]⟩ : ByteArray))))) (by kernel_rfl) (Nat.le_of_ble_eq_true rfl) ?_
              refine AOps.sgy rfl rfl (by kernel_rfl) rfl ?_
              refine AOps.sq (x := (AV.b (decide (e.pool = (⟨#[]⟩ : ByteArray))))) (by kernel_rfl) (Nat.le_of_ble_eq_true rfl) ?_
              cases c_7 : decide (e.pool = (⟨#[]⟩ : ByteArray))
              · have k_7 : ¬ (e.pool = (⟨#[]⟩ : ByteArray)) := of_decide_eq_false c_7
                refine AOps.sgy rfl rfl (by kernel_rfl) rfl ?_
                refine AOps.sq (x := (AV.loc 0 0 6)) (by kernel_rfl) (Nat.le_of_ble_eq_true rfl) ?_
                refine AOps.sgy rfl rfl (by kernel_rfl) rfl ?_
                refine AOps.sq (x := (AV.s e.pool)) (by kernel_rfl) (Nat.le_of_ble_eq_true rfl) ?_
                refine AOps.sgy rfl rfl (by kernel_rfl) rfl ?_
                refine AOps.sc0 (vs := [(AV.s e.pool)]) (r0 := (AV.b (m_ref1_NameMay e.pool))) (by kernel_rfl) (by kernel_rfl) (w_ref1_NameMay W e.pool) (by kernel_rfl) (Nat.le_of_ble_eq_true rfl) ?_
                refine AOps.sgy rfl rfl (by kernel_rfl) rfl ?_
                refine AOps.sq (x := (AV.b (m_ref1_NameMay e.pool))) (by kernel_rfl) (Nat.le_of_ble_eq_true rfl) ?_
                refine AOps.sq (x := (AV.b (m_ref1_NameMay e.pool))) (by kernel_rfl) (Nat.le_of_ble_eq_true rfl) ?_
                refine AOps.sq (x := (AV.b (m_ref1_NameMay e.pool))) (by kernel_rfl) (Nat.le_of_ble_eq_true rfl) ?_
                refine AOps.done ?_
                refine Awp.ret ?_
                have hM : m_ref1_EdgeMay e = (m_ref1_NameMay e.pool) := by simp only [m_ref1_EdgeMay, c_1, c_2, c_3, c_4, c_5, c_6, c_7, List.length_nil, Int.natCast_zero, eq_self, decide_true, List.nil_append, List.take_nil, cond_true, cond_false, Bool.true_and, Bool.false_and, Bool.true_or, Bool.false_or, Bool.not_true, Bool.not_false]
                refine ⟨Or.inr rfl, ?_⟩
                rw [hM]
                exact Ent.cast (x' := (AV.b (m_ref1_NameMay e.pool))) (y' := (AV.b (m_ref1_NameMay e.pool))) (by kernel_rfl) (by kernel_rfl) (Ent.c (by kernel_rfl) (by kernel_rfl))
              · have k_7 : (e.pool = (⟨#[]⟩ : ByteArray)) := of_decide_eq_true c_7
                refine AOps.sgn rfl rfl (by kernel_rfl) rfl (Nat.le_of_ble_eq_true rfl) ?_
                refine AOps.sgn rfl rfl (by kernel_rfl) rfl (Nat.le_of_ble_eq_true rfl) ?_
                refine AOps.sgn rfl rfl (by kernel_rfl) rfl (Nat.le_of_ble_eq_true rfl) ?_
                refine AOps.sgy rfl rfl (by kernel_rfl) rfl ?_
                refine AOps.sq (x := (AV.b true)) (by kernel_rfl) (Nat.le_of_ble_eq_true rfl) ?_
                refine AOps.sq (x := (AV.b true)) (by kernel_rfl) (Nat.le_of_ble_eq_true rfl) ?_
                refine AOps.sq (x := (AV.b true)) (by kernel_rfl) (Nat.le_of_ble_eq_true rfl) ?_
                refine AOps.done ?_
                refine Awp.ret ?_
                have hM : m_ref1_EdgeMay e = true := by simp only [m_ref1_EdgeMay, c_1, c_2, c_3, c_4, c_5, c_6, c_7, List.length_nil, Int.natCast_zero, eq_self, decide_true, List.nil_append, List.take_nil, cond_true, cond_false, Bool.true_and, Bool.false_and, Bool.true_or, Bool.false_or, Bool.not_true, Bool.not_false]
                refine ⟨Or.inr rfl, ?_⟩
                rw [hM]
                exact Ent.cast (x' := (AV.b true)) (y' := (AV.b true)) (by kernel_rfl) (by kernel_rfl) (Ent.c (by kernel_rfl) (by kernel_rfl))

theorem w_ref1_GraphMay (W : World) (g : DGraph) : PureAt Go.Proofs.Tryd.prog W 45 [(DGraph.av g)] (AV.b (m_ref1_GraphMay g)) [] := by
  refine pure_of_bodyC (fn := Go.Proofs.Tryd.f45) Go.Proofs.Tryd.func45 rfl (en45 W) (ts := [2]) rfl (Nat.le_of_ble_eq_true rfl) ?_
  refine Awp.seq ?_
  refine Awp.region tabS_ok ?_
  refine AOps.sn (x := (AV.loc 0 0 0)) (h' := ⟨1, [(0, some ⟨27, 3, [(DGraph.av g)]⟩)]⟩) (by kernel_rfl) (Nat.le_of_ble_eq_true rfl) ?_
  refine AOps.sq (x := (AV.b false)) (by kernel_rfl) (Nat.le_of_ble_eq_true rfl) ?_
  refine AOps.done ?_
  refine Awp.seq ?_
  refine Awp.seq ?_
  refine Awp.region tabS_ok ?_
  refine AOps.sq (x := (AV.i .i64 (0 : Int))) (by kernel_rfl) (Nat.le_of_ble_eq_true rfl) ?_
  refine AOps.done ?_
  refine Awp.block ?_
  refine Awp.lim 0 (x := (DGraph.av g)) (by kernel_rfl) fun hlm1 => ?_
  have hB1 : g.pools.length ≤ 281474976710656 := lim_slA (DGraph.lim_pools hlm1)
  obtain ⟨R1, hR1⟩ : ∃ R, m_ref1_GraphMay_L1 g g.pools 0 = R := ⟨_, rfl⟩
  refine Awp.loopT (fun (i : Nat) => [(1, (AV.loc 0 0 0)), (3, (AV.i .i64 ((i : Nat) : Int)))]) (fun (i : Nat) => ⟨1, [(0, some ⟨27, 3, [(DGraph.av g)]⟩)]⟩) (fun (i : Nat) => i ≤ g.pools.length ∧ m_ref1_GraphMay_L1 g (g.pools.drop i) i = R1) (fun (i : Nat) => g.pools.length - i) 0 ?_ ?_ ?_
  · exact ⟨[0], ⟨by decide, rfl, (FitsObjs.cons (by kernel_rfl) FitsObjs.nil), (EntE.cons (Ent.f (by kernel_rfl)) (EntE.cons (Ent.c (by kernel_rfl) (by kernel_rfl)) EntE.nil))⟩, keep0⟩
  · exact ⟨by (try dsimp only); omega, hR1⟩
  · rintro i ⟨hi1, hE1⟩
    try dsimp only
    refine Awp.seq ?_
    refine Awp.seq ?_
    refine Awp.region tabS_ok ?_
    refine AOps.sq (x := (AV.i .i64 ((i : Nat) : Int))) (by kernel_rfl) (Nat.le_of_ble_eq_true rfl) ?_
    refine AOps.sq (x := (AV.loc 0 0 1)) (by kernel_rfl) (Nat.le_of_ble_eq_true rfl) ?_
    refine AOps.sq (x := ((slA 2 DPool.av) g.pools)) (by kernel_rfl) (Nat.le_of_ble_eq_true rfl) ?_
    refine AOps.sq (x := (AV.i .i64 ((g.pools.length : Nat) : Int))) (g_len (k := 2) (nl := false) (e := 34) (A := DPool.av) (xs := g.pools) (by kernel_rfl) (by kernel_rfl)) (Nat.le_of_ble_eq_true rfl) ?_
    refine AOps.sq (x := (AV.b (decide (((i : Nat) : Int) < ((g.pools.length : Nat) : Int))))) (by kernel_rfl) (Nat.le_of_ble_eq_true rfl) ?_
    refine AOps.done ?_
    rcases Nat.lt_or_ge i g.pools.length with hl1 | hl1
    · have hc1 : decide (((i : Nat) : Int) < ((g.pools.length : Nat) : Int)) = true := decide_eq_true (by omega)
      refine Awp.cond (t := true) (by rw [← hc1] <;> kernel_rfl) (Awp.skip ?_)
      obtain ⟨x1, hx1⟩ : ∃ x, g.pools[i]? = some x := ⟨_, List.getElem?_eq_getElem hl1⟩
      rw [drop_at hx1, m_ref1_GraphMay_L1.eq_2] at hE1
      refine Awp.seq ?_
      refine Awp.block ?_
      refine Awp.seq ?_
      refine Awp.drawn tabS_ok mixed 37 (by kernel_rfl) (Nat.le_of_ble_eq_true rfl) ?_
      refine AOpsD.sq (x := (AV.loc 0 0 1)) (by kernel_rfl) (Nat.le_of_ble_eq_true rfl) ?_
      refine AOpsD.sq (x := ((slA 2 DPool.av) g.pools)) (by kernel_rfl) (Nat.le_of_ble_eq_true rfl) ?_
      refine AOpsD.sq (x := (AV.i .i64 ((i : Nat) : Int))) (by kernel_rfl) (Nat.le_of_ble_eq_true rfl) ?_
      refine AOpsD.sq (x := (AV.pt (DPool.av x1).cells)) (g_idx (k := 2) (nl := false) (e := 34) (kk := .i64) (A := DPool.av) (xs := g.pools) (i := i) (by kernel_rfl) (by kernel_rfl) (by kernel_rfl) ⟨by kernel_rfl, by decide⟩ hx1) (Nat.le_of_ble_eq_true rfl) ?_
      refine AOpsD.sq (x := (AV.pt ((DPool.av x1).cells.drop 0))) (by kernel_rfl) (Nat.le_of_ble_eq_true rfl) ?_
      refine AOpsD.sq (x := (AV.s x1.name)) (by kernel_rfl) (Nat.le_of_ble_eq_true rfl) ?_
      refine AOpsD.sc0 (vs := [(AV.s x1.name)]) (r0 := (AV.b (m_ref1_NameMay x1.name))) (by kernel_rfl) (by kernel_rfl) (w_ref1_NameMay W x1.name) (by kernel_rfl) (Nat.le_of_ble_eq_true rfl) ?_
      refine AOpsD.sq (x := (AV.b (!(m_ref1_NameMay x1.name)))) (by kernel_rfl) (Nat.le_of_ble_eq_true rfl) ?_
      refine AOpsD.sq (x := (AV.b (!(m_ref1_NameMay x1.name)))) (by kernel_rfl) (Nat.le_of_ble_eq_true rfl) ?_
      cases c_1 : (!(m_ref1_NameMay x1.name))
      · have q_1 := ref1_NameMay_sz c_1
        refine AOpsD.sgy rfl rfl (by kernel_rfl) rfl ?_
        refine AOpsD.sq (x := (AV.loc 0 0 1)) (by kernel_rfl) (Nat.le_of_ble_eq_true rfl) ?_
        refine AOpsD.sgy rfl rfl (by kernel_rfl) rfl ?_
        refine AOpsD.sq (x := ((slA 2 DPool.av) g.pools)) (by kernel_rfl) (Nat.le_of_ble_eq_true rfl) ?_
        refine AOpsD.sgy rfl rfl (by kernel_rfl) rfl ?_
        refine AOpsD.sq (x := (AV.i .i64 ((i : Nat) : Int))) (by kernel_rfl) (Nat.le_of_ble_eq_true rfl) ?_
        refine AOpsD.sgy rfl rfl (by kernel_rfl) rfl ?_
        refine AOpsD.sq (x := (AV.pt (DPool.av x1).cells)) (g_idx (k := 2) (nl := false) (e := 34) (kk := .i64) (A := DPool.av) (xs := g.pools) (i := i) (by kernel_rfl) (by kernel_rfl) (by kernel_rfl) ⟨by kernel_rfl, by decide⟩ hx1) (Nat.le_of_ble_eq_true rfl) ?_
        refine AOpsD.sgy rfl rfl (by kernel_rfl) rfl ?_
        refine AOpsD.sq (x := (AV.pt ((DPool.av x1).cells.drop 1))) (by kernel_rfl) (Nat.le_of_ble_eq_true rfl) ?_
        refine AOpsD.sgy rfl rfl (by kernel_rfl) rfl ?_
        refine AOpsD.sq (x := (AV.i .i64 x1.depth)) (by kernel_rfl) (Nat.le_of_ble_eq_true rfl) ?_
        refine AOpsD.sgy rfl rfl (by kernel_rfl) rfl ?_
        refine AOpsD.sq (x := (AV.b (decide (x1.depth < (1 : Int))))) (by kernel_rfl) (Nat.le_of_ble_eq_true rfl) ?_
        refine AOpsD.sq (x := (AV.b (decide (x1.depth < (1 : Int))))) (by kernel_rfl) (Nat.le_of_ble_eq_true rfl) ?_
        refine AOpsD.sq (x := (AV.b (decide (x1.depth < (1 : Int))))) (by kernel_rfl) (Nat.le_of_ble_eq_true rfl) ?_
        cases c_2 : decide (x1.depth < (1 : Int))
        · have k_2 : ¬ (x1.depth < (1 : Int)) := of_decide_eq_false c_2
          refine AOpsD.sgy rfl rfl (by kernel_rfl) rfl ?_
          refine AOpsD.sq (x := (AV.loc 0 0 1)) (by kernel_rfl) (Nat.le_of_ble_eq_true rfl) ?_
          refine AOpsD.sgy rfl rfl (by kernel_rfl) rfl ?_
          refine AOpsD.sq (x := ((slA 2 DPool.av) g.pools)) (by kernel_rfl) (Nat.le_of_ble_eq_true rfl) ?_
          refine AOpsD.sgy rfl rfl (by kernel_rfl) rfl ?_
          refine AOpsD.sq (x := (AV.i .i64 ((i : Nat) : Int))) (by kernel_rfl) (Nat.le_of_ble_eq_true rfl) ?_
          refine AOpsD.sgy rfl rfl (by kernel_rfl) rfl ?_
          refine AOpsD.sq (x := (AV.pt (DPool.av x1).cells)) (g_idx (k := 2) (nl := false) (e := 34) (kk := .i64) (A := DPool.av) (xs := g.pools) (i := i) (by kernel_rfl) (by kernel_rfl) (by kernel_rfl) ⟨by kernel_rfl, by decide⟩ hx1) (Nat.le_of_ble_eq_true rfl) ?_
          refine AOpsD.sgy rfl rfl (by kernel_rfl) rfl ?_
          refine AOpsD.sq (x := (AV.pt ((DPool.av x1).cells.drop 1))) (by kernel_rfl) (Nat.le_of_ble_eq_true rfl) ?_
          refine AOpsD.sgy rfl rfl (by kernel_rfl) rfl ?_
          refine AOpsD.sq (x := (AV.i .i64 x1.depth)) (by kernel_rfl) (Nat.le_of_ble_eq_true rfl) ?_
          refine AOpsD.sgy rfl rfl (by kernel_rfl) rfl ?_
          refine AOpsD.sq (x := (AV.b (decide ((8 : Int) < x1.depth)))) (by kernel_rfl) (Nat.le_of_ble_eq_true rfl) ?_
          refine AOpsD.sq (x := (AV.b (decide ((8 : Int) < x1.depth)))) (by kernel_rfl) (Nat.le_of_ble_eq_true rfl) ?_
          refine AOpsD.sq (x := (AV.b (decide ((8 : Int) < x1.depth)))) (by kernel_rfl) (Nat.le_of_ble_eq_true rfl) ?_
          cases c_3 : decide ((8 : Int) < x1.depth)
          · have k_3 : ¬ ((8 : Int) < x1.depth) := of_decide_eq_false c_3
            refine AOpsD.sgy rfl rfl (by kernel_rfl) rfl ?_
            refine AOpsD.sq (x := (AV.loc 0 0 1)) (by kernel_rfl) (Nat.le_of_ble_eq_true rfl) ?_
            refine AOpsD.sgy rfl rfl (by kernel_rfl) rfl ?_
            refine AOpsD.sq (x := ((slA 2 DPool.av) g.pools)) (by kernel_rfl) (Nat.le_of_ble_eq_true rfl) ?_
            refine AOpsD.sgy rfl rfl (by kernel_rfl) rfl ?_
            refine AOpsD.sq (x := (AV.loc 0 0 1)) (by kernel_rfl) (Nat.le_of_ble_eq_true rfl) ?_
            refine AOpsD.sgy rfl rfl (by kernel_rfl) rfl ?_
            refine AOpsD.sq (x := ((slA 2 DPool.av) g.pools)) (by kernel_rfl) (Nat.le_of_ble_eq_true rfl) ?_
            refine AOpsD.sgy rfl rfl (by kernel_rfl) rfl ?_
            refine AOpsD.sq (x := (AV.i .i64 ((i : Nat) : Int))) (by kernel_rfl) (Nat.le_of_ble_eq_true rfl) ?_
            refine AOpsD.sgy rfl rfl (by kernel_rfl) rfl ?_
            refine AOpsD.sq (x := (AV.pt (DPool.av x1).cells)) (g_idx (k := 2) (nl := false) (e := 34) (kk := .i64) (A := DPool.av) (xs := g.pools) (i := i) (by kernel_rfl) (by kernel_rfl) (by kernel_rfl) ⟨by kernel_rfl, by decide⟩ hx1) (Nat.le_of_ble_eq_true rfl) ?_
            refine AOpsD.sgy rfl rfl (by kernel_rfl) rfl ?_
            refine AOpsD.sq (x := (AV.pt ((DPool.av x1).cells.drop 0))) (by kernel_rfl) (Nat.le_of_ble_eq_true rfl) ?_
            refine AOpsD.sgy rfl rfl (by kernel_rfl) rfl ?_
            refine AOpsD.sq (x := (AV.s x1.name)) (by kernel_rfl) (Nat.le_of_ble_eq_true rfl) ?_
            refine AOpsD.sgy rfl rfl (by kernel_rfl) rfl ?_
            refine AOpsD.sc0 (vs := [((slA 2 DPool.av) g.pools), (AV.s x1.name)]) (r0 := (AV.i .i64 (m_ref1_poolAt g.pools x1.name))) (by kernel_rfl) (by kernel_rfl) (w_ref1_poolAt W g.pools x1.name) (by kernel_rfl) (Nat.le_of_ble_eq_true rfl) ?_
            refine AOpsD.sgy rfl rfl (by kernel_rfl) rfl ?_
            refine AOpsD.sq (x := (AV.i .i64 ((i : Nat) : Int))) (by kernel_rfl) (Nat.le_of_ble_eq_true rfl) ?_
            refine AOpsD.sgy rfl rfl (by kernel_rfl) rfl ?_
            refine AOpsD.sq (x := (AV.b (!decide ((m_ref1_poolAt g.pools x1.name) = ((i : Nat) : Int))))) (by kernel_rfl) (Nat.le_of_ble_eq_true rfl) ?_
            refine AOpsD.sq (x := (AV.b (!decide ((m_ref1_poolAt g.pools x1.name) = ((i : Nat) : Int))))) (by kernel_rfl) (Nat.le_of_ble_eq_true rfl) ?_
            refine AOpsD.fin ?_
            cases c_4 : (!decide ((m_ref1_poolAt g.pools x1.name) = ((i : Nat) : Int)))
            · have k_4 : ((m_ref1_poolAt g.pools x1.name) = ((i : Nat) : Int)) := of_decide_eq_true (by simpa using c_4)
              refine Awp.cond (t := false) (by kernel_rfl) ?_
              refine Awp.skip ?_
              refine Awp.region tabS_ok ?_
              refine AOps.sq (x := (AV.i .i64 ((i : Nat) : Int))) (by kernel_rfl) (Nat.le_of_ble_eq_true rfl) ?_
              refine AOps.sq (x := (AV.i .i64 ((i + 1 : Nat) : Int))) (g_addN (i := i) (m := 1) (by kernel_rfl) (by kernel_rfl) (by first | omega | (unfold LIM; omega) | (simp only [List.length_append, List.length_cons, List.length_nil, List.length_set, List.length_replicate, ByteArray.size_append, List.length_take, List.length_drop, LIM]; omega) | (simp [LIM]; done) | (simp [LIM]; omega))) (Nat.le_of_ble_eq_true rfl) ?_
              refine AOps.sq (x := (AV.i .i64 ((i + 1 : Nat) : Int))) (by kernel_rfl) (Nat.le_of_ble_eq_true rfl) ?_
              refine AOps.done ?_
              try simp only [c_1, c_2, c_3, c_4, List.length_nil, Int.natCast_zero, eq_self, decide_true, List.nil_append, List.take_nil, cond_true, cond_false, Bool.true_and, Bool.false_and, Bool.true_or, Bool.false_or, Bool.not_true, Bool.not_false] at hE1
              refine ⟨i + 1, by (try dsimp only); omega, ⟨by (try dsimp only); omega, hE1⟩, ?_⟩
              exact ⟨[0], ⟨by decide, rfl, (FitsObjs.cons (by kernel_rfl) FitsObjs.nil), (EntE.cons (Ent.f (by kernel_rfl)) (EntE.cons (Ent.c (by kernel_rfl) (by kernel_rfl)) EntE.nil))⟩, keep0⟩
            · have k_4 : ¬ ((m_ref1_poolAt g.pools x1.name) = ((i : Nat) : Int)) := of_decide_eq_false (by simpa using c_4)
              refine Awp.cond (t := true) (by kernel_rfl) ?_
              refine Awp.seq ?_
              refine Awp.region tabS_ok ?_
              refine AOps.sq (x := (AV.b false)) (by kernel_rfl) (Nat.le_of_ble_eq_true rfl) ?_
              refine AOps.done ?_
              refine Awp.ret ?_
              try simp only [c_1, c_2, c_3, c_4, List.length_nil, Int.natCast_zero, eq_self, decide_true, List.nil_append, List.take_nil, cond_true, cond_false, Bool.true_and, Bool.false_and, Bool.true_or, Bool.false_or, Bool.not_true, Bool.not_false] at hE1
              subst hE1
              have hM : m_ref1_GraphMay g = false := by simp only [m_ref1_GraphMay, hR1, List.length_nil, Int.natCast_zero, eq_self, decide_true, List.nil_append, List.take_nil, cond_true, cond_false, Bool.true_and, Bool.false_and, Bool.true_or, Bool.false_or, Bool.not_true, Bool.not_false]
              refine ⟨Or.inr rfl, ?_⟩
              rw [hM]
              exact Ent.cast (x' := (AV.b false)) (y' := (AV.b false)) (by kernel_rfl) (by kernel_rfl) (Ent.c (by kernel_rfl) (by kernel_rfl))
          · have k_3 : ((8 : Int) < x1.depth) := of_decide_eq_true c_3
            refine AOpsD.sgn rfl rfl (by kernel_rfl) rfl (Nat.le_of_ble_eq_true rfl) ?_
            refine AOpsD.sgn rfl rfl (by kernel_rfl) rfl (Nat.le_of_ble_eq_true rfl) ?_
            refine AOpsD.sgn rfl rfl (by kernel_rfl) rfl (Nat.le_of_ble_eq_true rfl) ?_
            refine AOpsD.sgn rfl rfl (by kernel_rfl) rfl (Nat.le_of_ble_eq_true rfl) ?_
            refine AOpsD.sgn rfl rfl (by kernel_rfl) rfl (Nat.le_of_ble_eq_true rfl) ?_
            refine AOpsD.sgn rfl rfl (by kernel_rfl) rfl (Nat.le_of_ble_eq_true rfl) ?_
            refine AOpsD.sgn rfl rfl (by kernel_rfl) rfl (Nat.le_of_ble_eq_true rfl) ?_
            refine AOpsD.sgn rfl rfl (by kernel_rfl) rfl (Nat.le_of_ble_eq_true rfl) ?_
            refine AOpsD.sgn rfl rfl (by kernel_rfl) rfl (Nat.le_of_ble_eq_true rfl) ?_
            refine AOpsD.sgn rfl rfl (by kernel_rfl) rfl (Nat.le_of_ble_eq_true rfl) ?_
            refine AOpsD.sgn rfl rfl (by kernel_rfl) rfl (Nat.le_of_ble_eq_true rfl) ?_
            refine AOpsD.sq (x := (AV.b true)) (by kernel_rfl) (Nat.le_of_ble_eq_true rfl) ?_
            refine AOpsD.fin ?_
            refine Awp.cond (t := true) (by kernel_rfl) ?_
            refine Awp.seq ?_
            refine Awp.region tabS_ok ?_
            refine AOps.sq (x := (AV.b false)) (by kernel_rfl) (Nat.le_of_ble_eq_true rfl) ?_
            refine AOps.done ?_
            refine Awp.ret ?_
            try simp only [c_1, c_2, c_3, List.length_nil, Int.natCast_zero, eq_self, decide_true, List.nil_append, List.take_nil, cond_true, cond_false, Bool.true_and, Bool.false_and, Bool.true_or, Bool.false_or, Bool.not_true, Bool.not_false] at hE1
            subst hE1
            have hM : m_ref1_GraphMay g = false := by simp only [m_ref1_GraphMay, hR1, List.length_nil, Int.natCast_zero, eq_self, decide_true, List.nil_append, List.take_nil, cond_true, cond_false, Bool.true_and, Bool.false_and, Bool.true_or, Bool.false_or, Bool.not_true, Bool.not_false]
            refine ⟨Or.inr rfl, ?_⟩
            rw [hM]
            exact Ent.cast (x' := (AV.b false)) (y' := (AV.b false)) (by kernel_rfl) (by kernel_rfl) (Ent.c (by kernel_rfl) (by kernel_rfl))
        · have k_2 : (x1.depth < (1 : Int)) := of_decide_eq_true c_2
          refine AOpsD.sgn rfl rfl (by kernel_rfl) rfl (Nat.le_of_ble_eq_true rfl) ?_
          refine AOpsD.sgn rfl rfl (by kernel_rfl) rfl (Nat.le_of_ble_eq_true rfl) ?_
          refine AOpsD.sgn rfl rfl (by kernel_rfl) rfl (Nat.le_of_ble_eq_true rfl) ?_
          refine AOpsD.sgn rfl rfl (by kernel_rfl) rfl (Nat.le_of_ble_eq_true rfl) ?_
          refine AOpsD.sgn rfl rfl (by kernel_rfl) rfl (Nat.le_of_ble_eq_true rfl) ?_
          refine AOpsD.sgn rfl rfl (by kernel_rfl) rfl (Nat.le_of_ble_eq_true rfl) ?_
          refine AOpsD.sgn rfl rfl (by kernel_rfl) rfl (Nat.le_of_ble_eq_true rfl) ?_
          refine AOpsD.sq (x := (AV.b true)) (by kernel_rfl) (Nat.le_of_ble_eq_true rfl) ?_
          refine AOpsD.sq (x := (AV.b true)) (by kernel_rfl) (Nat.le_of_ble_eq_true rfl) ?_
          refine AOpsD.sgn rfl rfl (by kernel_rfl) rfl (Nat.le_of_ble_eq_true rfl) ?_
          refine AOpsD.sgn rfl rfl (by kernel_rfl) rfl (Nat.le_of_ble_eq_true rfl) ?_
          refine AOpsD.sgn rfl rfl (by kernel_rfl) rfl (Nat.le_of_ble_eq_true rfl) ?_
          refine AOpsD.sgn rfl rfl (by kernel_rfl) rfl (Nat.le_of_ble_eq_true rfl) ?_
          refine AOpsD.sgn rfl rfl (by kernel_rfl) rfl (Nat.le_of_ble_eq_true rfl) ?_
          refine AOpsD.sgn rfl rfl (by kernel_rfl) rfl (Nat.le_of_ble_eq_true rfl) ?_
          refine AOpsD.sgn rfl rfl (by kernel_rfl) rfl (Nat.le_of_ble_eq_true rfl) ?_
          refine AOpsD.sgn rfl rfl (by kernel_rfl) rfl (Nat.le_of_ble_eq_true rfl) ?_
          refine AOpsD.sgn rfl rfl (by kernel_rfl) rfl (Nat.le_of_ble_eq_true rfl) ?_
          refine AOpsD.sgn rfl rfl (by kernel_rfl) rfl (Nat.le_of_ble_eq_true rfl) ?_
          refine AOpsD.sgn rfl rfl (by kernel_rfl) rfl (Nat.le_of_ble_eq_true rfl) ?_
          refine AOpsD.sq (x := (AV.b true)) (by kernel_rfl) (Nat.le_of_ble_eq_true rfl) ?_
          refine AOpsD.fin ?_
          refine Awp.cond (t := true) (by kernel_rfl) ?_
          refine Awp.seq ?_
          refine Awp.region tabS_ok ?_
          refine AOps.sq (x := (AV.b false)) (by kernel_rfl) (Nat.le_of_ble_eq_true rfl) ?_
          refine AOps.done ?_
          refine Awp.ret ?_
          try simp only [c_1, c_2, List.length_nil, Int.natCast_zero, eq_self, decide_true, List.nil_append, List.take_nil, cond_true, cond_false, Bool.true_and, Bool.false_and, Bool.true_or, Bool.false_or, Bool.not_true, Bool.not_false] at hE1
          subst hE1
          have hM : m_ref1_GraphMay g = false := by simp only [m_ref1_GraphMay, hR1, List.length_nil, Int.natCast_zero, eq_self, decide_true, List.nil_append, List.take_nil, cond_true, cond_false, Bool.true_and, Bool.false_and, Bool.true_or, Bool.false_or, Bool.not_true, Bool.not_false]
          refine ⟨Or.inr rfl, ?_⟩
          rw [hM]
          exact Ent.cast (x' := (AV.b false)) (y' := (AV.b false)) (by kernel_rfl) (by kernel_rfl) (Ent.c (by kernel_rfl) (by kernel_rfl))
      · refine AOpsD.sgn rfl rfl (by kernel_rfl) rfl (Nat.le_of_ble_eq_true rfl) ?_
        refine AOpsD.sgn rfl rfl (by kernel_rfl) rfl (Nat.le_of_ble_eq_true rfl) ?_
        refine AOpsD.sgn rfl rfl (by kernel_rfl) rfl (Nat.le_of_ble_eq_true rfl) ?_
        refine AOpsD.sgn rfl rfl (by kernel_rfl) rfl (Nat.le_of_ble_eq_true rfl) ?_
        refine AOpsD.sgn rfl rfl (by kernel_rfl) rfl (Nat.le_of_ble_eq_true rfl) ?_
        refine AOpsD.sgn rfl rfl (by kernel_rfl) rfl (Nat.le_of_ble_eq_true rfl) ?_
        refine AOpsD.sgn rfl rfl (by kernel_rfl) rfl (Nat.le_of_ble_eq_true rfl) ?_
        refine AOpsD.sq (x := (AV.b true)) (by kernel_rfl) (Nat.le_of_ble_eq_true rfl) ?_
        refine AOpsD.sq (x := (AV.b true)) (by kernel_rfl) (Nat.le_of_ble_eq_true rfl) ?_
        refine AOpsD.sgn rfl rfl (by kernel_rfl) rfl (Nat.le_of_ble_eq_true rfl) ?_
        refine AOpsD.sgn rfl rfl (by kernel_rfl) rfl (Nat.le_of_ble_eq_true rfl) ?_
        refine AOpsD.sgn rfl rfl (by kernel_rfl) rfl (Nat.le_of_ble_eq_true rfl) ?_
        refine AOpsD.sgn rfl rfl (by kernel_rfl) rfl (Nat.le_of_ble_eq_true rfl) ?_
        refine AOpsD.sgn rfl rfl (by kernel_rfl) rfl (Nat.le_of_ble_eq_true rfl) ?_
        refine AOpsD.sgn rfl rfl (by kernel_rfl) rfl (Nat.le_of_ble_eq_true rfl) ?_
        refine AOpsD.sgn rfl rfl (by kernel_rfl) rfl (Nat.le_of_ble_eq_true rfl) ?_
        refine AOpsD.sq (x := (AV.b true)) (by kernel_rfl) (Nat.le_of_ble_eq_true rfl) ?_
        refine AOpsD.sq (x := (AV.b true)) (by kernel_rfl) (Nat.le_of_ble_eq_true rfl) ?_
        refine AOpsD.sgn rfl rfl (by kernel_rfl) rfl (Nat.le_of_ble_eq_true rfl) ?_
        refine AOpsD.sgn rfl rfl (by kernel_rfl) rfl (Nat.le_of_ble_eq_true rfl) ?_
        refine AOpsD.sgn rfl rfl (by kernel_rfl) rfl (Nat.le_of_ble_eq_true rfl) ?_
        refine AOpsD.sgn rfl rfl (by kernel_rfl) rfl (Nat.le_of_ble_eq_true rfl) ?_
        refine AOpsD.sgn rfl rfl (by kernel_rfl) rfl (Nat.le_of_ble_eq_true rfl) ?_
        refine AOpsD.sgn rfl rfl (by kernel_rfl) rfl (Nat.le_of_ble_eq_true rfl) ?_
        refine AOpsD.sgn rfl rfl (by kernel_rfl) rfl (Nat.le_of_ble_eq_true rfl) ?_
        refine AOpsD.sgn rfl rfl (by kernel_rfl) rfl (Nat.le_of_ble_eq_true rfl) ?_
        refine AOpsD.sgn rfl rfl (by kernel_rfl) rfl (Nat.le_of_ble_eq_true rfl) ?_
        refine AOpsD.sgn rfl rfl (by kernel_rfl) rfl (Nat.le_of_ble_eq_true rfl) ?_
        refine AOpsD.sgn rfl rfl (by kernel_rfl) rfl (Nat.le_of_ble_eq_true rfl) ?_
        refine AOpsD.sq (x := (AV.b true)) (by kernel_rfl) (Nat.le_of_ble_eq_true rfl) ?_
        refine AOpsD.fin ?_
        refine Awp.cond (t := true) (by kernel_rfl) ?_
        refine Awp.seq ?_
        refine Awp.region tabS_ok ?_
        refine AOps.sq (x := (AV.b false)) (by kernel_rfl) (Nat.le_of_ble_eq_true rfl) ?_
        refine AOps.done ?_
        refine Awp.ret ?_
        try simp only [c_1, List.length_nil, Int.natCast_zero, eq_self, decide_true, List.nil_append, List.take_nil, cond_true, cond_false, Bool.true_and, Bool.false_and, Bool.true_or, Bool.false_or, Bool.not_true, Bool.not_false] at hE1
        subst hE1
        have hM : m_ref1_GraphMay g = false := by simp only [m_ref1_GraphMay, hR1, List.length_nil, Int.natCast_zero, eq_self, decide_true, List.nil_append, List.take_nil, cond_true, cond_false, Bool.true_and, Bool.false_and, Bool.true_or, Bool.false_or, Bool.not_true, Bool.not_false]
        refine ⟨Or.inr rfl, ?_⟩
        rw [hM]
        exact Ent.cast (x' := (AV.b false)) (y' := (AV.b false)) (by kernel_rfl) (by kernel_rfl) (Ent.c (by kernel_rfl) (by kernel_rfl))
    · have hc1 : decide (((i : Nat) : Int) < ((g.pools.length : Nat) : Int)) = false := decide_eq_false (by omega)
      refine Awp.cond (t := false) (by rw [← hc1] <;> kernel_rfl) (Awp.exit ?_)
      rw [List.drop_eq_nil_of_le (hl1), m_ref1_GraphMay_L1.eq_1] at hE1
      subst hE1
      refine Awp.seq ?_
      refine Awp.seq ?_
      refine Awp.region tabS_ok ?_
      refine AOps.sq (x := (AV.i .i64 (0 : Int))) (by kernel_rfl) (Nat.le_of_ble_eq_true rfl) ?_
      refine AOps.done ?_
      refine Awp.block ?_
      refine Awp.limLoc 1 0 (id := 0) (j := 0) (o := 0) (ob := ⟨27, 3, [(DGraph.av g)]⟩) (x := (DGraph.av g)) (by kernel_rfl) rfl rfl fun hlm2 => ?_
      have hB2 : g.edges.length ≤ 281474976710656 := lim_slA (DGraph.lim_edges (DGraph.lim_pt hlm2))
      obtain ⟨R2, hR2⟩ : ∃ R, m_ref1_GraphMay_L2 g g.edges 0 = R := ⟨_, rfl⟩
      refine Awp.loopT (fun (i2 : Nat) => [(1, (AV.loc 0 0 0)), (4, (AV.i .i64 ((i2 : Nat) : Int)))]) (fun (i2 : Nat) => ⟨1, [(0, some ⟨27, 3, [(DGraph.av g)]⟩)]⟩) (fun (i2 : Nat) => i2 ≤ g.edges.length ∧ m_ref1_GraphMay_L2 g (g.edges.drop i2) i2 = R2) (fun (i2 : Nat) => g.edges.length - i2) 0 ?_ ?_ ?_
      · exact ⟨[0], ⟨by decide, rfl, (FitsObjs.cons (by kernel_rfl) FitsObjs.nil), (EntE.cons (Ent.f (by kernel_rfl)) (EntE.cons (Ent.c (by kernel_rfl) (by kernel_rfl)) EntE.nil))⟩, keep0⟩
      · exact ⟨by (try dsimp only); omega, hR2⟩
      · rintro i2 ⟨hi2, hE2⟩
        try dsimp only
        refine Awp.seq ?_
        refine Awp.seq ?_
        refine Awp.region tabS_ok ?_
        refine AOps.sq (x := (AV.i .i64 ((i2 : Nat) : Int))) (by kernel_rfl) (Nat.le_of_ble_eq_true rfl) ?_
        refine AOps.sq (x := (AV.loc 0 0 0)) (by kernel_rfl) (Nat.le_of_ble_eq_true rfl) ?_
        refine AOps.sq (x := ((slA 7 DEdge.av) g.edges)) (by kernel_rfl) (Nat.le_of_ble_eq_true rfl) ?_
        refine AOps.sq (x := (AV.i .i64 ((g.edges.length : Nat) : Int))) (g_len (k := 7) (nl := false) (e := 31) (A := DEdge.av) (xs := g.edges) (by kernel_rfl) (by kernel_rfl)) (Nat.le_of_ble_eq_true rfl) ?_
        refine AOps.sq (x := (AV.b (decide (((i2 : Nat) : Int) < ((g.edges.length : Nat) : Int))))) (by kernel_rfl) (Nat.le_of_ble_eq_true rfl) ?_
        refine AOps.done ?_
        rcases Nat.lt_or_ge i2 g.edges.length with hl2 | hl2
        · have hc2 : decide (((i2 : Nat) : Int) < ((g.edges.length : Nat) : Int)) = true := decide_eq_true (by omega)
          refine Awp.cond (t := true) (by rw [← hc2] <;> kernel_rfl) (Awp.skip ?_)
          obtain ⟨x2, hx2⟩ : ∃ x, g.edges[i2]? = some x := ⟨_, List.getElem?_eq_getElem hl2⟩
          rw [drop_at hx2, m_ref1_GraphMay_L2.eq_2] at hE2
          refine Awp.seq ?_
          refine Awp.block ?_
          refine Awp.seq ?_
          refine Awp.drawn tabS_ok mixed 24 (by kernel_rfl) (Nat.le_of_ble_eq_true rfl) ?_
          refine AOpsD.sq (x := (AV.loc 0 0 0)) (by kernel_rfl) (Nat.le_of_ble_eq_true rfl) ?_
          refine AOpsD.sq (x := ((slA 7 DEdge.av) g.edges)) (by kernel_rfl) (Nat.le_of_ble_eq_true rfl) ?_
          refine AOpsD.sq (x := (AV.i .i64 ((i2 : Nat) : Int))) (by kernel_rfl) (Nat.le_of_ble_eq_true rfl) ?_
          refine AOpsD.sq (x := (AV.pt (DEdge.av x2).cells)) (g_idx (k := 7) (nl := false) (e := 31) (kk := .i64) (A := DEdge.av) (xs := g.edges) (i := i2) (by kernel_rfl) (by kernel_rfl) (by kernel_rfl) ⟨by kernel_rfl, by decide⟩ hx2) (Nat.le_of_ble_eq_true rfl) ?_
          refine AOpsD.sq (x := (DEdge.av x2)) (by kernel_rfl) (Nat.le_of_ble_eq_true rfl) ?_
          refine AOpsD.sc0 (vs := [(DEdge.av x2)]) (r0 := (AV.b (m_ref1_EdgeMay x2))) (by kernel_rfl) (by kernel_rfl) (w_ref1_EdgeMay W x2) (by kernel_rfl) (Nat.le_of_ble_eq_true rfl) ?_
          refine AOpsD.sq (x := (AV.b (!(m_ref1_EdgeMay x2)))) (by kernel_rfl) (Nat.le_of_ble_eq_true rfl) ?_
          refine AOpsD.sq (x := (AV.b (!(m_ref1_EdgeMay x2)))) (by kernel_rfl) (Nat.le_of_ble_eq_true rfl) ?_
          cases c_5 : (!(m_ref1_EdgeMay x2))
          · refine AOpsD.sgy rfl rfl (by kernel_rfl) rfl ?_
            refine AOpsD.sq (x := (AV.loc 0 0 0)) (by kernel_rfl) (Nat.le_of_ble_eq_true rfl) ?_
            refine AOpsD.sgy rfl rfl (by kernel_rfl) rfl ?_
            refine AOpsD.sq (x := ((slA 7 DEdge.av) g.edges)) (by kernel_rfl) (Nat.le_of_ble_eq_true rfl) ?_
            refine AOpsD.sgy rfl rfl (by kernel_rfl) rfl ?_
            refine AOpsD.sq (x := (AV.i .i64 ((i2 : Nat) : Int))) (by kernel_rfl) (Nat.le_of_ble_eq_true rfl) ?_
            refine AOpsD.sgy rfl rfl (by kernel_rfl) rfl ?_
            refine AOpsD.sq (x := (AV.pt (DEdge.av x2).cells)) (g_idx (k := 7) (nl := false) (e := 31) (kk := .i64) (A := DEdge.av) (xs := g.edges) (i := i2) (by kernel_rfl) (by kernel_rfl) (by kernel_rfl) ⟨by kernel_rfl, by decide⟩ hx2) (Nat.le_of_ble_eq_true rfl) ?_
            refine AOpsD.sgy rfl rfl (by kernel_rfl) rfl ?_
            refine AOpsD.sq (x := (AV.pt ((DEdge.av x2).cells.drop 6))) (by kernel_rfl) (Nat.le_of_ble_eq_true rfl) ?_
            refine AOpsD.sgy rfl rfl (by kernel_rfl) rfl ?_
            refine AOpsD.sq (x := (AV.s x2.pool)) (by kernel_rfl) (Nat.le_of_ble_eq_true rfl) ?_
            refine AOpsD.sgy rfl rfl (by kernel_rfl) rfl ?_
            refine AOpsD.sq (x := (AV.b (!decide (x2.pool = (⟨#[]⟩ : ByteArray))))) (by kernel_rfl) (Nat.le_of_ble_eq_true rfl) ?_
            refine AOpsD.sgy rfl rfl (by kernel_rfl) rfl ?_
            refine AOpsD.sq (x := (AV.b (!decide (x2.pool = (⟨#[]⟩ : ByteArray))))) (by kernel_rfl) (Nat.le_of_ble_eq_true rfl) ?_
            cases c_6 : (!decide (x2.pool = (⟨#[]⟩ : ByteArray)))
            · have k_6 : (x2.pool = (⟨#[]⟩ : ByteArray)) := of_decide_eq_true (by simpa using c_6)
              refine AOpsD.sgn rfl rfl (by kernel_rfl) rfl (Nat.le_of_ble_eq_true rfl) ?_
              refine AOpsD.sgn rfl rfl (by kernel_rfl) rfl (Nat.le_of_ble_eq_true rfl) ?_
              refine AOpsD.sgn rfl rfl (by kernel_rfl) rfl (Nat.le_of_ble_eq_true rfl) ?_
              refine AOpsD.sgn rfl rfl (by kernel_rfl) rfl (Nat.le_of_ble_eq_true rfl) ?_
              refine AOpsD.sgn rfl rfl (by kernel_rfl) rfl (Nat.le_of_ble_eq_true rfl) ?_
              refine AOpsD.sgn rfl rfl (by kernel_rfl) rfl (Nat.le_of_ble_eq_true rfl) ?_
              refine AOpsD.sgn rfl rfl (by kernel_rfl) rfl (Nat.le_of_ble_eq_true rfl) ?_
              refine AOpsD.sgn rfl rfl (by kernel_rfl) rfl (Nat.le_of_ble_eq_true rfl) ?_
              refine AOpsD.sgn rfl rfl (by kernel_rfl) rfl (Nat.le_of_ble_eq_true rfl) ?_
              refine AOpsD.sgn rfl rfl (by kernel_rfl) rfl (Nat.le_of_ble_eq_true rfl) ?_
              refine AOpsD.sgy rfl rfl (by kernel_rfl) rfl ?_
              refine AOpsD.sq (x := (AV.b false)) (by kernel_rfl) (Nat.le_of_ble_eq_true rfl) ?_
              refine AOpsD.sq (x := (AV.b false)) (by kernel_rfl) (Nat.le_of_ble_eq_true rfl) ?_
              refine AOpsD.fin ?_
              refine Awp.cond (t := false) (by kernel_rfl) ?_
              refine Awp.skip ?_
              refine Awp.region tabS_ok ?_
              refine AOps.sq (x := (AV.i .i64 ((i2 : Nat) : Int))) (by kernel_rfl) (Nat.le_of_ble_eq_true rfl) ?_
              refine AOps.sq (x := (AV.i .i64 ((i2 + 1 : Nat) : Int))) (g_addN (i := i2) (m := 1) (by kernel_rfl) (by kernel_rfl) (by first | omega | (unfold LIM; omega) | (simp only [List.length_append, List.length_cons, List.length_nil, List.length_set, List.length_replicate, ByteArray.size_append, List.length_take, List.length_drop, LIM]; omega) | (simp [LIM]; done) | (simp [LIM]; omega))) (Nat.le_of_ble_eq_true rfl) ?_
              refine AOps.sq (x := (AV.i .i64 ((i2 + 1 : Nat) : Int))) (by kernel_rfl) (Nat.le_of_ble_eq_true rfl) ?_
              refine AOps.done ?_
              try simp only [c_5, c_6, List.length_nil, Int.natCast_zero, eq_self, decide_true, List.nil_append, List.take_nil, cond_true, cond_false, Bool.true_and, Bool.false_and, Bool.true_or, Bool.false_or, Bool.not_true, Bool.not_false] at hE2
              refine ⟨i2 + 1, by (try dsimp only); omega, ⟨by (try dsimp only); omega, hE2⟩, ?_⟩
              exact ⟨[0], ⟨by decide, rfl, (FitsObjs.cons (by kernel_rfl) FitsObjs.nil), (EntE.cons (Ent.f (by kernel_rfl)) (EntE.cons (Ent.c (by kernel_rfl) (by kernel_rfl)) EntE.nil))⟩, keep0⟩
            · have k_6 : ¬ (x2.pool = (⟨#[]⟩ : ByteArray)) := of_decide_eq_false (by simpa using c_6)
              refine AOpsD.sgy rfl rfl (by kernel_rfl) rfl ?_
              refine AOpsD.sq (x := (AV.loc 0 0 1)) (by kernel_rfl) (Nat.le_of_ble_eq_true rfl) ?_
              refine AOpsD.sgy rfl rfl (by kernel_rfl) rfl ?_
              refine AOpsD.sq (x := ((slA 2 DPool.av) g.pools)) (by kernel_rfl) (Nat.le_of_ble_eq_true rfl) ?_
              refine AOpsD.sgy rfl rfl (by kernel_rfl) rfl ?_
              refine AOpsD.sq (x := (AV.loc 0 0 0)) (by kernel_rfl) (Nat.le_of_ble_eq_true rfl) ?_
              refine AOpsD.sgy rfl rfl (by kernel_rfl) rfl ?_
              refine AOpsD.sq (x := ((slA 7 DEdge.av) g.edges)) (by kernel_rfl) (Nat.le_of_ble_eq_true rfl) ?_
              refine AOpsD.sgy rfl rfl (by kernel_rfl) rfl ?_
              refine AOpsD.sq (x := (AV.i .i64 ((i2 : Nat) : Int))) (by kernel_rfl) (Nat.le_of_ble_eq_true rfl) ?_
              refine AOpsD.sgy rfl rfl (by kernel_rfl) rfl ?_
              refine AOpsD.sq (x := (AV.pt (DEdge.av x2).cells)) (g_idx (k := 7) (nl := false) (e := 31) (kk := .i64) (A := DEdge.av) (xs := g.edges) (i := i2) (by kernel_rfl) (by kernel_rfl) (by kernel_rfl) ⟨by kernel_rfl, by decide⟩ hx2) (Nat.le_of_ble_eq_true rfl) ?_
              refine AOpsD.sgy rfl rfl (by kernel_rfl) rfl ?_
              refine AOpsD.sq (x := (AV.pt ((DEdge.av x2).cells.drop 6))) (by kernel_rfl) (Nat.le_of_ble_eq_true rfl) ?_
              refine AOpsD.sgy rfl rfl (by kernel_rfl) rfl ?_
              refine AOpsD.sq (x := (AV.s x2.pool)) (by kernel_rfl) (Nat.le_of_ble_eq_true rfl) ?_
              refine AOpsD.sgy rfl rfl (by kernel_rfl) rfl ?_
              refine AOpsD.sc0 (vs := [((slA 2 DPool.av) g.pools), (AV.s x2.pool)]) (r0 := (AV.i .i64 (m_ref1_poolAt g.pools x2.pool))) (by kernel_rfl) (by kernel_rfl) (w_ref1_poolAt W g.pools x2.pool) (by kernel_rfl) (Nat.le_of_ble_eq_true rfl) ?_
              refine AOpsD.sgy rfl rfl (by kernel_rfl) rfl ?_
              refine AOpsD.sq (x := (AV.b (decide ((m_ref1_poolAt g.pools x2.pool) < (0 : Int))))) (by kernel_rfl) (Nat.le_of_ble_eq_true rfl) ?_
              refine AOpsD.sgy rfl rfl (by kernel_rfl) rfl ?_
              refine AOpsD.sq (x := (AV.b (decide ((m_ref1_poolAt g.pools x2.pool) < (0 : Int))))) (by kernel_rfl) (Nat.le_of_ble_eq_true rfl) ?_
              refine AOpsD.sq (x := (AV.b (decide ((m_ref1_poolAt g.pools x2.pool) < (0 : Int))))) (by kernel_rfl) (Nat.le_of_ble_eq_true rfl) ?_
              refine AOpsD.fin ?_
              cases c_7 : decide ((m_ref1_poolAt g.pools x2.pool) < (0 : Int))
              · have k_7 : ¬ ((m_ref1_poolAt g.pools x2.pool) < (0 : Int)) := of_decide_eq_false c_7
                refine Awp.cond (t := false) (by kernel_rfl) ?_
                refine Awp.skip ?_
                refine Awp.region tabS_ok ?_
                refine AOps.sq (x := (AV.i .i64 ((i2 : Nat) : Int))) (by kernel_rfl) (Nat.le_of_ble_eq_true rfl) ?_
                refine AOps.sq (x := (AV.i .i64 ((i2 + 1 : Nat) : Int))) (g_addN (i := i2) (m := 1) (by kernel_rfl) (by kernel_rfl) (by first | omega | (unfold LIM; omega) | (simp only [List.length_append, List.length_cons, List.length_nil, List.length_set, List.length_replicate, ByteArray.size_append, List.length_take, List.length_drop, LIM]; omega) | (simp [LIM]; done) | (simp [LIM]; omega))) (Nat.le_of_ble_eq_true rfl) ?_
                refine AOps.sq (x := (AV.i .i64 ((i2 + 1 : Nat) : Int))) (by kernel_rfl) (Nat.le_of_ble_eq_true rfl) ?_
                refine AOps.done ?_
                try simp only [c_5, c_6, c_7, List.length_nil, Int.natCast_zero, eq_self, decide_true, List.nil_append, List.take_nil, cond_true, cond_false, Bool.true_and, Bool.false_and, Bool.true_or, Bool.false_or, Bool.not_true, Bool.not_false] at hE2
                refine ⟨i2 + 1, by (try dsimp only); omega, ⟨by (try dsimp only); omega, hE2⟩, ?_⟩
                exact ⟨[0], ⟨by decide, rfl, (FitsObjs.cons (by kernel_rfl) FitsObjs.nil), (EntE.cons (Ent.f (by kernel_rfl)) (EntE.cons (Ent.c (by kernel_rfl) (by kernel_rfl)) EntE.nil))⟩, keep0⟩
              · have k_7 : ((m_ref1_poolAt g.pools x2.pool) < (0 : Int)) := of_decide_eq_true c_7
                refine Awp.cond (t := true) (by kernel_rfl) ?_
                refine Awp.seq ?_
                refine Awp.region tabS_ok ?_
                refine AOps.sq (x := (AV.b false)) (by kernel_rfl) (Nat.le_of_ble_eq_true rfl) ?_
                refine AOps.done ?_
                refine Awp.ret ?_
                try simp only [c_5, c_6, c_7, List.length_nil, Int.natCast_zero, eq_self, decide_true, List.nil_append, List.take_nil, cond_true, cond_false, Bool.true_and, Bool.false_and, Bool.true_or, Bool.false_or, Bool.not_true, Bool.not_false] at hE2
                subst hE2
                have hM : m_ref1_GraphMay g = false := by simp only [m_ref1_GraphMay, hR1, hR2, List.length_nil, Int.natCast_zero, eq_self, decide_true, List.nil_append, List.take_nil, cond_true, cond_false, Bool.true_and, Bool.false_and, Bool.true_or, Bool.false_or, Bool.not_true, Bool.not_false]
                refine ⟨Or.inr rfl, ?_⟩
                rw [hM]
                exact Ent.cast (x' := (AV.b false)) (y' := (AV.b false)) (by kernel_rfl) (by kernel_rfl) (Ent.c (by kernel_rfl) (by kernel_rfl))
          · refine AOpsD.sgn rfl rfl (by kernel_rfl) rfl (Nat.le_of_ble_eq_true rfl) ?_
            refine AOpsD.sgn rfl rfl (by kernel_rfl) rfl (Nat.le_of_ble_eq_true rfl) ?_
            refine AOpsD.sgn rfl rfl (by kernel_rfl) rfl (Nat.le_of_ble_eq_true rfl) ?_
            refine AOpsD.sgn rfl rfl (by kernel_rfl) rfl (Nat.le_of_ble_eq_true rfl) ?_
            refine AOpsD.sgn rfl rfl (by kernel_rfl) rfl (Nat.le_of_ble_eq_true rfl) ?_
            refine AOpsD.sgn rfl rfl (by kernel_rfl) rfl (Nat.le_of_ble_eq_true rfl) ?_
            refine AOpsD.sgn rfl rfl (by kernel_rfl) rfl (Nat.le_of_ble_eq_true rfl) ?_
            refine AOpsD.sgn rfl rfl (by kernel_rfl) rfl (Nat.le_of_ble_eq_true rfl) ?_
            refine AOpsD.sgu rfl rfl (by kernel_rfl) (Nat.le_of_ble_eq_true rfl) ?_
            refine AOpsD.sgu rfl rfl (by kernel_rfl) (Nat.le_of_ble_eq_true rfl) ?_
            refine AOpsD.sgu rfl rfl (by kernel_rfl) (Nat.le_of_ble_eq_true rfl) ?_
            refine AOpsD.sgu rfl rfl (by kernel_rfl) (Nat.le_of_ble_eq_true rfl) ?_
            refine AOpsD.sgu rfl rfl (by kernel_rfl) (Nat.le_of_ble_eq_true rfl) ?_
            refine AOpsD.sgu rfl rfl (by kernel_rfl) (Nat.le_of_ble_eq_true rfl) ?_
            refine AOpsD.sgu rfl rfl (by kernel_rfl) (Nat.le_of_ble_eq_true rfl) ?_
            refine AOpsD.sgu rfl rfl (by kernel_rfl) (Nat.le_of_ble_eq_true rfl) ?_
            refine AOpsD.sgu rfl rfl (by kernel_rfl) (Nat.le_of_ble_eq_true rfl) ?_
            refine AOpsD.sgu rfl rfl (by kernel_rfl) (Nat.le_of_ble_eq_true rfl) ?_
            refine AOpsD.sgn rfl rfl (by kernel_rfl) rfl (Nat.le_of_ble_eq_true rfl) ?_
            refine AOpsD.sq (x := (AV.b true)) (by kernel_rfl) (Nat.le_of_ble_eq_true rfl) ?_
            refine AOpsD.fin ?_
            refine Awp.cond (t := true) (by kernel_rfl) ?_
            refine Awp.seq ?_
            refine Awp.region tabS_ok ?_
            refine AOps.sq (x := (AV.b false)) (by kernel_rfl) (Nat.le_of_ble_eq_true rfl) ?_
            refine AOps.done ?_
            refine Awp.ret ?_
            try simp only [c_5, List.length_nil, Int.natCast_zero, eq_self, decide_true, List.nil_append, List.take_nil, cond_true, cond_false, Bool.true_and, Bool.false_and, Bool.true_or, Bool.false_or, Bool.not_true, Bool.not_false] at hE2
            subst hE2
            have hM : m_ref1_GraphMay g = false := by simp only [m_ref1_GraphMay, hR1, hR2, List.length_nil, Int.natCast_zero, eq_self, decide_true, List.nil_append, List.take_nil, cond_true, cond_false, Bool.true_and, Bool.false_and, Bool.true_or, Bool.false_or, Bool.not_true, Bool.not_false]
            refine ⟨Or.inr rfl, ?_⟩
            rw [hM]
            exact Ent.cast (x' := (AV.b false)) (y' := (AV.b false)) (by kernel_rfl) (by kernel_rfl) (Ent.c (by kernel_rfl) (by kernel_rfl))
        · have hc2 : decide (((i2 : Nat) : Int) < ((g.edges.length : Nat) : Int)) = false := decide_eq_false (by omega)
          refine Awp.cond (t := false) (by rw [← hc2] <;> kernel_rfl) (Awp.exit ?_)
          rw [List.drop_eq_nil_of_le (hl2), m_ref1_GraphMay_L2.eq_1] at hE2
          subst hE2
          refine Awp.seq ?_
          refine Awp.region tabS_ok ?_
          refine AOps.sq (x := (AV.loc 0 0 1)) (by kernel_rfl) (Nat.le_of_ble_eq_true rfl) ?_
          refine AOps.sq (x := ((slA 2 DPool.av) g.pools)) (by kernel_rfl) (Nat.le_of_ble_eq_true rfl) ?_
          refine AOps.sq (x := (AV.i .i64 ((g.pools.length : Nat) : Int))) (g_len (k := 2) (nl := false) (e := 34) (A := DPool.av) (xs := g.pools) (by kernel_rfl) (by kernel_rfl)) (Nat.le_of_ble_eq_true rfl) ?_
          refine AOps.sq (x := (AV.b (decide (((g.pools.length : Nat) : Int) ≤ (4 : Int))))) (by kernel_rfl) (Nat.le_of_ble_eq_true rfl) ?_
          refine AOps.sq (x := (AV.b (decide (((g.pools.length : Nat) : Int) ≤ (4 : Int))))) (by kernel_rfl) (Nat.le_of_ble_eq_true rfl) ?_
          cases c_8 : decide (((g.pools.length : Nat) : Int) ≤ (4 : Int))
          · have k_8 : ¬ (((g.pools.length : Nat) : Int) ≤ (4 : Int)) := of_decide_eq_false c_8
            refine AOps.sgn rfl rfl (by kernel_rfl) rfl (Nat.le_of_ble_eq_true rfl) ?_
            refine AOps.sgn rfl rfl (by kernel_rfl) rfl (Nat.le_of_ble_eq_true rfl) ?_
            refine AOps.sgn rfl rfl (by kernel_rfl) rfl (Nat.le_of_ble_eq_true rfl) ?_
            refine AOps.sgn rfl rfl (by kernel_rfl) rfl (Nat.le_of_ble_eq_true rfl) ?_
            refine AOps.sq (x := (AV.b false)) (by kernel_rfl) (Nat.le_of_ble_eq_true rfl) ?_
            refine AOps.sq (x := (AV.b false)) (by kernel_rfl) (Nat.le_of_ble_eq_true rfl) ?_
            refine AOps.sgn rfl rfl (by kernel_rfl) rfl (Nat.le_of_ble_eq_true rfl) ?_
            refine AOps.sgn rfl rfl (by kernel_rfl) rfl (Nat.le_of_ble_eq_true rfl) ?_
            refine AOps.sgn rfl rfl (by kernel_rfl) rfl (Nat.le_of_ble_eq_true rfl) ?_
            refine AOps.sq (x := (AV.b false)) (by kernel_rfl) (Nat.le_of_ble_eq_true rfl) ?_
            refine AOps.sq (x := (AV.b false)) (by kernel_rfl) (Nat.le_of_ble_eq_true rfl) ?_
            refine AOps.done ?_
            refine Awp.ret ?_
            have hM : m_ref1_GraphMay g = false := by simp only [m_ref1_GraphMay, hR1, hR2, c_8, List.length_nil, Int.natCast_zero, eq_self, decide_true, List.nil_append, List.take_nil, cond_true, cond_false, Bool.true_and, Bool.false_and, Bool.true_or, Bool.false_or, Bool.not_true, Bool.not_false]
            refine ⟨Or.inr rfl, ?_⟩
            rw [hM]
            exact Ent.cast (x' := (AV.b false)) (y' := (AV.b false)) (by kernel_rfl) (by kernel_rfl) (Ent.c (by kernel_rfl) (by kernel_rfl))
          · have k_8 : (((g.pools.length : Nat) : Int) ≤ (4 : Int)) := of_decide_eq_true c_8
            refine AOps.sgy rfl rfl (by kernel_rfl) rfl ?_
            refine AOps.sq (x := (AV.loc 0 0 0)) (by kernel_rfl) (Nat.le_of_ble_eq_true rfl) ?_
            refine AOps.sgy rfl rfl (by kernel_rfl) rfl ?_
            refine AOps.sq (x := ((slA 7 DEdge.av) g.edges)) (by kernel_rfl) (Nat.le_of_ble_eq_true rfl) ?_
            refine AOps.sgy rfl rfl (by kernel_rfl) rfl ?_
            refine AOps.sq (x := (AV.i .i64 ((g.edges.length : Nat) : Int))) (g_len (k := 7) (nl := false) (e := 31) (A := DEdge.av) (xs := g.edges) (by kernel_rfl) (by kernel_rfl)) (Nat.le_of_ble_eq_true rfl) ?_
            refine AOps.sgy rfl rfl (by kernel_rfl) rfl ?_
            refine AOps.sq (x := (AV.b (decide (((g.edges.length : Nat) : Int) ≤ (16 : Int))))) (by kernel_rfl) (Nat.le_of_ble_eq_true rfl) ?_
            refine AOps.sq (x := (AV.b (decide (((g.edges.length : Nat) : Int) ≤ (16 : Int))))) (by kernel_rfl) (Nat.le_of_ble_eq_true rfl) ?_
            refine AOps.sq (x := (AV.b (decide (((g.edges.length : Nat) : Int) ≤ (16 : Int))))) (by kernel_rfl) (Nat.le_of_ble_eq_true rfl) ?_
            cases c_9 : decide (((g.edges.length : Nat) : Int) ≤ (16 : Int))
            · have k_9 : ¬ (((g.edges.length : Nat) : Int) ≤ (16 : Int)) := of_decide_eq_false c_9
              refine AOps.sgn rfl rfl (by kernel_rfl) rfl (Nat.le_of_ble_eq_true rfl) ?_
              refine AOps.sgn rfl rfl (by kernel_rfl) rfl (Nat.le_of_ble_eq_true rfl) ?_
              refine AOps.sgn rfl rfl (by kernel_rfl) rfl (Nat.le_of_ble_eq_true rfl) ?_
              refine AOps.sq (x := (AV.b false)) (by kernel_rfl) (Nat.le_of_ble_eq_true rfl) ?_
              refine AOps.sq (x := (AV.b false)) (by kernel_rfl) (Nat.le_of_ble_eq_true rfl) ?_
              refine AOps.done ?_
              refine Awp.ret ?_
              have hM : m_ref1_GraphMay g = false := by simp only [m_ref1_GraphMay, hR1, hR2, c_8, c_9, List.length_nil, Int.natCast_zero, eq_self, decide_true, List.nil_append, List.take_nil, cond_true, cond_false, Bool.true_and, Bool.false_and, Bool.true_or, Bool.false_or, Bool.not_true, Bool.not_false]
              refine ⟨Or.inr rfl, ?_⟩
              rw [hM]
              exact Ent.cast (x' := (AV.b false)) (y' := (AV.b false)) (by kernel_rfl) (by kernel_rfl) (Ent.c (by kernel_rfl) (by kernel_rfl))
            · have k_9 : (((g.edges.length : Nat) : Int) ≤ (16 : Int)) := of_decide_eq_true c_9
              refine AOps.sgy rfl rfl (by kernel_rfl) rfl ?_
              refine AOps.sq (x := (AV.loc 0 0 2)) (by kernel_rfl) (Nat.le_of_ble_eq_true rfl) ?_
              refine AOps.sgy rfl rfl (by kernel_rfl) rfl ?_
              refine AOps.sq (x := ((slA 1 AV.s) g.defaults)) (by kernel_rfl) (Nat.le_of_ble_eq_true rfl) ?_
              refine AOps.sgy rfl rfl (by kernel_rfl) rfl ?_
              refine AOps.sc0 (vs := [((slA 1 AV.s) g.defaults)]) (r0 := (AV.b (m_ref1_PathsMay g.defaults))) (by kernel_rfl) (by kernel_rfl) (w_ref1_PathsMay W g.defaults) (by kernel_rfl) (Nat.le_of_ble_eq_true rfl) ?_
              refine AOps.sq (x := (AV.b (m_ref1_PathsMay g.defaults))) (by kernel_rfl) (Nat.le_of_ble_eq_true rfl) ?_
              refine AOps.sq (x := (AV.b (m_ref1_PathsMay g.defaults))) (by kernel_rfl) (Nat.le_of_ble_eq_true rfl) ?_
              refine AOps.done ?_
              refine Awp.ret ?_
              have hM : m_ref1_GraphMay g = (m_ref1_PathsMay g.defaults) := by simp only [m_ref1_GraphMay, hR1, hR2, c_8, c_9, List.length_nil, Int.natCast_zero, eq_self, decide_true, List.nil_append, List.take_nil, cond_true, cond_false, Bool.true_and, Bool.false_and, Bool.true_or, Bool.false_or, Bool.not_true, Bool.not_false]
              refine ⟨Or.inr rfl, ?_⟩
              rw [hM]
              exact Ent.cast (x' := (AV.b (m_ref1_PathsMay g.defaults))) (y' := (AV.b (m_ref1_PathsMay g.defaults))) (by kernel_rfl) (by kernel_rfl) (Ent.c (by kernel_rfl) (by kernel_rfl))

theorem w_ref1_Check (W : World) (g : DGraph) (hz : outsN g.edges ≤ 1048576) : PureAt Go.Proofs.Tryd.prog W 22 [(DGraph.av g)] (AV.i .i64 (m_ref1_Check g)) [] := by
  refine pure_of_bodyC (fn := Go.Proofs.Tryd.f22) Go.Proofs.Tryd.func22 rfl (en22 W) (ts := [2]) rfl (Nat.le_of_ble_eq_true rfl) ?_
  refine Awp.seq ?_
  refine Awp.region tabS_ok ?_
  refine AOps.sn (x := (AV.loc 0 0 0)) (h' := ⟨1, [(0, some ⟨27, 3, [(DGraph.av g)]⟩)]⟩) (by kernel_rfl) (Nat.le_of_ble_eq_true rfl) ?_
  refine AOps.sq (x := (AV.i .i64 (0 : Int))) (by kernel_rfl) (Nat.le_of_ble_eq_true rfl) ?_
  refine AOps.done ?_
  refine Awp.seq ?_
  refine Awp.seq ?_
  refine Awp.region tabS_ok ?_
  refine AOps.sq (x := (DGraph.av g)) (by kernel_rfl) (Nat.le_of_ble_eq_true rfl) ?_
  refine AOps.sc0 (vs := [(DGraph.av g)]) (r0 := (AV.b (m_ref1_GraphMay g))) (by kernel_rfl) (by kernel_rfl) (w_ref1_GraphMay W g) (by kernel_rfl) (Nat.le_of_ble_eq_true rfl) ?_
  refine AOps.sq (x := (AV.b (!(m_ref1_GraphMay g)))) (by kernel_rfl) (Nat.le_of_ble_eq_true rfl) ?_
  refine AOps.done ?_
  cases c_1 : (!(m_ref1_GraphMay g))
  · refine Awp.cond (t := false) (by kernel_rfl) ?_
    refine Awp.skip ?_
    refine Awp.seq ?_
    refine Awp.region tabS_ok ?_
    refine AOps.sq (x := (AV.sl 1 true [])) (by kernel_rfl) (Nat.le_of_ble_eq_true rfl) ?_
    refine AOps.done ?_
    refine Awp.seq ?_
    refine Awp.seq ?_
    refine Awp.region tabS_ok ?_
    refine AOps.sq (x := (AV.i .i64 (0 : Int))) (by kernel_rfl) (Nat.le_of_ble_eq_true rfl) ?_
    refine AOps.done ?_
    refine Awp.block ?_
    refine Awp.lim 0 (x := (DGraph.av g)) (by kernel_rfl) fun hlm1 => ?_
    have hB1 : g.edges.length ≤ 281474976710656 := lim_slA (DGraph.lim_edges hlm1)
    obtain ⟨R1, hR1⟩ : ∃ R, m_ref1_Check_L1 g.edges 0 [] = R := ⟨_, rfl⟩
    refine Awp.loopT (fun ((all, i) : (List ByteArray) × Nat) => [(1, (AV.loc 1 0 0)), (3, (accV 0 1 AV.s all)), (4, (AV.i .i64 ((i : Nat) : Int)))]) (fun ((all, i) : (List ByteArray) × Nat) => ⟨2, [(0, accO 9 1 AV.s all), (1, some ⟨27, 3, [(DGraph.av g)]⟩)]⟩) (fun ((all, i) : (List ByteArray) × Nat) => i ≤ g.edges.length ∧ all.length + outsN (g.edges.drop i) ≤ outsN g.edges ∧ m_ref1_Check_L1 (g.edges.drop i) i all = R1) (fun ((all, i) : (List ByteArray) × Nat) => g.edges.length - i) ([], 0) ?_ ?_ ?_
    · exact ⟨[1000000, 0], ⟨by decide, rfl, (FitsObjs.cons rfl (FitsObjs.cons (by kernel_rfl) FitsObjs.nil)), (EntE.cons (Ent.f (by kernel_rfl)) (EntE.cons (Ent.c (by kernel_rfl) (by kernel_rfl)) (EntE.cons (Ent.c (by kernel_rfl) (by kernel_rfl)) EntE.nil)))⟩, keep0⟩
    · exact ⟨by (try dsimp only); omega, by (try dsimp only) <;> (simp), hR1⟩
    · rintro ⟨all, i⟩ ⟨hi1, ha, hE1⟩
      try dsimp only
      refine Awp.seq ?_
      refine Awp.seq ?_
      refine Awp.region tabS_ok ?_
      refine AOps.sq (x := (AV.i .i64 ((i : Nat) : Int))) (by kernel_rfl) (Nat.le_of_ble_eq_true rfl) ?_
      refine AOps.sq (x := (AV.loc 1 0 0)) (by kernel_rfl) (Nat.le_of_ble_eq_true rfl) ?_
      refine AOps.sq (x := ((slA 7 DEdge.av) g.edges)) (by kernel_rfl) (Nat.le_of_ble_eq_true rfl) ?_
      refine AOps.sq (x := (AV.i .i64 ((g.edges.length : Nat) : Int))) (g_len (k := 7) (nl := false) (e := 31) (A := DEdge.av) (xs := g.edges) (by kernel_rfl) (by kernel_rfl)) (Nat.le_of_ble_eq_true rfl) ?_
      refine AOps.sq (x := (AV.b (decide (((i : Nat) : Int) < ((g.edges.length : Nat) : Int))))) (by kernel_rfl) (Nat.le_of_ble_eq_true rfl) ?_
      refine AOps.done ?_
      rcases Nat.lt_or_ge i g.edges.length with hl1 | hl1
      · have hc1 : decide (((i : Nat) : Int) < ((g.edges.length : Nat) : Int)) = true := decide_eq_true (by omega)
        refine Awp.cond (t := true) (by rw [← hc1] <;> kernel_rfl) (Awp.skip ?_)
        obtain ⟨x1, hx1⟩ : ∃ x, g.edges[i]? = some x := ⟨_, List.getElem?_eq_getElem hl1⟩
        rw [drop_at hx1, m_ref1_Check_L1.eq_2] at hE1
        rw [drop_at hx1] at ha
        simp only [outsN] at ha
        refine Awp.seq ?_
        refine Awp.block ?_
        refine Awp.seq ?_
        refine Awp.region tabS_ok ?_
        refine AOps.sq (x := (AV.i .i64 (0 : Int))) (by kernel_rfl) (Nat.le_of_ble_eq_true rfl) ?_
        refine AOps.done ?_
        refine Awp.block ?_
        refine Awp.lim 11 (x := ((slA 7 DEdge.av) g.edges)) (by kernel_rfl) fun hlm2 => ?_
        have hB2 : x1.outs.length ≤ 281474976710656 := lim_slA (DEdge.lim_outs (lim_mem hlm2 hx1))
        obtain ⟨R2, hR2⟩ : ∃ R, m_ref1_Check_L2 x1.outs 0 all = R := ⟨_, rfl⟩
        refine Awp.loopT (fun ((all2, k) : (List ByteArray) × Nat) => [(1, (AV.loc 1 0 0)), (4, (AV.i .i64 ((i : Nat) : Int))), (3, (accV 0 1 AV.s all2)), (5, (AV.i .i64 ((k : Nat) : Int)))]) (fun ((all2, k) : (List ByteArray) × Nat) => ⟨2, [(0, accO 9 1 AV.s all2), (1, some ⟨27, 3, [(DGraph.av g)]⟩)]⟩) (fun ((all2, k) : (List ByteArray) × Nat) => k ≤ x1.outs.length ∧ all2.length ≤ all.length + k ∧ m_ref1_Check_L2 (x1.outs.drop k) k all2 = R2) (fun ((all2, k) : (List ByteArray) × Nat) => x1.outs.length - k) (all, 0) ?_ ?_ ?_
        · exact ⟨[0, 1], ⟨by decide, rfl, (FitsObjs.cons (obj_acc (fun _ => rfl) (e := 9) (k := 1) (A := AV.s) (xs := all) rfl rfl) (FitsObjs.cons (by kernel_rfl) FitsObjs.nil)), (EntE.cons (Ent.f (by kernel_rfl)) (EntE.cons (Ent.c (by kernel_rfl) (by kernel_rfl)) (EntE.cons (ent_keepA (by decide)) (EntE.cons (Ent.c (by kernel_rfl) (by kernel_rfl)) EntE.nil))))⟩, keep0⟩
        · exact ⟨by (try dsimp only); omega, by (try dsimp only) <;> (first | omega | (unfold LIM; omega) | (simp only [List.length_append, List.length_cons, List.length_nil, List.length_set, List.length_replicate, ByteArray.size_append, List.length_take, List.length_drop, LIM]; omega) | (simp [LIM]; done) | (simp [LIM]; omega)), hR2⟩
        · rintro ⟨all2, k⟩ ⟨hi2, hb, hE2⟩
          try dsimp only
          refine Awp.seq ?_
          refine Awp.seq ?_
          refine Awp.region tabS_ok ?_
          refine AOps.sq (x := (AV.i .i64 ((k : Nat) : Int))) (by kernel_rfl) (Nat.le_of_ble_eq_true rfl) ?_
          refine AOps.sq (x := (AV.loc 1 0 0)) (by kernel_rfl) (Nat.le_of_ble_eq_true rfl) ?_
          refine AOps.sq (x := ((slA 7 DEdge.av) g.edges)) (by kernel_rfl) (Nat.le_of_ble_eq_true rfl) ?_
          refine AOps.sq (x := (AV.i .i64 ((i : Nat) : Int))) (by kernel_rfl) (Nat.le_of_ble_eq_true rfl) ?_
          refine AOps.sq (x := (AV.pt (DEdge.av x1).cells)) (g_idx (k := 7) (nl := false) (e := 31) (kk := .i64) (A := DEdge.av) (xs := g.edges) (i := i) (by kernel_rfl) (by kernel_rfl) (by kernel_rfl) ⟨by kernel_rfl, by decide⟩ hx1) (Nat.le_of_ble_eq_true rfl) ?_
          refine AOps.sq (x := (AV.pt ((DEdge.av x1).cells.drop 0))) (by kernel_rfl) (Nat.le_of_ble_eq_true rfl) ?_
          refine AOps.sq (x := ((slA 1 AV.s) x1.outs)) (by kernel_rfl) (Nat.le_of_ble_eq_true rfl) ?_
          refine AOps.sq (x := (AV.i .i64 ((x1.outs.length : Nat) : Int))) (g_len (k := 1) (nl := false) (e := 9) (A := AV.s) (xs := x1.outs) (by kernel_rfl) (by kernel_rfl)) (Nat.le_of_ble_eq_true rfl) ?_
          refine AOps.sq (x := (AV.b (decide (((k : Nat) : Int) < ((x1.outs.length : Nat) : Int))))) (by kernel_rfl) (Nat.le_of_ble_eq_true rfl) ?_
          refine AOps.done ?_
          rcases Nat.lt_or_ge k x1.outs.length with hl2 | hl2
          · have hc2 : decide (((k : Nat) : Int) < ((x1.outs.length : Nat) : Int)) = true := decide_eq_true (by omega)
            refine Awp.cond (t := true) (by rw [← hc2] <;> kernel_rfl) (Awp.skip ?_)
            obtain ⟨x2, hx2⟩ : ∃ x, x1.outs[k]? = some x := ⟨_, List.getElem?_eq_getElem hl2⟩
            rw [drop_at hx2, m_ref1_Check_L2.eq_2] at hE2
            refine Awp.seq ?_
            refine Awp.block ?_
            refine Awp.seq ?_
            refine Awp.seq ?_
            refine Awp.region tabS_ok ?_
            refine AOps.sq (x := (accV 0 1 AV.s all2)) (by kernel_rfl) (Nat.le_of_ble_eq_true rfl) ?_
            refine AOps.sq (x := (AV.loc 1 0 0)) (by kernel_rfl) (Nat.le_of_ble_eq_true rfl) ?_
            refine AOps.sq (x := ((slA 7 DEdge.av) g.edges)) (by kernel_rfl) (Nat.le_of_ble_eq_true rfl) ?_
            refine AOps.sq (x := (AV.i .i64 ((i : Nat) : Int))) (by kernel_rfl) (Nat.le_of_ble_eq_true rfl) ?_
            refine AOps.sq (x := (AV.pt (DEdge.av x1).cells)) (g_idx (k := 7) (nl := false) (e := 31) (kk := .i64) (A := DEdge.av) (xs := g.edges) (i := i) (by kernel_rfl) (by kernel_rfl) (by kernel_rfl) ⟨by kernel_rfl, by decide⟩ hx1) (Nat.le_of_ble_eq_true rfl) ?_
            refine AOps.sq (x := (AV.pt ((DEdge.av x1).cells.drop 0))) (by kernel_rfl) (Nat.le_of_ble_eq_true rfl) ?_
            refine AOps.sq (x := ((slA 1 AV.s) x1.outs)) (by kernel_rfl) (Nat.le_of_ble_eq_true rfl) ?_
            refine AOps.sq (x := (AV.i .i64 ((k : Nat) : Int))) (by kernel_rfl) (Nat.le_of_ble_eq_true rfl) ?_
            refine AOps.sq (x := (AV.pt (AV.s x2).cells)) (g_idx (k := 1) (nl := false) (e := 9) (kk := .i64) (A := AV.s) (xs := x1.outs) (i := k) (by kernel_rfl) (by kernel_rfl) (by kernel_rfl) ⟨by kernel_rfl, by decide⟩ hx2) (Nat.le_of_ble_eq_true rfl) ?_
            refine AOps.sq (x := (AV.s x2)) (by kernel_rfl) (Nat.le_of_ble_eq_true rfl) ?_
            refine AOps.sfw (vs := [(accV 0 1 AV.s all2), (AV.s x2)]) (ss := [((slA 1 AV.s) all2), (AV.s x2)]) (r0 := (AV.b (m_ref1_has all2 x2))) (by kernel_rfl) (show SnapW _ _ _ from ⟨(SnapW.acc (fun _ => rfl) (e := 9) rfl (by first | omega | (unfold LIM; omega) | (simp only [List.length_append, List.length_cons, List.length_nil, List.length_set, List.length_replicate, ByteArray.size_append, List.length_take, List.length_drop, LIM]; omega) | (simp [LIM]; done) | (simp [LIM]; omega))), ⟨(SnapW.e (by kernel_rfl)), trivial⟩⟩) (w_ref1_has W all2 x2) rfl (by kernel_rfl) (Nat.le_of_ble_eq_true rfl) ?_
            refine AOps.done ?_
            cases c_2 : (m_ref1_has all2 x2)
            · refine Awp.cond (t := false) (by kernel_rfl) ?_
              refine Awp.skip ?_
              refine Awp.region tabS_ok ?_
              refine AOps.sq (x := (accV 0 1 AV.s all2)) (by kernel_rfl) (Nat.le_of_ble_eq_true rfl) ?_
              refine AOps.sq (x := (AV.loc 1 0 0)) (by kernel_rfl) (Nat.le_of_ble_eq_true rfl) ?_
              refine AOps.sq (x := ((slA 7 DEdge.av) g.edges)) (by kernel_rfl) (Nat.le_of_ble_eq_true rfl) ?_
              refine AOps.sq (x := (AV.i .i64 ((i : Nat) : Int))) (by kernel_rfl) (Nat.le_of_ble_eq_true rfl) ?_
              refine AOps.sq (x := (AV.pt (DEdge.av x1).cells)) (g_idx (k := 7) (nl := false) (e := 31) (kk := .i64) (A := DEdge.av) (xs := g.edges) (i := i) (by kernel_rfl) (by kernel_rfl) (by kernel_rfl) ⟨by kernel_rfl, by decide⟩ hx1) (Nat.le_of_ble_eq_true rfl) ?_
              refine AOps.sq (x := (AV.pt ((DEdge.av x1).cells.drop 0))) (by kernel_rfl) (Nat.le_of_ble_eq_true rfl) ?_
              refine AOps.sq (x := ((slA 1 AV.s) x1.outs)) (by kernel_rfl) (Nat.le_of_ble_eq_true rfl) ?_
              refine AOps.sq (x := (AV.i .i64 ((k : Nat) : Int))) (by kernel_rfl) (Nat.le_of_ble_eq_true rfl) ?_
              refine AOps.sq (x := (AV.pt (AV.s x2).cells)) (g_idx (k := 1) (nl := false) (e := 9) (kk := .i64) (A := AV.s) (xs := x1.outs) (i := k) (by kernel_rfl) (by kernel_rfl) (by kernel_rfl) ⟨by kernel_rfl, by decide⟩ hx2) (Nat.le_of_ble_eq_true rfl) ?_
              refine AOps.sq (x := (AV.s x2)) (by kernel_rfl) (Nat.le_of_ble_eq_true rfl) ?_
              refine AOps.sn (x := (AV.own 2 0 1)) (h' := ⟨3, [(2, some ⟨9, 1, [x2].map AV.s⟩), (0, accO 9 1 AV.s all2), (1, some ⟨27, 3, [(DGraph.av g)]⟩)]⟩) (by kernel_rfl) (Nat.le_of_ble_eq_true rfl) ?_
              refine AOps.se (x := (AV.own 3 0 ((all2 ++ [x2]).length))) (h' := ⟨4, [(3, some ⟨9, 1, (all2 ++ [x2]).map AV.s⟩), (2, some ⟨9, 1, [x2].map AV.s⟩), (0, none), (1, some ⟨27, 3, [(DGraph.av g)]⟩)]⟩) (g_app (e := 9) (X := (AV.own 2 0 1)) (A := AV.s) (i := tI_9) (p := 0) (xs := all2) (ys := [x2]) (by kernel_rfl) (by kernel_rfl) (by kernel_rfl) (hx := (by kernel_rfl)) (by kernel_rfl) (by simp) ⟨by decide, by kernel_rfl⟩ rfl (fun q => by subst q; rfl) (by show _ * 16 ≤ 140737488355328; first | omega | (simp only [List.length_append, List.length_cons, List.length_nil, List.length_set, List.length_replicate]; omega) | (simp; omega)) (by first | omega | (unfold LIM; omega) | (simp only [List.length_append, List.length_cons, List.length_nil, List.length_set, List.length_replicate, ByteArray.size_append, List.length_take, List.length_drop, LIM]; omega) | (simp [LIM]; done) | (simp [LIM]; omega))) (Nat.le_of_ble_eq_true rfl) ?_
              refine AOps.sq (x := (AV.own 3 0 ((all2 ++ [x2]).length))) (by kernel_rfl) (Nat.le_of_ble_eq_true rfl) ?_
              refine AOps.done ?_
              refine Awp.region tabS_ok ?_
              refine AOps.sq (x := (AV.i .i64 ((k : Nat) : Int))) (by kernel_rfl) (Nat.le_of_ble_eq_true rfl) ?_
              refine AOps.sq (x := (AV.i .i64 ((k + 1 : Nat) : Int))) (g_addN (i := k) (m := 1) (by kernel_rfl) (by kernel_rfl) (by first | omega | (unfold LIM; omega) | (simp only [List.length_append, List.length_cons, List.length_nil, List.length_set, List.length_replicate, ByteArray.size_append, List.length_take, List.length_drop, LIM]; omega) | (simp [LIM]; done) | (simp [LIM]; omega))) (Nat.le_of_ble_eq_true rfl) ?_
              refine AOps.sq (x := (AV.i .i64 ((k + 1 : Nat) : Int))) (by kernel_rfl) (Nat.le_of_ble_eq_true rfl) ?_
              refine AOps.done ?_
              try simp only [c_2, List.length_nil, Int.natCast_zero, eq_self, decide_true, List.nil_append, List.take_nil, cond_true, cond_false, Bool.true_and, Bool.false_and, Bool.true_or, Bool.false_or, Bool.not_true, Bool.not_false] at hE2
              refine ⟨((all2 ++ [x2]), k + 1), by (try dsimp only); omega, ⟨by (try dsimp only); omega, by (try dsimp only) <;> (first | omega | (unfold LIM; omega) | (simp only [List.length_append, List.length_cons, List.length_nil, List.length_set, List.length_replicate, ByteArray.size_append, List.length_take, List.length_drop, LIM]; omega) | (simp [LIM]; done) | (simp [LIM]; omega)), hE2⟩, ?_⟩
              exact ⟨[3, 1], ⟨by decide, rfl, (FitsObjs.cons (obj_acc' (fun _ => rfl) (e := 9) (k := 1) (A := AV.s) (xs := (all2 ++ [x2])) (by simp) rfl rfl) (FitsObjs.cons (by kernel_rfl) FitsObjs.nil)), (EntE.cons (Ent.f (by kernel_rfl)) (EntE.cons (Ent.c (by kernel_rfl) (by kernel_rfl)) (EntE.cons (ent_keep (A := AV.s) (xs := (all2 ++ [x2])) (by decide) (by simp) rfl) (EntE.cons (Ent.c (by kernel_rfl) (by kernel_rfl)) EntE.nil))))⟩, keep0⟩
            · refine Awp.cond (t := true) (by kernel_rfl) ?_
              refine Awp.seq ?_
              refine Awp.region tabS_ok ?_
              refine AOps.sq (x := (AV.i .i64 (901 : Int))) (by kernel_rfl) (Nat.le_of_ble_eq_true rfl) ?_
              refine AOps.done ?_
              refine Awp.ret ?_
              try simp only [c_2, List.length_nil, Int.natCast_zero, eq_self, decide_true, List.nil_append, List.take_nil, cond_true, cond_false, Bool.true_and, Bool.false_and, Bool.true_or, Bool.false_or, Bool.not_true, Bool.not_false] at hE2
              subst hE2
              try simp only [hR2, List.length_nil, Int.natCast_zero, eq_self, decide_true, List.nil_append, List.take_nil, cond_true, cond_false, Bool.true_and, Bool.false_and, Bool.true_or, Bool.false_or, Bool.not_true, Bool.not_false] at hE1
              subst hE1
              have hM : m_ref1_Check g = (901 : Int) := by simp only [m_ref1_Check, c_1, hR1, List.length_nil, Int.natCast_zero, eq_self, decide_true, List.nil_append, List.take_nil, cond_true, cond_false, Bool.true_and, Bool.false_and, Bool.true_or, Bool.false_or, Bool.not_true, Bool.not_false]
              refine ⟨Or.inr rfl, ?_⟩
              rw [hM]
              exact Ent.cast (x' := (AV.i .i64 (901 : Int))) (y' := (AV.i .i64 (901 : Int))) (by kernel_rfl) (by kernel_rfl) (Ent.c (by kernel_rfl) (by kernel_rfl))
          · have hc2 : decide (((k : Nat) : Int) < ((x1.outs.length : Nat) : Int)) = false := decide_eq_false (by omega)
            refine Awp.cond (t := false) (by rw [← hc2] <;> kernel_rfl) (Awp.exit ?_)
            rw [List.drop_eq_nil_of_le (hl2), m_ref1_Check_L2.eq_1] at hE2
            subst hE2
            refine Awp.region tabS_ok ?_
            refine AOps.sq (x := (AV.i .i64 ((i : Nat) : Int))) (by kernel_rfl) (Nat.le_of_ble_eq_true rfl) ?_
            refine AOps.sq (x := (AV.i .i64 ((i + 1 : Nat) : Int))) (g_addN (i := i) (m := 1) (by kernel_rfl) (by kernel_rfl) (by first | omega | (unfold LIM; omega) | (simp only [List.length_append, List.length_cons, List.length_nil, List.length_set, List.length_replicate, ByteArray.size_append, List.length_take, List.length_drop, LIM]; omega) | (simp [LIM]; done) | (simp [LIM]; omega))) (Nat.le_of_ble_eq_true rfl) ?_
            refine AOps.sq (x := (AV.i .i64 ((i + 1 : Nat) : Int))) (by kernel_rfl) (Nat.le_of_ble_eq_true rfl) ?_
            refine AOps.done ?_
            try simp only [hR2, List.length_nil, Int.natCast_zero, eq_self, decide_true, List.nil_append, List.take_nil, cond_true, cond_false, Bool.true_and, Bool.false_and, Bool.true_or, Bool.false_or, Bool.not_true, Bool.not_false] at hE1
            refine ⟨(all2, i + 1), by (try dsimp only); omega, ⟨by (try dsimp only); omega, by (try dsimp only) <;> (omega), hE1⟩, ?_⟩
            exact ⟨[0, 1], ⟨by decide, rfl, (FitsObjs.cons (obj_acc (fun _ => rfl) (e := 9) (k := 1) (A := AV.s) (xs := all2) rfl rfl) (FitsObjs.cons (by kernel_rfl) FitsObjs.nil)), (EntE.cons (Ent.f (by kernel_rfl)) (EntE.cons (ent_keepA (by decide)) (EntE.cons (Ent.c (by kernel_rfl) (by kernel_rfl)) EntE.nil)))⟩, keep0⟩
      · have hc1 : decide (((i : Nat) : Int) < ((g.edges.length : Nat) : Int)) = false := decide_eq_false (by omega)
        refine Awp.cond (t := false) (by rw [← hc1] <;> kernel_rfl) (Awp.exit ?_)
        rw [List.drop_eq_nil_of_le (hl1), m_ref1_Check_L1.eq_1] at hE1
        subst hE1
        refine Awp.seq ?_
        refine Awp.region tabS_ok ?_
        refine AOps.sq (x := (AV.i .i64 (0 : Int))) (by kernel_rfl) (Nat.le_of_ble_eq_true rfl) ?_
        refine AOps.done ?_
        refine Awp.ret ?_
        have hM : m_ref1_Check g = (0 : Int) := by simp only [m_ref1_Check, c_1, hR1, List.length_nil, Int.natCast_zero, eq_self, decide_true, List.nil_append, List.take_nil, cond_true, cond_false, Bool.true_and, Bool.false_and, Bool.true_or, Bool.false_or, Bool.not_true, Bool.not_false]
        refine ⟨Or.inr rfl, ?_⟩
        rw [hM]
        exact Ent.cast (x' := (AV.i .i64 (0 : Int))) (y' := (AV.i .i64 (0 : Int))) (by kernel_rfl) (by kernel_rfl) (Ent.c (by kernel_rfl) (by kernel_rfl))
  · refine Awp.cond (t := true) (by kernel_rfl) ?_
    refine Awp.seq ?_
    refine Awp.region tabS_ok ?_
    refine AOps.sq (x := (AV.i .i64 (900 : Int))) (by kernel_rfl) (Nat.le_of_ble_eq_true rfl) ?_
    refine AOps.done ?_
    refine Awp.ret ?_
    have hM : m_ref1_Check g = (900 : Int) := by simp only [m_ref1_Check, c_1, List.length_nil, Int.natCast_zero, eq_self, decide_true, List.nil_append, List.take_nil, cond_true, cond_false, Bool.true_and, Bool.false_and, Bool.true_or, Bool.false_or, Bool.not_true, Bool.not_false]
    refine ⟨Or.inr rfl, ?_⟩
    rw [hM]
    exact Ent.cast (x' := (AV.i .i64 (900 : Int))) (y' := (AV.i .i64 (900 : Int))) (by kernel_rfl) (by kernel_rfl) (Ent.c (by kernel_rfl) (by kernel_rfl))
end
end Go.Lift
