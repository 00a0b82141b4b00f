/-
  Lemmas of this claim: a layer over the kit's calls, contracts of the functions that the law reaches, and the law's row. No condition of its own.
-/
import Derived.Test.YthagoaoenalmbaaGreatDoorSb
import Derived.Test.YthagoaoenalmbaaGreatDoorScGraphs
namespace Go.Lift
noncomputable section
open Go Go.RowKit
set_option linter.unusedSimpArgs false
set_option linter.unusedVariables false
set_option linter.unusedSectionVars false
set_option maxRecDepth 20000
theorem gOf_av (g : DGraph) : (gOf g).av = DGraph.av g := by
  have h1 : EdgeD.av ∘ eOf = DEdge.av := rfl
  have h2 : PoolD.av ∘ pOf = DPool.av := rfl
  simp only [GraphD.av, gOf, DGraph.av, slA, List.map_map, h1, h2, Strs.av]
theorem w_graph_May (W : World) {m0 : Int} (hW : W.cell? ⟨0, 0, none⟩ = some (.int .i64 m0)) (g : DGraph) : PureAt Go.Proofs.Tryz.prog W 20 [DGraph.av g] (.b (m_graph_May g)) [] := by
  rw [← gOf_av]; exact graph_may W hW (gOf g)
theorem w_graph_Check (W : World) {m0 : Int} (hW : W.cell? ⟨0, 0, none⟩ = some (.int .i64 m0)) (g : DGraph) : PureAt Go.Proofs.Tryz.prog W 18 [DGraph.av g] (.i .i64 (m_graph_Check g)) [] := by
  rw [← gOf_av]; exact graph_check W hW (gOf g)
theorem w_graph_Maker (W : World) {m0 : Int} (hW : W.cell? ⟨0, 0, none⟩ = some (.int .i64 m0)) (g : DGraph) (name : ByteArray) : PureAt Go.Proofs.Tryz.prog W 15 [DGraph.av g, .s name] (.tup [.i .i64 (m_graph_Maker g name).1, .b (m_graph_Maker g name).2.1, .i .i64 (m_graph_Maker g name).2.2]) [] := by
  rw [← gOf_av]; exact graph_maker W hW (gOf g) name
theorem w_ref1_has (W : World) (xs : List ByteArray) (x' : ByteArray) : PureAt Go.Proofs.Tryz.prog W 57 [((slA 1 AV.s) xs), (AV.s x')] (AV.b (m_ref1_has xs x')) [] := by
  refine pure_of_bodyC (fn := Go.Proofs.Tryz.f57) Go.Proofs.Tryz.func57 rfl (en57 W) (ts := [4]) rfl le ?_
  refine Awp.seq ?_
  refine Awp.region tabS_ok ?_
  refine AOps.sq (x := (AV.b false)) kr le ?_
  refine AOps.done ?_
  refine Awp.seq ?_
  refine Awp.seq ?_
  refine Awp.region tabS_ok ?_
  refine AOps.sq (x := (AV.i .i64 (0 : Int))) kr le ?_
  refine AOps.done ?_
  refine Awp.block ?_
  refine Awp.lim 0 (x := ((slA 1 AV.s) xs)) kr fun hlm1 => ?_
  have hB1 : xs.length ≤ 281474976710656 := lim_slA hlm1
  obtain ⟨R1, hR1⟩ : ∃ R, m_ref1_has_L1 x' xs 0 = R := ⟨_, rfl⟩
  refine Awp.loopT (fun (i : Nat) => [(0, ((slA 1 AV.s) xs)), (1, (AV.s x')), (5, (AV.i .i64 ((i : Nat) : Int)))]) (fun (i : Nat) => ⟨0, []⟩) (fun (i : Nat) => i ≤ xs.length ∧ m_ref1_has_L1 x' (xs.drop i) i = R1) (fun (i : Nat) => xs.length - i) 0 ?_ ?_ ?_
  · exact ⟨[], ⟨by decide, rfl, FitsObjs.nil, (EntE.cons (Ent.c kr kr) (EntE.cons (Ent.c kr kr) (EntE.cons (Ent.c kr kr) EntE.nil)))⟩, keep0⟩
  · exact ⟨od, hR1⟩
  · rintro i ⟨hi1, hE1⟩
    try dsimp only
    refine Awp.seq ?_
    refine Awp.seq ?_
    refine Awp.region tabS_ok ?_
    refine AOps.sq (x := (AV.i .i64 ((i : Nat) : Int))) kr le ?_
    refine AOps.sq (x := ((slA 1 AV.s) xs)) kr le ?_
    refine AOps.sq (x := (AV.i .i64 ((xs.length : Nat) : Int))) (g_len (k := 1) (nl := false) (e := 9) (A := AV.s) (xs := xs) kr kr) le ?_
    refine AOps.sq (x := (AV.b (decide (((i : Nat) : Int) < ((xs.length : Nat) : Int))))) kr le ?_
    refine AOps.done ?_
    rcases Nat.lt_or_ge i xs.length with hl1 | hl1
    · have hc1 : decide (((i : Nat) : Int) < ((xs.length : Nat) : Int)) = true := decide_eq_true (by omega)
      refine Awp.cond (t := true) (by rw [← hc1] <;> kernel_rfl) (Awp.skip ?_)
      obtain ⟨x1, hx1⟩ : ∃ x, xs[i]? = some x := ⟨_, List.getElem?_eq_getElem hl1⟩
      rw [drop_at hx1, m_ref1_has_L1.eq_2] at hE1
      refine Awp.seq ?_
      refine Awp.block ?_
      refine Awp.seq ?_
      refine Awp.region tabS_ok ?_
      refine AOps.sq (x := ((slA 1 AV.s) xs)) kr le ?_
      refine AOps.sq (x := (AV.i .i64 ((i : Nat) : Int))) kr le ?_
      refine AOps.sq (x := (AV.pt (AV.s x1).cells)) (g_idx (k := 1) (nl := false) (e := 9) (kk := .i64) (A := AV.s) (xs := xs) (i := i) kr kr kr ⟨by kernel_rfl, by decide⟩ hx1) le ?_
      refine AOps.sq (x := (AV.s x1)) kr le ?_
      refine AOps.sq (x := (AV.s x')) kr le ?_
      refine AOps.sq (x := (AV.b (decide (x1 = x')))) kr le ?_
      refine AOps.done ?_
      cases c_1 : decide (x1 = x')
      · have k_1 : ¬ (x1 = x') := of_decide_eq_false c_1
        refine Awp.cond (t := false) kr ?_
        refine Awp.skip ?_
        refine Awp.region tabS_ok ?_
        refine AOps.sq (x := (AV.i .i64 ((i : Nat) : Int))) kr le ?_
        refine AOps.sq (x := (AV.i .i64 ((i + 1 : Nat) : Int))) (g_addN (i := i) (m := 1) kr kr sd) le ?_
        refine AOps.sq (x := (AV.i .i64 ((i + 1 : Nat) : Int))) kr le ?_
        refine AOps.done ?_
        try simp only [c_1, sbt] at hE1
        refine ⟨i + 1, od, ⟨od, hE1⟩, ?_⟩
        exact ⟨[], ⟨by decide, rfl, FitsObjs.nil, (EntE.cons (Ent.c kr kr) (EntE.cons (Ent.c kr kr) (EntE.cons (Ent.c kr kr) EntE.nil)))⟩, keep0⟩
      · have k_1 : (x1 = x') := of_decide_eq_true c_1
        refine Awp.cond (t := true) kr ?_
        refine Awp.seq ?_
        refine Awp.region tabS_ok ?_
        refine AOps.sq (x := (AV.b true)) kr le ?_
        refine AOps.done ?_
        refine Awp.ret ?_
        try simp only [c_1, sbt] at hE1
        subst hE1
        have hM : m_ref1_has xs x' = true := by simp only [m_ref1_has, hR1, sbt]
        refine ⟨Or.inr rfl, ?_⟩
        rw [hM]
        exact Ent.cast (x' := (AV.b true)) (y' := (AV.b true)) kr kr (Ent.c kr kr)
    · have hc1 : decide (((i : Nat) : Int) < ((xs.length : Nat) : Int)) = false := decide_eq_false (by omega)
      refine Awp.cond (t := false) (by rw [← hc1] <;> kernel_rfl) (Awp.exit ?_)
      rw [List.drop_eq_nil_of_le (hl1), m_ref1_has_L1.eq_1] at hE1
      subst hE1
      refine Awp.seq ?_
      refine Awp.region tabS_ok ?_
      refine AOps.sq (x := (AV.b false)) kr le ?_
      refine AOps.done ?_
      refine Awp.ret ?_
      have hM : m_ref1_has xs x' = false := by simp only [m_ref1_has, hR1, sbt]
      refine ⟨Or.inr rfl, ?_⟩
      rw [hM]
      exact Ent.cast (x' := (AV.b false)) (y' := (AV.b false)) kr kr (Ent.c kr kr)

theorem w_ref1_small (W : World) (c : Int) : PureAt Go.Proofs.Tryz.prog W 102 [(AV.i .u8 c)] (AV.b (m_ref1_small c)) [] := by
  refine pure_of_bodyC (fn := Go.Proofs.Tryz.f102) Go.Proofs.Tryz.func102 rfl (en102 W) (ts := [2]) rfl le ?_
  refine Awp.seq ?_
  refine Awp.region tabS_ok ?_
  refine AOps.sq (x := (AV.b false)) kr le ?_
  refine AOps.done ?_
  refine Awp.seq ?_
  refine Awp.region tabS_ok ?_
  refine AOps.sq (x := (AV.i .u8 c)) kr le ?_
  refine AOps.sq (x := (AV.b (decide ((97 : Int) ≤ c)))) kr le ?_
  refine AOps.sq (x := (AV.b (decide ((97 : Int) ≤ c)))) kr le ?_
  cases c_1 : decide ((97 : Int) ≤ c)
  · have k_1 : ¬ ((97 : Int) ≤ c) := of_decide_eq_false c_1
    refine AOps.sgn rfl rfl kr rfl le ?_
    refine AOps.sgn rfl rfl kr rfl le ?_
    refine AOps.sq (x := (AV.b false)) kr le ?_
    refine AOps.sq (x := (AV.b false)) kr le ?_
    refine AOps.sgy rfl rfl kr rfl ?_
    refine AOps.sq (x := (AV.i .u8 c)) kr le ?_
    refine AOps.sgy rfl rfl kr rfl ?_
    refine AOps.sq (x := (AV.b (decide ((48 : Int) ≤ c)))) kr le ?_
    refine AOps.sgy rfl rfl kr rfl ?_
    refine AOps.sq (x := (AV.b (decide ((48 : Int) ≤ c)))) kr le ?_
    cases c_2 : decide ((48 : Int) ≤ c)
    · have k_2 : ¬ ((48 : Int) ≤ c) := of_decide_eq_false c_2
      refine AOps.sgn rfl rfl kr rfl le ?_
      refine AOps.sgn rfl rfl kr rfl le ?_
      refine AOps.sgy rfl rfl kr rfl ?_
      refine AOps.sq (x := (AV.b false)) kr le ?_
      refine AOps.sq (x := (AV.b false)) kr le ?_
      refine AOps.sq (x := (AV.b false)) kr le ?_
      refine AOps.done ?_
      refine Awp.ret ?_
      have hM : m_ref1_small c = false := by simp only [m_ref1_small, c_1, c_2, sbt]
      refine ⟨Or.inr rfl, ?_⟩
      rw [hM]
      exact Ent.cast (x' := (AV.b false)) (y' := (AV.b false)) kr kr (Ent.c kr kr)
    · have k_2 : ((48 : Int) ≤ c) := of_decide_eq_true c_2
      refine AOps.sgy rfl rfl kr rfl ?_
      refine AOps.sq (x := (AV.i .u8 c)) kr le ?_
      refine AOps.sgy rfl rfl kr rfl ?_
      refine AOps.sq (x := (AV.b (decide (c ≤ (57 : Int))))) kr le ?_
      refine AOps.sgy rfl rfl kr rfl ?_
      refine AOps.sq (x := (AV.b (decide (c ≤ (57 : Int))))) kr le ?_
      refine AOps.sq (x := (AV.b (decide (c ≤ (57 : Int))))) kr le ?_
      refine AOps.sq (x := (AV.b (decide (c ≤ (57 : Int))))) kr le ?_
      refine AOps.done ?_
      refine Awp.ret ?_
      have hM : m_ref1_small c = decide (c ≤ (57 : Int)) := by simp only [m_ref1_small, c_1, c_2, sbt]
      refine ⟨Or.inr rfl, ?_⟩
      rw [hM]
      exact Ent.cast (x' := (AV.b (decide (c ≤ (57 : Int))))) (y' := (AV.b (decide (c ≤ (57 : Int))))) kr kr (Ent.c kr kr)
  · have k_1 : ((97 : Int) ≤ c) := of_decide_eq_true c_1
    refine AOps.sgy rfl rfl kr rfl ?_
    refine AOps.sq (x := (AV.i .u8 c)) kr le ?_
    refine AOps.sgy rfl rfl kr rfl ?_
    refine AOps.sq (x := (AV.b (decide (c ≤ (122 : Int))))) kr le ?_
    refine AOps.sq (x := (AV.b (decide (c ≤ (122 : Int))))) kr le ?_
    refine AOps.sq (x := (AV.b (decide (c ≤ (122 : Int))))) kr le ?_
    cases c_3 : decide (c ≤ (122 : Int))
    · have k_3 : ¬ (c ≤ (122 : Int)) := of_decide_eq_false c_3
      refine AOps.sgy rfl rfl kr rfl ?_
      refine AOps.sq (x := (AV.i .u8 c)) kr le ?_
      refine AOps.sgy rfl rfl kr rfl ?_
      refine AOps.sq (x := (AV.b (decide ((48 : Int) ≤ c)))) kr le ?_
      refine AOps.sgy rfl rfl kr rfl ?_
      refine AOps.sq (x := (AV.b (decide ((48 : Int) ≤ c)))) kr le ?_
      cases c_4 : decide ((48 : Int) ≤ c)
      · have k_4 : ¬ ((48 : Int) ≤ c) := of_decide_eq_false c_4
        refine AOps.sgn rfl rfl kr rfl le ?_
        refine AOps.sgn rfl rfl kr rfl le ?_
        refine AOps.sgy rfl rfl kr rfl ?_
        refine AOps.sq (x := (AV.b false)) kr le ?_
        refine AOps.sq (x := (AV.b false)) kr le ?_
        refine AOps.sq (x := (AV.b false)) kr le ?_
        refine AOps.done ?_
        refine Awp.ret ?_
        have hM : m_ref1_small c = false := by simp only [m_ref1_small, c_1, c_3, c_4, sbt]
        refine ⟨Or.inr rfl, ?_⟩
        rw [hM]
        exact Ent.cast (x' := (AV.b false)) (y' := (AV.b false)) kr kr (Ent.c kr kr)
      · have k_4 : ((48 : Int) ≤ c) := of_decide_eq_true c_4
        refine AOps.sgy rfl rfl kr rfl ?_
        refine AOps.sq (x := (AV.i .u8 c)) kr le ?_
        refine AOps.sgy rfl rfl kr rfl ?_
        refine AOps.sq (x := (AV.b (decide (c ≤ (57 : Int))))) kr le ?_
        refine AOps.sgy rfl rfl kr rfl ?_
        refine AOps.sq (x := (AV.b (decide (c ≤ (57 : Int))))) kr le ?_
        refine AOps.sq (x := (AV.b (decide (c ≤ (57 : Int))))) kr le ?_
        refine AOps.sq (x := (AV.b (decide (c ≤ (57 : Int))))) kr le ?_
        refine AOps.done ?_
        refine Awp.ret ?_
        have hM : m_ref1_small c = decide (c ≤ (57 : Int)) := by simp only [m_ref1_small, c_1, c_3, c_4, sbt]
        refine ⟨Or.inr rfl, ?_⟩
        rw [hM]
        exact Ent.cast (x' := (AV.b (decide (c ≤ (57 : Int))))) (y' := (AV.b (decide (c ≤ (57 : Int))))) kr kr (Ent.c kr kr)
    · have k_3 : (c ≤ (122 : Int)) := of_decide_eq_true c_3
      refine AOps.sgn rfl rfl kr rfl le ?_
      refine AOps.sgn rfl rfl kr rfl le ?_
      refine AOps.sgn rfl rfl kr rfl le ?_
      refine AOps.sgu rfl rfl kr le ?_
      refine AOps.sgu rfl rfl kr le ?_
      refine AOps.sgn rfl rfl kr rfl le ?_
      refine AOps.sq (x := (AV.b true)) kr le ?_
      refine AOps.sq (x := (AV.b true)) kr le ?_
      refine AOps.done ?_
      refine Awp.ret ?_
      have hM : m_ref1_small c = true := by simp only [m_ref1_small, c_1, c_3, sbt]
      refine ⟨Or.inr rfl, ?_⟩
      rw [hM]
      exact Ent.cast (x' := (AV.b true)) (y' := (AV.b true)) kr kr (Ent.c kr kr)

theorem w_ref1_Plain (W : World) (s' : ByteArray) (least : Int) (most' : Int) : PureAt Go.Proofs.Tryz.prog W 103 [(AV.s s'), (AV.i .i64 least), (AV.i .i64 most')] (AV.b (m_ref1_Plain s' least most')) [] := by
  refine pure_of_bodyC (fn := Go.Proofs.Tryz.f103) Go.Proofs.Tryz.func103 rfl (en103 W) (ts := [6]) rfl le ?_
  refine Awp.seq ?_
  refine Awp.region tabS_ok ?_
  refine AOps.sq (x := (AV.b false)) kr le ?_
  refine AOps.done ?_
  refine Awp.seq ?_
  refine Awp.seq ?_
  refine Awp.region tabS_ok ?_
  refine AOps.sq (x := (AV.i .i64 (0 : Int))) kr le ?_
  refine AOps.done ?_
  refine Awp.block ?_
  refine Awp.lim 0 (x := (AV.s s')) kr fun hlm1 => ?_
  have hB1 : s'.size ≤ 281474976710656 := lim_s hlm1
  obtain ⟨R1, hR1⟩ : ∃ R, m_ref1_Plain_L1 s'.data.toList 0 = R := ⟨_, rfl⟩
  refine Awp.loopT (fun (i : Nat) => [(0, (AV.s s')), (1, (AV.i .i64 least)), (2, (AV.i .i64 most')), (7, (AV.i .i64 ((i : Nat) : Int)))]) (fun (i : Nat) => ⟨0, []⟩) (fun (i : Nat) => i ≤ s'.size ∧ m_ref1_Plain_L1 (s'.data.toList.drop i) i = R1) (fun (i : Nat) => s'.size - i) 0 ?_ ?_ ?_
  · exact ⟨[], ⟨by decide, rfl, FitsObjs.nil, (EntE.cons (Ent.c kr kr) (EntE.cons (Ent.c kr kr) (EntE.cons (Ent.c kr kr) (EntE.cons (Ent.c kr kr) EntE.nil))))⟩, keep0⟩
  · exact ⟨od, hR1⟩
  · rintro i ⟨hi1, hE1⟩
    try dsimp only
    refine Awp.seq ?_
    refine Awp.seq ?_
    refine Awp.region tabS_ok ?_
    refine AOps.sq (x := (AV.i .i64 ((i : Nat) : Int))) kr le ?_
    refine AOps.sq (x := (AV.s s')) kr le ?_
    refine AOps.sq (x := (AV.i .i64 ((s'.size : Nat) : Int))) kr le ?_
    refine AOps.sq (x := (AV.b (decide (((i : Nat) : Int) < ((s'.size : Nat) : Int))))) kr le ?_
    refine AOps.done ?_
    rcases Nat.lt_or_ge i s'.size with hl1 | hl1
    · have hc1 : decide (((i : Nat) : Int) < ((s'.size : Nat) : Int)) = true := decide_eq_true (by omega)
      refine Awp.cond (t := true) (by rw [← hc1] <;> kernel_rfl) (Awp.skip ?_)
      obtain ⟨x1, hx1, hx1l⟩ := data_get hl1
      rw [drop_at hx1l, m_ref1_Plain_L1.eq_2] at hE1
      refine Awp.seq ?_
      refine Awp.block ?_
      refine Awp.seq ?_
      refine Awp.region tabS_ok ?_
      refine AOps.sq (x := (AV.s s')) kr le ?_
      refine AOps.sq (x := (AV.i .i64 ((i : Nat) : Int))) kr le ?_
      refine AOps.sq (x := (AV.i .u8 (x1.toNat : Int))) (g_str (kk := .i64) (s := s') (i := i) (b := x1) kr kr kr hx1) le ?_
      refine AOps.sq (x := (AV.b (decide ((x1.toNat : Int) < (32 : Int))))) kr le ?_
      refine AOps.sq (x := (AV.b (decide ((x1.toNat : Int) < (32 : Int))))) kr le ?_
      cases c_1 : decide ((x1.toNat : Int) < (32 : Int))
      · have k_1 : ¬ ((x1.toNat : Int) < (32 : Int)) := of_decide_eq_false c_1
        refine AOps.sgy rfl rfl kr rfl ?_
        refine AOps.sq (x := (AV.s s')) kr le ?_
        refine AOps.sgy rfl rfl kr rfl ?_
        refine AOps.sq (x := (AV.i .i64 ((i : Nat) : Int))) kr le ?_
        refine AOps.sgy rfl rfl kr rfl ?_
        refine AOps.sq (x := (AV.i .u8 (x1.toNat : Int))) (g_str (kk := .i64) (s := s') (i := i) (b := x1) kr kr kr hx1) le ?_
        refine AOps.sgy rfl rfl kr rfl ?_
        refine AOps.sq (x := (AV.b (decide ((126 : Int) < (x1.toNat : Int))))) kr le ?_
        refine AOps.sq (x := (AV.b (decide ((126 : Int) < (x1.toNat : Int))))) kr le ?_
        refine AOps.done ?_
        cases c_2 : decide ((126 : Int) < (x1.toNat : Int))
        · have k_2 : ¬ ((126 : Int) < (x1.toNat : Int)) := of_decide_eq_false c_2
          refine Awp.cond (t := false) kr ?_
          refine Awp.skip ?_
          refine Awp.region tabS_ok ?_
          refine AOps.sq (x := (AV.i .i64 ((i : Nat) : Int))) kr le ?_
          refine AOps.sq (x := (AV.i .i64 ((i + 1 : Nat) : Int))) (g_addN (i := i) (m := 1) kr kr sd) le ?_
          refine AOps.sq (x := (AV.i .i64 ((i + 1 : Nat) : Int))) kr le ?_
          refine AOps.done ?_
          try simp only [c_1, c_2, sbt] at hE1
          refine ⟨i + 1, od, ⟨od, hE1⟩, ?_⟩
          exact ⟨[], ⟨by decide, rfl, FitsObjs.nil, (EntE.cons (Ent.c kr kr) (EntE.cons (Ent.c kr kr) (EntE.cons (Ent.c kr kr) (EntE.cons (Ent.c kr kr) EntE.nil))))⟩, keep0⟩
        · have k_2 : ((126 : Int) < (x1.toNat : Int)) := of_decide_eq_true c_2
          refine Awp.cond (t := true) kr ?_
          refine Awp.seq ?_
          refine Awp.region tabS_ok ?_
          refine AOps.sq (x := (AV.b false)) kr le ?_
          refine AOps.done ?_
          refine Awp.ret ?_
          try simp only [c_1, c_2, sbt] at hE1
          subst hE1
          have hM : m_ref1_Plain s' least most' = false := by simp only [m_ref1_Plain, hR1, sbt]
          refine ⟨Or.inr rfl, ?_⟩
          rw [hM]
          exact Ent.cast (x' := (AV.b false)) (y' := (AV.b false)) kr kr (Ent.c kr kr)
      · have k_1 : ((x1.toNat : Int) < (32 : Int)) := of_decide_eq_true c_1
        refine AOps.sgn rfl rfl kr rfl le ?_
        refine AOps.sgn rfl rfl kr rfl le ?_
        refine AOps.sgn rfl rfl kr rfl le ?_
        refine AOps.sgn rfl rfl kr rfl le ?_
        refine AOps.sq (x := (AV.b true)) kr le ?_
        refine AOps.done ?_
        refine Awp.cond (t := true) kr ?_
        refine Awp.seq ?_
        refine Awp.region tabS_ok ?_
        refine AOps.sq (x := (AV.b false)) kr le ?_
        refine AOps.done ?_
        refine Awp.ret ?_
        try simp only [c_1, sbt] at hE1
        subst hE1
        have hM : m_ref1_Plain s' least most' = false := by simp only [m_ref1_Plain, hR1, sbt]
        refine ⟨Or.inr rfl, ?_⟩
        rw [hM]
        exact Ent.cast (x' := (AV.b false)) (y' := (AV.b false)) kr kr (Ent.c kr kr)
    · have hc1 : decide (((i : Nat) : Int) < ((s'.size : Nat) : Int)) = false := decide_eq_false (by omega)
      refine Awp.cond (t := false) (by rw [← hc1] <;> kernel_rfl) (Awp.exit ?_)
      rw [List.drop_eq_nil_of_le (bytes_le hl1), m_ref1_Plain_L1.eq_1] at hE1
      subst hE1
      refine Awp.seq ?_
      refine Awp.region tabS_ok ?_
      refine AOps.sq (x := (AV.s s')) kr le ?_
      refine AOps.sq (x := (AV.i .i64 ((s'.size : Nat) : Int))) kr le ?_
      refine AOps.sq (x := (AV.i .i64 least)) kr le ?_
      refine AOps.sq (x := (AV.b (decide (least ≤ ((s'.size : Nat) : Int))))) kr le ?_
      refine AOps.sq (x := (AV.b (decide (least ≤ ((s'.size : Nat) : Int))))) kr le ?_
      cases c_3 : decide (least ≤ ((s'.size : Nat) : Int))
      · have k_3 : ¬ (least ≤ ((s'.size : Nat) : Int)) := of_decide_eq_false c_3
        refine AOps.sgn rfl rfl kr rfl le ?_
        refine AOps.sgn rfl rfl kr rfl le ?_
        refine AOps.sgn rfl rfl kr rfl le ?_
        refine AOps.sgn rfl rfl kr rfl le ?_
        refine AOps.sq (x := (AV.b false)) kr le ?_
        refine AOps.sq (x := (AV.b false)) kr le ?_
        refine AOps.done ?_
        refine Awp.ret ?_
        have hM : m_ref1_Plain s' least most' = false := by simp only [m_ref1_Plain, hR1, c_3, sbt]
        refine ⟨Or.inr rfl, ?_⟩
        rw [hM]
        exact Ent.cast (x' := (AV.b false)) (y' := (AV.b false)) kr kr (Ent.c kr kr)
      · have k_3 : (least ≤ ((s'.size : Nat) : Int)) := of_decide_eq_true c_3
        refine AOps.sgy rfl rfl kr rfl ?_
        refine AOps.sq (x := (AV.s s')) kr le ?_
        refine AOps.sgy rfl rfl kr rfl ?_
        refine AOps.sq (x := (AV.i .i64 ((s'.size : Nat) : Int))) kr le ?_
        refine AOps.sgy rfl rfl kr rfl ?_
        refine AOps.sq (x := (AV.i .i64 most')) kr le ?_
        refine AOps.sgy rfl rfl kr rfl ?_
        refine AOps.sq (x := (AV.b (decide (((s'.size : Nat) : Int) ≤ most')))) kr le ?_
        refine AOps.sq (x := (AV.b (decide (((s'.size : Nat) : Int) ≤ most')))) kr le ?_
        refine AOps.sq (x := (AV.b (decide (((s'.size : Nat) : Int) ≤ most')))) kr le ?_
        refine AOps.done ?_
        refine Awp.ret ?_
        have hM : m_ref1_Plain s' least most' = decide (((s'.size : Nat) : Int) ≤ most') := by simp only [m_ref1_Plain, hR1, c_3, sbt]
        refine ⟨Or.inr rfl, ?_⟩
        rw [hM]
        exact Ent.cast (x' := (AV.b (decide (((s'.size : Nat) : Int) ≤ most')))) (y' := (AV.b (decide (((s'.size : Nat) : Int) ≤ most')))) kr kr (Ent.c kr kr)

theorem w_ref1_NameMay (W : World) (s' : ByteArray) : PureAt Go.Proofs.Tryz.prog W 62 [(AV.s s')] (AV.b (m_ref1_NameMay s')) [] := by
  refine pure_of_bodyC (fn := Go.Proofs.Tryz.f62) Go.Proofs.Tryz.func62 rfl (en62 W) (ts := [2]) rfl le ?_
  refine Awp.seq ?_
  refine Awp.region tabS_ok ?_
  refine AOps.sq (x := (AV.b false)) kr le ?_
  refine AOps.done ?_
  refine Awp.seq ?_
  refine Awp.seq ?_
  refine Awp.region tabS_ok ?_
  refine AOps.sq (x := (AV.i .i64 (0 : Int))) kr le ?_
  refine AOps.done ?_
  refine Awp.block ?_
  refine Awp.lim 0 (x := (AV.s s')) kr fun hlm1 => ?_
  have hB1 : s'.size ≤ 281474976710656 := lim_s hlm1
  obtain ⟨R1, hR1⟩ : ∃ R, m_ref1_NameMay_L1 s'.data.toList 0 = R := ⟨_, rfl⟩
  refine Awp.loopT (fun (i : Nat) => [(0, (AV.s s')), (3, (AV.i .i64 ((i : Nat) : Int)))]) (fun (i : Nat) => ⟨0, []⟩) (fun (i : Nat) => i ≤ s'.size ∧ m_ref1_NameMay_L1 (s'.data.toList.drop i) i = R1) (fun (i : Nat) => s'.size - i) 0 ?_ ?_ ?_
  · exact ⟨[], ⟨by decide, rfl, FitsObjs.nil, (EntE.cons (Ent.c kr kr) (EntE.cons (Ent.c kr kr) EntE.nil))⟩, keep0⟩
  · exact ⟨od, hR1⟩
  · rintro i ⟨hi1, hE1⟩
    try dsimp only
    refine Awp.seq ?_
    refine Awp.seq ?_
    refine Awp.region tabS_ok ?_
    refine AOps.sq (x := (AV.i .i64 ((i : Nat) : Int))) kr le ?_
    refine AOps.sq (x := (AV.s s')) kr le ?_
    refine AOps.sq (x := (AV.i .i64 ((s'.size : Nat) : Int))) kr le ?_
    refine AOps.sq (x := (AV.b (decide (((i : Nat) : Int) < ((s'.size : Nat) : Int))))) kr le ?_
    refine AOps.done ?_
    rcases Nat.lt_or_ge i s'.size with hl1 | hl1
    · have hc1 : decide (((i : Nat) : Int) < ((s'.size : Nat) : Int)) = true := decide_eq_true (by omega)
      refine Awp.cond (t := true) (by rw [← hc1] <;> kernel_rfl) (Awp.skip ?_)
      obtain ⟨x1, hx1, hx1l⟩ := data_get hl1
      rw [drop_at hx1l, m_ref1_NameMay_L1.eq_2] at hE1
      refine Awp.seq ?_
      refine Awp.block ?_
      refine Awp.seq ?_
      refine Awp.region tabS_ok ?_
      refine AOps.sq (x := (AV.s s')) kr le ?_
      refine AOps.sq (x := (AV.i .i64 ((i : Nat) : Int))) kr le ?_
      refine AOps.sq (x := (AV.i .u8 (x1.toNat : Int))) (g_str (kk := .i64) (s := s') (i := i) (b := x1) kr kr kr hx1) le ?_
      refine AOps.sc0 (vs := [(AV.i .u8 (x1.toNat : Int))]) (r0 := (AV.b (m_ref1_small (x1.toNat : Int)))) kr kr (w_ref1_small W (x1.toNat : Int)) kr le ?_
      refine AOps.sq (x := (AV.b (!(m_ref1_small (x1.toNat : Int))))) kr le ?_
      refine AOps.sq (x := (AV.b (!(m_ref1_small (x1.toNat : Int))))) kr le ?_
      cases c_1 : (!(m_ref1_small (x1.toNat : Int)))
      · refine AOps.sgn rfl rfl kr rfl le ?_
        refine AOps.sgn rfl rfl kr rfl le ?_
        refine AOps.sgn rfl rfl kr rfl le ?_
        refine AOps.sgn rfl rfl kr rfl le ?_
        refine AOps.sq (x := (AV.b false)) kr le ?_
        refine AOps.sq (x := (AV.b false)) kr le ?_
        refine AOps.sgn rfl rfl kr rfl le ?_
        refine AOps.sgn rfl rfl kr rfl le ?_
        refine AOps.sgn rfl rfl kr rfl le ?_
        refine AOps.sgn rfl rfl kr rfl le ?_
        refine AOps.sq (x := (AV.b false)) kr le ?_
        refine AOps.sq (x := (AV.b false)) kr le ?_
        refine AOps.sgn rfl rfl kr rfl le ?_
        refine AOps.sgn rfl rfl kr rfl le ?_
        refine AOps.sgn rfl rfl kr rfl le ?_
        refine AOps.sgn rfl rfl kr rfl le ?_
        refine AOps.sq (x := (AV.b false)) kr le ?_
        refine AOps.sq (x := (AV.b false)) kr le ?_
        refine AOps.sgn rfl rfl kr rfl le ?_
        refine AOps.sgn rfl rfl kr rfl le ?_
        refine AOps.sgn rfl rfl kr rfl le ?_
        refine AOps.sgn rfl rfl kr rfl le ?_
        refine AOps.sq (x := (AV.b false)) kr le ?_
        refine AOps.done ?_
        refine Awp.cond (t := false) kr ?_
        refine Awp.skip ?_
        refine Awp.region tabS_ok ?_
        refine AOps.sq (x := (AV.i .i64 ((i : Nat) : Int))) kr le ?_
        refine AOps.sq (x := (AV.i .i64 ((i + 1 : Nat) : Int))) (g_addN (i := i) (m := 1) kr kr sd) le ?_
        refine AOps.sq (x := (AV.i .i64 ((i + 1 : Nat) : Int))) kr le ?_
        refine AOps.done ?_
        try simp only [c_1, sbt] at hE1
        refine ⟨i + 1, od, ⟨od, hE1⟩, ?_⟩
        exact ⟨[], ⟨by decide, rfl, FitsObjs.nil, (EntE.cons (Ent.c kr kr) (EntE.cons (Ent.c kr kr) EntE.nil))⟩, keep0⟩
      · refine AOps.sgy rfl rfl kr rfl ?_
        refine AOps.sq (x := (AV.s s')) kr le ?_
        refine AOps.sgy rfl rfl kr rfl ?_
        refine AOps.sq (x := (AV.i .i64 ((i : Nat) : Int))) kr le ?_
        refine AOps.sgy rfl rfl kr rfl ?_
        refine AOps.sq (x := (AV.i .u8 (x1.toNat : Int))) (g_str (kk := .i64) (s := s') (i := i) (b := x1) kr kr kr hx1) le ?_
        refine AOps.sgy rfl rfl kr rfl ?_
        refine AOps.sq (x := (AV.b (!decide ((x1.toNat : Int) = (46 : Int))))) kr le ?_
        refine AOps.sq (x := (AV.b (!decide ((x1.toNat : Int) = (46 : Int))))) kr le ?_
        refine AOps.sq (x := (AV.b (!decide ((x1.toNat : Int) = (46 : Int))))) kr le ?_
        cases c_2 : (!decide ((x1.toNat : Int) = (46 : Int)))
        · have k_2 : ((x1.toNat : Int) = (46 : Int)) := of_decide_eq_true (by simpa using c_2)
          refine AOps.sgn rfl rfl kr rfl le ?_
          refine AOps.sgn rfl rfl kr rfl le ?_
          refine AOps.sgn rfl rfl kr rfl le ?_
          refine AOps.sgn rfl rfl kr rfl le ?_
          refine AOps.sq (x := (AV.b false)) kr le ?_
          refine AOps.sq (x := (AV.b false)) kr le ?_
          refine AOps.sgn rfl rfl kr rfl le ?_
          refine AOps.sgn rfl rfl kr rfl le ?_
          refine AOps.sgn rfl rfl kr rfl le ?_
          refine AOps.sgn rfl rfl kr rfl le ?_
          refine AOps.sq (x := (AV.b false)) kr le ?_
          refine AOps.sq (x := (AV.b false)) kr le ?_
          refine AOps.sgn rfl rfl kr rfl le ?_
          refine AOps.sgn rfl rfl kr rfl le ?_
          refine AOps.sgn rfl rfl kr rfl le ?_
          refine AOps.sgn rfl rfl kr rfl le ?_
          refine AOps.sq (x := (AV.b false)) kr le ?_
          refine AOps.done ?_
          refine Awp.cond (t := false) kr ?_
          refine Awp.skip ?_
          refine Awp.region tabS_ok ?_
          refine AOps.sq (x := (AV.i .i64 ((i : Nat) : Int))) kr le ?_
          refine AOps.sq (x := (AV.i .i64 ((i + 1 : Nat) : Int))) (g_addN (i := i) (m := 1) kr kr sd) le ?_
          refine AOps.sq (x := (AV.i .i64 ((i + 1 : Nat) : Int))) kr le ?_
          refine AOps.done ?_
          try simp only [c_1, c_2, sbt] at hE1
          refine ⟨i + 1, od, ⟨od, hE1⟩, ?_⟩
          exact ⟨[], ⟨by decide, rfl, FitsObjs.nil, (EntE.cons (Ent.c kr kr) (EntE.cons (Ent.c kr kr) EntE.nil))⟩, keep0⟩
        · have k_2 : ¬ ((x1.toNat : Int) = (46 : Int)) := of_decide_eq_false (by simpa using c_2)
          refine AOps.sgy rfl rfl kr rfl ?_
          refine AOps.sq (x := (AV.s s')) kr le ?_
          refine AOps.sgy rfl rfl kr rfl ?_
          refine AOps.sq (x := (AV.i .i64 ((i : Nat) : Int))) kr le ?_
          refine AOps.sgy rfl rfl kr rfl ?_
          refine AOps.sq (x := (AV.i .u8 (x1.toNat : Int))) (g_str (kk := .i64) (s := s') (i := i) (b := x1) kr kr kr hx1) le ?_
          refine AOps.sgy rfl rfl kr rfl ?_
          refine AOps.sq (x := (AV.b (!decide ((x1.toNat : Int) = (95 : Int))))) kr le ?_
          refine AOps.sq (x := (AV.b (!decide ((x1.toNat : Int) = (95 : Int))))) kr le ?_
          refine AOps.sq (x := (AV.b (!decide ((x1.toNat : Int) = (95 : Int))))) kr le ?_
          cases c_3 : (!decide ((x1.toNat : Int) = (95 : Int)))
          · have k_3 : ((x1.toNat : Int) = (95 : Int)) := of_decide_eq_true (by simpa using c_3)
            refine AOps.sgn rfl rfl kr rfl le ?_
            refine AOps.sgn rfl rfl kr rfl le ?_
            refine AOps.sgn rfl rfl kr rfl le ?_
            refine AOps.sgn rfl rfl kr rfl le ?_
            refine AOps.sq (x := (AV.b false)) kr le ?_
            refine AOps.sq (x := (AV.b false)) kr le ?_
            refine AOps.sgn rfl rfl kr rfl le ?_
            refine AOps.sgn rfl rfl kr rfl le ?_
            refine AOps.sgn rfl rfl kr rfl le ?_
            refine AOps.sgn rfl rfl kr rfl le ?_
            refine AOps.sq (x := (AV.b false)) kr le ?_
            refine AOps.done ?_
            refine Awp.cond (t := false) kr ?_
            refine Awp.skip ?_
            refine Awp.region tabS_ok ?_
            refine AOps.sq (x := (AV.i .i64 ((i : Nat) : Int))) kr le ?_
            refine AOps.sq (x := (AV.i .i64 ((i + 1 : Nat) : Int))) (g_addN (i := i) (m := 1) kr kr sd) le ?_
            refine AOps.sq (x := (AV.i .i64 ((i + 1 : Nat) : Int))) kr le ?_
            refine AOps.done ?_
            try simp only [c_1, c_2, c_3, sbt] at hE1
            refine ⟨i + 1, od, ⟨od, hE1⟩, ?_⟩
            exact ⟨[], ⟨by decide, rfl, FitsObjs.nil, (EntE.cons (Ent.c kr kr) (EntE.cons (Ent.c kr kr) EntE.nil))⟩, keep0⟩
          · have k_3 : ¬ ((x1.toNat : Int) = (95 : Int)) := of_decide_eq_false (by simpa using c_3)
            refine AOps.sgy rfl rfl kr rfl ?_
            refine AOps.sq (x := (AV.s s')) kr le ?_
            refine AOps.sgy rfl rfl kr rfl ?_
            refine AOps.sq (x := (AV.i .i64 ((i : Nat) : Int))) kr le ?_
            refine AOps.sgy rfl rfl kr rfl ?_
            refine AOps.sq (x := (AV.i .u8 (x1.toNat : Int))) (g_str (kk := .i64) (s := s') (i := i) (b := x1) kr kr kr hx1) le ?_
            refine AOps.sgy rfl rfl kr rfl ?_
            refine AOps.sq (x := (AV.b (!decide ((x1.toNat : Int) = (45 : Int))))) kr le ?_
            refine AOps.sq (x := (AV.b (!decide ((x1.toNat : Int) = (45 : Int))))) kr le ?_
            refine AOps.sq (x := (AV.b (!decide ((x1.toNat : Int) = (45 : Int))))) kr le ?_
            cases c_4 : (!decide ((x1.toNat : Int) = (45 : Int)))
            · have k_4 : ((x1.toNat : Int) = (45 : Int)) := of_decide_eq_true (by simpa using c_4)
              refine AOps.sgn rfl rfl kr rfl le ?_
              refine AOps.sgn rfl rfl kr rfl le ?_
              refine AOps.sgn rfl rfl kr rfl le ?_
              refine AOps.sgn rfl rfl kr rfl le ?_
              refine AOps.sq (x := (AV.b false)) kr le ?_
              refine AOps.done ?_
              refine Awp.cond (t := false) kr ?_
              refine Awp.skip ?_
              refine Awp.region tabS_ok ?_
              refine AOps.sq (x := (AV.i .i64 ((i : Nat) : Int))) kr le ?_
              refine AOps.sq (x := (AV.i .i64 ((i + 1 : Nat) : Int))) (g_addN (i := i) (m := 1) kr kr sd) le ?_
              refine AOps.sq (x := (AV.i .i64 ((i + 1 : Nat) : Int))) kr le ?_
              refine AOps.done ?_
              try simp only [c_1, c_2, c_3, c_4, sbt] at hE1
              refine ⟨i + 1, od, ⟨od, hE1⟩, ?_⟩
              exact ⟨[], ⟨by decide, rfl, FitsObjs.nil, (EntE.cons (Ent.c kr kr) (EntE.cons (Ent.c kr kr) EntE.nil))⟩, keep0⟩
            · have k_4 : ¬ ((x1.toNat : Int) = (45 : Int)) := of_decide_eq_false (by simpa using c_4)
              refine AOps.sgy rfl rfl kr rfl ?_
              refine AOps.sq (x := (AV.s s')) kr le ?_
              refine AOps.sgy rfl rfl kr rfl ?_
              refine AOps.sq (x := (AV.i .i64 ((i : Nat) : Int))) kr le ?_
              refine AOps.sgy rfl rfl kr rfl ?_
              refine AOps.sq (x := (AV.i .u8 (x1.toNat : Int))) (g_str (kk := .i64) (s := s') (i := i) (b := x1) kr kr kr hx1) le ?_
              refine AOps.sgy rfl rfl kr rfl ?_
              refine AOps.sq (x := (AV.b (!decide ((x1.toNat : Int) = (47 : Int))))) kr le ?_
              refine AOps.sq (x := (AV.b (!decide ((x1.toNat : Int) = (47 : Int))))) kr le ?_
              refine AOps.done ?_
              cases c_5 : (!decide ((x1.toNat : Int) = (47 : Int)))
              · have k_5 : ((x1.toNat : Int) = (47 : Int)) := of_decide_eq_true (by simpa using c_5)
                refine Awp.cond (t := false) kr ?_
                refine Awp.skip ?_
                refine Awp.region tabS_ok ?_
                refine AOps.sq (x := (AV.i .i64 ((i : Nat) : Int))) kr le ?_
                refine AOps.sq (x := (AV.i .i64 ((i + 1 : Nat) : Int))) (g_addN (i := i) (m := 1) kr kr sd) le ?_
                refine AOps.sq (x := (AV.i .i64 ((i + 1 : Nat) : Int))) kr le ?_
                refine AOps.done ?_
                try simp only [c_1, c_2, c_3, c_4, c_5, sbt] at hE1
                refine ⟨i + 1, od, ⟨od, hE1⟩, ?_⟩
                exact ⟨[], ⟨by decide, rfl, FitsObjs.nil, (EntE.cons (Ent.c kr kr) (EntE.cons (Ent.c kr kr) EntE.nil))⟩, keep0⟩
              · have k_5 : ¬ ((x1.toNat : Int) = (47 : Int)) := of_decide_eq_false (by simpa using c_5)
                refine Awp.cond (t := true) kr ?_
                refine Awp.seq ?_
                refine Awp.region tabS_ok ?_
                refine AOps.sq (x := (AV.b false)) kr le ?_
                refine AOps.done ?_
                refine Awp.ret ?_
                try simp only [c_1, c_2, c_3, c_4, c_5, sbt] at hE1
                subst hE1
                have hM : m_ref1_NameMay s' = false := by simp only [m_ref1_NameMay, hR1, sbt]
                refine ⟨Or.inr rfl, ?_⟩
                rw [hM]
                exact Ent.cast (x' := (AV.b false)) (y' := (AV.b false)) kr kr (Ent.c kr kr)
    · have hc1 : decide (((i : Nat) : Int) < ((s'.size : Nat) : Int)) = false := decide_eq_false (by omega)
      refine Awp.cond (t := false) (by rw [← hc1] <;> kernel_rfl) (Awp.exit ?_)
      rw [List.drop_eq_nil_of_le (bytes_le hl1), m_ref1_NameMay_L1.eq_1] at hE1
      subst hE1
      refine Awp.seq ?_
      refine Awp.region tabS_ok ?_
      refine AOps.sq (x := (AV.s s')) kr le ?_
      refine AOps.sq (x := (AV.i .i64 ((s'.size : Nat) : Int))) kr le ?_
      refine AOps.sq (x := (AV.b (decide ((1 : Int) ≤ ((s'.size : Nat) : Int))))) kr le ?_
      refine AOps.sq (x := (AV.b (decide ((1 : Int) ≤ ((s'.size : Nat) : Int))))) kr le ?_
      cases c_6 : decide ((1 : Int) ≤ ((s'.size : Nat) : Int))
      · have k_6 : ¬ ((1 : Int) ≤ ((s'.size : Nat) : Int)) := of_decide_eq_false c_6
        refine AOps.sgn rfl rfl kr rfl le ?_
        refine AOps.sgn rfl rfl kr rfl le ?_
        refine AOps.sgn rfl rfl kr rfl le ?_
        refine AOps.sq (x := (AV.b false)) kr le ?_
        refine AOps.sq (x := (AV.b false)) kr le ?_
        refine AOps.done ?_
        refine Awp.ret ?_
        have hM : m_ref1_NameMay s' = false := by simp only [m_ref1_NameMay, hR1, c_6, sbt]
        refine ⟨Or.inr rfl, ?_⟩
        rw [hM]
        exact Ent.cast (x' := (AV.b false)) (y' := (AV.b false)) kr kr (Ent.c kr kr)
      · have k_6 : ((1 : Int) ≤ ((s'.size : Nat) : Int)) := of_decide_eq_true c_6
        refine AOps.sgy rfl rfl kr rfl ?_
        refine AOps.sq (x := (AV.s s')) kr le ?_
        refine AOps.sgy rfl rfl kr rfl ?_
        refine AOps.sq (x := (AV.i .i64 ((s'.size : Nat) : Int))) kr le ?_
        refine AOps.sgy rfl rfl kr rfl ?_
        refine AOps.sq (x := (AV.b (decide (((s'.size : Nat) : Int) ≤ (16 : Int))))) kr le ?_
        refine AOps.sq (x := (AV.b (decide (((s'.size : Nat) : Int) ≤ (16 : Int))))) kr le ?_
        refine AOps.sq (x := (AV.b (decide (((s'.size : Nat) : Int) ≤ (16 : Int))))) kr le ?_
        refine AOps.done ?_
        refine Awp.ret ?_
        have hM : m_ref1_NameMay s' = decide (((s'.size : Nat) : Int) ≤ (16 : Int)) := by simp only [m_ref1_NameMay, hR1, c_6, sbt]
        refine ⟨Or.inr rfl, ?_⟩
        rw [hM]
        exact Ent.cast (x' := (AV.b (decide (((s'.size : Nat) : Int) ≤ (16 : Int))))) (y' := (AV.b (decide (((s'.size : Nat) : Int) ≤ (16 : Int))))) kr kr (Ent.c kr kr)

theorem w_ref1_Join (W : World) (xs : List ByteArray) (sign : ByteArray) (hz : szsum xs sign.size ≤ 281474976710656) : PureAt Go.Proofs.Tryz.prog W 151 [((slA 1 AV.s) xs), (AV.s sign)] (AV.s (m_ref1_Join xs sign)) [] := by
  refine pure_of_bodyC (fn := Go.Proofs.Tryz.f151) Go.Proofs.Tryz.func151 rfl (en151 W) (ts := [4]) rfl le ?_
  refine Awp.seq ?_
  refine Awp.region tabS_ok ?_
  refine AOps.sq (x := (AV.s (⟨#[]⟩ : ByteArray))) kr le ?_
  refine AOps.done ?_
  refine Awp.seq ?_
  refine Awp.region tabS_ok ?_
  refine AOps.sq (x := (AV.s (⟨#[]⟩ : ByteArray))) kr le ?_
  refine AOps.done ?_
  refine Awp.seq ?_
  refine Awp.seq ?_
  refine Awp.region tabS_ok ?_
  refine AOps.sq (x := (AV.i .i64 (0 : Int))) kr le ?_
  refine AOps.done ?_
  refine Awp.block ?_
  refine Awp.lim 0 (x := ((slA 1 AV.s) xs)) kr fun hlm1 => ?_
  have hB1 : xs.length ≤ 281474976710656 := lim_slA hlm1
  obtain ⟨R1, hR1⟩ : ∃ R, m_ref1_Join_L1 sign xs 0 (⟨#[]⟩ : ByteArray) = R := ⟨_, rfl⟩
  refine Awp.loopT (fun ((s', i) : ByteArray × Nat) => [(0, ((slA 1 AV.s) xs)), (1, (AV.s sign)), (5, (AV.s s')), (6, (AV.i .i64 ((i : Nat) : Int)))]) (fun ((s', i) : ByteArray × Nat) => ⟨0, []⟩) (fun ((s', i) : ByteArray × Nat) => i ≤ xs.length ∧ s'.size + szsum (xs.drop i) sign.size ≤ 281474976710656 ∧ m_ref1_Join_L1 sign (xs.drop i) i s' = R1) (fun ((s', i) : ByteArray × Nat) => xs.length - i) ((⟨#[]⟩ : ByteArray), 0) ?_ ?_ ?_
  · exact ⟨[], ⟨by decide, rfl, FitsObjs.nil, (EntE.cons (Ent.c kr kr) (EntE.cons (Ent.c kr kr) (EntE.cons (Ent.c kr kr) (EntE.cons (Ent.c kr kr) EntE.nil))))⟩, keep0⟩
  · exact ⟨od, by (try dsimp only) <;> (show 0 + szsum xs sign.size ≤ _; omega), hR1⟩
  · rintro ⟨s', i⟩ ⟨hi1, hj, hE1⟩
    try dsimp only
    refine Awp.seq ?_
    refine Awp.seq ?_
    refine Awp.region tabS_ok ?_
    refine AOps.sq (x := (AV.i .i64 ((i : Nat) : Int))) kr le ?_
    refine AOps.sq (x := ((slA 1 AV.s) xs)) kr le ?_
    refine AOps.sq (x := (AV.i .i64 ((xs.length : Nat) : Int))) (g_len (k := 1) (nl := false) (e := 9) (A := AV.s) (xs := xs) kr kr) le ?_
    refine AOps.sq (x := (AV.b (decide (((i : Nat) : Int) < ((xs.length : Nat) : Int))))) kr le ?_
    refine AOps.done ?_
    rcases Nat.lt_or_ge i xs.length with hl1 | hl1
    · have hc1 : decide (((i : Nat) : Int) < ((xs.length : Nat) : Int)) = true := decide_eq_true (by omega)
      refine Awp.cond (t := true) (by rw [← hc1] <;> kernel_rfl) (Awp.skip ?_)
      obtain ⟨x1, hx1⟩ : ∃ x, xs[i]? = some x := ⟨_, List.getElem?_eq_getElem hl1⟩
      rw [drop_at hx1, m_ref1_Join_L1.eq_2] at hE1
      rw [drop_at hx1] at hj
      simp only [szsum] at hj
      refine Awp.seq ?_
      refine Awp.block ?_
      refine Awp.seq ?_
      refine Awp.seq ?_
      refine Awp.region tabS_ok ?_
      refine AOps.sq (x := (AV.i .i64 ((i : Nat) : Int))) kr le ?_
      refine AOps.sq (x := (AV.b (decide ((0 : Int) < ((i : Nat) : Int))))) kr le ?_
      refine AOps.done ?_
      cases c_1 : decide ((0 : Int) < ((i : Nat) : Int))
      · have k_1 : ¬ ((0 : Int) < ((i : Nat) : Int)) := of_decide_eq_false c_1
        refine Awp.cond (t := false) kr ?_
        refine Awp.skip ?_
        refine Awp.region tabS_ok ?_
        refine AOps.sq (x := (AV.s s')) kr le ?_
        refine AOps.sq (x := ((slA 1 AV.s) xs)) kr le ?_
        refine AOps.sq (x := (AV.i .i64 ((i : Nat) : Int))) kr le ?_
        refine AOps.sq (x := (AV.pt (AV.s x1).cells)) (g_idx (k := 1) (nl := false) (e := 9) (kk := .i64) (A := AV.s) (xs := xs) (i := i) kr kr kr ⟨by kernel_rfl, by decide⟩ hx1) le ?_
        refine AOps.sq (x := (AV.s x1)) kr le ?_
        refine AOps.sq (x := (AV.s (s' ++ x1))) (g_sadd (a := s') (b := x1) kr kr sd) le ?_
        refine AOps.sq (x := (AV.s (s' ++ x1))) kr le ?_
        refine AOps.done ?_
        refine Awp.region tabS_ok ?_
        refine AOps.sq (x := (AV.i .i64 ((i : Nat) : Int))) kr le ?_
        refine AOps.sq (x := (AV.i .i64 ((i + 1 : Nat) : Int))) (g_addN (i := i) (m := 1) kr kr sd) le ?_
        refine AOps.sq (x := (AV.i .i64 ((i + 1 : Nat) : Int))) kr le ?_
        refine AOps.done ?_
        try simp only [c_1, sbt] at hE1
        refine ⟨((s' ++ x1), i + 1), od, ⟨od, by (try dsimp only) <;> (first | omega | (simp only [ByteArray.size_append]; omega)), hE1⟩, ?_⟩
        exact ⟨[], ⟨by decide, rfl, FitsObjs.nil, (EntE.cons (Ent.c kr kr) (EntE.cons (Ent.c kr kr) (EntE.cons (Ent.c kr kr) (EntE.cons (Ent.c kr kr) EntE.nil))))⟩, keep0⟩
      · have k_1 : ((0 : Int) < ((i : Nat) : Int)) := of_decide_eq_true c_1
        refine Awp.cond (t := true) kr ?_
        refine Awp.region tabS_ok ?_
        refine AOps.sq (x := (AV.s s')) kr le ?_
        refine AOps.sq (x := (AV.s sign)) kr le ?_
        refine AOps.sq (x := (AV.s (s' ++ sign))) (g_sadd (a := s') (b := sign) kr kr sd) le ?_
        refine AOps.sq (x := (AV.s (s' ++ sign))) kr le ?_
        refine AOps.done ?_
        refine Awp.region tabS_ok ?_
        refine AOps.sq (x := (AV.s (s' ++ sign))) kr le ?_
        refine AOps.sq (x := ((slA 1 AV.s) xs)) kr le ?_
        refine AOps.sq (x := (AV.i .i64 ((i : Nat) : Int))) kr le ?_
        refine AOps.sq (x := (AV.pt (AV.s x1).cells)) (g_idx (k := 1) (nl := false) (e := 9) (kk := .i64) (A := AV.s) (xs := xs) (i := i) kr kr kr ⟨by kernel_rfl, by decide⟩ hx1) le ?_
        refine AOps.sq (x := (AV.s x1)) kr le ?_
        refine AOps.sq (x := (AV.s ((s' ++ sign) ++ x1))) (g_sadd (a := (s' ++ sign)) (b := x1) kr kr sd) le ?_
        refine AOps.sq (x := (AV.s ((s' ++ sign) ++ x1))) kr le ?_
        refine AOps.done ?_
        refine Awp.region tabS_ok ?_
        refine AOps.sq (x := (AV.i .i64 ((i : Nat) : Int))) kr le ?_
        refine AOps.sq (x := (AV.i .i64 ((i + 1 : Nat) : Int))) (g_addN (i := i) (m := 1) kr kr sd) le ?_
        refine AOps.sq (x := (AV.i .i64 ((i + 1 : Nat) : Int))) kr le ?_
        refine AOps.done ?_
        try simp only [c_1, sbt] at hE1
        refine ⟨(((s' ++ sign) ++ x1), i + 1), od, ⟨od, by (try dsimp only) <;> (first | omega | (simp only [ByteArray.size_append]; omega)), hE1⟩, ?_⟩
        exact ⟨[], ⟨by decide, rfl, FitsObjs.nil, (EntE.cons (Ent.c kr kr) (EntE.cons (Ent.c kr kr) (EntE.cons (Ent.c kr kr) (EntE.cons (Ent.c kr kr) EntE.nil))))⟩, keep0⟩
    · have hc1 : decide (((i : Nat) : Int) < ((xs.length : Nat) : Int)) = false := decide_eq_false (by omega)
      refine Awp.cond (t := false) (by rw [← hc1] <;> kernel_rfl) (Awp.exit ?_)
      rw [List.drop_eq_nil_of_le (hl1), m_ref1_Join_L1.eq_1] at hE1
      subst hE1
      refine Awp.seq ?_
      refine Awp.region tabS_ok ?_
      refine AOps.sq (x := (AV.s s')) kr le ?_
      refine AOps.sq (x := (AV.s s')) kr le ?_
      refine AOps.done ?_
      refine Awp.ret ?_
      have hM : m_ref1_Join xs sign = s' := by simp only [m_ref1_Join, hR1, sbt]
      refine ⟨Or.inr rfl, ?_⟩
      rw [hM]
      exact Ent.cast (x' := (AV.s s')) (y' := (AV.s s')) kr kr (Ent.c kr kr)

theorem w_ref1_split (W : World) (s' : ByteArray) (sign : Int) (hs : s'.size ≤ 1048576) : PureAt Go.Proofs.Tryz.prog W 150 [(AV.s s'), (AV.i .u8 sign)] ((slA 1 AV.s) (m_ref1_split s' sign)) [] := by
  refine pure_of_bodyC (fn := Go.Proofs.Tryz.f150) Go.Proofs.Tryz.func150 rfl (en150 W) (ts := [4]) rfl le ?_
  refine Awp.seq ?_
  refine Awp.region tabS_ok ?_
  refine AOps.sq (x := (AV.sl 1 true [])) kr le ?_
  refine AOps.done ?_
  refine Awp.seq ?_
  refine Awp.region tabS_ok ?_
  refine AOps.sq (x := (AV.sl 1 true [])) kr le ?_
  refine AOps.done ?_
  refine Awp.seq ?_
  refine Awp.region tabS_ok ?_
  refine AOps.sq (x := (AV.i .i64 (0 : Int))) kr le ?_
  refine AOps.done ?_
  refine Awp.seq ?_
  refine Awp.seq ?_
  refine Awp.region tabS_ok ?_
  refine AOps.sq (x := (AV.i .i64 (0 : Int))) kr le ?_
  refine AOps.done ?_
  refine Awp.block ?_
  refine Awp.lim 0 (x := (AV.s s')) kr fun hlm12 => ?_
  have hB1_2 : s'.size ≤ 281474976710656 := lim_s hlm12
  obtain ⟨R1, hR1⟩ : ∃ R, m_ref1_split_L1 s' sign (s'.size + 1 - 0 + 1) [] 0 0 = R := ⟨_, rfl⟩
  refine Awp.loopT (fun ((kf1, (out, from', i)) : Nat × ((List ByteArray) × Nat × Nat)) => [(0, (AV.s s')), (1, (AV.i .u8 sign)), (5, (accV 0 1 AV.s out)), (6, (AV.i .i64 ((from' : Nat) : Int))), (7, (AV.i .i64 ((i : Nat) : Int)))]) (fun ((kf1, (out, from', i)) : Nat × ((List ByteArray) × Nat × Nat)) => ⟨1, [(0, accO 9 1 AV.s out)]⟩) (fun ((kf1, (out, from', i)) : Nat × ((List ByteArray) × Nat × Nat)) => s'.size + 1 - i < kf1 ∧ from' ≤ i ∧ i ≤ s'.size + 1 ∧ out.length ≤ i ∧ m_ref1_split_L1 s' sign kf1 out from' i = R1) (fun ((kf1, (out, from', i)) : Nat × ((List ByteArray) × Nat × Nat)) => kf1) (s'.size + 1 - 0 + 1, ([], 0, 0)) ?_ ?_ ?_
  · exact ⟨[1000000], ⟨by decide, rfl, (FitsObjs.cons rfl FitsObjs.nil), (EntE.cons (Ent.c kr kr) (EntE.cons (Ent.c kr kr) (EntE.cons (Ent.c kr kr) (EntE.cons (Ent.c kr kr) (EntE.cons (Ent.c kr kr) EntE.nil)))))⟩, keep0⟩
  · exact ⟨od, sdd, sdd, sdd, hR1⟩
  · rintro ⟨kf1, out, from', i⟩ ⟨hi1, hf, hi2, hl, hE1⟩
    try dsimp only
    cases kf1 with
    | zero => exact absurd hi1 (Nat.not_lt_zero _)
    | succ kf1 =>
      rw [m_ref1_split_L1.eq_2] at hE1
      refine Awp.seq ?_
      refine Awp.seq ?_
      refine Awp.region tabS_ok ?_
      refine AOps.sq (x := (AV.i .i64 ((i : Nat) : Int))) kr le ?_
      refine AOps.sq (x := (AV.s s')) kr le ?_
      refine AOps.sq (x := (AV.i .i64 ((s'.size : Nat) : Int))) kr le ?_
      refine AOps.sq (x := (AV.b (decide (((i : Nat) : Int) ≤ ((s'.size : Nat) : Int))))) kr le ?_
      refine AOps.done ?_
      cases c_1 : decide (((i : Nat) : Int) ≤ ((s'.size : Nat) : Int))
      · have k_1 : ¬ (((i : Nat) : Int) ≤ ((s'.size : Nat) : Int)) := of_decide_eq_false c_1
        refine Awp.cond (t := false) kr ?_
        refine Awp.exit ?_
        try simp only [c_1, sbt] at hE1
        subst hE1
        refine Awp.seq ?_
        refine Awp.region tabS_ok ?_
        refine AOps.sq (x := (accV 0 1 AV.s out)) kr le ?_
        refine AOps.sq (x := (accV 0 1 AV.s out)) kr le ?_
        refine AOps.done ?_
        refine Awp.ret ?_
        have hM : m_ref1_split s' sign = out := by simp only [m_ref1_split, hR1, sbt]
        refine ⟨Or.inr rfl, ?_⟩
        rw [hM]
        exact Ent.cast (x' := (accV 0 1 AV.s out)) (y' := ((slA 1 AV.s) out)) kr kr (Ent.cast (x' := (accV 0 1 AV.s out)) (y' := slA 1 AV.s out) kr kr (ent_acc (fun _ => rfl) (by decide) (by decide) (e := 9) (k := 1) rfl sd))
      · have k_1 : (((i : Nat) : Int) ≤ ((s'.size : Nat) : Int)) := of_decide_eq_true c_1
        refine Awp.cond (t := true) kr ?_
        refine Awp.skip ?_
        refine Awp.seq ?_
        refine Awp.block ?_
        refine Awp.cut [(0, (AV.s s')), (1, (AV.i .u8 sign)), (5, (accV 0 1 AV.s out)), (6, (AV.i .i64 ((from' : Nat) : Int))), (7, (AV.i .i64 ((i : Nat) : Int))), (24, (AV.b (decide (((i : Nat) : Int) = ((s'.size : Nat) : Int)) || decide (((s'.data.getD i 0).toNat : Int) = sign))))] ⟨1, [(0, accO 9 1 AV.s out)]⟩ ?_ ?_
        · refine Awp.region tabS_ok ?_
          refine AOps.sq (x := (AV.i .i64 ((i : Nat) : Int))) kr le ?_
          refine AOps.sq (x := (AV.s s')) kr le ?_
          refine AOps.sq (x := (AV.i .i64 ((s'.size : Nat) : Int))) kr le ?_
          refine AOps.sq (x := (AV.b (decide (((i : Nat) : Int) = ((s'.size : Nat) : Int))))) kr le ?_
          refine AOps.sq (x := (AV.b (decide (((i : Nat) : Int) = ((s'.size : Nat) : Int))))) kr le ?_
          cases c_2 : decide (((i : Nat) : Int) = ((s'.size : Nat) : Int))
          · have k_2 : ¬ (((i : Nat) : Int) = ((s'.size : Nat) : Int)) := of_decide_eq_false c_2
            refine AOps.sgy rfl rfl kr rfl ?_
            refine AOps.sq (x := (AV.s s')) kr le ?_
            refine AOps.sgy rfl rfl kr rfl ?_
            refine AOps.sq (x := (AV.i .i64 ((i : Nat) : Int))) kr le ?_
            refine AOps.sgy rfl rfl kr rfl ?_
            refine AOps.sq (x := (AV.i .u8 ((s'.data.getD i 0).toNat : Int))) (g_str (kk := .i64) (s := s') (i := i) (b := (s'.data.getD i 0)) kr kr kr (byteD_some sd)) le ?_
            refine AOps.sgy rfl rfl kr rfl ?_
            refine AOps.sq (x := (AV.i .u8 sign)) kr le ?_
            refine AOps.sgy rfl rfl kr rfl ?_
            refine AOps.sq (x := (AV.b (decide (((s'.data.getD i 0).toNat : Int) = sign)))) kr le ?_
            refine AOps.sq (x := (AV.b (decide (((s'.data.getD i 0).toNat : Int) = sign)))) kr le ?_
            refine AOps.done ?_
            exact ⟨[0], ⟨by decide, rfl, (FitsObjs.cons (obj_acc (fun _ => rfl) (e := 9) (k := 1) (A := AV.s) (xs := out) rfl rfl) FitsObjs.nil), (EntE.cons (Ent.c kr kr) (EntE.cons (Ent.c kr kr) (EntE.cons (ent_keepA (by decide)) (EntE.cons (Ent.c kr kr) (EntE.cons (Ent.c kr kr) (EntE.cons (Ent.c kr kr) EntE.nil))))))⟩, keep0⟩
          · have k_2 : (((i : Nat) : Int) = ((s'.size : Nat) : Int)) := of_decide_eq_true c_2
            refine AOps.sgn rfl rfl kr rfl le ?_
            refine AOps.sgn rfl rfl kr rfl le ?_
            refine AOps.sgn rfl rfl kr rfl le ?_
            refine AOps.sgn rfl rfl kr rfl le ?_
            refine AOps.sgn rfl rfl kr rfl le ?_
            refine AOps.sq (x := (AV.b true)) kr le ?_
            refine AOps.done ?_
            exact ⟨[0], ⟨by decide, rfl, (FitsObjs.cons (obj_acc (fun _ => rfl) (e := 9) (k := 1) (A := AV.s) (xs := out) rfl rfl) FitsObjs.nil), (EntE.cons (Ent.c kr kr) (EntE.cons (Ent.c kr kr) (EntE.cons (ent_keepA (by decide)) (EntE.cons (Ent.c kr kr) (EntE.cons (Ent.c kr kr) (EntE.cons (Ent.c kr kr) EntE.nil))))))⟩, keep0⟩
        · cases c_3 : (decide (((i : Nat) : Int) = ((s'.size : Nat) : Int)) || decide (((s'.data.getD i 0).toNat : Int) = sign))
          · refine Awp.cond (t := false) kr ?_
            refine Awp.skip ?_
            refine Awp.region tabS_ok ?_
            refine AOps.sq (x := (AV.i .i64 ((i : Nat) : Int))) kr le ?_
            refine AOps.sq (x := (AV.i .i64 ((i + 1 : Nat) : Int))) (g_addN (i := i) (m := 1) kr kr sd) le ?_
            refine AOps.sq (x := (AV.i .i64 ((i + 1 : Nat) : Int))) kr le ?_
            refine AOps.done ?_
            try simp only [c_1, c_3, sbt] at hE1
            refine ⟨(kf1, (out, from', i + 1)), od, ⟨sdd, sdd, sdd, sdd, hE1⟩, ?_⟩
            exact ⟨[0], ⟨by decide, rfl, (FitsObjs.cons (obj_acc (fun _ => rfl) (e := 9) (k := 1) (A := AV.s) (xs := out) rfl rfl) FitsObjs.nil), (EntE.cons (Ent.c kr kr) (EntE.cons (Ent.c kr kr) (EntE.cons (ent_keepA (by decide)) (EntE.cons (Ent.c kr kr) (EntE.cons (Ent.c kr kr) EntE.nil)))))⟩, keep0⟩
          · refine Awp.cond (t := true) kr ?_
            refine Awp.seq ?_
            refine Awp.region tabS_ok ?_
            refine AOps.sq (x := (accV 0 1 AV.s out)) kr le ?_
            refine AOps.sq (x := (AV.s s')) kr le ?_
            refine AOps.sq (x := (AV.i .i64 ((from' : Nat) : Int))) kr le ?_
            refine AOps.sq (x := (AV.i .i64 ((i : Nat) : Int))) kr le ?_
            refine AOps.sq (x := (AV.s (s'.extract from' i))) (g_sub (s := s') (l := (some ((from' : Nat) : Int))) (g := (some ((i : Nat) : Int))) (a := from') (b := i) kr kr kr kr rfl rfl sd sd) le ?_
            refine AOps.sn (x := (AV.own 1 0 1)) (h' := ⟨2, [(1, some ⟨9, 1, [(s'.extract from' i)].map AV.s⟩), (0, accO 9 1 AV.s out)]⟩) kr le ?_
            refine AOps.se (x := (AV.own 2 0 ((out ++ [(s'.extract from' i)]).length))) (h' := ⟨3, [(2, some ⟨9, 1, (out ++ [(s'.extract from' i)]).map AV.s⟩), (1, some ⟨9, 1, [(s'.extract from' i)].map AV.s⟩), (0, none)]⟩) (g_app (e := 9) (X := (AV.own 1 0 1)) (A := AV.s) (i := tI_9) (p := 0) (xs := out) (ys := [(s'.extract from' i)]) kr kr kr (hx := kr) kr (by simp) ⟨by decide, by kernel_rfl⟩ rfl (by intro q; first | (subst q; rfl) | (rw [q]; rfl) | (simp only [q]; rfl)) (by show _ * 16 ≤ 140737488355328; first | omega | (simp only [List.length_append, List.length_cons, List.length_nil, List.length_set, List.length_replicate]; omega) | (simp; omega)) sd) le ?_
            refine AOps.sq (x := (AV.own 2 0 ((out ++ [(s'.extract from' i)]).length))) kr le ?_
            refine AOps.done ?_
            refine Awp.region tabS_ok ?_
            refine AOps.sq (x := (AV.i .i64 ((i : Nat) : Int))) kr le ?_
            refine AOps.sq (x := (AV.i .i64 ((i + 1 : Nat) : Int))) (g_addN (i := i) (m := 1) kr kr sd) le ?_
            refine AOps.sq (x := (AV.i .i64 ((i + 1 : Nat) : Int))) kr le ?_
            refine AOps.done ?_
            refine Awp.region tabS_ok ?_
            refine AOps.sq (x := (AV.i .i64 ((i : Nat) : Int))) kr le ?_
            refine AOps.sq (x := (AV.i .i64 ((i + 1 : Nat) : Int))) (g_addN (i := i) (m := 1) kr kr sd) le ?_
            refine AOps.sq (x := (AV.i .i64 ((i + 1 : Nat) : Int))) kr le ?_
            refine AOps.done ?_
            try simp only [c_1, c_3, sbt] at hE1
            refine ⟨(kf1, ((out ++ [(s'.extract from' i)]), i + 1, i + 1)), od, ⟨sdd, sdd, sdd, sdd, hE1⟩, ?_⟩
            exact ⟨[2], ⟨by decide, rfl, (FitsObjs.cons (obj_acc' (fun _ => rfl) (e := 9) (k := 1) (A := AV.s) (xs := (out ++ [(s'.extract from' i)])) (by simp) rfl rfl) FitsObjs.nil), (EntE.cons (Ent.c kr kr) (EntE.cons (Ent.c kr kr) (EntE.cons (ent_keep (A := AV.s) (xs := (out ++ [(s'.extract from' i)])) (by decide) (by simp) rfl) (EntE.cons (Ent.c kr kr) (EntE.cons (Ent.c kr kr) EntE.nil)))))⟩, keep0⟩

theorem w_ref1_CleanPath (W : World) (s' : ByteArray) : PureAt Go.Proofs.Tryz.prog W 133 [(AV.s s')] (AV.tup [(AV.s ((m_ref1_CleanPath s').1)), (AV.i .i64 ((m_ref1_CleanPath s').2))]) [] := by
  refine pure_of_bodyC (fn := Go.Proofs.Tryz.f133) Go.Proofs.Tryz.func133 rfl (en133 W) (ts := [2, 3]) rfl le ?_
  refine Awp.seq ?_
  refine Awp.region tabS_ok ?_
  refine AOps.sq (x := (AV.s (⟨#[]⟩ : ByteArray))) kr le ?_
  refine AOps.sq (x := (AV.i .i64 (0 : Int))) kr le ?_
  refine AOps.done ?_
  refine Awp.seq ?_
  refine Awp.seq ?_
  refine Awp.region tabS_ok ?_
  refine AOps.sq (x := (AV.s s')) kr le ?_
  refine AOps.sc0 (vs := [(AV.s s')]) (r0 := (AV.b (m_ref1_NameMay s'))) kr kr (w_ref1_NameMay W s') kr le ?_
  refine AOps.sq (x := (AV.b (!(m_ref1_NameMay s')))) kr le ?_
  refine AOps.sq (x := (AV.b (!(m_ref1_NameMay s')))) kr le ?_
  cases c_1 : (!(m_ref1_NameMay s'))
  · have q_1 := ref1_NameMay_sz c_1
    refine AOps.sgy rfl rfl kr rfl ?_
    refine AOps.sq (x := (AV.s s')) kr le ?_
    refine AOps.sgy rfl rfl kr rfl ?_
    refine AOps.sq (x := (AV.i .u8 ((s'.data.getD 0 0).toNat : Int))) (g_str (kk := .i64) (s := s') (i := 0) (b := (s'.data.getD 0 0)) kr kr kr (byteD_some sd)) le ?_
    refine AOps.sgy rfl rfl kr rfl ?_
    refine AOps.sq (x := (AV.b (decide (((s'.data.getD 0 0).toNat : Int) = (47 : Int))))) kr le ?_
    refine AOps.sq (x := (AV.b (decide (((s'.data.getD 0 0).toNat : Int) = (47 : Int))))) kr le ?_
    refine AOps.done ?_
    cases c_2 : decide (((s'.data.getD 0 0).toNat : Int) = (47 : Int))
    · have k_2 : ¬ (((s'.data.getD 0 0).toNat : Int) = (47 : Int)) := of_decide_eq_false c_2
      refine Awp.cond (t := false) kr ?_
      refine Awp.skip ?_
      refine Awp.seq ?_
      refine Awp.region tabS_ok ?_
      refine AOps.sq (x := (AV.s s')) kr le ?_
      refine AOps.sc0 (vs := [(AV.s s'), (AV.i .u8 (47 : Int))]) (r0 := ((slA 1 AV.s) (m_ref1_split s' (47 : Int)))) kr kr (w_ref1_split W s' (47 : Int) (by omega)) kr le ?_
      refine AOps.sq (x := ((slA 1 AV.s) (m_ref1_split s' (47 : Int)))) kr le ?_
      refine AOps.done ?_
      refine Awp.seq ?_
      refine Awp.region tabS_ok ?_
      refine AOps.sq (x := (AV.sl 1 true [])) kr le ?_
      refine AOps.done ?_
      refine Awp.seq ?_
      refine Awp.seq ?_
      refine Awp.region tabS_ok ?_
      refine AOps.sq (x := (AV.i .i64 (0 : Int))) kr le ?_
      refine AOps.done ?_
      refine Awp.block ?_
      refine Awp.lim 16 (x := ((slA 1 AV.s) (m_ref1_split s' (47 : Int)))) kr fun hlm1 => ?_
      have hB1 : (m_ref1_split s' (47 : Int)).length ≤ 281474976710656 := lim_slA hlm1
      obtain ⟨R1, hR1⟩ : ∃ R, m_ref1_CleanPath_L1 (m_ref1_split s' (47 : Int)) 0 [] = R := ⟨_, rfl⟩
      refine Awp.loopT (fun ((b_kept, kept, i) : Bool × (List ByteArray) × Nat) => [(4, ((slA 1 AV.s) (m_ref1_split s' (47 : Int)))), (5, (accW 0 1 AV.s b_kept kept)), (6, (AV.i .i64 ((i : Nat) : Int)))]) (fun ((b_kept, kept, i) : Bool × (List ByteArray) × Nat) => ⟨1, [(0, accWO 9 1 AV.s b_kept kept)]⟩) (fun ((b_kept, kept, i) : Bool × (List ByteArray) × Nat) => i ≤ (m_ref1_split s' (47 : Int)).length ∧ (b_kept = false → kept = []) ∧ szsum kept 1 + szsum ((m_ref1_split s' (47 : Int)).drop i) 1 ≤ szsum (m_ref1_split s' (47 : Int)) 1 ∧ kept.length ≤ i ∧ m_ref1_CleanPath_L1 ((m_ref1_split s' (47 : Int)).drop i) i kept = R1) (fun ((b_kept, kept, i) : Bool × (List ByteArray) × Nat) => (m_ref1_split s' (47 : Int)).length - i) (false, [], 0) ?_ ?_ ?_
      · exact ⟨[1000000], ⟨by decide, rfl, (FitsObjs.cons rfl FitsObjs.nil), (EntE.cons (Ent.c kr kr) (EntE.cons (Ent.c kr kr) (EntE.cons (Ent.c kr kr) EntE.nil)))⟩, keep0⟩
      · exact ⟨od, (by simp), by (try dsimp only) <;> (simp only [szsum, Nat.zero_add]; exact Nat.le_refl _), by (try dsimp only) <;> (simp), hR1⟩
      · rintro ⟨b_kept, kept, i⟩ ⟨hi1, hn_kept, hk, hl, hE1⟩
        try dsimp only
        cases b_kept
        · have hz_kept := hn_kept rfl
          subst hz_kept
          try dsimp only
          refine Awp.seq ?_
          refine Awp.seq ?_
          refine Awp.region tabS_ok ?_
          refine AOps.sq (x := (AV.i .i64 ((i : Nat) : Int))) kr le ?_
          refine AOps.sq (x := ((slA 1 AV.s) (m_ref1_split s' (47 : Int)))) kr le ?_
          refine AOps.sq (x := (AV.i .i64 (((m_ref1_split s' (47 : Int)).length : Nat) : Int))) (g_len (k := 1) (nl := false) (e := 9) (A := AV.s) (xs := (m_ref1_split s' (47 : Int))) kr kr) le ?_
          refine AOps.sq (x := (AV.b (decide (((i : Nat) : Int) < (((m_ref1_split s' (47 : Int)).length : Nat) : Int))))) kr le ?_
          refine AOps.done ?_
          rcases Nat.lt_or_ge i (m_ref1_split s' (47 : Int)).length with hl1 | hl1
          · have hc1 : decide (((i : Nat) : Int) < (((m_ref1_split s' (47 : Int)).length : Nat) : Int)) = true := decide_eq_true (by omega)
            refine Awp.cond (t := true) (by rw [← hc1] <;> kernel_rfl) (Awp.skip ?_)
            obtain ⟨x1, hx1⟩ : ∃ x, (m_ref1_split s' (47 : Int))[i]? = some x := ⟨_, List.getElem?_eq_getElem hl1⟩
            rw [drop_at hx1, m_ref1_CleanPath_L1.eq_2] at hE1
            have hz1 := split_sz s' 47
            have hz2 := szsum_len []
            rw [drop_at hx1] at hk
            simp only [szsum] at hk
            refine Awp.seq ?_
            refine Awp.block ?_
            refine Awp.seq ?_
            refine Awp.region tabS_ok ?_
            refine AOps.sq (x := ((slA 1 AV.s) (m_ref1_split s' (47 : Int)))) kr le ?_
            refine AOps.sq (x := (AV.i .i64 ((i : Nat) : Int))) kr le ?_
            refine AOps.sq (x := (AV.pt (AV.s x1).cells)) (g_idx (k := 1) (nl := false) (e := 9) (kk := .i64) (A := AV.s) (xs := (m_ref1_split s' (47 : Int))) (i := i) kr kr kr ⟨by kernel_rfl, by decide⟩ hx1) le ?_
            refine AOps.sq (x := (AV.s x1)) kr le ?_
            refine AOps.done ?_
            refine Awp.block ?_
            refine Awp.seq ?_
            refine Awp.seq ?_
            refine Awp.region tabS_ok ?_
            refine AOps.sq (x := (AV.b (decide (x1 = (⟨#[]⟩ : ByteArray))))) kr le ?_
            refine AOps.sq (x := (AV.b (decide (x1 = (⟨#[]⟩ : ByteArray))))) kr le ?_
            refine AOps.done ?_
            cases c_7 : decide (x1 = (⟨#[]⟩ : ByteArray))
            · have k_7 : ¬ (x1 = (⟨#[]⟩ : ByteArray)) := of_decide_eq_false c_7
              refine Awp.cond (t := false) kr ?_
              refine Awp.region tabS_ok ?_
              refine AOps.sq (x := (AV.b (decide (x1 = (⟨#[46]⟩ : ByteArray))))) kr le ?_
              refine AOps.sq (x := (AV.b (decide (x1 = (⟨#[46]⟩ : ByteArray))))) kr le ?_
              refine AOps.done ?_
              cases c_8 : decide (x1 = (⟨#[46]⟩ : ByteArray))
              · have k_8 : ¬ (x1 = (⟨#[46]⟩ : ByteArray)) := of_decide_eq_false c_8
                refine Awp.cond (t := false) kr ?_
                refine Awp.seq ?_
                refine Awp.region tabS_ok ?_
                refine AOps.sq (x := (AV.b (decide (x1 = (⟨#[46, 46]⟩ : ByteArray))))) kr le ?_
                refine AOps.sq (x := (AV.b (decide (x1 = (⟨#[46, 46]⟩ : ByteArray))))) kr le ?_
                refine AOps.done ?_
                cases c_9 : decide (x1 = (⟨#[46, 46]⟩ : ByteArray))
                · have k_9 : ¬ (x1 = (⟨#[46, 46]⟩ : ByteArray)) := of_decide_eq_false c_9
                  refine Awp.cond (t := false) kr ?_
                  refine Awp.region tabS_ok ?_
                  refine AOps.sq (x := (AV.sl 1 true [])) kr le ?_
                  refine AOps.sq (x := ((slA 1 AV.s) (m_ref1_split s' (47 : Int)))) kr le ?_
                  refine AOps.sq (x := (AV.i .i64 ((i : Nat) : Int))) kr le ?_
                  refine AOps.sq (x := (AV.pt (AV.s x1).cells)) (g_idx (k := 1) (nl := false) (e := 9) (kk := .i64) (A := AV.s) (xs := (m_ref1_split s' (47 : Int))) (i := i) kr kr kr ⟨by kernel_rfl, by decide⟩ hx1) le ?_
                  refine AOps.sq (x := (AV.s x1)) kr le ?_
                  refine AOps.sn (x := (AV.own 1 0 1)) (h' := ⟨2, [(1, some ⟨9, 1, [x1].map AV.s⟩), (0, none)]⟩) kr le ?_
                  refine AOps.se (x := (AV.own 2 0 1)) (h' := ⟨3, [(2, some ⟨9, 1, [x1].map AV.s⟩), (1, some ⟨9, 1, [x1].map AV.s⟩), (0, none)]⟩) kr le ?_
                  refine AOps.sq (x := (AV.own 2 0 1)) kr le ?_
                  refine AOps.done ?_
                  refine Awp.region tabS_ok ?_
                  refine AOps.sq (x := (AV.i .i64 ((i : Nat) : Int))) kr le ?_
                  refine AOps.sq (x := (AV.i .i64 ((i + 1 : Nat) : Int))) (g_addN (i := i) (m := 1) kr kr sd) le ?_
                  refine AOps.sq (x := (AV.i .i64 ((i + 1 : Nat) : Int))) kr le ?_
                  refine AOps.done ?_
                  try simp only [c_7, c_8, c_9, sbt] at hE1
                  refine ⟨(true, [x1], i + 1), od, ⟨od, (by simp), by (try dsimp only) <;> (first | omega | (simp only [szsum_append, szsum, Nat.add_zero]; omega) | (have := szsum_take kept (kept.length - 1) 1; omega)), by (try dsimp only) <;> (first | omega | (simp only [List.length_append, List.length_cons, List.length_nil, List.length_take]; omega)), hE1⟩, ?_⟩
                  exact ⟨[2], ⟨by decide, rfl, (FitsObjs.cons (obj_row (fun _ => rfl) (e := 9) (k := 1) (A := AV.s) (xs := [x1]) rfl rfl) FitsObjs.nil), (EntE.cons (Ent.c kr kr) (EntE.cons (ent_keepO (by decide) (by simp)) (EntE.cons (Ent.c kr kr) EntE.nil)))⟩, keep0⟩
                · have k_9 : (x1 = (⟨#[46, 46]⟩ : ByteArray)) := of_decide_eq_true c_9
                  refine Awp.cond (t := true) kr ?_
                  refine Awp.seq ?_
                  refine Awp.seq ?_
                  refine Awp.region tabS_ok ?_
                  refine AOps.sq (x := (AV.sl 1 true [])) kr le ?_
                  refine AOps.sq (x := (AV.i .i64 (0 : Int))) kr le ?_
                  refine AOps.sq (x := (AV.b true)) kr le ?_
                  refine AOps.done ?_
                  refine Awp.cond (t := true) kr ?_
                  refine Awp.seq ?_
                  refine Awp.region tabS_ok ?_
                  refine AOps.sq (x := (AV.s (⟨#[]⟩ : ByteArray))) kr le ?_
                  refine AOps.sq (x := (AV.i .i64 (200 : Int))) kr le ?_
                  refine AOps.done ?_
                  refine Awp.ret ?_
                  try simp only [c_7, c_8, c_9, sbt] at hE1
                  subst hE1
                  have hM : m_ref1_CleanPath s' = ((⟨#[]⟩ : ByteArray), (200 : Int)) := by simp only [m_ref1_CleanPath, c_1, c_2, hR1, sbt]
                  refine ⟨Or.inr rfl, ?_⟩
                  rw [hM]
                  exact Ent.cast (x' := (AV.tup [(AV.s (⟨#[]⟩ : ByteArray)), (AV.i .i64 (200 : Int))])) (y' := (AV.tup [(AV.s (((⟨#[]⟩ : ByteArray), (200 : Int)).1)), (AV.i .i64 (((⟨#[]⟩ : ByteArray), (200 : Int)).2))])) kr kr (Ent.tup ⟨(Ent.c kr kr), ⟨(Ent.c kr kr), trivial⟩⟩ kr)
              · have k_8 : (x1 = (⟨#[46]⟩ : ByteArray)) := of_decide_eq_true c_8
                refine Awp.cond (t := true) kr ?_
                refine Awp.skip ?_
                refine Awp.region tabS_ok ?_
                refine AOps.sq (x := (AV.i .i64 ((i : Nat) : Int))) kr le ?_
                refine AOps.sq (x := (AV.i .i64 ((i + 1 : Nat) : Int))) (g_addN (i := i) (m := 1) kr kr sd) le ?_
                refine AOps.sq (x := (AV.i .i64 ((i + 1 : Nat) : Int))) kr le ?_
                refine AOps.done ?_
                try simp only [c_7, c_8, sbt] at hE1
                refine ⟨(false, [], i + 1), od, ⟨od, (by simp), by (try dsimp only) <;> (first | omega | (simp only [szsum_append, szsum, Nat.add_zero]; omega) | (have := szsum_take kept (kept.length - 1) 1; omega)), by (try dsimp only) <;> (first | omega | (simp only [List.length_append, List.length_cons, List.length_nil, List.length_take]; omega)), hE1⟩, ?_⟩
                exact ⟨[1000000], ⟨by decide, rfl, (FitsObjs.cons rfl FitsObjs.nil), (EntE.cons (Ent.c kr kr) (EntE.cons (Ent.c kr kr) (EntE.cons (Ent.c kr kr) EntE.nil)))⟩, keep0⟩
            · have k_7 : (x1 = (⟨#[]⟩ : ByteArray)) := of_decide_eq_true c_7
              refine Awp.cond (t := true) kr ?_
              refine Awp.skip ?_
              refine Awp.cond (t := true) kr ?_
              refine Awp.skip ?_
              refine Awp.region tabS_ok ?_
              refine AOps.sq (x := (AV.i .i64 ((i : Nat) : Int))) kr le ?_
              refine AOps.sq (x := (AV.i .i64 ((i + 1 : Nat) : Int))) (g_addN (i := i) (m := 1) kr kr sd) le ?_
              refine AOps.sq (x := (AV.i .i64 ((i + 1 : Nat) : Int))) kr le ?_
              refine AOps.done ?_
              try simp only [c_7, sbt] at hE1
              refine ⟨(false, [], i + 1), od, ⟨od, (by simp), by (try dsimp only) <;> (first | omega | (simp only [szsum_append, szsum, Nat.add_zero]; omega) | (have := szsum_take kept (kept.length - 1) 1; omega)), by (try dsimp only) <;> (first | omega | (simp only [List.length_append, List.length_cons, List.length_nil, List.length_take]; omega)), hE1⟩, ?_⟩
              exact ⟨[1000000], ⟨by decide, rfl, (FitsObjs.cons rfl FitsObjs.nil), (EntE.cons (Ent.c kr kr) (EntE.cons (Ent.c kr kr) (EntE.cons (Ent.c kr kr) EntE.nil)))⟩, keep0⟩
          · have hc1 : decide (((i : Nat) : Int) < (((m_ref1_split s' (47 : Int)).length : Nat) : Int)) = false := decide_eq_false (by omega)
            refine Awp.cond (t := false) (by rw [← hc1] <;> kernel_rfl) (Awp.exit ?_)
            rw [List.drop_eq_nil_of_le (hl1), m_ref1_CleanPath_L1.eq_1] at hE1
            subst hE1
            refine Awp.seq ?_
            refine Awp.seq ?_
            refine Awp.region tabS_ok ?_
            refine AOps.sq (x := (AV.sl 1 true [])) kr le ?_
            refine AOps.sq (x := (AV.i .i64 (0 : Int))) kr le ?_
            refine AOps.sq (x := (AV.b true)) kr le ?_
            refine AOps.done ?_
            refine Awp.cond (t := true) kr ?_
            refine Awp.seq ?_
            refine Awp.region tabS_ok ?_
            refine AOps.sq (x := (AV.s (⟨#[]⟩ : ByteArray))) kr le ?_
            refine AOps.sq (x := (AV.i .i64 (200 : Int))) kr le ?_
            refine AOps.done ?_
            refine Awp.ret ?_
            have hM : m_ref1_CleanPath s' = ((⟨#[]⟩ : ByteArray), (200 : Int)) := by simp only [m_ref1_CleanPath, c_1, c_2, hR1, sbt]
            refine ⟨Or.inr rfl, ?_⟩
            rw [hM]
            exact Ent.cast (x' := (AV.tup [(AV.s (⟨#[]⟩ : ByteArray)), (AV.i .i64 (200 : Int))])) (y' := (AV.tup [(AV.s (((⟨#[]⟩ : ByteArray), (200 : Int)).1)), (AV.i .i64 (((⟨#[]⟩ : ByteArray), (200 : Int)).2))])) kr kr (Ent.tup ⟨(Ent.c kr kr), ⟨(Ent.c kr kr), trivial⟩⟩ kr)
        · try dsimp only
          refine Awp.seq ?_
          refine Awp.seq ?_
          refine Awp.region tabS_ok ?_
          refine AOps.sq (x := (AV.i .i64 ((i : Nat) : Int))) kr le ?_
          refine AOps.sq (x := ((slA 1 AV.s) (m_ref1_split s' (47 : Int)))) kr le ?_
          refine AOps.sq (x := (AV.i .i64 (((m_ref1_split s' (47 : Int)).length : Nat) : Int))) (g_len (k := 1) (nl := false) (e := 9) (A := AV.s) (xs := (m_ref1_split s' (47 : Int))) kr kr) le ?_
          refine AOps.sq (x := (AV.b (decide (((i : Nat) : Int) < (((m_ref1_split s' (47 : Int)).length : Nat) : Int))))) kr le ?_
          refine AOps.done ?_
          rcases Nat.lt_or_ge i (m_ref1_split s' (47 : Int)).length with hl1 | hl1
          · have hc1 : decide (((i : Nat) : Int) < (((m_ref1_split s' (47 : Int)).length : Nat) : Int)) = true := decide_eq_true (by omega)
            refine Awp.cond (t := true) (by rw [← hc1] <;> kernel_rfl) (Awp.skip ?_)
            obtain ⟨x1, hx1⟩ : ∃ x, (m_ref1_split s' (47 : Int))[i]? = some x := ⟨_, List.getElem?_eq_getElem hl1⟩
            rw [drop_at hx1, m_ref1_CleanPath_L1.eq_2] at hE1
            have hz1 := split_sz s' 47
            have hz2 := szsum_len kept
            rw [drop_at hx1] at hk
            simp only [szsum] at hk
            refine Awp.seq ?_
            refine Awp.block ?_
            refine Awp.seq ?_
            refine Awp.region tabS_ok ?_
            refine AOps.sq (x := ((slA 1 AV.s) (m_ref1_split s' (47 : Int)))) kr le ?_
            refine AOps.sq (x := (AV.i .i64 ((i : Nat) : Int))) kr le ?_
            refine AOps.sq (x := (AV.pt (AV.s x1).cells)) (g_idx (k := 1) (nl := false) (e := 9) (kk := .i64) (A := AV.s) (xs := (m_ref1_split s' (47 : Int))) (i := i) kr kr kr ⟨by kernel_rfl, by decide⟩ hx1) le ?_
            refine AOps.sq (x := (AV.s x1)) kr le ?_
            refine AOps.done ?_
            refine Awp.block ?_
            refine Awp.seq ?_
            refine Awp.seq ?_
            refine Awp.region tabS_ok ?_
            refine AOps.sq (x := (AV.b (decide (x1 = (⟨#[]⟩ : ByteArray))))) kr le ?_
            refine AOps.sq (x := (AV.b (decide (x1 = (⟨#[]⟩ : ByteArray))))) kr le ?_
            refine AOps.done ?_
            cases c_10 : decide (x1 = (⟨#[]⟩ : ByteArray))
            · have k_10 : ¬ (x1 = (⟨#[]⟩ : ByteArray)) := of_decide_eq_false c_10
              refine Awp.cond (t := false) kr ?_
              refine Awp.region tabS_ok ?_
              refine AOps.sq (x := (AV.b (decide (x1 = (⟨#[46]⟩ : ByteArray))))) kr le ?_
              refine AOps.sq (x := (AV.b (decide (x1 = (⟨#[46]⟩ : ByteArray))))) kr le ?_
              refine AOps.done ?_
              cases c_11 : decide (x1 = (⟨#[46]⟩ : ByteArray))
              · have k_11 : ¬ (x1 = (⟨#[46]⟩ : ByteArray)) := of_decide_eq_false c_11
                refine Awp.cond (t := false) kr ?_
                refine Awp.seq ?_
                refine Awp.region tabS_ok ?_
                refine AOps.sq (x := (AV.b (decide (x1 = (⟨#[46, 46]⟩ : ByteArray))))) kr le ?_
                refine AOps.sq (x := (AV.b (decide (x1 = (⟨#[46, 46]⟩ : ByteArray))))) kr le ?_
                refine AOps.done ?_
                cases c_12 : decide (x1 = (⟨#[46, 46]⟩ : ByteArray))
                · have k_12 : ¬ (x1 = (⟨#[46, 46]⟩ : ByteArray)) := of_decide_eq_false c_12
                  refine Awp.cond (t := false) kr ?_
                  refine Awp.region tabS_ok ?_
                  refine AOps.sq (x := (AV.own 0 0 kept.length)) kr le ?_
                  refine AOps.sq (x := ((slA 1 AV.s) (m_ref1_split s' (47 : Int)))) kr le ?_
                  refine AOps.sq (x := (AV.i .i64 ((i : Nat) : Int))) kr le ?_
                  refine AOps.sq (x := (AV.pt (AV.s x1).cells)) (g_idx (k := 1) (nl := false) (e := 9) (kk := .i64) (A := AV.s) (xs := (m_ref1_split s' (47 : Int))) (i := i) kr kr kr ⟨by kernel_rfl, by decide⟩ hx1) le ?_
                  refine AOps.sq (x := (AV.s x1)) kr le ?_
                  refine AOps.sn (x := (AV.own 1 0 1)) (h' := ⟨2, [(1, some ⟨9, 1, [x1].map AV.s⟩), (0, some ⟨9, 1, kept.map AV.s⟩)]⟩) kr le ?_
                  refine AOps.se (x := (AV.own 2 0 ((kept ++ [x1]).length))) (h' := ⟨3, [(2, some ⟨9, 1, (kept ++ [x1]).map AV.s⟩), (1, some ⟨9, 1, [x1].map AV.s⟩), (0, none)]⟩) (g_appR (len := kept.length) (e := 9) (X := (AV.own 1 0 1)) (A := AV.s) (i := tI_9) (p := 0) (xs := kept) (ys := [x1]) kr kr kr (hx := kr) kr ⟨by decide, by kernel_rfl⟩ rfl rfl (by show _ * 16 ≤ 140737488355328; first | omega | (simp only [List.length_append, List.length_cons, List.length_nil, List.length_set, List.length_replicate]; omega) | (simp; omega)) sd) le ?_
                  refine AOps.sq (x := (AV.own 2 0 ((kept ++ [x1]).length))) kr le ?_
                  refine AOps.done ?_
                  refine Awp.region tabS_ok ?_
                  refine AOps.sq (x := (AV.i .i64 ((i : Nat) : Int))) kr le ?_
                  refine AOps.sq (x := (AV.i .i64 ((i + 1 : Nat) : Int))) (g_addN (i := i) (m := 1) kr kr sd) le ?_
                  refine AOps.sq (x := (AV.i .i64 ((i + 1 : Nat) : Int))) kr le ?_
                  refine AOps.done ?_
                  try simp only [c_10, c_11, c_12, sbt] at hE1
                  refine ⟨(true, (kept ++ [x1]), i + 1), od, ⟨od, (by simp), by (try dsimp only) <;> (first | omega | (simp only [szsum_append, szsum, Nat.add_zero]; omega) | (have := szsum_take kept (kept.length - 1) 1; omega)), by (try dsimp only) <;> (first | omega | (simp only [List.length_append, List.length_cons, List.length_nil, List.length_take]; omega)), hE1⟩, ?_⟩
                  exact ⟨[2], ⟨by decide, rfl, (FitsObjs.cons (obj_row (fun _ => rfl) (e := 9) (k := 1) (A := AV.s) (xs := (kept ++ [x1])) rfl rfl) FitsObjs.nil), (EntE.cons (Ent.c kr kr) (EntE.cons (ent_keepO (by decide) rfl) (EntE.cons (Ent.c kr kr) EntE.nil)))⟩, keep0⟩
                · have k_12 : (x1 = (⟨#[46, 46]⟩ : ByteArray)) := of_decide_eq_true c_12
                  refine Awp.cond (t := true) kr ?_
                  refine Awp.seq ?_
                  refine Awp.seq ?_
                  refine Awp.region tabS_ok ?_
                  refine AOps.sq (x := (AV.own 0 0 kept.length)) kr le ?_
                  refine AOps.sq (x := (AV.i .i64 ((kept.length : Nat) : Int))) kr le ?_
                  refine AOps.sq (x := (AV.b (decide (((kept.length : Nat) : Int) = (0 : Int))))) kr le ?_
                  refine AOps.done ?_
                  cases c_13 : decide (((kept.length : Nat) : Int) = (0 : Int))
                  · have k_13 : ¬ (((kept.length : Nat) : Int) = (0 : Int)) := of_decide_eq_false c_13
                    refine Awp.cond (t := false) kr ?_
                    refine Awp.skip ?_
                    refine Awp.region tabS_ok ?_
                    refine AOps.sq (x := (AV.own 0 0 kept.length)) kr le ?_
                    refine AOps.sq (x := (AV.own 0 0 kept.length)) kr le ?_
                    refine AOps.sq (x := (AV.i .i64 ((kept.length : Nat) : Int))) kr le ?_
                    refine AOps.sq (x := (AV.i .i64 ((kept.length - 1 : Nat) : Int))) (g_subN (i := kept.length) (m := 1) kr kr sd sd) le ?_
                    refine AOps.sq (x := (AV.own 0 0 (kept.length - 1))) (g_cutO (e := 9) (id := 0) (len := kept.length) (ob := ⟨9, 1, kept.map AV.s⟩) (l := none) (g := (some ((kept.length - 1 : Nat) : Int))) (b := kept.length - 1) kr kr kr kr kr kr rfl rfl (by simp only [List.length_map]; omega)) le ?_
                    refine AOps.sq (x := (AV.own 0 0 (kept.length - 1))) kr le ?_
                    refine AOps.done ?_
                    refine Awp.region tabS_ok ?_
                    refine AOps.sq (x := (AV.i .i64 ((i : Nat) : Int))) kr le ?_
                    refine AOps.sq (x := (AV.i .i64 ((i + 1 : Nat) : Int))) (g_addN (i := i) (m := 1) kr kr sd) le ?_
                    refine AOps.sq (x := (AV.i .i64 ((i + 1 : Nat) : Int))) kr le ?_
                    refine AOps.done ?_
                    try simp only [c_10, c_11, c_12, c_13, sbt] at hE1
                    refine ⟨(true, (kept.take (kept.length - 1)), i + 1), od, ⟨od, (by simp), by (try dsimp only) <;> (first | omega | (simp only [szsum_append, szsum, Nat.add_zero]; omega) | (have := szsum_take kept (kept.length - 1) 1; omega)), by (try dsimp only) <;> (first | omega | (simp only [List.length_append, List.length_cons, List.length_nil, List.length_take]; omega)), hE1⟩, ?_⟩
                    exact ⟨[0], ⟨by decide, rfl, (FitsObjs.consW (obj_pre (fun _ => rfl) (fun _ => rfl) (e := 9) (k := 1) (A := AV.s) (xs := kept) (ys := (kept.take (kept.length - 1))) (take_pre _ _) rfl rfl) FitsObjs.nil), (EntE.cons (Ent.c kr kr) (EntE.cons (ent_keepO (by decide) (by simp)) (EntE.cons (Ent.c kr kr) EntE.nil)))⟩, keep0⟩
                  · have k_13 : (((kept.length : Nat) : Int) = (0 : Int)) := of_decide_eq_true c_13
                    refine Awp.cond (t := true) kr ?_
                    refine Awp.seq ?_
                    refine Awp.region tabS_ok ?_
                    refine AOps.sq (x := (AV.s (⟨#[]⟩ : ByteArray))) kr le ?_
                    refine AOps.sq (x := (AV.i .i64 (200 : Int))) kr le ?_
                    refine AOps.done ?_
                    refine Awp.ret ?_
                    try simp only [c_10, c_11, c_12, c_13, sbt] at hE1
                    subst hE1
                    have hM : m_ref1_CleanPath s' = ((⟨#[]⟩ : ByteArray), (200 : Int)) := by simp only [m_ref1_CleanPath, c_1, c_2, hR1, sbt]
                    refine ⟨Or.inr rfl, ?_⟩
                    rw [hM]
                    exact Ent.cast (x' := (AV.tup [(AV.s (⟨#[]⟩ : ByteArray)), (AV.i .i64 (200 : Int))])) (y' := (AV.tup [(AV.s (((⟨#[]⟩ : ByteArray), (200 : Int)).1)), (AV.i .i64 (((⟨#[]⟩ : ByteArray), (200 : Int)).2))])) kr kr (Ent.tup ⟨(Ent.c kr kr), ⟨(Ent.c kr kr), trivial⟩⟩ kr)
              · have k_11 : (x1 = (⟨#[46]⟩ : ByteArray)) := of_decide_eq_true c_11
                refine Awp.cond (t := true) kr ?_
                refine Awp.skip ?_
                refine Awp.region tabS_ok ?_
                refine AOps.sq (x := (AV.i .i64 ((i : Nat) : Int))) kr le ?_
                refine AOps.sq (x := (AV.i .i64 ((i + 1 : Nat) : Int))) (g_addN (i := i) (m := 1) kr kr sd) le ?_
                refine AOps.sq (x := (AV.i .i64 ((i + 1 : Nat) : Int))) kr le ?_
                refine AOps.done ?_
                try simp only [c_10, c_11, sbt] at hE1
                refine ⟨(true, kept, i + 1), od, ⟨od, (by simp), by (try dsimp only) <;> (first | omega | (simp only [szsum_append, szsum, Nat.add_zero]; omega) | (have := szsum_take kept (kept.length - 1) 1; omega)), by (try dsimp only) <;> (first | omega | (simp only [List.length_append, List.length_cons, List.length_nil, List.length_take]; omega)), hE1⟩, ?_⟩
                exact ⟨[0], ⟨by decide, rfl, (FitsObjs.cons (obj_row (fun _ => rfl) (e := 9) (k := 1) (A := AV.s) (xs := kept) rfl rfl) FitsObjs.nil), (EntE.cons (Ent.c kr kr) (EntE.cons (ent_keepO (by decide) rfl) (EntE.cons (Ent.c kr kr) EntE.nil)))⟩, keep0⟩
            · have k_10 : (x1 = (⟨#[]⟩ : ByteArray)) := of_decide_eq_true c_10
              refine Awp.cond (t := true) kr ?_
              refine Awp.skip ?_
              refine Awp.cond (t := true) kr ?_
              refine Awp.skip ?_
              refine Awp.region tabS_ok ?_
              refine AOps.sq (x := (AV.i .i64 ((i : Nat) : Int))) kr le ?_
              refine AOps.sq (x := (AV.i .i64 ((i + 1 : Nat) : Int))) (g_addN (i := i) (m := 1) kr kr sd) le ?_
              refine AOps.sq (x := (AV.i .i64 ((i + 1 : Nat) : Int))) kr le ?_
              refine AOps.done ?_
              try simp only [c_10, sbt] at hE1
              refine ⟨(true, kept, i + 1), od, ⟨od, (by simp), by (try dsimp only) <;> (first | omega | (simp only [szsum_append, szsum, Nat.add_zero]; omega) | (have := szsum_take kept (kept.length - 1) 1; omega)), by (try dsimp only) <;> (first | omega | (simp only [List.length_append, List.length_cons, List.length_nil, List.length_take]; omega)), hE1⟩, ?_⟩
              exact ⟨[0], ⟨by decide, rfl, (FitsObjs.cons (obj_row (fun _ => rfl) (e := 9) (k := 1) (A := AV.s) (xs := kept) rfl rfl) FitsObjs.nil), (EntE.cons (Ent.c kr kr) (EntE.cons (ent_keepO (by decide) rfl) (EntE.cons (Ent.c kr kr) EntE.nil)))⟩, keep0⟩
          · have hc1 : decide (((i : Nat) : Int) < (((m_ref1_split s' (47 : Int)).length : Nat) : Int)) = false := decide_eq_false (by omega)
            refine Awp.cond (t := false) (by rw [← hc1] <;> kernel_rfl) (Awp.exit ?_)
            rw [List.drop_eq_nil_of_le (hl1), m_ref1_CleanPath_L1.eq_1] at hE1
            subst hE1
            refine Awp.seq ?_
            refine Awp.seq ?_
            refine Awp.region tabS_ok ?_
            refine AOps.sq (x := (AV.own 0 0 kept.length)) kr le ?_
            refine AOps.sq (x := (AV.i .i64 ((kept.length : Nat) : Int))) kr le ?_
            refine AOps.sq (x := (AV.b (decide (((kept.length : Nat) : Int) = (0 : Int))))) kr le ?_
            refine AOps.done ?_
            cases c_14 : decide (((kept.length : Nat) : Int) = (0 : Int))
            · have k_14 : ¬ (((kept.length : Nat) : Int) = (0 : Int)) := of_decide_eq_false c_14
              refine Awp.cond (t := false) kr ?_
              refine Awp.skip ?_
              refine Awp.seq ?_
              refine Awp.region tabS_ok ?_
              refine AOps.sq (x := (AV.own 0 0 kept.length)) kr le ?_
              refine AOps.sfw (vs := [(AV.own 0 0 kept.length), (AV.s (⟨#[47]⟩ : ByteArray))]) (ss := [((slA 1 AV.s) kept), (AV.s (⟨#[47]⟩ : ByteArray))]) (r0 := (AV.s (m_ref1_Join kept (⟨#[47]⟩ : ByteArray)))) kr (show SnapW _ _ _ from ⟨(EntK.w (EntK.cast (x' := (AV.own 0 0 kept.length)) kr kr (EntK.row (fun _ => rfl) (A := AV.s) (id := 0) (e := 9) (k := 1) (xs := kept) rfl rfl rfl sd))), ⟨(SnapW.e kr), trivial⟩⟩) (w_ref1_Join W kept (⟨#[47]⟩ : ByteArray) (split_join (by omega) hk)) rfl kr le ?_
              refine AOps.sq (x := (AV.s (m_ref1_Join kept (⟨#[47]⟩ : ByteArray)))) kr le ?_
              refine AOps.sq (x := (AV.i .i64 (0 : Int))) kr le ?_
              refine AOps.done ?_
              refine Awp.ret ?_
              have hM : m_ref1_CleanPath s' = ((m_ref1_Join kept (⟨#[47]⟩ : ByteArray)), (0 : Int)) := by simp only [m_ref1_CleanPath, c_1, c_2, hR1, c_14, sbt]
              refine ⟨Or.inr rfl, ?_⟩
              rw [hM]
              exact Ent.cast (x' := (AV.tup [(AV.s (m_ref1_Join kept (⟨#[47]⟩ : ByteArray))), (AV.i .i64 (0 : Int))])) (y' := (AV.tup [(AV.s (((m_ref1_Join kept (⟨#[47]⟩ : ByteArray)), (0 : Int)).1)), (AV.i .i64 (((m_ref1_Join kept (⟨#[47]⟩ : ByteArray)), (0 : Int)).2))])) kr kr (Ent.tup ⟨(Ent.c kr kr), ⟨(Ent.c kr kr), trivial⟩⟩ kr)
            · have k_14 : (((kept.length : Nat) : Int) = (0 : Int)) := of_decide_eq_true c_14
              refine Awp.cond (t := true) kr ?_
              refine Awp.seq ?_
              refine Awp.region tabS_ok ?_
              refine AOps.sq (x := (AV.s (⟨#[]⟩ : ByteArray))) kr le ?_
              refine AOps.sq (x := (AV.i .i64 (200 : Int))) kr le ?_
              refine AOps.done ?_
              refine Awp.ret ?_
              have hM : m_ref1_CleanPath s' = ((⟨#[]⟩ : ByteArray), (200 : Int)) := by simp only [m_ref1_CleanPath, c_1, c_2, hR1, c_14, sbt]
              refine ⟨Or.inr rfl, ?_⟩
              rw [hM]
              exact Ent.cast (x' := (AV.tup [(AV.s (⟨#[]⟩ : ByteArray)), (AV.i .i64 (200 : Int))])) (y' := (AV.tup [(AV.s (((⟨#[]⟩ : ByteArray), (200 : Int)).1)), (AV.i .i64 (((⟨#[]⟩ : ByteArray), (200 : Int)).2))])) kr kr (Ent.tup ⟨(Ent.c kr kr), ⟨(Ent.c kr kr), trivial⟩⟩ kr)
    · have k_2 : (((s'.data.getD 0 0).toNat : Int) = (47 : Int)) := of_decide_eq_true c_2
      refine Awp.cond (t := true) kr ?_
      refine Awp.seq ?_
      refine Awp.region tabS_ok ?_
      refine AOps.sq (x := (AV.s (⟨#[]⟩ : ByteArray))) kr le ?_
      refine AOps.sq (x := (AV.i .i64 (200 : Int))) kr le ?_
      refine AOps.done ?_
      refine Awp.ret ?_
      have hM : m_ref1_CleanPath s' = ((⟨#[]⟩ : ByteArray), (200 : Int)) := by simp only [m_ref1_CleanPath, c_1, c_2, sbt]
      refine ⟨Or.inr rfl, ?_⟩
      rw [hM]
      exact Ent.cast (x' := (AV.tup [(AV.s (⟨#[]⟩ : ByteArray)), (AV.i .i64 (200 : Int))])) (y' := (AV.tup [(AV.s (((⟨#[]⟩ : ByteArray), (200 : Int)).1)), (AV.i .i64 (((⟨#[]⟩ : ByteArray), (200 : Int)).2))])) kr kr (Ent.tup ⟨(Ent.c kr kr), ⟨(Ent.c kr kr), trivial⟩⟩ kr)
  · refine AOps.sgn rfl rfl kr rfl le ?_
    refine AOps.sgn rfl rfl kr rfl le ?_
    refine AOps.sgn rfl rfl kr rfl le ?_
    refine AOps.sq (x := (AV.b true)) kr le ?_
    refine AOps.done ?_
    refine Awp.cond (t := true) kr ?_
    refine Awp.seq ?_
    refine Awp.region tabS_ok ?_
    refine AOps.sq (x := (AV.s (⟨#[]⟩ : ByteArray))) kr le ?_
    refine AOps.sq (x := (AV.i .i64 (200 : Int))) kr le ?_
    refine AOps.done ?_
    refine Awp.ret ?_
    have hM : m_ref1_CleanPath s' = ((⟨#[]⟩ : ByteArray), (200 : Int)) := by simp only [m_ref1_CleanPath, c_1, sbt]
    refine ⟨Or.inr rfl, ?_⟩
    rw [hM]
    exact Ent.cast (x' := (AV.tup [(AV.s (⟨#[]⟩ : ByteArray)), (AV.i .i64 (200 : Int))])) (y' := (AV.tup [(AV.s (((⟨#[]⟩ : ByteArray), (200 : Int)).1)), (AV.i .i64 (((⟨#[]⟩ : ByteArray), (200 : Int)).2))])) kr kr (Ent.tup ⟨(Ent.c kr kr), ⟨(Ent.c kr kr), trivial⟩⟩ kr)

theorem w_ref1_PathMay (W : World) (s' : ByteArray) : PureAt Go.Proofs.Tryz.prog W 104 [(AV.s s')] (AV.b (m_ref1_PathMay s')) [] := by
  refine pure_of_bodyC (fn := Go.Proofs.Tryz.f104) Go.Proofs.Tryz.func104 rfl (en104 W) (ts := [2]) rfl le ?_
  refine Awp.seq ?_
  refine Awp.region tabS_ok ?_
  refine AOps.sq (x := (AV.b false)) kr le ?_
  refine AOps.done ?_
  refine Awp.seq ?_
  refine Awp.region tabS_ok ?_
  refine AOps.sq (x := (AV.s s')) kr le ?_
  refine AOps.sc0 (vs := [(AV.s s')]) (r0 := (AV.tup [(AV.s ((m_ref1_CleanPath s').1)), (AV.i .i64 ((m_ref1_CleanPath s').2))])) kr kr (w_ref1_CleanPath W s') kr le ?_
  refine AOps.sq (x := (AV.tup [(AV.s ((m_ref1_CleanPath s').1)), (AV.i .i64 ((m_ref1_CleanPath s').2))])) kr le ?_
  refine AOps.sq (x := (AV.s ((m_ref1_CleanPath s').1))) kr le ?_
  refine AOps.sq (x := (AV.i .i64 ((m_ref1_CleanPath s').2))) kr le ?_
  refine AOps.sq (x := (AV.s ((m_ref1_CleanPath s').1))) kr le ?_
  refine AOps.sq (x := (AV.i .i64 ((m_ref1_CleanPath s').2))) kr le ?_
  refine AOps.done ?_
  refine Awp.seq ?_
  refine Awp.region tabS_ok ?_
  refine AOps.sq (x := (AV.i .i64 ((m_ref1_CleanPath s').2))) kr le ?_
  refine AOps.sq (x := (AV.b (decide ((m_ref1_CleanPath s').2 = (0 : Int))))) kr le ?_
  refine AOps.sq (x := (AV.b (decide ((m_ref1_CleanPath s').2 = (0 : Int))))) kr le ?_
  cases c_1 : decide ((m_ref1_CleanPath s').2 = (0 : Int))
  · have k_1 : ¬ ((m_ref1_CleanPath s').2 = (0 : Int)) := of_decide_eq_false c_1
    refine AOps.sgn rfl rfl kr rfl le ?_
    refine AOps.sgn rfl rfl kr rfl le ?_
    refine AOps.sgn rfl rfl kr rfl le ?_
    refine AOps.sq (x := (AV.b false)) kr le ?_
    refine AOps.sq (x := (AV.b false)) kr le ?_
    refine AOps.done ?_
    refine Awp.ret ?_
    have hM : m_ref1_PathMay s' = false := by simp only [m_ref1_PathMay, c_1, sbt]
    refine ⟨Or.inr rfl, ?_⟩
    rw [hM]
    exact Ent.cast (x' := (AV.b false)) (y' := (AV.b false)) kr kr (Ent.c kr kr)
  · have k_1 : ((m_ref1_CleanPath s').2 = (0 : Int)) := of_decide_eq_true c_1
    refine AOps.sgy rfl rfl kr rfl ?_
    refine AOps.sq (x := (AV.s ((m_ref1_CleanPath s').1))) kr le ?_
    refine AOps.sgy rfl rfl kr rfl ?_
    refine AOps.sq (x := (AV.s s')) kr le ?_
    refine AOps.sgy rfl rfl kr rfl ?_
    refine AOps.sq (x := (AV.b (decide ((m_ref1_CleanPath s').1 = s')))) kr le ?_
    refine AOps.sq (x := (AV.b (decide ((m_ref1_CleanPath s').1 = s')))) kr le ?_
    refine AOps.sq (x := (AV.b (decide ((m_ref1_CleanPath s').1 = s')))) kr le ?_
    refine AOps.done ?_
    refine Awp.ret ?_
    have hM : m_ref1_PathMay s' = decide ((m_ref1_CleanPath s').1 = s') := by simp only [m_ref1_PathMay, c_1, sbt]
    refine ⟨Or.inr rfl, ?_⟩
    rw [hM]
    exact Ent.cast (x' := (AV.b (decide ((m_ref1_CleanPath s').1 = s')))) (y' := (AV.b (decide ((m_ref1_CleanPath s').1 = s')))) kr kr (Ent.c kr kr)

theorem w_ref1_PathsMay (W : World) (xs : List ByteArray) : PureAt Go.Proofs.Tryz.prog W 65 [((slA 1 AV.s) xs)] (AV.b (m_ref1_PathsMay xs)) [] := by
  refine pure_of_bodyC (fn := Go.Proofs.Tryz.f65) Go.Proofs.Tryz.func65 rfl (en65 W) (ts := [2]) rfl le ?_
  refine Awp.seq ?_
  refine Awp.region tabS_ok ?_
  refine AOps.sq (x := (AV.b false)) kr le ?_
  refine AOps.done ?_
  refine Awp.seq ?_
  refine Awp.seq ?_
  refine Awp.region tabS_ok ?_
  refine AOps.sq (x := (AV.i .i64 (0 : Int))) kr le ?_
  refine AOps.done ?_
  refine Awp.block ?_
  refine Awp.lim 0 (x := ((slA 1 AV.s) xs)) kr fun hlm1 => ?_
  have hB1 : xs.length ≤ 281474976710656 := lim_slA hlm1
  obtain ⟨R1, hR1⟩ : ∃ R, m_ref1_PathsMay_L1 xs 0 = R := ⟨_, rfl⟩
  refine Awp.loopT (fun (i : Nat) => [(0, ((slA 1 AV.s) xs)), (3, (AV.i .i64 ((i : Nat) : Int)))]) (fun (i : Nat) => ⟨0, []⟩) (fun (i : Nat) => i ≤ xs.length ∧ m_ref1_PathsMay_L1 (xs.drop i) i = R1) (fun (i : Nat) => xs.length - i) 0 ?_ ?_ ?_
  · exact ⟨[], ⟨by decide, rfl, FitsObjs.nil, (EntE.cons (Ent.c kr kr) (EntE.cons (Ent.c kr kr) EntE.nil))⟩, keep0⟩
  · exact ⟨od, hR1⟩
  · rintro i ⟨hi1, hE1⟩
    try dsimp only
    refine Awp.seq ?_
    refine Awp.seq ?_
    refine Awp.region tabS_ok ?_
    refine AOps.sq (x := (AV.i .i64 ((i : Nat) : Int))) kr le ?_
    refine AOps.sq (x := ((slA 1 AV.s) xs)) kr le ?_
    refine AOps.sq (x := (AV.i .i64 ((xs.length : Nat) : Int))) (g_len (k := 1) (nl := false) (e := 9) (A := AV.s) (xs := xs) kr kr) le ?_
    refine AOps.sq (x := (AV.b (decide (((i : Nat) : Int) < ((xs.length : Nat) : Int))))) kr le ?_
    refine AOps.done ?_
    rcases Nat.lt_or_ge i xs.length with hl1 | hl1
    · have hc1 : decide (((i : Nat) : Int) < ((xs.length : Nat) : Int)) = true := decide_eq_true (by omega)
      refine Awp.cond (t := true) (by rw [← hc1] <;> kernel_rfl) (Awp.skip ?_)
      obtain ⟨x1, hx1⟩ : ∃ x, xs[i]? = some x := ⟨_, List.getElem?_eq_getElem hl1⟩
      rw [drop_at hx1, m_ref1_PathsMay_L1.eq_2] at hE1
      refine Awp.seq ?_
      refine Awp.block ?_
      refine Awp.seq ?_
      refine Awp.region tabS_ok ?_
      refine AOps.sq (x := ((slA 1 AV.s) xs)) kr le ?_
      refine AOps.sq (x := (AV.i .i64 ((i : Nat) : Int))) kr le ?_
      refine AOps.sq (x := (AV.pt (AV.s x1).cells)) (g_idx (k := 1) (nl := false) (e := 9) (kk := .i64) (A := AV.s) (xs := xs) (i := i) kr kr kr ⟨by kernel_rfl, by decide⟩ hx1) le ?_
      refine AOps.sq (x := (AV.s x1)) kr le ?_
      refine AOps.sc0 (vs := [(AV.s x1)]) (r0 := (AV.b (m_ref1_PathMay x1))) kr kr (w_ref1_PathMay W x1) kr le ?_
      refine AOps.sq (x := (AV.b (!(m_ref1_PathMay x1)))) kr le ?_
      refine AOps.done ?_
      cases c_1 : (!(m_ref1_PathMay x1))
      · refine Awp.cond (t := false) kr ?_
        refine Awp.skip ?_
        refine Awp.region tabS_ok ?_
        refine AOps.sq (x := (AV.i .i64 ((i : Nat) : Int))) kr le ?_
        refine AOps.sq (x := (AV.i .i64 ((i + 1 : Nat) : Int))) (g_addN (i := i) (m := 1) kr kr sd) le ?_
        refine AOps.sq (x := (AV.i .i64 ((i + 1 : Nat) : Int))) kr le ?_
        refine AOps.done ?_
        try simp only [c_1, sbt] at hE1
        refine ⟨i + 1, od, ⟨od, hE1⟩, ?_⟩
        exact ⟨[], ⟨by decide, rfl, FitsObjs.nil, (EntE.cons (Ent.c kr kr) (EntE.cons (Ent.c kr kr) EntE.nil))⟩, keep0⟩
      · refine Awp.cond (t := true) kr ?_
        refine Awp.seq ?_
        refine Awp.region tabS_ok ?_
        refine AOps.sq (x := (AV.b false)) kr le ?_
        refine AOps.done ?_
        refine Awp.ret ?_
        try simp only [c_1, sbt] at hE1
        subst hE1
        have hM : m_ref1_PathsMay xs = false := by simp only [m_ref1_PathsMay, hR1, sbt]
        refine ⟨Or.inr rfl, ?_⟩
        rw [hM]
        exact Ent.cast (x' := (AV.b false)) (y' := (AV.b false)) kr kr (Ent.c kr kr)
    · have hc1 : decide (((i : Nat) : Int) < ((xs.length : Nat) : Int)) = false := decide_eq_false (by omega)
      refine Awp.cond (t := false) (by rw [← hc1] <;> kernel_rfl) (Awp.exit ?_)
      rw [List.drop_eq_nil_of_le (hl1), m_ref1_PathsMay_L1.eq_1] at hE1
      subst hE1
      refine Awp.seq ?_
      refine Awp.region tabS_ok ?_
      refine AOps.sq (x := ((slA 1 AV.s) xs)) kr le ?_
      refine AOps.sq (x := (AV.i .i64 ((xs.length : Nat) : Int))) (g_len (k := 1) (nl := false) (e := 9) (A := AV.s) (xs := xs) kr kr) le ?_
      refine AOps.sq (x := (AV.b (decide (((xs.length : Nat) : Int) ≤ (8 : Int))))) kr le ?_
      refine AOps.sq (x := (AV.b (decide (((xs.length : Nat) : Int) ≤ (8 : Int))))) kr le ?_
      refine AOps.done ?_
      refine Awp.ret ?_
      have hM : m_ref1_PathsMay xs = decide (((xs.length : Nat) : Int) ≤ (8 : Int)) := by simp only [m_ref1_PathsMay, hR1, sbt]
      refine ⟨Or.inr rfl, ?_⟩
      rw [hM]
      exact Ent.cast (x' := (AV.b (decide (((xs.length : Nat) : Int) ≤ (8 : Int))))) (y' := (AV.b (decide (((xs.length : Nat) : Int) ≤ (8 : Int))))) kr kr (Ent.c kr kr)

theorem w_ref1_poolAt (W : World) (ps : List DPool) (name : ByteArray) : PureAt Go.Proofs.Tryz.prog W 63 [((slA 2 DPool.av) ps), (AV.s name)] (AV.i .i64 (m_ref1_poolAt ps name)) [] := by
  refine pure_of_bodyC (fn := Go.Proofs.Tryz.f63) Go.Proofs.Tryz.func63 rfl (en63 W) (ts := [4]) rfl le ?_
  refine Awp.seq ?_
  refine Awp.region tabS_ok ?_
  refine AOps.sq (x := (AV.i .i64 (0 : Int))) kr le ?_
  refine AOps.done ?_
  refine Awp.seq ?_
  refine Awp.seq ?_
  refine Awp.region tabS_ok ?_
  refine AOps.sq (x := (AV.i .i64 (0 : Int))) kr le ?_
  refine AOps.done ?_
  refine Awp.block ?_
  refine Awp.lim 0 (x := ((slA 2 DPool.av) ps)) kr fun hlm1 => ?_
  have hB1 : ps.length ≤ 281474976710656 := lim_slA hlm1
  obtain ⟨R1, hR1⟩ : ∃ R, m_ref1_poolAt_L1 name ps 0 = R := ⟨_, rfl⟩
  refine Awp.loopT (fun (i : Nat) => [(0, ((slA 2 DPool.av) ps)), (1, (AV.s name)), (5, (AV.i .i64 ((i : Nat) : Int)))]) (fun (i : Nat) => ⟨0, []⟩) (fun (i : Nat) => i ≤ ps.length ∧ m_ref1_poolAt_L1 name (ps.drop i) i = R1) (fun (i : Nat) => ps.length - i) 0 ?_ ?_ ?_
  · exact ⟨[], ⟨by decide, rfl, FitsObjs.nil, (EntE.cons (Ent.c kr kr) (EntE.cons (Ent.c kr kr) (EntE.cons (Ent.c kr kr) EntE.nil)))⟩, keep0⟩
  · exact ⟨od, hR1⟩
  · rintro i ⟨hi1, hE1⟩
    try dsimp only
    refine Awp.seq ?_
    refine Awp.seq ?_
    refine Awp.region tabS_ok ?_
    refine AOps.sq (x := (AV.i .i64 ((i : Nat) : Int))) kr le ?_
    refine AOps.sq (x := ((slA 2 DPool.av) ps)) kr le ?_
    refine AOps.sq (x := (AV.i .i64 ((ps.length : Nat) : Int))) (g_len (k := 2) (nl := false) (e := 81) (A := DPool.av) (xs := ps) kr kr) le ?_
    refine AOps.sq (x := (AV.b (decide (((i : Nat) : Int) < ((ps.length : Nat) : Int))))) kr le ?_
    refine AOps.done ?_
    rcases Nat.lt_or_ge i ps.length with hl1 | hl1
    · have hc1 : decide (((i : Nat) : Int) < ((ps.length : Nat) : Int)) = true := decide_eq_true (by omega)
      refine Awp.cond (t := true) (by rw [← hc1] <;> kernel_rfl) (Awp.skip ?_)
      obtain ⟨x1, hx1⟩ : ∃ x, ps[i]? = some x := ⟨_, List.getElem?_eq_getElem hl1⟩
      rw [drop_at hx1, m_ref1_poolAt_L1.eq_2] at hE1
      refine Awp.seq ?_
      refine Awp.block ?_
      refine Awp.seq ?_
      refine Awp.region tabS_ok ?_
      refine AOps.sq (x := ((slA 2 DPool.av) ps)) kr le ?_
      refine AOps.sq (x := (AV.i .i64 ((i : Nat) : Int))) kr le ?_
      refine AOps.sq (x := (AV.pt (DPool.av x1).cells)) (g_idx (k := 2) (nl := false) (e := 81) (kk := .i64) (A := DPool.av) (xs := ps) (i := i) kr kr kr ⟨by kernel_rfl, by decide⟩ hx1) le ?_
      refine AOps.sq (x := (AV.pt ((DPool.av x1).cells.drop 0))) kr le ?_
      refine AOps.sq (x := (AV.s x1.name)) kr le ?_
      refine AOps.sq (x := (AV.s name)) kr le ?_
      refine AOps.sq (x := (AV.b (decide (x1.name = name)))) kr le ?_
      refine AOps.done ?_
      cases c_1 : decide (x1.name = name)
      · have k_1 : ¬ (x1.name = name) := of_decide_eq_false c_1
        refine Awp.cond (t := false) kr ?_
        refine Awp.skip ?_
        refine Awp.region tabS_ok ?_
        refine AOps.sq (x := (AV.i .i64 ((i : Nat) : Int))) kr le ?_
        refine AOps.sq (x := (AV.i .i64 ((i + 1 : Nat) : Int))) (g_addN (i := i) (m := 1) kr kr sd) le ?_
        refine AOps.sq (x := (AV.i .i64 ((i + 1 : Nat) : Int))) kr le ?_
        refine AOps.done ?_
        try simp only [c_1, sbt] at hE1
        refine ⟨i + 1, od, ⟨od, hE1⟩, ?_⟩
        exact ⟨[], ⟨by decide, rfl, FitsObjs.nil, (EntE.cons (Ent.c kr kr) (EntE.cons (Ent.c kr kr) (EntE.cons (Ent.c kr kr) EntE.nil)))⟩, keep0⟩
      · have k_1 : (x1.name = name) := of_decide_eq_true c_1
        refine Awp.cond (t := true) kr ?_
        refine Awp.seq ?_
        refine Awp.region tabS_ok ?_
        refine AOps.sq (x := (AV.i .i64 ((i : Nat) : Int))) kr le ?_
        refine AOps.sq (x := (AV.i .i64 ((i : Nat) : Int))) kr le ?_
        refine AOps.done ?_
        refine Awp.ret ?_
        try simp only [c_1, sbt] at hE1
        subst hE1
        have hM : m_ref1_poolAt ps name = ((i : Nat) : Int) := by simp only [m_ref1_poolAt, hR1, sbt]
        refine ⟨Or.inr rfl, ?_⟩
        rw [hM]
        exact Ent.cast (x' := (AV.i .i64 ((i : Nat) : Int))) (y' := (AV.i .i64 ((i : Nat) : Int))) kr kr (Ent.c kr kr)
    · have hc1 : decide (((i : Nat) : Int) < ((ps.length : Nat) : Int)) = false := decide_eq_false (by omega)
      refine Awp.cond (t := false) (by rw [← hc1] <;> kernel_rfl) (Awp.exit ?_)
      rw [List.drop_eq_nil_of_le (hl1), m_ref1_poolAt_L1.eq_1] at hE1
      subst hE1
      refine Awp.seq ?_
      refine Awp.region tabS_ok ?_
      refine AOps.sq (x := (AV.i .i64 (-1 : Int))) kr le ?_
      refine AOps.done ?_
      refine Awp.ret ?_
      have hM : m_ref1_poolAt ps name = (-1 : Int) := by simp only [m_ref1_poolAt, hR1, sbt]
      refine ⟨Or.inr rfl, ?_⟩
      rw [hM]
      exact Ent.cast (x' := (AV.i .i64 (-1 : Int))) (y' := (AV.i .i64 (-1 : Int))) kr kr (Ent.c kr kr)

theorem w_ref1_EdgeMay (W : World) (e : DEdge) : PureAt Go.Proofs.Tryz.prog W 64 [(DEdge.av e)] (AV.b (m_ref1_EdgeMay e)) [] := by
  refine pure_of_bodyC (fn := Go.Proofs.Tryz.f64) Go.Proofs.Tryz.func64 rfl (en64 W) (ts := [2]) rfl le ?_
  refine Awp.seq ?_
  refine Awp.region tabS_ok ?_
  refine AOps.sn (x := (AV.loc 0 0 0)) (h' := ⟨1, [(0, some ⟨76, 7, [(DEdge.av e)]⟩)]⟩) kr le ?_
  refine AOps.sq (x := (AV.b false)) kr le ?_
  refine AOps.done ?_
  refine Awp.seq ?_
  refine Awp.region tabS_ok ?_
  refine AOps.sq (x := (AV.loc 0 0 0)) kr le ?_
  refine AOps.sq (x := ((slA 1 AV.s) e.outs)) kr le ?_
  refine AOps.sq (x := (AV.i .i64 ((e.outs.length : Nat) : Int))) (g_len (k := 1) (nl := false) (e := 9) (A := AV.s) (xs := e.outs) kr kr) le ?_
  refine AOps.sq (x := (AV.b (decide ((0 : Int) < ((e.outs.length : Nat) : Int))))) kr le ?_
  refine AOps.sq (x := (AV.b (decide ((0 : Int) < ((e.outs.length : Nat) : Int))))) kr le ?_
  cases c_1 : decide ((0 : Int) < ((e.outs.length : Nat) : Int))
  · have k_1 : ¬ ((0 : Int) < ((e.outs.length : Nat) : Int)) := of_decide_eq_false c_1
    refine AOps.sgn rfl rfl kr rfl le ?_
    refine AOps.sgn rfl rfl kr rfl le ?_
    refine AOps.sgn rfl rfl kr rfl le ?_
    refine AOps.sq (x := (AV.b false)) kr le ?_
    refine AOps.sq (x := (AV.b false)) kr le ?_
    refine AOps.sgn rfl rfl kr rfl le ?_
    refine AOps.sgn rfl rfl kr rfl le ?_
    refine AOps.sgn rfl rfl kr rfl le ?_
    refine AOps.sq (x := (AV.b false)) kr le ?_
    refine AOps.sq (x := (AV.b false)) kr le ?_
    refine AOps.sgn rfl rfl kr rfl le ?_
    refine AOps.sgn rfl rfl kr rfl le ?_
    refine AOps.sgn rfl rfl kr rfl le ?_
    refine AOps.sq (x := (AV.b false)) kr le ?_
    refine AOps.sq (x := (AV.b false)) kr le ?_
    refine AOps.sgn rfl rfl kr rfl le ?_
    refine AOps.sgn rfl rfl kr rfl le ?_
    refine AOps.sgn rfl rfl kr rfl le ?_
    refine AOps.sq (x := (AV.b false)) kr le ?_
    refine AOps.sq (x := (AV.b false)) kr le ?_
    refine AOps.sgn rfl rfl kr rfl le ?_
    refine AOps.sgn rfl rfl kr rfl le ?_
    refine AOps.sgn rfl rfl kr rfl le ?_
    refine AOps.sq (x := (AV.b false)) kr le ?_
    refine AOps.sq (x := (AV.b false)) kr le ?_
    refine AOps.sgn rfl rfl kr rfl le ?_
    refine AOps.sgn rfl rfl kr rfl le ?_
    refine AOps.sgn rfl rfl kr rfl le ?_
    refine AOps.sgn rfl rfl kr rfl le ?_
    refine AOps.sgu rfl rfl kr le ?_
    refine AOps.sgu rfl rfl kr le ?_
    refine AOps.sgu rfl rfl kr le ?_
    refine AOps.sgn rfl rfl kr rfl le ?_
    refine AOps.sq (x := (AV.b false)) kr le ?_
    refine AOps.sq (x := (AV.b false)) kr le ?_
    refine AOps.done ?_
    refine Awp.ret ?_
    have hM : m_ref1_EdgeMay e = false := by simp only [m_ref1_EdgeMay, c_1, sbt]
    refine ⟨Or.inr rfl, ?_⟩
    rw [hM]
    exact Ent.cast (x' := (AV.b false)) (y' := (AV.b false)) kr kr (Ent.c kr kr)
  · have k_1 : ((0 : Int) < ((e.outs.length : Nat) : Int)) := of_decide_eq_true c_1
    refine AOps.sgy rfl rfl kr rfl ?_
    refine AOps.sq (x := (AV.loc 0 0 0)) kr le ?_
    refine AOps.sgy rfl rfl kr rfl ?_
    refine AOps.sq (x := ((slA 1 AV.s) e.outs)) kr le ?_
    refine AOps.sgy rfl rfl kr rfl ?_
    refine AOps.sc0 (vs := [((slA 1 AV.s) e.outs)]) (r0 := (AV.b (m_ref1_PathsMay e.outs))) kr kr (w_ref1_PathsMay W e.outs) kr le ?_
    refine AOps.sq (x := (AV.b (m_ref1_PathsMay e.outs))) kr le ?_
    refine AOps.sq (x := (AV.b (m_ref1_PathsMay e.outs))) kr le ?_
    cases c_2 : (m_ref1_PathsMay e.outs)
    · refine AOps.sgn rfl rfl kr rfl le ?_
      refine AOps.sgn rfl rfl kr rfl le ?_
      refine AOps.sgn rfl rfl kr rfl le ?_
      refine AOps.sq (x := (AV.b false)) kr le ?_
      refine AOps.sq (x := (AV.b false)) kr le ?_
      refine AOps.sgn rfl rfl kr rfl le ?_
      refine AOps.sgn rfl rfl kr rfl le ?_
      refine AOps.sgn rfl rfl kr rfl le ?_
      refine AOps.sq (x := (AV.b false)) kr le ?_
      refine AOps.sq (x := (AV.b false)) kr le ?_
      refine AOps.sgn rfl rfl kr rfl le ?_
      refine AOps.sgn rfl rfl kr rfl le ?_
      refine AOps.sgn rfl rfl kr rfl le ?_
      refine AOps.sq (x := (AV.b false)) kr le ?_
      refine AOps.sq (x := (AV.b false)) kr le ?_
      refine AOps.sgn rfl rfl kr rfl le ?_
      refine AOps.sgn rfl rfl kr rfl le ?_
      refine AOps.sgn rfl rfl kr rfl le ?_
      refine AOps.sq (x := (AV.b false)) kr le ?_
      refine AOps.sq (x := (AV.b false)) kr le ?_
      refine AOps.sgn rfl rfl kr rfl le ?_
      refine AOps.sgn rfl rfl kr rfl le ?_
      refine AOps.sgn rfl rfl kr rfl le ?_
      refine AOps.sgn rfl rfl kr rfl le ?_
      refine AOps.sgu rfl rfl kr le ?_
      refine AOps.sgu rfl rfl kr le ?_
      refine AOps.sgu rfl rfl kr le ?_
      refine AOps.sgn rfl rfl kr rfl le ?_
      refine AOps.sq (x := (AV.b false)) kr le ?_
      refine AOps.sq (x := (AV.b false)) kr le ?_
      refine AOps.done ?_
      refine Awp.ret ?_
      have hM : m_ref1_EdgeMay e = false := by simp only [m_ref1_EdgeMay, c_1, c_2, sbt]
      refine ⟨Or.inr rfl, ?_⟩
      rw [hM]
      exact Ent.cast (x' := (AV.b false)) (y' := (AV.b false)) kr kr (Ent.c kr kr)
    · refine AOps.sgy rfl rfl kr rfl ?_
      refine AOps.sq (x := (AV.loc 0 0 1)) kr le ?_
      refine AOps.sgy rfl rfl kr rfl ?_
      refine AOps.sq (x := ((slA 1 AV.s) e.ins)) kr le ?_
      refine AOps.sgy rfl rfl kr rfl ?_
      refine AOps.sc0 (vs := [((slA 1 AV.s) e.ins)]) (r0 := (AV.b (m_ref1_PathsMay e.ins))) kr kr (w_ref1_PathsMay W e.ins) kr le ?_
      refine AOps.sq (x := (AV.b (m_ref1_PathsMay e.ins))) kr le ?_
      refine AOps.sq (x := (AV.b (m_ref1_PathsMay e.ins))) kr le ?_
      cases c_3 : (m_ref1_PathsMay e.ins)
      · refine AOps.sgn rfl rfl kr rfl le ?_
        refine AOps.sgn rfl rfl kr rfl le ?_
        refine AOps.sgn rfl rfl kr rfl le ?_
        refine AOps.sq (x := (AV.b false)) kr le ?_
        refine AOps.sq (x := (AV.b false)) kr le ?_
        refine AOps.sgn rfl rfl kr rfl le ?_
        refine AOps.sgn rfl rfl kr rfl le ?_
        refine AOps.sgn rfl rfl kr rfl le ?_
        refine AOps.sq (x := (AV.b false)) kr le ?_
        refine AOps.sq (x := (AV.b false)) kr le ?_
        refine AOps.sgn rfl rfl kr rfl le ?_
        refine AOps.sgn rfl rfl kr rfl le ?_
        refine AOps.sgn rfl rfl kr rfl le ?_
        refine AOps.sq (x := (AV.b false)) kr le ?_
        refine AOps.sq (x := (AV.b false)) kr le ?_
        refine AOps.sgn rfl rfl kr rfl le ?_
        refine AOps.sgn rfl rfl kr rfl le ?_
        refine AOps.sgn rfl rfl kr rfl le ?_
        refine AOps.sgn rfl rfl kr rfl le ?_
        refine AOps.sgu rfl rfl kr le ?_
        refine AOps.sgu rfl rfl kr le ?_
        refine AOps.sgu rfl rfl kr le ?_
        refine AOps.sgn rfl rfl kr rfl le ?_
        refine AOps.sq (x := (AV.b false)) kr le ?_
        refine AOps.sq (x := (AV.b false)) kr le ?_
        refine AOps.done ?_
        refine Awp.ret ?_
        have hM : m_ref1_EdgeMay e = false := by simp only [m_ref1_EdgeMay, c_1, c_2, c_3, sbt]
        refine ⟨Or.inr rfl, ?_⟩
        rw [hM]
        exact Ent.cast (x' := (AV.b false)) (y' := (AV.b false)) kr kr (Ent.c kr kr)
      · refine AOps.sgy rfl rfl kr rfl ?_
        refine AOps.sq (x := (AV.loc 0 0 2)) kr le ?_
        refine AOps.sgy rfl rfl kr rfl ?_
        refine AOps.sq (x := ((slA 1 AV.s) e.implicit)) kr le ?_
        refine AOps.sgy rfl rfl kr rfl ?_
        refine AOps.sc0 (vs := [((slA 1 AV.s) e.implicit)]) (r0 := (AV.b (m_ref1_PathsMay e.implicit))) kr kr (w_ref1_PathsMay W e.implicit) kr le ?_
        refine AOps.sq (x := (AV.b (m_ref1_PathsMay e.implicit))) kr le ?_
        refine AOps.sq (x := (AV.b (m_ref1_PathsMay e.implicit))) kr le ?_
        cases c_4 : (m_ref1_PathsMay e.implicit)
        · refine AOps.sgn rfl rfl kr rfl le ?_
          refine AOps.sgn rfl rfl kr rfl le ?_
          refine AOps.sgn rfl rfl kr rfl le ?_
          refine AOps.sq (x := (AV.b false)) kr le ?_
          refine AOps.sq (x := (AV.b false)) kr le ?_
          refine AOps.sgn rfl rfl kr rfl le ?_
          refine AOps.sgn rfl rfl kr rfl le ?_
          refine AOps.sgn rfl rfl kr rfl le ?_
          refine AOps.sq (x := (AV.b false)) kr le ?_
          refine AOps.sq (x := (AV.b false)) kr le ?_
          refine AOps.sgn rfl rfl kr rfl le ?_
          refine AOps.sgn rfl rfl kr rfl le ?_
          refine AOps.sgn rfl rfl kr rfl le ?_
          refine AOps.sgn rfl rfl kr rfl le ?_
          refine AOps.sgu rfl rfl kr le ?_
          refine AOps.sgu rfl rfl kr le ?_
          refine AOps.sgu rfl rfl kr le ?_
          refine AOps.sgn rfl rfl kr rfl le ?_
          refine AOps.sq (x := (AV.b false)) kr le ?_
          refine AOps.sq (x := (AV.b false)) kr le ?_
          refine AOps.done ?_
          refine Awp.ret ?_
          have hM : m_ref1_EdgeMay e = false := by simp only [m_ref1_EdgeMay, c_1, c_2, c_3, c_4, sbt]
          refine ⟨Or.inr rfl, ?_⟩
          rw [hM]
          exact Ent.cast (x' := (AV.b false)) (y' := (AV.b false)) kr kr (Ent.c kr kr)
        · refine AOps.sgy rfl rfl kr rfl ?_
          refine AOps.sq (x := (AV.loc 0 0 3)) kr le ?_
          refine AOps.sgy rfl rfl kr rfl ?_
          refine AOps.sq (x := ((slA 1 AV.s) e.order)) kr le ?_
          refine AOps.sgy rfl rfl kr rfl ?_
          refine AOps.sc0 (vs := [((slA 1 AV.s) e.order)]) (r0 := (AV.b (m_ref1_PathsMay e.order))) kr kr (w_ref1_PathsMay W e.order) kr le ?_
          refine AOps.sq (x := (AV.b (m_ref1_PathsMay e.order))) kr le ?_
          refine AOps.sq (x := (AV.b (m_ref1_PathsMay e.order))) kr le ?_
          cases c_5 : (m_ref1_PathsMay e.order)
          · refine AOps.sgn rfl rfl kr rfl le ?_
            refine AOps.sgn rfl rfl kr rfl le ?_
            refine AOps.sgn rfl rfl kr rfl le ?_
            refine AOps.sq (x := (AV.b false)) kr le ?_
            refine AOps.sq (x := (AV.b false)) kr le ?_
            refine AOps.sgn rfl rfl kr rfl le ?_
            refine AOps.sgn rfl rfl kr rfl le ?_
            refine AOps.sgn rfl rfl kr rfl le ?_
            refine AOps.sgn rfl rfl kr rfl le ?_
            refine AOps.sgu rfl rfl kr le ?_
            refine AOps.sgu rfl rfl kr le ?_
            refine AOps.sgu rfl rfl kr le ?_
            refine AOps.sgn rfl rfl kr rfl le ?_
            refine AOps.sq (x := (AV.b false)) kr le ?_
            refine AOps.sq (x := (AV.b false)) kr le ?_
            refine AOps.done ?_
            refine Awp.ret ?_
            have hM : m_ref1_EdgeMay e = false := by simp only [m_ref1_EdgeMay, c_1, c_2, c_3, c_4, c_5, sbt]
            refine ⟨Or.inr rfl, ?_⟩
            rw [hM]
            exact Ent.cast (x' := (AV.b false)) (y' := (AV.b false)) kr kr (Ent.c kr kr)
          · refine AOps.sgy rfl rfl kr rfl ?_
            refine AOps.sq (x := (AV.loc 0 0 4)) kr le ?_
            refine AOps.sgy rfl rfl kr rfl ?_
            refine AOps.sq (x := (AV.s e.command)) kr le ?_
            refine AOps.sgy rfl rfl kr rfl ?_
            refine AOps.sc0 (vs := [(AV.s e.command), (AV.i .i64 (1 : Int)), (AV.i .i64 (256 : Int))]) (r0 := (AV.b (m_ref1_Plain e.command (1 : Int) (256 : Int)))) kr kr (w_ref1_Plain W e.command (1 : Int) (256 : Int)) kr le ?_
            refine AOps.sq (x := (AV.b (m_ref1_Plain e.command (1 : Int) (256 : Int)))) kr le ?_
            refine AOps.sq (x := (AV.b (m_ref1_Plain e.command (1 : Int) (256 : Int)))) kr le ?_
            cases c_6 : (m_ref1_Plain e.command (1 : Int) (256 : Int))
            · refine AOps.sgn rfl rfl kr rfl le ?_
              refine AOps.sgn rfl rfl kr rfl le ?_
              refine AOps.sgn rfl rfl kr rfl le ?_
              refine AOps.sgn rfl rfl kr rfl le ?_
              refine AOps.sgu rfl rfl kr le ?_
              refine AOps.sgu rfl rfl kr le ?_
              refine AOps.sgu rfl rfl kr le ?_
              refine AOps.sgn rfl rfl kr rfl le ?_
              refine AOps.sq (x := (AV.b false)) kr le ?_
              refine AOps.sq (x := (AV.b false)) kr le ?_
              refine AOps.done ?_
              refine Awp.ret ?_
              have hM : m_ref1_EdgeMay e = false := by simp only [m_ref1_EdgeMay, c_1, c_2, c_3, c_4, c_5, c_6, sbt]
              refine ⟨Or.inr rfl, ?_⟩
              rw [hM]
              exact Ent.cast (x' := (AV.b false)) (y' := (AV.b false)) kr kr (Ent.c kr kr)
            · refine AOps.sgy rfl rfl kr rfl ?_
              refine AOps.sq (x := (AV.loc 0 0 6)) kr le ?_
              refine AOps.sgy rfl rfl kr rfl ?_
              refine AOps.sq (x := (AV.s e.pool)) kr le ?_
              refine AOps.sgy rfl rfl kr rfl ?_
              refine AOps.sq (x := (AV.b (decide (e.pool = (⟨#[]⟩ : ByteArray))))) kr le ?_
              refine AOps.sgy rfl rfl kr rfl ?_
              refine AOps.sq (x := (AV.b (decide (e.pool = (⟨#[]⟩ : ByteArray))))) kr le ?_
              cases c_7 : decide (e.pool = (⟨#[]⟩ : ByteArray))
              · have k_7 : ¬ (e.pool = (⟨#[]⟩ : ByteArray)) := of_decide_eq_false c_7
                refine AOps.sgy rfl rfl kr rfl ?_
                refine AOps.sq (x := (AV.loc 0 0 6)) kr le ?_
                refine AOps.sgy rfl rfl kr rfl ?_
                refine AOps.sq (x := (AV.s e.pool)) kr le ?_
                refine AOps.sgy rfl rfl kr rfl ?_
                refine AOps.sc0 (vs := [(AV.s e.pool)]) (r0 := (AV.b (m_ref1_NameMay e.pool))) kr kr (w_ref1_NameMay W e.pool) kr le ?_
                refine AOps.sgy rfl rfl kr rfl ?_
                refine AOps.sq (x := (AV.b (m_ref1_NameMay e.pool))) kr le ?_
                refine AOps.sq (x := (AV.b (m_ref1_NameMay e.pool))) kr le ?_
                refine AOps.sq (x := (AV.b (m_ref1_NameMay e.pool))) kr le ?_
                refine AOps.done ?_
                refine Awp.ret ?_
                have hM : m_ref1_EdgeMay e = (m_ref1_NameMay e.pool) := by simp only [m_ref1_EdgeMay, c_1, c_2, c_3, c_4, c_5, c_6, c_7, sbt]
                refine ⟨Or.inr rfl, ?_⟩
                rw [hM]
                exact Ent.cast (x' := (AV.b (m_ref1_NameMay e.pool))) (y' := (AV.b (m_ref1_NameMay e.pool))) kr kr (Ent.c kr kr)
              · have k_7 : (e.pool = (⟨#[]⟩ : ByteArray)) := of_decide_eq_true c_7
                refine AOps.sgn rfl rfl kr rfl le ?_
                refine AOps.sgn rfl rfl kr rfl le ?_
                refine AOps.sgn rfl rfl kr rfl le ?_
                refine AOps.sgy rfl rfl kr rfl ?_
                refine AOps.sq (x := (AV.b true)) kr le ?_
                refine AOps.sq (x := (AV.b true)) kr le ?_
                refine AOps.sq (x := (AV.b true)) kr le ?_
                refine AOps.done ?_
                refine Awp.ret ?_
                have hM : m_ref1_EdgeMay e = true := by simp only [m_ref1_EdgeMay, c_1, c_2, c_3, c_4, c_5, c_6, c_7, sbt]
                refine ⟨Or.inr rfl, ?_⟩
                rw [hM]
                exact Ent.cast (x' := (AV.b true)) (y' := (AV.b true)) kr kr (Ent.c kr kr)

theorem w_ref1_GraphMay (W : World) (g : DGraph) : PureAt Go.Proofs.Tryz.prog W 21 [(DGraph.av g)] (AV.b (m_ref1_GraphMay g)) [] := by
  refine pure_of_bodyC (fn := Go.Proofs.Tryz.f21) Go.Proofs.Tryz.func21 rfl (en21 W) (ts := [2]) rfl le ?_
  refine Awp.seq ?_
  refine Awp.region tabS_ok ?_
  refine AOps.sn (x := (AV.loc 0 0 0)) (h' := ⟨1, [(0, some ⟨26, 3, [(DGraph.av g)]⟩)]⟩) kr le ?_
  refine AOps.sq (x := (AV.b false)) kr le ?_
  refine AOps.done ?_
  refine Awp.seq ?_
  refine Awp.seq ?_
  refine Awp.region tabS_ok ?_
  refine AOps.sq (x := (AV.i .i64 (0 : Int))) kr le ?_
  refine AOps.done ?_
  refine Awp.block ?_
  refine Awp.lim 0 (x := (DGraph.av g)) kr fun hlm1 => ?_
  have hB1 : g.pools.length ≤ 281474976710656 := lim_slA (DGraph.lim_pools hlm1)
  obtain ⟨R1, hR1⟩ : ∃ R, m_ref1_GraphMay_L1 g g.pools 0 = R := ⟨_, rfl⟩
  refine Awp.loopT (fun (i : Nat) => [(1, (AV.loc 0 0 0)), (3, (AV.i .i64 ((i : Nat) : Int)))]) (fun (i : Nat) => ⟨1, [(0, some ⟨26, 3, [(DGraph.av g)]⟩)]⟩) (fun (i : Nat) => i ≤ g.pools.length ∧ m_ref1_GraphMay_L1 g (g.pools.drop i) i = R1) (fun (i : Nat) => g.pools.length - i) 0 ?_ ?_ ?_
  · exact ⟨[0], ⟨by decide, rfl, (FitsObjs.cons kr FitsObjs.nil), (EntE.cons (Ent.f kr) (EntE.cons (Ent.c kr kr) EntE.nil))⟩, keep0⟩
  · exact ⟨od, hR1⟩
  · rintro i ⟨hi1, hE1⟩
    try dsimp only
    refine Awp.seq ?_
    refine Awp.seq ?_
    refine Awp.region tabS_ok ?_
    refine AOps.sq (x := (AV.i .i64 ((i : Nat) : Int))) kr le ?_
    refine AOps.sq (x := (AV.loc 0 0 1)) kr le ?_
    refine AOps.sq (x := ((slA 2 DPool.av) g.pools)) kr le ?_
    refine AOps.sq (x := (AV.i .i64 ((g.pools.length : Nat) : Int))) (g_len (k := 2) (nl := false) (e := 81) (A := DPool.av) (xs := g.pools) kr kr) le ?_
    refine AOps.sq (x := (AV.b (decide (((i : Nat) : Int) < ((g.pools.length : Nat) : Int))))) kr le ?_
    refine AOps.done ?_
    rcases Nat.lt_or_ge i g.pools.length with hl1 | hl1
    · have hc1 : decide (((i : Nat) : Int) < ((g.pools.length : Nat) : Int)) = true := decide_eq_true (by omega)
      refine Awp.cond (t := true) (by rw [← hc1] <;> kernel_rfl) (Awp.skip ?_)
      obtain ⟨x1, hx1⟩ : ∃ x, g.pools[i]? = some x := ⟨_, List.getElem?_eq_getElem hl1⟩
      rw [drop_at hx1, m_ref1_GraphMay_L1.eq_2] at hE1
      refine Awp.seq ?_
      refine Awp.block ?_
      refine Awp.seq ?_
      refine Awp.drawn tabS_ok mixed 37 kr le ?_
      refine AOpsD.sq (x := (AV.loc 0 0 1)) kr le ?_
      refine AOpsD.sq (x := ((slA 2 DPool.av) g.pools)) kr le ?_
      refine AOpsD.sq (x := (AV.i .i64 ((i : Nat) : Int))) kr le ?_
      refine AOpsD.sq (x := (AV.pt (DPool.av x1).cells)) (g_idx (k := 2) (nl := false) (e := 81) (kk := .i64) (A := DPool.av) (xs := g.pools) (i := i) kr kr kr ⟨by kernel_rfl, by decide⟩ hx1) le ?_
      refine AOpsD.sq (x := (AV.pt ((DPool.av x1).cells.drop 0))) kr le ?_
      refine AOpsD.sq (x := (AV.s x1.name)) kr le ?_
      refine AOpsD.sc0 (vs := [(AV.s x1.name)]) (r0 := (AV.b (m_ref1_NameMay x1.name))) kr kr (w_ref1_NameMay W x1.name) kr le ?_
      refine AOpsD.sq (x := (AV.b (!(m_ref1_NameMay x1.name)))) kr le ?_
      refine AOpsD.sq (x := (AV.b (!(m_ref1_NameMay x1.name)))) kr le ?_
      cases c_1 : (!(m_ref1_NameMay x1.name))
      · have q_1 := ref1_NameMay_sz c_1
        refine AOpsD.sgy rfl rfl kr rfl ?_
        refine AOpsD.sq (x := (AV.loc 0 0 1)) kr le ?_
        refine AOpsD.sgy rfl rfl kr rfl ?_
        refine AOpsD.sq (x := ((slA 2 DPool.av) g.pools)) kr le ?_
        refine AOpsD.sgy rfl rfl kr rfl ?_
        refine AOpsD.sq (x := (AV.i .i64 ((i : Nat) : Int))) kr le ?_
        refine AOpsD.sgy rfl rfl kr rfl ?_
        refine AOpsD.sq (x := (AV.pt (DPool.av x1).cells)) (g_idx (k := 2) (nl := false) (e := 81) (kk := .i64) (A := DPool.av) (xs := g.pools) (i := i) kr kr kr ⟨by kernel_rfl, by decide⟩ hx1) le ?_
        refine AOpsD.sgy rfl rfl kr rfl ?_
        refine AOpsD.sq (x := (AV.pt ((DPool.av x1).cells.drop 1))) kr le ?_
        refine AOpsD.sgy rfl rfl kr rfl ?_
        refine AOpsD.sq (x := (AV.i .i64 x1.depth)) kr le ?_
        refine AOpsD.sgy rfl rfl kr rfl ?_
        refine AOpsD.sq (x := (AV.b (decide (x1.depth < (1 : Int))))) kr le ?_
        refine AOpsD.sq (x := (AV.b (decide (x1.depth < (1 : Int))))) kr le ?_
        refine AOpsD.sq (x := (AV.b (decide (x1.depth < (1 : Int))))) kr le ?_
        cases c_2 : decide (x1.depth < (1 : Int))
        · have k_2 : ¬ (x1.depth < (1 : Int)) := of_decide_eq_false c_2
          refine AOpsD.sgy rfl rfl kr rfl ?_
          refine AOpsD.sq (x := (AV.loc 0 0 1)) kr le ?_
          refine AOpsD.sgy rfl rfl kr rfl ?_
          refine AOpsD.sq (x := ((slA 2 DPool.av) g.pools)) kr le ?_
          refine AOpsD.sgy rfl rfl kr rfl ?_
          refine AOpsD.sq (x := (AV.i .i64 ((i : Nat) : Int))) kr le ?_
          refine AOpsD.sgy rfl rfl kr rfl ?_
          refine AOpsD.sq (x := (AV.pt (DPool.av x1).cells)) (g_idx (k := 2) (nl := false) (e := 81) (kk := .i64) (A := DPool.av) (xs := g.pools) (i := i) kr kr kr ⟨by kernel_rfl, by decide⟩ hx1) le ?_
          refine AOpsD.sgy rfl rfl kr rfl ?_
          refine AOpsD.sq (x := (AV.pt ((DPool.av x1).cells.drop 1))) kr le ?_
          refine AOpsD.sgy rfl rfl kr rfl ?_
          refine AOpsD.sq (x := (AV.i .i64 x1.depth)) kr le ?_
          refine AOpsD.sgy rfl rfl kr rfl ?_
          refine AOpsD.sq (x := (AV.b (decide ((8 : Int) < x1.depth)))) kr le ?_
          refine AOpsD.sq (x := (AV.b (decide ((8 : Int) < x1.depth)))) kr le ?_
          refine AOpsD.sq (x := (AV.b (decide ((8 : Int) < x1.depth)))) kr le ?_
          cases c_3 : decide ((8 : Int) < x1.depth)
          · have k_3 : ¬ ((8 : Int) < x1.depth) := of_decide_eq_false c_3
            refine AOpsD.sgy rfl rfl kr rfl ?_
            refine AOpsD.sq (x := (AV.loc 0 0 1)) kr le ?_
            refine AOpsD.sgy rfl rfl kr rfl ?_
            refine AOpsD.sq (x := ((slA 2 DPool.av) g.pools)) kr le ?_
            refine AOpsD.sgy rfl rfl kr rfl ?_
            refine AOpsD.sq (x := (AV.loc 0 0 1)) kr le ?_
            refine AOpsD.sgy rfl rfl kr rfl ?_
            refine AOpsD.sq (x := ((slA 2 DPool.av) g.pools)) kr le ?_
            refine AOpsD.sgy rfl rfl kr rfl ?_
            refine AOpsD.sq (x := (AV.i .i64 ((i : Nat) : Int))) kr le ?_
            refine AOpsD.sgy rfl rfl kr rfl ?_
            refine AOpsD.sq (x := (AV.pt (DPool.av x1).cells)) (g_idx (k := 2) (nl := false) (e := 81) (kk := .i64) (A := DPool.av) (xs := g.pools) (i := i) kr kr kr ⟨by kernel_rfl, by decide⟩ hx1) le ?_
            refine AOpsD.sgy rfl rfl kr rfl ?_
            refine AOpsD.sq (x := (AV.pt ((DPool.av x1).cells.drop 0))) kr le ?_
            refine AOpsD.sgy rfl rfl kr rfl ?_
            refine AOpsD.sq (x := (AV.s x1.name)) kr le ?_
            refine AOpsD.sgy rfl rfl kr rfl ?_
            refine AOpsD.sc0 (vs := [((slA 2 DPool.av) g.pools), (AV.s x1.name)]) (r0 := (AV.i .i64 (m_ref1_poolAt g.pools x1.name))) kr kr (w_ref1_poolAt W g.pools x1.name) kr le ?_
            refine AOpsD.sgy rfl rfl kr rfl ?_
            refine AOpsD.sq (x := (AV.i .i64 ((i : Nat) : Int))) kr le ?_
            refine AOpsD.sgy rfl rfl kr rfl ?_
            refine AOpsD.sq (x := (AV.b (!decide ((m_ref1_poolAt g.pools x1.name) = ((i : Nat) : Int))))) kr le ?_
            refine AOpsD.sq (x := (AV.b (!decide ((m_ref1_poolAt g.pools x1.name) = ((i : Nat) : Int))))) kr le ?_
            refine AOpsD.fin ?_
            cases c_4 : (!decide ((m_ref1_poolAt g.pools x1.name) = ((i : Nat) : Int)))
            · have k_4 : ((m_ref1_poolAt g.pools x1.name) = ((i : Nat) : Int)) := of_decide_eq_true (by simpa using c_4)
              refine Awp.cond (t := false) kr ?_
              refine Awp.skip ?_
              refine Awp.region tabS_ok ?_
              refine AOps.sq (x := (AV.i .i64 ((i : Nat) : Int))) kr le ?_
              refine AOps.sq (x := (AV.i .i64 ((i + 1 : Nat) : Int))) (g_addN (i := i) (m := 1) kr kr sd) le ?_
              refine AOps.sq (x := (AV.i .i64 ((i + 1 : Nat) : Int))) kr le ?_
              refine AOps.done ?_
              try simp only [c_1, c_2, c_3, c_4, sbt] at hE1
              refine ⟨i + 1, od, ⟨od, hE1⟩, ?_⟩
              exact ⟨[0], ⟨by decide, rfl, (FitsObjs.cons kr FitsObjs.nil), (EntE.cons (Ent.f kr) (EntE.cons (Ent.c kr kr) EntE.nil))⟩, keep0⟩
            · have k_4 : ¬ ((m_ref1_poolAt g.pools x1.name) = ((i : Nat) : Int)) := of_decide_eq_false (by simpa using c_4)
              refine Awp.cond (t := true) kr ?_
              refine Awp.seq ?_
              refine Awp.region tabS_ok ?_
              refine AOps.sq (x := (AV.b false)) kr le ?_
              refine AOps.done ?_
              refine Awp.ret ?_
              try simp only [c_1, c_2, c_3, c_4, sbt] at hE1
              subst hE1
              have hM : m_ref1_GraphMay g = false := by simp only [m_ref1_GraphMay, hR1, sbt]
              refine ⟨Or.inr rfl, ?_⟩
              rw [hM]
              exact Ent.cast (x' := (AV.b false)) (y' := (AV.b false)) kr kr (Ent.c kr kr)
          · have k_3 : ((8 : Int) < x1.depth) := of_decide_eq_true c_3
            refine AOpsD.sgn rfl rfl kr rfl le ?_
            refine AOpsD.sgn rfl rfl kr rfl le ?_
            refine AOpsD.sgn rfl rfl kr rfl le ?_
            refine AOpsD.sgn rfl rfl kr rfl le ?_
            refine AOpsD.sgn rfl rfl kr rfl le ?_
            refine AOpsD.sgn rfl rfl kr rfl le ?_
            refine AOpsD.sgn rfl rfl kr rfl le ?_
            refine AOpsD.sgn rfl rfl kr rfl le ?_
            refine AOpsD.sgn rfl rfl kr rfl le ?_
            refine AOpsD.sgn rfl rfl kr rfl le ?_
            refine AOpsD.sgn rfl rfl kr rfl le ?_
            refine AOpsD.sq (x := (AV.b true)) kr le ?_
            refine AOpsD.fin ?_
            refine Awp.cond (t := true) kr ?_
            refine Awp.seq ?_
            refine Awp.region tabS_ok ?_
            refine AOps.sq (x := (AV.b false)) kr le ?_
            refine AOps.done ?_
            refine Awp.ret ?_
            try simp only [c_1, c_2, c_3, sbt] at hE1
            subst hE1
            have hM : m_ref1_GraphMay g = false := by simp only [m_ref1_GraphMay, hR1, sbt]
            refine ⟨Or.inr rfl, ?_⟩
            rw [hM]
            exact Ent.cast (x' := (AV.b false)) (y' := (AV.b false)) kr kr (Ent.c kr kr)
        · have k_2 : (x1.depth < (1 : Int)) := of_decide_eq_true c_2
          refine AOpsD.sgn rfl rfl kr rfl le ?_
          refine AOpsD.sgn rfl rfl kr rfl le ?_
          refine AOpsD.sgn rfl rfl kr rfl le ?_
          refine AOpsD.sgn rfl rfl kr rfl le ?_
          refine AOpsD.sgn rfl rfl kr rfl le ?_
          refine AOpsD.sgn rfl rfl kr rfl le ?_
          refine AOpsD.sgn rfl rfl kr rfl le ?_
          refine AOpsD.sq (x := (AV.b true)) kr le ?_
          refine AOpsD.sq (x := (AV.b true)) kr le ?_
          refine AOpsD.sgn rfl rfl kr rfl le ?_
          refine AOpsD.sgn rfl rfl kr rfl le ?_
          refine AOpsD.sgn rfl rfl kr rfl le ?_
          refine AOpsD.sgn rfl rfl kr rfl le ?_
          refine AOpsD.sgn rfl rfl kr rfl le ?_
          refine AOpsD.sgn rfl rfl kr rfl le ?_
          refine AOpsD.sgn rfl rfl kr rfl le ?_
          refine AOpsD.sgn rfl rfl kr rfl le ?_
          refine AOpsD.sgn rfl rfl kr rfl le ?_
          refine AOpsD.sgn rfl rfl kr rfl le ?_
          refine AOpsD.sgn rfl rfl kr rfl le ?_
          refine AOpsD.sq (x := (AV.b true)) kr le ?_
          refine AOpsD.fin ?_
          refine Awp.cond (t := true) kr ?_
          refine Awp.seq ?_
          refine Awp.region tabS_ok ?_
          refine AOps.sq (x := (AV.b false)) kr le ?_
          refine AOps.done ?_
          refine Awp.ret ?_
          try simp only [c_1, c_2, sbt] at hE1
          subst hE1
          have hM : m_ref1_GraphMay g = false := by simp only [m_ref1_GraphMay, hR1, sbt]
          refine ⟨Or.inr rfl, ?_⟩
          rw [hM]
          exact Ent.cast (x' := (AV.b false)) (y' := (AV.b false)) kr kr (Ent.c kr kr)
      · refine AOpsD.sgn rfl rfl kr rfl le ?_
        refine AOpsD.sgn rfl rfl kr rfl le ?_
        refine AOpsD.sgn rfl rfl kr rfl le ?_
        refine AOpsD.sgn rfl rfl kr rfl le ?_
        refine AOpsD.sgn rfl rfl kr rfl le ?_
        refine AOpsD.sgn rfl rfl kr rfl le ?_
        refine AOpsD.sgn rfl rfl kr rfl le ?_
        refine AOpsD.sq (x := (AV.b true)) kr le ?_
        refine AOpsD.sq (x := (AV.b true)) kr le ?_
        refine AOpsD.sgn rfl rfl kr rfl le ?_
        refine AOpsD.sgn rfl rfl kr rfl le ?_
        refine AOpsD.sgn rfl rfl kr rfl le ?_
        refine AOpsD.sgn rfl rfl kr rfl le ?_
        refine AOpsD.sgn rfl rfl kr rfl le ?_
        refine AOpsD.sgn rfl rfl kr rfl le ?_
        refine AOpsD.sgn rfl rfl kr rfl le ?_
        refine AOpsD.sq (x := (AV.b true)) kr le ?_
        refine AOpsD.sq (x := (AV.b true)) kr le ?_
        refine AOpsD.sgn rfl rfl kr rfl le ?_
        refine AOpsD.sgn rfl rfl kr rfl le ?_
        refine AOpsD.sgn rfl rfl kr rfl le ?_
        refine AOpsD.sgn rfl rfl kr rfl le ?_
        refine AOpsD.sgn rfl rfl kr rfl le ?_
        refine AOpsD.sgn rfl rfl kr rfl le ?_
        refine AOpsD.sgn rfl rfl kr rfl le ?_
        refine AOpsD.sgn rfl rfl kr rfl le ?_
        refine AOpsD.sgn rfl rfl kr rfl le ?_
        refine AOpsD.sgn rfl rfl kr rfl le ?_
        refine AOpsD.sgn rfl rfl kr rfl le ?_
        refine AOpsD.sq (x := (AV.b true)) kr le ?_
        refine AOpsD.fin ?_
        refine Awp.cond (t := true) kr ?_
        refine Awp.seq ?_
        refine Awp.region tabS_ok ?_
        refine AOps.sq (x := (AV.b false)) kr le ?_
        refine AOps.done ?_
        refine Awp.ret ?_
        try simp only [c_1, sbt] at hE1
        subst hE1
        have hM : m_ref1_GraphMay g = false := by simp only [m_ref1_GraphMay, hR1, sbt]
        refine ⟨Or.inr rfl, ?_⟩
        rw [hM]
        exact Ent.cast (x' := (AV.b false)) (y' := (AV.b false)) kr kr (Ent.c kr kr)
    · have hc1 : decide (((i : Nat) : Int) < ((g.pools.length : Nat) : Int)) = false := decide_eq_false (by omega)
      refine Awp.cond (t := false) (by rw [← hc1] <;> kernel_rfl) (Awp.exit ?_)
      rw [List.drop_eq_nil_of_le (hl1), m_ref1_GraphMay_L1.eq_1] at hE1
      subst hE1
      refine Awp.seq ?_
      refine Awp.seq ?_
      refine Awp.region tabS_ok ?_
      refine AOps.sq (x := (AV.i .i64 (0 : Int))) kr le ?_
      refine AOps.done ?_
      refine Awp.block ?_
      refine Awp.limLoc 1 0 (id := 0) (j := 0) (o := 0) (ob := ⟨26, 3, [(DGraph.av g)]⟩) (x := (DGraph.av g)) kr rfl rfl fun hlm2 => ?_
      have hB2 : g.edges.length ≤ 281474976710656 := lim_slA (DGraph.lim_edges (DGraph.lim_pt hlm2))
      obtain ⟨R2, hR2⟩ : ∃ R, m_ref1_GraphMay_L2 g g.edges 0 = R := ⟨_, rfl⟩
      refine Awp.loopT (fun (i2 : Nat) => [(1, (AV.loc 0 0 0)), (4, (AV.i .i64 ((i2 : Nat) : Int)))]) (fun (i2 : Nat) => ⟨1, [(0, some ⟨26, 3, [(DGraph.av g)]⟩)]⟩) (fun (i2 : Nat) => i2 ≤ g.edges.length ∧ m_ref1_GraphMay_L2 g (g.edges.drop i2) i2 = R2) (fun (i2 : Nat) => g.edges.length - i2) 0 ?_ ?_ ?_
      · exact ⟨[0], ⟨by decide, rfl, (FitsObjs.cons kr FitsObjs.nil), (EntE.cons (Ent.f kr) (EntE.cons (Ent.c kr kr) EntE.nil))⟩, keep0⟩
      · exact ⟨od, hR2⟩
      · rintro i2 ⟨hi2, hE2⟩
        try dsimp only
        refine Awp.seq ?_
        refine Awp.seq ?_
        refine Awp.region tabS_ok ?_
        refine AOps.sq (x := (AV.i .i64 ((i2 : Nat) : Int))) kr le ?_
        refine AOps.sq (x := (AV.loc 0 0 0)) kr le ?_
        refine AOps.sq (x := ((slA 7 DEdge.av) g.edges)) kr le ?_
        refine AOps.sq (x := (AV.i .i64 ((g.edges.length : Nat) : Int))) (g_len (k := 7) (nl := false) (e := 76) (A := DEdge.av) (xs := g.edges) kr kr) le ?_
        refine AOps.sq (x := (AV.b (decide (((i2 : Nat) : Int) < ((g.edges.length : Nat) : Int))))) kr le ?_
        refine AOps.done ?_
        rcases Nat.lt_or_ge i2 g.edges.length with hl2 | hl2
        · have hc2 : decide (((i2 : Nat) : Int) < ((g.edges.length : Nat) : Int)) = true := decide_eq_true (by omega)
          refine Awp.cond (t := true) (by rw [← hc2] <;> kernel_rfl) (Awp.skip ?_)
          obtain ⟨x2, hx2⟩ : ∃ x, g.edges[i2]? = some x := ⟨_, List.getElem?_eq_getElem hl2⟩
          rw [drop_at hx2, m_ref1_GraphMay_L2.eq_2] at hE2
          refine Awp.seq ?_
          refine Awp.block ?_
          refine Awp.seq ?_
          refine Awp.drawn tabS_ok mixed 24 kr le ?_
          refine AOpsD.sq (x := (AV.loc 0 0 0)) kr le ?_
          refine AOpsD.sq (x := ((slA 7 DEdge.av) g.edges)) kr le ?_
          refine AOpsD.sq (x := (AV.i .i64 ((i2 : Nat) : Int))) kr le ?_
          refine AOpsD.sq (x := (AV.pt (DEdge.av x2).cells)) (g_idx (k := 7) (nl := false) (e := 76) (kk := .i64) (A := DEdge.av) (xs := g.edges) (i := i2) kr kr kr ⟨by kernel_rfl, by decide⟩ hx2) le ?_
          refine AOpsD.sq (x := (DEdge.av x2)) kr le ?_
          refine AOpsD.sc0 (vs := [(DEdge.av x2)]) (r0 := (AV.b (m_ref1_EdgeMay x2))) kr kr (w_ref1_EdgeMay W x2) kr le ?_
          refine AOpsD.sq (x := (AV.b (!(m_ref1_EdgeMay x2)))) kr le ?_
          refine AOpsD.sq (x := (AV.b (!(m_ref1_EdgeMay x2)))) kr le ?_
          cases c_5 : (!(m_ref1_EdgeMay x2))
          · refine AOpsD.sgy rfl rfl kr rfl ?_
            refine AOpsD.sq (x := (AV.loc 0 0 0)) kr le ?_
            refine AOpsD.sgy rfl rfl kr rfl ?_
            refine AOpsD.sq (x := ((slA 7 DEdge.av) g.edges)) kr le ?_
            refine AOpsD.sgy rfl rfl kr rfl ?_
            refine AOpsD.sq (x := (AV.i .i64 ((i2 : Nat) : Int))) kr le ?_
            refine AOpsD.sgy rfl rfl kr rfl ?_
            refine AOpsD.sq (x := (AV.pt (DEdge.av x2).cells)) (g_idx (k := 7) (nl := false) (e := 76) (kk := .i64) (A := DEdge.av) (xs := g.edges) (i := i2) kr kr kr ⟨by kernel_rfl, by decide⟩ hx2) le ?_
            refine AOpsD.sgy rfl rfl kr rfl ?_
            refine AOpsD.sq (x := (AV.pt ((DEdge.av x2).cells.drop 6))) kr le ?_
            refine AOpsD.sgy rfl rfl kr rfl ?_
            refine AOpsD.sq (x := (AV.s x2.pool)) kr le ?_
            refine AOpsD.sgy rfl rfl kr rfl ?_
            refine AOpsD.sq (x := (AV.b (!decide (x2.pool = (⟨#[]⟩ : ByteArray))))) kr le ?_
            refine AOpsD.sgy rfl rfl kr rfl ?_
            refine AOpsD.sq (x := (AV.b (!decide (x2.pool = (⟨#[]⟩ : ByteArray))))) kr le ?_
            cases c_6 : (!decide (x2.pool = (⟨#[]⟩ : ByteArray)))
            · have k_6 : (x2.pool = (⟨#[]⟩ : ByteArray)) := of_decide_eq_true (by simpa using c_6)
              refine AOpsD.sgn rfl rfl kr rfl le ?_
              refine AOpsD.sgn rfl rfl kr rfl le ?_
              refine AOpsD.sgn rfl rfl kr rfl le ?_
              refine AOpsD.sgn rfl rfl kr rfl le ?_
              refine AOpsD.sgn rfl rfl kr rfl le ?_
              refine AOpsD.sgn rfl rfl kr rfl le ?_
              refine AOpsD.sgn rfl rfl kr rfl le ?_
              refine AOpsD.sgn rfl rfl kr rfl le ?_
              refine AOpsD.sgn rfl rfl kr rfl le ?_
              refine AOpsD.sgn rfl rfl kr rfl le ?_
              refine AOpsD.sgy rfl rfl kr rfl ?_
              refine AOpsD.sq (x := (AV.b false)) kr le ?_
              refine AOpsD.sq (x := (AV.b false)) kr le ?_
              refine AOpsD.fin ?_
              refine Awp.cond (t := false) kr ?_
              refine Awp.skip ?_
              refine Awp.region tabS_ok ?_
              refine AOps.sq (x := (AV.i .i64 ((i2 : Nat) : Int))) kr le ?_
              refine AOps.sq (x := (AV.i .i64 ((i2 + 1 : Nat) : Int))) (g_addN (i := i2) (m := 1) kr kr sd) le ?_
              refine AOps.sq (x := (AV.i .i64 ((i2 + 1 : Nat) : Int))) kr le ?_
              refine AOps.done ?_
              try simp only [c_5, c_6, sbt] at hE2
              refine ⟨i2 + 1, od, ⟨od, hE2⟩, ?_⟩
              exact ⟨[0], ⟨by decide, rfl, (FitsObjs.cons kr FitsObjs.nil), (EntE.cons (Ent.f kr) (EntE.cons (Ent.c kr kr) EntE.nil))⟩, keep0⟩
            · have k_6 : ¬ (x2.pool = (⟨#[]⟩ : ByteArray)) := of_decide_eq_false (by simpa using c_6)
              refine AOpsD.sgy rfl rfl kr rfl ?_
              refine AOpsD.sq (x := (AV.loc 0 0 1)) kr le ?_
              refine AOpsD.sgy rfl rfl kr rfl ?_
              refine AOpsD.sq (x := ((slA 2 DPool.av) g.pools)) kr le ?_
              refine AOpsD.sgy rfl rfl kr rfl ?_
              refine AOpsD.sq (x := (AV.loc 0 0 0)) kr le ?_
              refine AOpsD.sgy rfl rfl kr rfl ?_
              refine AOpsD.sq (x := ((slA 7 DEdge.av) g.edges)) kr le ?_
              refine AOpsD.sgy rfl rfl kr rfl ?_
              refine AOpsD.sq (x := (AV.i .i64 ((i2 : Nat) : Int))) kr le ?_
              refine AOpsD.sgy rfl rfl kr rfl ?_
              refine AOpsD.sq (x := (AV.pt (DEdge.av x2).cells)) (g_idx (k := 7) (nl := false) (e := 76) (kk := .i64) (A := DEdge.av) (xs := g.edges) (i := i2) kr kr kr ⟨by kernel_rfl, by decide⟩ hx2) le ?_
              refine AOpsD.sgy rfl rfl kr rfl ?_
              refine AOpsD.sq (x := (AV.pt ((DEdge.av x2).cells.drop 6))) kr le ?_
              refine AOpsD.sgy rfl rfl kr rfl ?_
              refine AOpsD.sq (x := (AV.s x2.pool)) kr le ?_
              refine AOpsD.sgy rfl rfl kr rfl ?_
              refine AOpsD.sc0 (vs := [((slA 2 DPool.av) g.pools), (AV.s x2.pool)]) (r0 := (AV.i .i64 (m_ref1_poolAt g.pools x2.pool))) kr kr (w_ref1_poolAt W g.pools x2.pool) kr le ?_
              refine AOpsD.sgy rfl rfl kr rfl ?_
              refine AOpsD.sq (x := (AV.b (decide ((m_ref1_poolAt g.pools x2.pool) < (0 : Int))))) kr le ?_
              refine AOpsD.sgy rfl rfl kr rfl ?_
              refine AOpsD.sq (x := (AV.b (decide ((m_ref1_poolAt g.pools x2.pool) < (0 : Int))))) kr le ?_
              refine AOpsD.sq (x := (AV.b (decide ((m_ref1_poolAt g.pools x2.pool) < (0 : Int))))) kr le ?_
              refine AOpsD.fin ?_
              cases c_7 : decide ((m_ref1_poolAt g.pools x2.pool) < (0 : Int))
              · have k_7 : ¬ ((m_ref1_poolAt g.pools x2.pool) < (0 : Int)) := of_decide_eq_false c_7
                refine Awp.cond (t := false) kr ?_
                refine Awp.skip ?_
                refine Awp.region tabS_ok ?_
                refine AOps.sq (x := (AV.i .i64 ((i2 : Nat) : Int))) kr le ?_
                refine AOps.sq (x := (AV.i .i64 ((i2 + 1 : Nat) : Int))) (g_addN (i := i2) (m := 1) kr kr sd) le ?_
                refine AOps.sq (x := (AV.i .i64 ((i2 + 1 : Nat) : Int))) kr le ?_
                refine AOps.done ?_
                try simp only [c_5, c_6, c_7, sbt] at hE2
                refine ⟨i2 + 1, od, ⟨od, hE2⟩, ?_⟩
                exact ⟨[0], ⟨by decide, rfl, (FitsObjs.cons kr FitsObjs.nil), (EntE.cons (Ent.f kr) (EntE.cons (Ent.c kr kr) EntE.nil))⟩, keep0⟩
              · have k_7 : ((m_ref1_poolAt g.pools x2.pool) < (0 : Int)) := of_decide_eq_true c_7
                refine Awp.cond (t := true) kr ?_
                refine Awp.seq ?_
                refine Awp.region tabS_ok ?_
                refine AOps.sq (x := (AV.b false)) kr le ?_
                refine AOps.done ?_
                refine Awp.ret ?_
                try simp only [c_5, c_6, c_7, sbt] at hE2
                subst hE2
                have hM : m_ref1_GraphMay g = false := by simp only [m_ref1_GraphMay, hR1, hR2, sbt]
                refine ⟨Or.inr rfl, ?_⟩
                rw [hM]
                exact Ent.cast (x' := (AV.b false)) (y' := (AV.b false)) kr kr (Ent.c kr kr)
          · refine AOpsD.sgn rfl rfl kr rfl le ?_
            refine AOpsD.sgn rfl rfl kr rfl le ?_
            refine AOpsD.sgn rfl rfl kr rfl le ?_
            refine AOpsD.sgn rfl rfl kr rfl le ?_
            refine AOpsD.sgn rfl rfl kr rfl le ?_
            refine AOpsD.sgn rfl rfl kr rfl le ?_
            refine AOpsD.sgn rfl rfl kr rfl le ?_
            refine AOpsD.sgn rfl rfl kr rfl le ?_
            refine AOpsD.sgu rfl rfl kr le ?_
            refine AOpsD.sgu rfl rfl kr le ?_
            refine AOpsD.sgu rfl rfl kr le ?_
            refine AOpsD.sgu rfl rfl kr le ?_
            refine AOpsD.sgu rfl rfl kr le ?_
            refine AOpsD.sgu rfl rfl kr le ?_
            refine AOpsD.sgu rfl rfl kr le ?_
            refine AOpsD.sgu rfl rfl kr le ?_
            refine AOpsD.sgu rfl rfl kr le ?_
            refine AOpsD.sgu rfl rfl kr le ?_
            refine AOpsD.sgn rfl rfl kr rfl le ?_
            refine AOpsD.sq (x := (AV.b true)) kr le ?_
            refine AOpsD.fin ?_
            refine Awp.cond (t := true) kr ?_
            refine Awp.seq ?_
            refine Awp.region tabS_ok ?_
            refine AOps.sq (x := (AV.b false)) kr le ?_
            refine AOps.done ?_
            refine Awp.ret ?_
            try simp only [c_5, sbt] at hE2
            subst hE2
            have hM : m_ref1_GraphMay g = false := by simp only [m_ref1_GraphMay, hR1, hR2, sbt]
            refine ⟨Or.inr rfl, ?_⟩
            rw [hM]
            exact Ent.cast (x' := (AV.b false)) (y' := (AV.b false)) kr kr (Ent.c kr kr)
        · have hc2 : decide (((i2 : Nat) : Int) < ((g.edges.length : Nat) : Int)) = false := decide_eq_false (by omega)
          refine Awp.cond (t := false) (by rw [← hc2] <;> kernel_rfl) (Awp.exit ?_)
          rw [List.drop_eq_nil_of_le (hl2), m_ref1_GraphMay_L2.eq_1] at hE2
          subst hE2
          refine Awp.seq ?_
          refine Awp.region tabS_ok ?_
          refine AOps.sq (x := (AV.loc 0 0 1)) kr le ?_
          refine AOps.sq (x := ((slA 2 DPool.av) g.pools)) kr le ?_
          refine AOps.sq (x := (AV.i .i64 ((g.pools.length : Nat) : Int))) (g_len (k := 2) (nl := false) (e := 81) (A := DPool.av) (xs := g.pools) kr kr) le ?_
          refine AOps.sq (x := (AV.b (decide (((g.pools.length : Nat) : Int) ≤ (4 : Int))))) kr le ?_
          refine AOps.sq (x := (AV.b (decide (((g.pools.length : Nat) : Int) ≤ (4 : Int))))) kr le ?_
          cases c_8 : decide (((g.pools.length : Nat) : Int) ≤ (4 : Int))
          · have k_8 : ¬ (((g.pools.length : Nat) : Int) ≤ (4 : Int)) := of_decide_eq_false c_8
            refine AOps.sgn rfl rfl kr rfl le ?_
            refine AOps.sgn rfl rfl kr rfl le ?_
            refine AOps.sgn rfl rfl kr rfl le ?_
            refine AOps.sgn rfl rfl kr rfl le ?_
            refine AOps.sq (x := (AV.b false)) kr le ?_
            refine AOps.sq (x := (AV.b false)) kr le ?_
            refine AOps.sgn rfl rfl kr rfl le ?_
            refine AOps.sgn rfl rfl kr rfl le ?_
            refine AOps.sgn rfl rfl kr rfl le ?_
            refine AOps.sq (x := (AV.b false)) kr le ?_
            refine AOps.sq (x := (AV.b false)) kr le ?_
            refine AOps.done ?_
            refine Awp.ret ?_
            have hM : m_ref1_GraphMay g = false := by simp only [m_ref1_GraphMay, hR1, hR2, c_8, sbt]
            refine ⟨Or.inr rfl, ?_⟩
            rw [hM]
            exact Ent.cast (x' := (AV.b false)) (y' := (AV.b false)) kr kr (Ent.c kr kr)
          · have k_8 : (((g.pools.length : Nat) : Int) ≤ (4 : Int)) := of_decide_eq_true c_8
            refine AOps.sgy rfl rfl kr rfl ?_
            refine AOps.sq (x := (AV.loc 0 0 0)) kr le ?_
            refine AOps.sgy rfl rfl kr rfl ?_
            refine AOps.sq (x := ((slA 7 DEdge.av) g.edges)) kr le ?_
            refine AOps.sgy rfl rfl kr rfl ?_
            refine AOps.sq (x := (AV.i .i64 ((g.edges.length : Nat) : Int))) (g_len (k := 7) (nl := false) (e := 76) (A := DEdge.av) (xs := g.edges) kr kr) le ?_
            refine AOps.sgy rfl rfl kr rfl ?_
            refine AOps.sq (x := (AV.b (decide (((g.edges.length : Nat) : Int) ≤ (16 : Int))))) kr le ?_
            refine AOps.sq (x := (AV.b (decide (((g.edges.length : Nat) : Int) ≤ (16 : Int))))) kr le ?_
            refine AOps.sq (x := (AV.b (decide (((g.edges.length : Nat) : Int) ≤ (16 : Int))))) kr le ?_
            cases c_9 : decide (((g.edges.length : Nat) : Int) ≤ (16 : Int))
            · have k_9 : ¬ (((g.edges.length : Nat) : Int) ≤ (16 : Int)) := of_decide_eq_false c_9
              refine AOps.sgn rfl rfl kr rfl le ?_
              refine AOps.sgn rfl rfl kr rfl le ?_
              refine AOps.sgn rfl rfl kr rfl le ?_
              refine AOps.sq (x := (AV.b false)) kr le ?_
              refine AOps.sq (x := (AV.b false)) kr le ?_
              refine AOps.done ?_
              refine Awp.ret ?_
              have hM : m_ref1_GraphMay g = false := by simp only [m_ref1_GraphMay, hR1, hR2, c_8, c_9, sbt]
              refine ⟨Or.inr rfl, ?_⟩
              rw [hM]
              exact Ent.cast (x' := (AV.b false)) (y' := (AV.b false)) kr kr (Ent.c kr kr)
            · have k_9 : (((g.edges.length : Nat) : Int) ≤ (16 : Int)) := of_decide_eq_true c_9
              refine AOps.sgy rfl rfl kr rfl ?_
              refine AOps.sq (x := (AV.loc 0 0 2)) kr le ?_
              refine AOps.sgy rfl rfl kr rfl ?_
              refine AOps.sq (x := ((slA 1 AV.s) g.defaults)) kr le ?_
              refine AOps.sgy rfl rfl kr rfl ?_
              refine AOps.sc0 (vs := [((slA 1 AV.s) g.defaults)]) (r0 := (AV.b (m_ref1_PathsMay g.defaults))) kr kr (w_ref1_PathsMay W g.defaults) kr le ?_
              refine AOps.sq (x := (AV.b (m_ref1_PathsMay g.defaults))) kr le ?_
              refine AOps.sq (x := (AV.b (m_ref1_PathsMay g.defaults))) kr le ?_
              refine AOps.done ?_
              refine Awp.ret ?_
              have hM : m_ref1_GraphMay g = (m_ref1_PathsMay g.defaults) := by simp only [m_ref1_GraphMay, hR1, hR2, c_8, c_9, sbt]
              refine ⟨Or.inr rfl, ?_⟩
              rw [hM]
              exact Ent.cast (x' := (AV.b (m_ref1_PathsMay g.defaults))) (y' := (AV.b (m_ref1_PathsMay g.defaults))) kr kr (Ent.c kr kr)

theorem w_ref1_Check (W : World) (g : DGraph) (hz : outsN g.edges ≤ 1048576) : PureAt Go.Proofs.Tryz.prog W 19 [(DGraph.av g)] (AV.i .i64 (m_ref1_Check g)) [] := by
  refine pure_of_bodyC (fn := Go.Proofs.Tryz.f19) Go.Proofs.Tryz.func19 rfl (en19 W) (ts := [2]) rfl le ?_
  refine Awp.seq ?_
  refine Awp.region tabS_ok ?_
  refine AOps.sn (x := (AV.loc 0 0 0)) (h' := ⟨1, [(0, some ⟨26, 3, [(DGraph.av g)]⟩)]⟩) kr le ?_
  refine AOps.sq (x := (AV.i .i64 (0 : Int))) kr le ?_
  refine AOps.done ?_
  refine Awp.seq ?_
  refine Awp.seq ?_
  refine Awp.region tabS_ok ?_
  refine AOps.sq (x := (DGraph.av g)) kr le ?_
  refine AOps.sc0 (vs := [(DGraph.av g)]) (r0 := (AV.b (m_ref1_GraphMay g))) kr kr (w_ref1_GraphMay W g) kr le ?_
  refine AOps.sq (x := (AV.b (!(m_ref1_GraphMay g)))) kr le ?_
  refine AOps.done ?_
  cases c_1 : (!(m_ref1_GraphMay g))
  · refine Awp.cond (t := false) kr ?_
    refine Awp.skip ?_
    refine Awp.seq ?_
    refine Awp.region tabS_ok ?_
    refine AOps.sq (x := (AV.sl 1 true [])) kr le ?_
    refine AOps.done ?_
    refine Awp.seq ?_
    refine Awp.seq ?_
    refine Awp.region tabS_ok ?_
    refine AOps.sq (x := (AV.i .i64 (0 : Int))) kr le ?_
    refine AOps.done ?_
    refine Awp.block ?_
    refine Awp.lim 0 (x := (DGraph.av g)) kr fun hlm1 => ?_
    have hB1 : g.edges.length ≤ 281474976710656 := lim_slA (DGraph.lim_edges hlm1)
    obtain ⟨R1, hR1⟩ : ∃ R, m_ref1_Check_L1 g.edges 0 [] = R := ⟨_, rfl⟩
    refine Awp.loopT (fun ((all, i) : (List ByteArray) × Nat) => [(1, (AV.loc 1 0 0)), (3, (accV 0 1 AV.s all)), (4, (AV.i .i64 ((i : Nat) : Int)))]) (fun ((all, i) : (List ByteArray) × Nat) => ⟨2, [(0, accO 9 1 AV.s all), (1, some ⟨26, 3, [(DGraph.av g)]⟩)]⟩) (fun ((all, i) : (List ByteArray) × Nat) => i ≤ g.edges.length ∧ all.length + outsN (g.edges.drop i) ≤ outsN g.edges ∧ m_ref1_Check_L1 (g.edges.drop i) i all = R1) (fun ((all, i) : (List ByteArray) × Nat) => g.edges.length - i) ([], 0) ?_ ?_ ?_
    · exact ⟨[1000000, 0], ⟨by decide, rfl, (FitsObjs.cons rfl (FitsObjs.cons kr FitsObjs.nil)), (EntE.cons (Ent.f kr) (EntE.cons (Ent.c kr kr) (EntE.cons (Ent.c kr kr) EntE.nil)))⟩, keep0⟩
    · exact ⟨od, by (try dsimp only) <;> (simp), hR1⟩
    · rintro ⟨all, i⟩ ⟨hi1, ha, hE1⟩
      try dsimp only
      refine Awp.seq ?_
      refine Awp.seq ?_
      refine Awp.region tabS_ok ?_
      refine AOps.sq (x := (AV.i .i64 ((i : Nat) : Int))) kr le ?_
      refine AOps.sq (x := (AV.loc 1 0 0)) kr le ?_
      refine AOps.sq (x := ((slA 7 DEdge.av) g.edges)) kr le ?_
      refine AOps.sq (x := (AV.i .i64 ((g.edges.length : Nat) : Int))) (g_len (k := 7) (nl := false) (e := 76) (A := DEdge.av) (xs := g.edges) kr kr) le ?_
      refine AOps.sq (x := (AV.b (decide (((i : Nat) : Int) < ((g.edges.length : Nat) : Int))))) kr le ?_
      refine AOps.done ?_
      rcases Nat.lt_or_ge i g.edges.length with hl1 | hl1
      · have hc1 : decide (((i : Nat) : Int) < ((g.edges.length : Nat) : Int)) = true := decide_eq_true (by omega)
        refine Awp.cond (t := true) (by rw [← hc1] <;> kernel_rfl) (Awp.skip ?_)
        obtain ⟨x1, hx1⟩ : ∃ x, g.edges[i]? = some x := ⟨_, List.getElem?_eq_getElem hl1⟩
        rw [drop_at hx1, m_ref1_Check_L1.eq_2] at hE1
        rw [drop_at hx1] at ha
        simp only [outsN] at ha
        refine Awp.seq ?_
        refine Awp.block ?_
        refine Awp.seq ?_
        refine Awp.region tabS_ok ?_
        refine AOps.sq (x := (AV.i .i64 (0 : Int))) kr le ?_
        refine AOps.done ?_
        refine Awp.block ?_
        refine Awp.lim 11 (x := ((slA 7 DEdge.av) g.edges)) kr fun hlm2 => ?_
        have hB2 : x1.outs.length ≤ 281474976710656 := lim_slA (DEdge.lim_outs (lim_mem hlm2 hx1))
        obtain ⟨R2, hR2⟩ : ∃ R, m_ref1_Check_L2 x1.outs 0 all = R := ⟨_, rfl⟩
        refine Awp.loopT (fun ((all2, k) : (List ByteArray) × Nat) => [(1, (AV.loc 1 0 0)), (4, (AV.i .i64 ((i : Nat) : Int))), (3, (accV 0 1 AV.s all2)), (5, (AV.i .i64 ((k : Nat) : Int)))]) (fun ((all2, k) : (List ByteArray) × Nat) => ⟨2, [(0, accO 9 1 AV.s all2), (1, some ⟨26, 3, [(DGraph.av g)]⟩)]⟩) (fun ((all2, k) : (List ByteArray) × Nat) => k ≤ x1.outs.length ∧ all2.length ≤ all.length + k ∧ m_ref1_Check_L2 (x1.outs.drop k) k all2 = R2) (fun ((all2, k) : (List ByteArray) × Nat) => x1.outs.length - k) (all, 0) ?_ ?_ ?_
        · exact ⟨[0, 1], ⟨by decide, rfl, (FitsObjs.cons (obj_acc (fun _ => rfl) (e := 9) (k := 1) (A := AV.s) (xs := all) rfl rfl) (FitsObjs.cons kr FitsObjs.nil)), (EntE.cons (Ent.f kr) (EntE.cons (Ent.c kr kr) (EntE.cons (ent_keepA (by decide)) (EntE.cons (Ent.c kr kr) EntE.nil))))⟩, keep0⟩
        · exact ⟨od, sdd, hR2⟩
        · rintro ⟨all2, k⟩ ⟨hi2, hb, hE2⟩
          try dsimp only
          refine Awp.seq ?_
          refine Awp.seq ?_
          refine Awp.region tabS_ok ?_
          refine AOps.sq (x := (AV.i .i64 ((k : Nat) : Int))) kr le ?_
          refine AOps.sq (x := (AV.loc 1 0 0)) kr le ?_
          refine AOps.sq (x := ((slA 7 DEdge.av) g.edges)) kr le ?_
          refine AOps.sq (x := (AV.i .i64 ((i : Nat) : Int))) kr le ?_
          refine AOps.sq (x := (AV.pt (DEdge.av x1).cells)) (g_idx (k := 7) (nl := false) (e := 76) (kk := .i64) (A := DEdge.av) (xs := g.edges) (i := i) kr kr kr ⟨by kernel_rfl, by decide⟩ hx1) le ?_
          refine AOps.sq (x := (AV.pt ((DEdge.av x1).cells.drop 0))) kr le ?_
          refine AOps.sq (x := ((slA 1 AV.s) x1.outs)) kr le ?_
          refine AOps.sq (x := (AV.i .i64 ((x1.outs.length : Nat) : Int))) (g_len (k := 1) (nl := false) (e := 9) (A := AV.s) (xs := x1.outs) kr kr) le ?_
          refine AOps.sq (x := (AV.b (decide (((k : Nat) : Int) < ((x1.outs.length : Nat) : Int))))) kr le ?_
          refine AOps.done ?_
          rcases Nat.lt_or_ge k x1.outs.length with hl2 | hl2
          · have hc2 : decide (((k : Nat) : Int) < ((x1.outs.length : Nat) : Int)) = true := decide_eq_true (by omega)
            refine Awp.cond (t := true) (by rw [← hc2] <;> kernel_rfl) (Awp.skip ?_)
            obtain ⟨x2, hx2⟩ : ∃ x, x1.outs[k]? = some x := ⟨_, List.getElem?_eq_getElem hl2⟩
            rw [drop_at hx2, m_ref1_Check_L2.eq_2] at hE2
            refine Awp.seq ?_
            refine Awp.block ?_
            refine Awp.seq ?_
            refine Awp.seq ?_
            refine Awp.region tabS_ok ?_
            refine AOps.sq (x := (accV 0 1 AV.s all2)) kr le ?_
            refine AOps.sq (x := (AV.loc 1 0 0)) kr le ?_
            refine AOps.sq (x := ((slA 7 DEdge.av) g.edges)) kr le ?_
            refine AOps.sq (x := (AV.i .i64 ((i : Nat) : Int))) kr le ?_
            refine AOps.sq (x := (AV.pt (DEdge.av x1).cells)) (g_idx (k := 7) (nl := false) (e := 76) (kk := .i64) (A := DEdge.av) (xs := g.edges) (i := i) kr kr kr ⟨by kernel_rfl, by decide⟩ hx1) le ?_
            refine AOps.sq (x := (AV.pt ((DEdge.av x1).cells.drop 0))) kr le ?_
            refine AOps.sq (x := ((slA 1 AV.s) x1.outs)) kr le ?_
            refine AOps.sq (x := (AV.i .i64 ((k : Nat) : Int))) kr le ?_
            refine AOps.sq (x := (AV.pt (AV.s x2).cells)) (g_idx (k := 1) (nl := false) (e := 9) (kk := .i64) (A := AV.s) (xs := x1.outs) (i := k) kr kr kr ⟨by kernel_rfl, by decide⟩ hx2) le ?_
            refine AOps.sq (x := (AV.s x2)) kr le ?_
            refine AOps.sfw (vs := [(accV 0 1 AV.s all2), (AV.s x2)]) (ss := [((slA 1 AV.s) all2), (AV.s x2)]) (r0 := (AV.b (m_ref1_has all2 x2))) kr (show SnapW _ _ _ from ⟨(EntK.w (EntK.cast (x' := (accV 0 1 AV.s all2)) kr kr (EntK.acc (fun _ => rfl) (A := AV.s) (e := 9) (k := 1) (id := 0) (xs := all2) rfl rfl sd))), ⟨(SnapW.e kr), trivial⟩⟩) (w_ref1_has W all2 x2) rfl kr le ?_
            refine AOps.done ?_
            cases c_2 : (m_ref1_has all2 x2)
            · refine Awp.cond (t := false) kr ?_
              refine Awp.skip ?_
              refine Awp.region tabS_ok ?_
              refine AOps.sq (x := (accV 0 1 AV.s all2)) kr le ?_
              refine AOps.sq (x := (AV.loc 1 0 0)) kr le ?_
              refine AOps.sq (x := ((slA 7 DEdge.av) g.edges)) kr le ?_
              refine AOps.sq (x := (AV.i .i64 ((i : Nat) : Int))) kr le ?_
              refine AOps.sq (x := (AV.pt (DEdge.av x1).cells)) (g_idx (k := 7) (nl := false) (e := 76) (kk := .i64) (A := DEdge.av) (xs := g.edges) (i := i) kr kr kr ⟨by kernel_rfl, by decide⟩ hx1) le ?_
              refine AOps.sq (x := (AV.pt ((DEdge.av x1).cells.drop 0))) kr le ?_
              refine AOps.sq (x := ((slA 1 AV.s) x1.outs)) kr le ?_
              refine AOps.sq (x := (AV.i .i64 ((k : Nat) : Int))) kr le ?_
              refine AOps.sq (x := (AV.pt (AV.s x2).cells)) (g_idx (k := 1) (nl := false) (e := 9) (kk := .i64) (A := AV.s) (xs := x1.outs) (i := k) kr kr kr ⟨by kernel_rfl, by decide⟩ hx2) le ?_
              refine AOps.sq (x := (AV.s x2)) kr le ?_
              refine AOps.sn (x := (AV.own 2 0 1)) (h' := ⟨3, [(2, some ⟨9, 1, [x2].map AV.s⟩), (0, accO 9 1 AV.s all2), (1, some ⟨26, 3, [(DGraph.av g)]⟩)]⟩) kr le ?_
              refine AOps.se (x := (AV.own 3 0 ((all2 ++ [x2]).length))) (h' := ⟨4, [(3, some ⟨9, 1, (all2 ++ [x2]).map AV.s⟩), (2, some ⟨9, 1, [x2].map AV.s⟩), (0, none), (1, some ⟨26, 3, [(DGraph.av g)]⟩)]⟩) (g_app (e := 9) (X := (AV.own 2 0 1)) (A := AV.s) (i := tI_9) (p := 0) (xs := all2) (ys := [x2]) kr kr kr (hx := kr) kr (by simp) ⟨by decide, by kernel_rfl⟩ rfl (by intro q; first | (subst q; rfl) | (rw [q]; rfl) | (simp only [q]; rfl)) (by show _ * 16 ≤ 140737488355328; first | omega | (simp only [List.length_append, List.length_cons, List.length_nil, List.length_set, List.length_replicate]; omega) | (simp; omega)) sd) le ?_
              refine AOps.sq (x := (AV.own 3 0 ((all2 ++ [x2]).length))) kr le ?_
              refine AOps.done ?_
              refine Awp.region tabS_ok ?_
              refine AOps.sq (x := (AV.i .i64 ((k : Nat) : Int))) kr le ?_
              refine AOps.sq (x := (AV.i .i64 ((k + 1 : Nat) : Int))) (g_addN (i := k) (m := 1) kr kr sd) le ?_
              refine AOps.sq (x := (AV.i .i64 ((k + 1 : Nat) : Int))) kr le ?_
              refine AOps.done ?_
              try simp only [c_2, sbt] at hE2
              refine ⟨((all2 ++ [x2]), k + 1), od, ⟨od, sdd, hE2⟩, ?_⟩
              exact ⟨[3, 1], ⟨by decide, rfl, (FitsObjs.cons (obj_acc' (fun _ => rfl) (e := 9) (k := 1) (A := AV.s) (xs := (all2 ++ [x2])) (by simp) rfl rfl) (FitsObjs.cons kr FitsObjs.nil)), (EntE.cons (Ent.f kr) (EntE.cons (Ent.c kr kr) (EntE.cons (ent_keep (A := AV.s) (xs := (all2 ++ [x2])) (by decide) (by simp) rfl) (EntE.cons (Ent.c kr kr) EntE.nil))))⟩, keep0⟩
            · refine Awp.cond (t := true) kr ?_
              refine Awp.seq ?_
              refine Awp.region tabS_ok ?_
              refine AOps.sq (x := (AV.i .i64 (901 : Int))) kr le ?_
              refine AOps.done ?_
              refine Awp.ret ?_
              try simp only [c_2, sbt] at hE2
              subst hE2
              try simp only [hR2, sbt] at hE1
              subst hE1
              have hM : m_ref1_Check g = (901 : Int) := by simp only [m_ref1_Check, c_1, hR1, sbt]
              refine ⟨Or.inr rfl, ?_⟩
              rw [hM]
              exact Ent.cast (x' := (AV.i .i64 (901 : Int))) (y' := (AV.i .i64 (901 : Int))) kr kr (Ent.c kr kr)
          · have hc2 : decide (((k : Nat) : Int) < ((x1.outs.length : Nat) : Int)) = false := decide_eq_false (by omega)
            refine Awp.cond (t := false) (by rw [← hc2] <;> kernel_rfl) (Awp.exit ?_)
            rw [List.drop_eq_nil_of_le (hl2), m_ref1_Check_L2.eq_1] at hE2
            subst hE2
            refine Awp.region tabS_ok ?_
            refine AOps.sq (x := (AV.i .i64 ((i : Nat) : Int))) kr le ?_
            refine AOps.sq (x := (AV.i .i64 ((i + 1 : Nat) : Int))) (g_addN (i := i) (m := 1) kr kr sd) le ?_
            refine AOps.sq (x := (AV.i .i64 ((i + 1 : Nat) : Int))) kr le ?_
            refine AOps.done ?_
            try simp only [hR2, sbt] at hE1
            refine ⟨(all2, i + 1), od, ⟨od, by (try dsimp only) <;> (omega), hE1⟩, ?_⟩
            exact ⟨[0, 1], ⟨by decide, rfl, (FitsObjs.cons (obj_acc (fun _ => rfl) (e := 9) (k := 1) (A := AV.s) (xs := all2) rfl rfl) (FitsObjs.cons kr FitsObjs.nil)), (EntE.cons (Ent.f kr) (EntE.cons (ent_keepA (by decide)) (EntE.cons (Ent.c kr kr) EntE.nil)))⟩, keep0⟩
      · have hc1 : decide (((i : Nat) : Int) < ((g.edges.length : Nat) : Int)) = false := decide_eq_false (by omega)
        refine Awp.cond (t := false) (by rw [← hc1] <;> kernel_rfl) (Awp.exit ?_)
        rw [List.drop_eq_nil_of_le (hl1), m_ref1_Check_L1.eq_1] at hE1
        subst hE1
        refine Awp.seq ?_
        refine Awp.region tabS_ok ?_
        refine AOps.sq (x := (AV.i .i64 (0 : Int))) kr le ?_
        refine AOps.done ?_
        refine Awp.ret ?_
        have hM : m_ref1_Check g = (0 : Int) := by simp only [m_ref1_Check, c_1, hR1, sbt]
        refine ⟨Or.inr rfl, ?_⟩
        rw [hM]
        exact Ent.cast (x' := (AV.i .i64 (0 : Int))) (y' := (AV.i .i64 (0 : Int))) kr kr (Ent.c kr kr)
  · refine Awp.cond (t := true) kr ?_
    refine Awp.seq ?_
    refine Awp.region tabS_ok ?_
    refine AOps.sq (x := (AV.i .i64 (900 : Int))) kr le ?_
    refine AOps.done ?_
    refine Awp.ret ?_
    have hM : m_ref1_Check g = (900 : Int) := by simp only [m_ref1_Check, c_1, sbt]
    refine ⟨Or.inr rfl, ?_⟩
    rw [hM]
    exact Ent.cast (x' := (AV.i .i64 (900 : Int))) (y' := (AV.i .i64 (900 : Int))) kr kr (Ent.c kr kr)

theorem w_ref1_MakerOf (W : World) (g : DGraph) (name : ByteArray) : PureAt Go.Proofs.Tryz.prog W 52 [(DGraph.av g), (AV.s name)] (AV.i .i64 (m_ref1_MakerOf g name)) [] := by
  refine pure_of_bodyC (fn := Go.Proofs.Tryz.f52) Go.Proofs.Tryz.func52 rfl (en52 W) (ts := [4]) rfl le ?_
  refine Awp.seq ?_
  refine Awp.region tabS_ok ?_
  refine AOps.sn (x := (AV.loc 0 0 0)) (h' := ⟨1, [(0, some ⟨26, 3, [(DGraph.av g)]⟩)]⟩) kr le ?_
  refine AOps.sq (x := (AV.i .i64 (0 : Int))) kr le ?_
  refine AOps.done ?_
  refine Awp.seq ?_
  refine Awp.seq ?_
  refine Awp.region tabS_ok ?_
  refine AOps.sq (x := (AV.i .i64 (0 : Int))) kr le ?_
  refine AOps.done ?_
  refine Awp.block ?_
  refine Awp.lim 0 (x := (DGraph.av g)) kr fun hlm1 => ?_
  have hB1 : g.edges.length ≤ 281474976710656 := lim_slA (DGraph.lim_edges hlm1)
  obtain ⟨R1, hR1⟩ : ∃ R, m_ref1_MakerOf_L1 name g.edges 0 = R := ⟨_, rfl⟩
  refine Awp.loopT (fun (i : Nat) => [(1, (AV.s name)), (2, (AV.loc 0 0 0)), (5, (AV.i .i64 ((i : Nat) : Int)))]) (fun (i : Nat) => ⟨1, [(0, some ⟨26, 3, [(DGraph.av g)]⟩)]⟩) (fun (i : Nat) => i ≤ g.edges.length ∧ m_ref1_MakerOf_L1 name (g.edges.drop i) i = R1) (fun (i : Nat) => g.edges.length - i) 0 ?_ ?_ ?_
  · exact ⟨[0], ⟨by decide, rfl, (FitsObjs.cons kr FitsObjs.nil), (EntE.cons (Ent.c kr kr) (EntE.cons (Ent.f kr) (EntE.cons (Ent.c kr kr) EntE.nil)))⟩, keep0⟩
  · exact ⟨od, hR1⟩
  · rintro i ⟨hi1, hE1⟩
    try dsimp only
    refine Awp.seq ?_
    refine Awp.seq ?_
    refine Awp.region tabS_ok ?_
    refine AOps.sq (x := (AV.i .i64 ((i : Nat) : Int))) kr le ?_
    refine AOps.sq (x := (AV.loc 0 0 0)) kr le ?_
    refine AOps.sq (x := ((slA 7 DEdge.av) g.edges)) kr le ?_
    refine AOps.sq (x := (AV.i .i64 ((g.edges.length : Nat) : Int))) (g_len (k := 7) (nl := false) (e := 76) (A := DEdge.av) (xs := g.edges) kr kr) le ?_
    refine AOps.sq (x := (AV.b (decide (((i : Nat) : Int) < ((g.edges.length : Nat) : Int))))) kr le ?_
    refine AOps.done ?_
    rcases Nat.lt_or_ge i g.edges.length with hl1 | hl1
    · have hc1 : decide (((i : Nat) : Int) < ((g.edges.length : Nat) : Int)) = true := decide_eq_true (by omega)
      refine Awp.cond (t := true) (by rw [← hc1] <;> kernel_rfl) (Awp.skip ?_)
      obtain ⟨x1, hx1⟩ : ∃ x, g.edges[i]? = some x := ⟨_, List.getElem?_eq_getElem hl1⟩
      rw [drop_at hx1, m_ref1_MakerOf_L1.eq_2] at hE1
      refine Awp.seq ?_
      refine Awp.block ?_
      refine Awp.seq ?_
      refine Awp.region tabS_ok ?_
      refine AOps.sq (x := (AV.loc 0 0 0)) kr le ?_
      refine AOps.sq (x := ((slA 7 DEdge.av) g.edges)) kr le ?_
      refine AOps.sq (x := (AV.i .i64 ((i : Nat) : Int))) kr le ?_
      refine AOps.sq (x := (AV.pt (DEdge.av x1).cells)) (g_idx (k := 7) (nl := false) (e := 76) (kk := .i64) (A := DEdge.av) (xs := g.edges) (i := i) kr kr kr ⟨by kernel_rfl, by decide⟩ hx1) le ?_
      refine AOps.sq (x := (AV.pt ((DEdge.av x1).cells.drop 0))) kr le ?_
      refine AOps.sq (x := ((slA 1 AV.s) x1.outs)) kr le ?_
      refine AOps.sq (x := (AV.s name)) kr le ?_
      refine AOps.sc0 (vs := [((slA 1 AV.s) x1.outs), (AV.s name)]) (r0 := (AV.b (m_ref1_has x1.outs name))) kr kr (w_ref1_has W x1.outs name) kr le ?_
      refine AOps.done ?_
      cases c_1 : (m_ref1_has x1.outs name)
      · refine Awp.cond (t := false) kr ?_
        refine Awp.skip ?_
        refine Awp.region tabS_ok ?_
        refine AOps.sq (x := (AV.i .i64 ((i : Nat) : Int))) kr le ?_
        refine AOps.sq (x := (AV.i .i64 ((i + 1 : Nat) : Int))) (g_addN (i := i) (m := 1) kr kr sd) le ?_
        refine AOps.sq (x := (AV.i .i64 ((i + 1 : Nat) : Int))) kr le ?_
        refine AOps.done ?_
        try simp only [c_1, sbt] at hE1
        refine ⟨i + 1, od, ⟨od, hE1⟩, ?_⟩
        exact ⟨[0], ⟨by decide, rfl, (FitsObjs.cons kr FitsObjs.nil), (EntE.cons (Ent.c kr kr) (EntE.cons (Ent.f kr) (EntE.cons (Ent.c kr kr) EntE.nil)))⟩, keep0⟩
      · refine Awp.cond (t := true) kr ?_
        refine Awp.seq ?_
        refine Awp.region tabS_ok ?_
        refine AOps.sq (x := (AV.i .i64 ((i : Nat) : Int))) kr le ?_
        refine AOps.sq (x := (AV.i .i64 ((i : Nat) : Int))) kr le ?_
        refine AOps.done ?_
        refine Awp.ret ?_
        try simp only [c_1, sbt] at hE1
        subst hE1
        have hM : m_ref1_MakerOf g name = ((i : Nat) : Int) := by simp only [m_ref1_MakerOf, hR1, sbt]
        refine ⟨Or.inr rfl, ?_⟩
        rw [hM]
        exact Ent.cast (x' := (AV.i .i64 ((i : Nat) : Int))) (y' := (AV.i .i64 ((i : Nat) : Int))) kr kr (Ent.c kr kr)
    · have hc1 : decide (((i : Nat) : Int) < ((g.edges.length : Nat) : Int)) = false := decide_eq_false (by omega)
      refine Awp.cond (t := false) (by rw [← hc1] <;> kernel_rfl) (Awp.exit ?_)
      rw [List.drop_eq_nil_of_le (hl1), m_ref1_MakerOf_L1.eq_1] at hE1
      subst hE1
      refine Awp.seq ?_
      refine Awp.region tabS_ok ?_
      refine AOps.sq (x := (AV.i .i64 (-1 : Int))) kr le ?_
      refine AOps.done ?_
      refine Awp.ret ?_
      have hM : m_ref1_MakerOf g name = (-1 : Int) := by simp only [m_ref1_MakerOf, hR1, sbt]
      refine ⟨Or.inr rfl, ?_⟩
      rw [hM]
      exact Ent.cast (x' := (AV.i .i64 (-1 : Int))) (y' := (AV.i .i64 (-1 : Int))) kr kr (Ent.c kr kr)

theorem w_ref1_Maker (W : World) (g : DGraph) (name : ByteArray) (hz : outsN g.edges ≤ 1048576) : PureAt Go.Proofs.Tryz.prog W 16 [(DGraph.av g), (AV.s name)] (AV.tup [(AV.i .i64 ((m_ref1_Maker g name).1)), (AV.b ((m_ref1_Maker g name).2.1)), (AV.i .i64 ((m_ref1_Maker g name).2.2))]) [] := by
  refine pure_of_bodyC (fn := Go.Proofs.Tryz.f16) Go.Proofs.Tryz.func16 rfl (en16 W) (ts := [4, 5, 6]) rfl le ?_
  refine Awp.seq ?_
  refine Awp.region tabS_ok ?_
  refine AOps.sn (x := (AV.loc 0 0 0)) (h' := ⟨1, [(0, some ⟨26, 3, [(DGraph.av g)]⟩)]⟩) kr le ?_
  refine AOps.sq (x := (AV.i .i64 (0 : Int))) kr le ?_
  refine AOps.sq (x := (AV.b false)) kr le ?_
  refine AOps.sq (x := (AV.i .i64 (0 : Int))) kr le ?_
  refine AOps.done ?_
  refine Awp.seq ?_
  refine Awp.region tabS_ok ?_
  refine AOps.sq (x := (DGraph.av g)) kr le ?_
  refine AOps.sc0 (vs := [(DGraph.av g)]) (r0 := (AV.i .i64 (m_ref1_Check g))) kr kr (w_ref1_Check W g sd) kr le ?_
  refine AOps.sq (x := (AV.i .i64 (m_ref1_Check g))) kr le ?_
  refine AOps.done ?_
  refine Awp.seq ?_
  refine Awp.seq ?_
  refine Awp.region tabS_ok ?_
  refine AOps.sq (x := (AV.i .i64 (m_ref1_Check g))) kr le ?_
  refine AOps.sq (x := (AV.b (!decide ((m_ref1_Check g) = (0 : Int))))) kr le ?_
  refine AOps.done ?_
  cases c_1 : (!decide ((m_ref1_Check g) = (0 : Int)))
  · have k_1 : ((m_ref1_Check g) = (0 : Int)) := of_decide_eq_true (by simpa using c_1)
    refine Awp.cond (t := false) kr ?_
    refine Awp.skip ?_
    refine Awp.seq ?_
    refine Awp.region tabS_ok ?_
    refine AOps.sq (x := (DGraph.av g)) kr le ?_
    refine AOps.sq (x := (AV.s name)) kr le ?_
    refine AOps.sc0 (vs := [(DGraph.av g), (AV.s name)]) (r0 := (AV.i .i64 (m_ref1_MakerOf g name))) kr kr (w_ref1_MakerOf W g name) kr le ?_
    refine AOps.sq (x := (AV.i .i64 (m_ref1_MakerOf g name))) kr le ?_
    refine AOps.done ?_
    refine Awp.seq ?_
    refine Awp.region tabS_ok ?_
    refine AOps.sq (x := (AV.i .i64 (m_ref1_MakerOf g name))) kr le ?_
    refine AOps.sq (x := (AV.i .i64 (if (m_ref1_MakerOf g name) > (0 : Int) then (m_ref1_MakerOf g name) else (0 : Int)))) kr le ?_
    refine AOps.sq (x := (AV.i .i64 (m_ref1_MakerOf g name))) kr le ?_
    refine AOps.sq (x := (AV.b (decide ((0 : Int) ≤ (m_ref1_MakerOf g name))))) kr le ?_
    refine AOps.sq (x := (AV.i .i64 (if (m_ref1_MakerOf g name) > (0 : Int) then (m_ref1_MakerOf g name) else (0 : Int)))) kr le ?_
    refine AOps.sq (x := (AV.b (decide ((0 : Int) ≤ (m_ref1_MakerOf g name))))) kr le ?_
    refine AOps.sq (x := (AV.i .i64 (0 : Int))) kr le ?_
    refine AOps.done ?_
    refine Awp.ret ?_
    have hM : m_ref1_Maker g name = ((if (m_ref1_MakerOf g name) > (0 : Int) then (m_ref1_MakerOf g name) else (0 : Int)), decide ((0 : Int) ≤ (m_ref1_MakerOf g name)), (0 : Int)) := by simp only [m_ref1_Maker, c_1, sbt]
    refine ⟨Or.inr rfl, ?_⟩
    rw [hM]
    exact Ent.cast (x' := (AV.tup [(AV.i .i64 (if (m_ref1_MakerOf g name) > (0 : Int) then (m_ref1_MakerOf g name) else (0 : Int))), (AV.b (decide ((0 : Int) ≤ (m_ref1_MakerOf g name)))), (AV.i .i64 (0 : Int))])) (y' := (AV.tup [(AV.i .i64 (((if (m_ref1_MakerOf g name) > (0 : Int) then (m_ref1_MakerOf g name) else (0 : Int)), decide ((0 : Int) ≤ (m_ref1_MakerOf g name)), (0 : Int)).1)), (AV.b (((if (m_ref1_MakerOf g name) > (0 : Int) then (m_ref1_MakerOf g name) else (0 : Int)), decide ((0 : Int) ≤ (m_ref1_MakerOf g name)), (0 : Int)).2.1)), (AV.i .i64 (((if (m_ref1_MakerOf g name) > (0 : Int) then (m_ref1_MakerOf g name) else (0 : Int)), decide ((0 : Int) ≤ (m_ref1_MakerOf g name)), (0 : Int)).2.2))])) kr kr (Ent.tup ⟨(Ent.c kr kr), ⟨(Ent.c kr kr), ⟨(Ent.c kr kr), trivial⟩⟩⟩ kr)
  · have k_1 : ¬ ((m_ref1_Check g) = (0 : Int)) := of_decide_eq_false (by simpa using c_1)
    refine Awp.cond (t := true) kr ?_
    refine Awp.seq ?_
    refine Awp.region tabS_ok ?_
    refine AOps.sq (x := (AV.i .i64 (m_ref1_Check g))) kr le ?_
    refine AOps.sq (x := (AV.i .i64 (0 : Int))) kr le ?_
    refine AOps.sq (x := (AV.b false)) kr le ?_
    refine AOps.sq (x := (AV.i .i64 (m_ref1_Check g))) kr le ?_
    refine AOps.done ?_
    refine Awp.ret ?_
    have hM : m_ref1_Maker g name = ((0 : Int), false, (m_ref1_Check g)) := by simp only [m_ref1_Maker, c_1, sbt]
    refine ⟨Or.inr rfl, ?_⟩
    rw [hM]
    exact Ent.cast (x' := (AV.tup [(AV.i .i64 (0 : Int)), (AV.b false), (AV.i .i64 (m_ref1_Check g))])) (y' := (AV.tup [(AV.i .i64 (((0 : Int), false, (m_ref1_Check g)).1)), (AV.b (((0 : Int), false, (m_ref1_Check g)).2.1)), (AV.i .i64 (((0 : Int), false, (m_ref1_Check g)).2.2))])) kr kr (Ent.tup ⟨(Ent.c kr kr), ⟨(Ent.c kr kr), ⟨(Ent.c kr kr), trivial⟩⟩⟩ kr)

theorem w_law0_CopyEdge (W : World) (a : DEdge) (hz : a.sz ≤ 1048576) : PureAt Go.Proofs.Tryz.prog W 50 [(DEdge.av a)] (DEdge.av (m_law0_CopyEdge a)) [] := by
  have houts1 := szL_str a.outs
  have hins1 := szL_str a.ins
  have himplicit1 := szL_str a.implicit
  have horder1 := szL_str a.order
  have houts2 := a.sz_outs
  have hins2 := a.sz_ins
  have himplicit2 := a.sz_implicit
  have horder2 := a.sz_order
  refine pure_of_bodyM tabS_ok (fn := Go.Proofs.Tryz.f50) Go.Proofs.Tryz.func50 rfl (en50 W) le ?_
  refine Awp.seq ?_
  refine Awp.region tabS_ok ?_
  refine AOps.sn (x := (AV.loc 0 0 0)) (h' := ⟨1, [(0, some ⟨76, 7, [(DEdge.av a)]⟩)]⟩) kr le ?_
  refine AOps.sn (x := (AV.loc 1 0 0)) (h' := ⟨2, [(1, some ⟨76, 7, [(AV.st [(AV.sl 1 true []), (AV.sl 1 true []), (AV.sl 1 true []), (AV.sl 1 true []), (AV.s (⟨#[]⟩ : ByteArray)), (AV.b false), (AV.s (⟨#[]⟩ : ByteArray))])]⟩), (0, some ⟨76, 7, [(DEdge.av a)]⟩)]⟩) kr le ?_
  refine AOps.done ?_
  refine Awp.seq ?_
  refine Awp.region tabS_ok ?_
  refine AOps.sn (x := (AV.own 2 0 0)) (h' := ⟨3, [(2, some ⟨9, 1, [].map AV.s⟩), (1, some ⟨76, 7, [(AV.st [(AV.sl 1 true []), (AV.sl 1 true []), (AV.sl 1 true []), (AV.sl 1 true []), (AV.s (⟨#[]⟩ : ByteArray)), (AV.b false), (AV.s (⟨#[]⟩ : ByteArray))])]⟩), (0, some ⟨76, 7, [(DEdge.av a)]⟩)]⟩) kr le ?_
  refine AOps.sq (x := (AV.loc 0 0 0)) kr le ?_
  refine AOps.sq (x := ((slA 1 AV.s) a.outs)) kr le ?_
  refine AOps.se (x := (AV.own 3 0 a.outs.length)) (h' := ⟨4, [(3, some ⟨9, 1, a.outs.map AV.s⟩), (2, none), (1, some ⟨76, 7, [(AV.st [(AV.sl 1 true []), (AV.sl 1 true []), (AV.sl 1 true []), (AV.sl 1 true []), (AV.s (⟨#[]⟩ : ByteArray)), (AV.b false), (AV.s (⟨#[]⟩ : ByteArray))])]⟩), (0, some ⟨76, 7, [(DEdge.av a)]⟩)]⟩) (g_appR (len := 0) (e := 9) (X := ((slA 1 AV.s) a.outs)) (A := AV.s) (i := tI_9) (p := 2) (xs := []) (ys := a.outs) kr kr kr (hx := kr) kr ⟨by decide, by kernel_rfl⟩ rfl sd (by show _ * 16 ≤ 140737488355328; first | omega | (simp only [List.length_append, List.length_cons, List.length_nil, List.length_set, List.length_replicate]; omega) | (simp; omega)) sd) le ?_
  refine AOps.sq (x := (AV.loc 0 0 0)) kr le ?_
  refine AOps.st (x := AV.und) (h' := ⟨4, [(3, some ⟨9, 1, a.outs.map AV.s⟩), (2, none), (1, some ⟨76, 7, [(AV.st [(AV.sl 1 true []), (AV.sl 1 true []), (AV.sl 1 true []), (AV.sl 1 true []), (AV.s (⟨#[]⟩ : ByteArray)), (AV.b false), (AV.s (⟨#[]⟩ : ByteArray))])]⟩), (0, some ⟨76, 7, [(AV.st [(AV.own 3 0 a.outs.length), ((slA 1 AV.s) a.ins), ((slA 1 AV.s) a.implicit), ((slA 1 AV.s) a.order), (AV.s a.command), (AV.b a.deps), (AV.s a.pool)])]⟩)]⟩) kr ?_
  refine AOps.done ?_
  refine Awp.seq ?_
  refine Awp.region tabS_ok ?_
  refine AOps.sn (x := (AV.own 4 0 0)) (h' := ⟨5, [(4, some ⟨9, 1, [].map AV.s⟩), (3, some ⟨9, 1, a.outs.map AV.s⟩), (2, none), (1, some ⟨76, 7, [(AV.st [(AV.sl 1 true []), (AV.sl 1 true []), (AV.sl 1 true []), (AV.sl 1 true []), (AV.s (⟨#[]⟩ : ByteArray)), (AV.b false), (AV.s (⟨#[]⟩ : ByteArray))])]⟩), (0, some ⟨76, 7, [(AV.st [(AV.own 3 0 a.outs.length), ((slA 1 AV.s) a.ins), ((slA 1 AV.s) a.implicit), ((slA 1 AV.s) a.order), (AV.s a.command), (AV.b a.deps), (AV.s a.pool)])]⟩)]⟩) kr le ?_
  refine AOps.sq (x := (AV.loc 0 0 1)) kr le ?_
  refine AOps.sq (x := ((slA 1 AV.s) a.ins)) kr le ?_
  refine AOps.se (x := (AV.own 5 0 a.ins.length)) (h' := ⟨6, [(5, some ⟨9, 1, a.ins.map AV.s⟩), (4, none), (3, some ⟨9, 1, a.outs.map AV.s⟩), (2, none), (1, some ⟨76, 7, [(AV.st [(AV.sl 1 true []), (AV.sl 1 true []), (AV.sl 1 true []), (AV.sl 1 true []), (AV.s (⟨#[]⟩ : ByteArray)), (AV.b false), (AV.s (⟨#[]⟩ : ByteArray))])]⟩), (0, some ⟨76, 7, [(AV.st [(AV.own 3 0 a.outs.length), ((slA 1 AV.s) a.ins), ((slA 1 AV.s) a.implicit), ((slA 1 AV.s) a.order), (AV.s a.command), (AV.b a.deps), (AV.s a.pool)])]⟩)]⟩) (g_appR (len := 0) (e := 9) (X := ((slA 1 AV.s) a.ins)) (A := AV.s) (i := tI_9) (p := 4) (xs := []) (ys := a.ins) kr kr kr (hx := kr) kr ⟨by decide, by kernel_rfl⟩ rfl sd (by show _ * 16 ≤ 140737488355328; first | omega | (simp only [List.length_append, List.length_cons, List.length_nil, List.length_set, List.length_replicate]; omega) | (simp; omega)) sd) le ?_
  refine AOps.sq (x := (AV.loc 0 0 1)) kr le ?_
  refine AOps.st (x := AV.und) (h' := ⟨6, [(5, some ⟨9, 1, a.ins.map AV.s⟩), (4, none), (3, some ⟨9, 1, a.outs.map AV.s⟩), (2, none), (1, some ⟨76, 7, [(AV.st [(AV.sl 1 true []), (AV.sl 1 true []), (AV.sl 1 true []), (AV.sl 1 true []), (AV.s (⟨#[]⟩ : ByteArray)), (AV.b false), (AV.s (⟨#[]⟩ : ByteArray))])]⟩), (0, some ⟨76, 7, [(AV.st [(AV.own 3 0 a.outs.length), (AV.own 5 0 a.ins.length), ((slA 1 AV.s) a.implicit), ((slA 1 AV.s) a.order), (AV.s a.command), (AV.b a.deps), (AV.s a.pool)])]⟩)]⟩) kr ?_
  refine AOps.done ?_
  refine Awp.seq ?_
  refine Awp.region tabS_ok ?_
  refine AOps.sn (x := (AV.own 6 0 0)) (h' := ⟨7, [(6, some ⟨9, 1, [].map AV.s⟩), (5, some ⟨9, 1, a.ins.map AV.s⟩), (4, none), (3, some ⟨9, 1, a.outs.map AV.s⟩), (2, none), (1, some ⟨76, 7, [(AV.st [(AV.sl 1 true []), (AV.sl 1 true []), (AV.sl 1 true []), (AV.sl 1 true []), (AV.s (⟨#[]⟩ : ByteArray)), (AV.b false), (AV.s (⟨#[]⟩ : ByteArray))])]⟩), (0, some ⟨76, 7, [(AV.st [(AV.own 3 0 a.outs.length), (AV.own 5 0 a.ins.length), ((slA 1 AV.s) a.implicit), ((slA 1 AV.s) a.order), (AV.s a.command), (AV.b a.deps), (AV.s a.pool)])]⟩)]⟩) kr le ?_
  refine AOps.sq (x := (AV.loc 0 0 2)) kr le ?_
  refine AOps.sq (x := ((slA 1 AV.s) a.implicit)) kr le ?_
  refine AOps.se (x := (AV.own 7 0 a.implicit.length)) (h' := ⟨8, [(7, some ⟨9, 1, a.implicit.map AV.s⟩), (6, none), (5, some ⟨9, 1, a.ins.map AV.s⟩), (4, none), (3, some ⟨9, 1, a.outs.map AV.s⟩), (2, none), (1, some ⟨76, 7, [(AV.st [(AV.sl 1 true []), (AV.sl 1 true []), (AV.sl 1 true []), (AV.sl 1 true []), (AV.s (⟨#[]⟩ : ByteArray)), (AV.b false), (AV.s (⟨#[]⟩ : ByteArray))])]⟩), (0, some ⟨76, 7, [(AV.st [(AV.own 3 0 a.outs.length), (AV.own 5 0 a.ins.length), ((slA 1 AV.s) a.implicit), ((slA 1 AV.s) a.order), (AV.s a.command), (AV.b a.deps), (AV.s a.pool)])]⟩)]⟩) (g_appR (len := 0) (e := 9) (X := ((slA 1 AV.s) a.implicit)) (A := AV.s) (i := tI_9) (p := 6) (xs := []) (ys := a.implicit) kr kr kr (hx := kr) kr ⟨by decide, by kernel_rfl⟩ rfl sd (by show _ * 16 ≤ 140737488355328; first | omega | (simp only [List.length_append, List.length_cons, List.length_nil, List.length_set, List.length_replicate]; omega) | (simp; omega)) sd) le ?_
  refine AOps.sq (x := (AV.loc 0 0 2)) kr le ?_
  refine AOps.st (x := AV.und) (h' := ⟨8, [(7, some ⟨9, 1, a.implicit.map AV.s⟩), (6, none), (5, some ⟨9, 1, a.ins.map AV.s⟩), (4, none), (3, some ⟨9, 1, a.outs.map AV.s⟩), (2, none), (1, some ⟨76, 7, [(AV.st [(AV.sl 1 true []), (AV.sl 1 true []), (AV.sl 1 true []), (AV.sl 1 true []), (AV.s (⟨#[]⟩ : ByteArray)), (AV.b false), (AV.s (⟨#[]⟩ : ByteArray))])]⟩), (0, some ⟨76, 7, [(AV.st [(AV.own 3 0 a.outs.length), (AV.own 5 0 a.ins.length), (AV.own 7 0 a.implicit.length), ((slA 1 AV.s) a.order), (AV.s a.command), (AV.b a.deps), (AV.s a.pool)])]⟩)]⟩) kr ?_
  refine AOps.done ?_
  refine Awp.seq ?_
  refine Awp.region tabS_ok ?_
  refine AOps.sn (x := (AV.own 8 0 0)) (h' := ⟨9, [(8, some ⟨9, 1, [].map AV.s⟩), (7, some ⟨9, 1, a.implicit.map AV.s⟩), (6, none), (5, some ⟨9, 1, a.ins.map AV.s⟩), (4, none), (3, some ⟨9, 1, a.outs.map AV.s⟩), (2, none), (1, some ⟨76, 7, [(AV.st [(AV.sl 1 true []), (AV.sl 1 true []), (AV.sl 1 true []), (AV.sl 1 true []), (AV.s (⟨#[]⟩ : ByteArray)), (AV.b false), (AV.s (⟨#[]⟩ : ByteArray))])]⟩), (0, some ⟨76, 7, [(AV.st [(AV.own 3 0 a.outs.length), (AV.own 5 0 a.ins.length), (AV.own 7 0 a.implicit.length), ((slA 1 AV.s) a.order), (AV.s a.command), (AV.b a.deps), (AV.s a.pool)])]⟩)]⟩) kr le ?_
  refine AOps.sq (x := (AV.loc 0 0 3)) kr le ?_
  refine AOps.sq (x := ((slA 1 AV.s) a.order)) kr le ?_
  refine AOps.se (x := (AV.own 9 0 a.order.length)) (h' := ⟨10, [(9, some ⟨9, 1, a.order.map AV.s⟩), (8, none), (7, some ⟨9, 1, a.implicit.map AV.s⟩), (6, none), (5, some ⟨9, 1, a.ins.map AV.s⟩), (4, none), (3, some ⟨9, 1, a.outs.map AV.s⟩), (2, none), (1, some ⟨76, 7, [(AV.st [(AV.sl 1 true []), (AV.sl 1 true []), (AV.sl 1 true []), (AV.sl 1 true []), (AV.s (⟨#[]⟩ : ByteArray)), (AV.b false), (AV.s (⟨#[]⟩ : ByteArray))])]⟩), (0, some ⟨76, 7, [(AV.st [(AV.own 3 0 a.outs.length), (AV.own 5 0 a.ins.length), (AV.own 7 0 a.implicit.length), ((slA 1 AV.s) a.order), (AV.s a.command), (AV.b a.deps), (AV.s a.pool)])]⟩)]⟩) (g_appR (len := 0) (e := 9) (X := ((slA 1 AV.s) a.order)) (A := AV.s) (i := tI_9) (p := 8) (xs := []) (ys := a.order) kr kr kr (hx := kr) kr ⟨by decide, by kernel_rfl⟩ rfl sd (by show _ * 16 ≤ 140737488355328; first | omega | (simp only [List.length_append, List.length_cons, List.length_nil, List.length_set, List.length_replicate]; omega) | (simp; omega)) sd) le ?_
  refine AOps.sq (x := (AV.loc 0 0 3)) kr le ?_
  refine AOps.st (x := AV.und) (h' := ⟨10, [(9, some ⟨9, 1, a.order.map AV.s⟩), (8, none), (7, some ⟨9, 1, a.implicit.map AV.s⟩), (6, none), (5, some ⟨9, 1, a.ins.map AV.s⟩), (4, none), (3, some ⟨9, 1, a.outs.map AV.s⟩), (2, none), (1, some ⟨76, 7, [(AV.st [(AV.sl 1 true []), (AV.sl 1 true []), (AV.sl 1 true []), (AV.sl 1 true []), (AV.s (⟨#[]⟩ : ByteArray)), (AV.b false), (AV.s (⟨#[]⟩ : ByteArray))])]⟩), (0, some ⟨76, 7, [(AV.st [(AV.own 3 0 a.outs.length), (AV.own 5 0 a.ins.length), (AV.own 7 0 a.implicit.length), (AV.own 9 0 a.order.length), (AV.s a.command), (AV.b a.deps), (AV.s a.pool)])]⟩)]⟩) kr ?_
  refine AOps.done ?_
  refine Awp.seq ?_
  refine Awp.region tabS_ok ?_
  refine AOps.sq (x := (AV.st [(AV.own 3 0 a.outs.length), (AV.own 5 0 a.ins.length), (AV.own 7 0 a.implicit.length), (AV.own 9 0 a.order.length), (AV.s a.command), (AV.b a.deps), (AV.s a.pool)])) kr le ?_
  refine AOps.st (x := AV.und) (h' := ⟨10, [(9, some ⟨9, 1, a.order.map AV.s⟩), (8, none), (7, some ⟨9, 1, a.implicit.map AV.s⟩), (6, none), (5, some ⟨9, 1, a.ins.map AV.s⟩), (4, none), (3, some ⟨9, 1, a.outs.map AV.s⟩), (2, none), (1, some ⟨76, 7, [(AV.st [(AV.own 3 0 a.outs.length), (AV.own 5 0 a.ins.length), (AV.own 7 0 a.implicit.length), (AV.own 9 0 a.order.length), (AV.s a.command), (AV.b a.deps), (AV.s a.pool)])]⟩), (0, some ⟨76, 7, [(AV.st [(AV.own 3 0 a.outs.length), (AV.own 5 0 a.ins.length), (AV.own 7 0 a.implicit.length), (AV.own 9 0 a.order.length), (AV.s a.command), (AV.b a.deps), (AV.s a.pool)])]⟩)]⟩) kr ?_
  refine AOps.done ?_
  refine Awp.ret ?_
  have hM : m_law0_CopyEdge a = (⟨a.outs, a.ins, a.implicit, a.order, a.command, a.deps, a.pool⟩ : DEdge) := by simp only [m_law0_CopyEdge, sbt]
  refine ⟨Or.inr rfl, (AV.st [(AV.own 3 0 a.outs.length), (AV.own 5 0 a.ins.length), (AV.own 7 0 a.implicit.length), (AV.own 9 0 a.order.length), (AV.s a.command), (AV.b a.deps), (AV.s a.pool)]), kr, ?_⟩
  rw [hM]
  exact Ent.cast (x' := (AV.st [(AV.own 3 0 a.outs.length), (AV.own 5 0 a.ins.length), (AV.own 7 0 a.implicit.length), (AV.own 9 0 a.order.length), (AV.s a.command), (AV.b a.deps), (AV.s a.pool)])) (y' := (DEdge.av (⟨a.outs, a.ins, a.implicit, a.order, a.command, a.deps, a.pool⟩ : DEdge))) kr kr (Ent.st ⟨(EntD.kk (x' := (AV.own 3 0 a.outs.length)) kr kr rfl (EntK.row (fun _ => rfl) (A := AV.s) (id := 3) (e := 9) (k := 1) (xs := a.outs) rfl rfl rfl sd)), ⟨(EntD.kk (x' := (AV.own 5 0 a.ins.length)) kr kr rfl (EntK.row (fun _ => rfl) (A := AV.s) (id := 5) (e := 9) (k := 1) (xs := a.ins) rfl rfl rfl sd)), ⟨(EntD.kk (x' := (AV.own 7 0 a.implicit.length)) kr kr rfl (EntK.row (fun _ => rfl) (A := AV.s) (id := 7) (e := 9) (k := 1) (xs := a.implicit) rfl rfl rfl sd)), ⟨(EntD.kk (x' := (AV.own 9 0 a.order.length)) kr kr rfl (EntK.row (fun _ => rfl) (A := AV.s) (id := 9) (e := 9) (k := 1) (xs := a.order) rfl rfl rfl sd)), ⟨(Ent.c kr kr), ⟨(Ent.c kr kr), ⟨(Ent.c kr kr), trivial⟩⟩⟩⟩⟩⟩⟩ kr)

theorem w_law0_CopyGraph (W : World) (a : DGraph) (hz : a.sz ≤ 1048576) : PureAt Go.Proofs.Tryz.prog W 14 [(DGraph.av a)] (DGraph.av (m_law0_CopyGraph a)) [] := by
  have hl := a.sz_len
  have hp := szL_len DPool.sz_one a.pools
  have hp2 := a.sz_pools
  have hd := szL_str a.defaults
  have hd2 := a.sz_defaults
  have he2 := a.sz_edges
  refine pure_of_bodyM tabS_ok (fn := Go.Proofs.Tryz.f14) Go.Proofs.Tryz.func14 rfl (en14 W) le ?_
  refine Awp.seq ?_
  refine Awp.region tabS_ok ?_
  refine AOps.sn (x := (AV.loc 0 0 0)) (h' := ⟨1, [(0, some ⟨26, 3, [(DGraph.av a)]⟩)]⟩) kr le ?_
  refine AOps.sn (x := (AV.loc 1 0 0)) (h' := ⟨2, [(1, some ⟨26, 3, [(AV.st [(AV.sl 7 true []), (AV.sl 2 true []), (AV.sl 1 true [])])]⟩), (0, some ⟨26, 3, [(DGraph.av a)]⟩)]⟩) kr le ?_
  refine AOps.done ?_
  refine Awp.seq ?_
  refine Awp.region tabS_ok ?_
  refine AOps.sq (x := (AV.sl 7 true [])) kr le ?_
  refine AOps.done ?_
  refine Awp.seq ?_
  refine Awp.seq ?_
  refine Awp.region tabS_ok ?_
  refine AOps.sq (x := (AV.i .i64 (0 : Int))) kr le ?_
  refine AOps.done ?_
  refine Awp.block ?_
  refine Awp.lim 0 (x := (DGraph.av a)) kr fun hlm1 => ?_
  have hB1 : a.edges.length ≤ 281474976710656 := lim_slA (DGraph.lim_edges hlm1)
  obtain ⟨R1, hR1⟩ : ∃ R, m_law0_CopyGraph_L1 a.edges 0 [] = R := ⟨_, rfl⟩
  refine Awp.loopT (fun ((edges, i) : (List DEdge) × Nat) => [(1, (AV.loc 1 0 0)), (2, (AV.loc 2 0 0)), (3, (accV 0 7 DEdge.av edges)), (4, (AV.i .i64 ((i : Nat) : Int)))]) (fun ((edges, i) : (List DEdge) × Nat) => ⟨3, [(0, accO 76 7 DEdge.av edges), (1, some ⟨26, 3, [(DGraph.av a)]⟩), (2, some ⟨26, 3, [(AV.st [(AV.sl 7 true []), (AV.sl 2 true []), (AV.sl 1 true [])])]⟩)]⟩) (fun ((edges, i) : (List DEdge) × Nat) => i ≤ a.edges.length ∧ edges.length ≤ i ∧ m_law0_CopyGraph_L1 (a.edges.drop i) i edges = R1) (fun ((edges, i) : (List DEdge) × Nat) => a.edges.length - i) ([], 0) ?_ ?_ ?_
  · exact ⟨[1000000, 0, 1], ⟨by decide, rfl, (FitsObjs.cons rfl (FitsObjs.cons kr (FitsObjs.cons kr FitsObjs.nil))), (EntE.cons (Ent.f kr) (EntE.cons (Ent.f kr) (EntE.cons (Ent.c kr kr) (EntE.cons (Ent.c kr kr) EntE.nil))))⟩, keep0⟩
  · exact ⟨od, sdd, hR1⟩
  · rintro ⟨edges, i⟩ ⟨hi1, ha, hE1⟩
    try dsimp only
    refine Awp.seq ?_
    refine Awp.seq ?_
    refine Awp.region tabS_ok ?_
    refine AOps.sq (x := (AV.i .i64 ((i : Nat) : Int))) kr le ?_
    refine AOps.sq (x := (AV.loc 1 0 0)) kr le ?_
    refine AOps.sq (x := ((slA 7 DEdge.av) a.edges)) kr le ?_
    refine AOps.sq (x := (AV.i .i64 ((a.edges.length : Nat) : Int))) (g_len (k := 7) (nl := false) (e := 76) (A := DEdge.av) (xs := a.edges) kr kr) le ?_
    refine AOps.sq (x := (AV.b (decide (((i : Nat) : Int) < ((a.edges.length : Nat) : Int))))) kr le ?_
    refine AOps.done ?_
    rcases Nat.lt_or_ge i a.edges.length with hl1 | hl1
    · have hc1 : decide (((i : Nat) : Int) < ((a.edges.length : Nat) : Int)) = true := decide_eq_true (by omega)
      refine Awp.cond (t := true) (by rw [← hc1] <;> kernel_rfl) (Awp.skip ?_)
      obtain ⟨x1, hx1⟩ : ∃ x, a.edges[i]? = some x := ⟨_, List.getElem?_eq_getElem hl1⟩
      rw [drop_at hx1, m_law0_CopyGraph_L1.eq_2] at hE1
      have hxz := szL_mem (sz := DEdge.sz) (List.mem_of_getElem? hx1)
      refine Awp.seq ?_
      refine Awp.block ?_
      refine Awp.region tabS_ok ?_
      refine AOps.sq (x := (accV 0 7 DEdge.av edges)) kr le ?_
      refine AOps.sq (x := (AV.loc 1 0 0)) kr le ?_
      refine AOps.sq (x := ((slA 7 DEdge.av) a.edges)) kr le ?_
      refine AOps.sq (x := (AV.i .i64 ((i : Nat) : Int))) kr le ?_
      refine AOps.sq (x := (AV.pt (DEdge.av x1).cells)) (g_idx (k := 7) (nl := false) (e := 76) (kk := .i64) (A := DEdge.av) (xs := a.edges) (i := i) kr kr kr ⟨by kernel_rfl, by decide⟩ hx1) le ?_
      refine AOps.sq (x := (DEdge.av x1)) kr le ?_
      refine AOps.sc0 (vs := [(DEdge.av x1)]) (r0 := (DEdge.av (m_law0_CopyEdge x1))) kr kr (w_law0_CopyEdge W x1 sd) kr le ?_
      refine AOps.sn (x := (AV.own 3 0 1)) (h' := ⟨4, [(3, some ⟨76, 7, [(m_law0_CopyEdge x1)].map DEdge.av⟩), (0, accO 76 7 DEdge.av edges), (1, some ⟨26, 3, [(DGraph.av a)]⟩), (2, some ⟨26, 3, [(AV.st [(AV.sl 7 true []), (AV.sl 2 true []), (AV.sl 1 true [])])]⟩)]⟩) kr le ?_
      refine AOps.se (x := (AV.own 4 0 ((edges ++ [(m_law0_CopyEdge x1)]).length))) (h' := ⟨5, [(4, some ⟨76, 7, (edges ++ [(m_law0_CopyEdge x1)]).map DEdge.av⟩), (3, some ⟨76, 7, [(m_law0_CopyEdge x1)].map DEdge.av⟩), (0, none), (1, some ⟨26, 3, [(DGraph.av a)]⟩), (2, some ⟨26, 3, [(AV.st [(AV.sl 7 true []), (AV.sl 2 true []), (AV.sl 1 true [])])]⟩)]⟩) (g_app (e := 76) (X := (AV.own 3 0 1)) (A := DEdge.av) (i := tI_76) (p := 0) (xs := edges) (ys := [(m_law0_CopyEdge x1)]) kr kr kr (hx := kr) kr (by simp) ⟨by decide, by kernel_rfl⟩ rfl (by intro q; first | (subst q; rfl) | (rw [q]; rfl) | (simp only [q]; rfl)) (by show _ * 136 ≤ 140737488355328; first | omega | (simp only [List.length_append, List.length_cons, List.length_nil, List.length_set, List.length_replicate]; omega) | (simp; omega)) sd) le ?_
      refine AOps.sq (x := (AV.own 4 0 ((edges ++ [(m_law0_CopyEdge x1)]).length))) kr le ?_
      refine AOps.done ?_
      refine Awp.region tabS_ok ?_
      refine AOps.sq (x := (AV.i .i64 ((i : Nat) : Int))) kr le ?_
      refine AOps.sq (x := (AV.i .i64 ((i + 1 : Nat) : Int))) (g_addN (i := i) (m := 1) kr kr sd) le ?_
      refine AOps.sq (x := (AV.i .i64 ((i + 1 : Nat) : Int))) kr le ?_
      refine AOps.done ?_
      refine ⟨((edges ++ [(m_law0_CopyEdge x1)]), i + 1), od, ⟨od, sdd, hE1⟩, ?_⟩
      exact ⟨[4, 1, 2], ⟨by decide, rfl, (FitsObjs.cons (obj_acc' (fun _ => rfl) (e := 76) (k := 7) (A := DEdge.av) (xs := (edges ++ [(m_law0_CopyEdge x1)])) (by simp) rfl rfl) (FitsObjs.cons kr (FitsObjs.cons kr FitsObjs.nil))), (EntE.cons (Ent.f kr) (EntE.cons (Ent.f kr) (EntE.cons (ent_keep (A := DEdge.av) (xs := (edges ++ [(m_law0_CopyEdge x1)])) (by decide) (by simp) rfl) (EntE.cons (Ent.c kr kr) EntE.nil))))⟩, keep0⟩
    · have hc1 : decide (((i : Nat) : Int) < ((a.edges.length : Nat) : Int)) = false := decide_eq_false (by omega)
      refine Awp.cond (t := false) (by rw [← hc1] <;> kernel_rfl) (Awp.exit ?_)
      rw [List.drop_eq_nil_of_le (hl1), m_law0_CopyGraph_L1.eq_1] at hE1
      subst hE1
      refine Awp.seq ?_
      refine Awp.region tabS_ok ?_
      refine AOps.sn (x := (AV.own 3 0 0)) (h' := ⟨4, [(3, some ⟨81, 2, [].map DPool.av⟩), (0, accO 76 7 DEdge.av edges), (1, some ⟨26, 3, [(DGraph.av a)]⟩), (2, some ⟨26, 3, [(AV.st [(AV.sl 7 true []), (AV.sl 2 true []), (AV.sl 1 true [])])]⟩)]⟩) kr le ?_
      refine AOps.sq (x := (AV.loc 1 0 1)) kr le ?_
      refine AOps.sq (x := ((slA 2 DPool.av) a.pools)) kr le ?_
      refine AOps.se (x := (AV.own 4 0 a.pools.length)) (h' := ⟨5, [(4, some ⟨81, 2, a.pools.map DPool.av⟩), (3, none), (0, accO 76 7 DEdge.av edges), (1, some ⟨26, 3, [(DGraph.av a)]⟩), (2, some ⟨26, 3, [(AV.st [(AV.sl 7 true []), (AV.sl 2 true []), (AV.sl 1 true [])])]⟩)]⟩) (g_appR (len := 0) (e := 81) (X := ((slA 2 DPool.av) a.pools)) (A := DPool.av) (i := tI_81) (p := 3) (xs := []) (ys := a.pools) kr kr kr (hx := kr) kr ⟨by decide, by kernel_rfl⟩ rfl sd (by show _ * 24 ≤ 140737488355328; first | omega | (simp only [List.length_append, List.length_cons, List.length_nil, List.length_set, List.length_replicate]; omega) | (simp; omega)) sd) le ?_
      refine AOps.sq (x := (AV.own 4 0 a.pools.length)) kr le ?_
      refine AOps.done ?_
      refine Awp.seq ?_
      refine Awp.region tabS_ok ?_
      refine AOps.sn (x := (AV.own 5 0 0)) (h' := ⟨6, [(5, some ⟨9, 1, [].map AV.s⟩), (4, some ⟨81, 2, a.pools.map DPool.av⟩), (3, none), (0, accO 76 7 DEdge.av edges), (1, some ⟨26, 3, [(DGraph.av a)]⟩), (2, some ⟨26, 3, [(AV.st [(AV.sl 7 true []), (AV.sl 2 true []), (AV.sl 1 true [])])]⟩)]⟩) kr le ?_
      refine AOps.sq (x := (AV.loc 1 0 2)) kr le ?_
      refine AOps.sq (x := ((slA 1 AV.s) a.defaults)) kr le ?_
      refine AOps.se (x := (AV.own 6 0 a.defaults.length)) (h' := ⟨7, [(6, some ⟨9, 1, a.defaults.map AV.s⟩), (5, none), (4, some ⟨81, 2, a.pools.map DPool.av⟩), (3, none), (0, accO 76 7 DEdge.av edges), (1, some ⟨26, 3, [(DGraph.av a)]⟩), (2, some ⟨26, 3, [(AV.st [(AV.sl 7 true []), (AV.sl 2 true []), (AV.sl 1 true [])])]⟩)]⟩) (g_appR (len := 0) (e := 9) (X := ((slA 1 AV.s) a.defaults)) (A := AV.s) (i := tI_9) (p := 5) (xs := []) (ys := a.defaults) kr kr kr (hx := kr) kr ⟨by decide, by kernel_rfl⟩ rfl sd (by show _ * 16 ≤ 140737488355328; first | omega | (simp only [List.length_append, List.length_cons, List.length_nil, List.length_set, List.length_replicate]; omega) | (simp; omega)) sd) le ?_
      refine AOps.sq (x := (AV.own 6 0 a.defaults.length)) kr le ?_
      refine AOps.done ?_
      refine Awp.seq ?_
      refine Awp.regionR ?_
      refine ROps.run tabS_ok 3 le ?_
      refine AOps.sq (x := (accV 0 7 DEdge.av edges)) kr le ?_
      refine AOps.sq (x := (AV.own 4 0 a.pools.length)) kr le ?_
      refine AOps.sq (x := (AV.own 6 0 a.defaults.length)) kr le ?_
      refine AOps.done ?_
      refine ROps.over (Over.fits [2, 4, 6] (env1 := [(2, (AV.loc 0 0 0)), (31, ((slA 7 DEdge.av) edges)), (32, (AV.own 1 0 a.pools.length)), (33, (AV.own 2 0 a.defaults.length))]) (h1 := ⟨3, [(2, some ⟨9, 1, a.defaults.map AV.s⟩), (1, some ⟨81, 2, a.pools.map DPool.av⟩), (0, some ⟨26, 3, [(AV.st [(AV.sl 7 true []), (AV.sl 2 true []), (AV.sl 1 true [])])]⟩)]⟩) ⟨by decide, rfl, (FitsObjs.cons kr (FitsObjs.cons (obj_row (fun _ => rfl) (e := 81) (k := 2) (A := DPool.av) (xs := a.pools) rfl rfl) (FitsObjs.cons (obj_row (fun _ => rfl) (e := 9) (k := 1) (A := AV.s) (xs := a.defaults) rfl rfl) FitsObjs.nil))), (EntE.cons (Ent.f kr) (EntE.cons (Ent.cast (x' := (accV 0 7 DEdge.av edges)) (y' := slA 7 DEdge.av edges) kr kr (ent_acc (fun _ => rfl) (by decide) (by decide) (e := 76) (k := 7) rfl sd)) (EntE.cons (Ent.f kr) (EntE.cons (Ent.f kr) EntE.nil))))⟩ keep0) ?_
      refine ROps.run tabS_ok 2 le ?_
      refine AOps.sn (x := (AV.st [((slA 7 DEdge.av) edges), (AV.own 1 0 a.pools.length), (AV.own 2 0 a.defaults.length)])) (h' := ⟨3, [(2, some ⟨9, 1, a.defaults.map AV.s⟩), (1, some ⟨81, 2, a.pools.map DPool.av⟩), (0, some ⟨26, 3, [(AV.st [(AV.sl 7 true []), (AV.sl 2 true []), (AV.sl 1 true [])])]⟩)]⟩) kr le ?_
      refine AOps.st (x := AV.und) (h' := ⟨3, [(2, some ⟨9, 1, a.defaults.map AV.s⟩), (1, some ⟨81, 2, a.pools.map DPool.av⟩), (0, some ⟨26, 3, [(AV.st [((slA 7 DEdge.av) edges), (AV.own 1 0 a.pools.length), (AV.own 2 0 a.defaults.length)])]⟩)]⟩) kr ?_
      refine AOps.done ?_
      refine ROps.fin rfl ?_
      refine Awp.ret ?_
      have hM : m_law0_CopyGraph a = (⟨edges, a.pools, a.defaults⟩ : DGraph) := by simp only [m_law0_CopyGraph, hR1, sbt]
      refine ⟨Or.inr rfl, (AV.st [((slA 7 DEdge.av) edges), (AV.own 1 0 a.pools.length), (AV.own 2 0 a.defaults.length)]), kr, ?_⟩
      rw [hM]
      exact Ent.cast (x' := (AV.st [((slA 7 DEdge.av) edges), (AV.own 1 0 a.pools.length), (AV.own 2 0 a.defaults.length)])) (y' := (DGraph.av (⟨edges, a.pools, a.defaults⟩ : DGraph))) kr kr (Ent.st ⟨(Ent.c kr kr), ⟨(EntD.kk (x' := (AV.own 1 0 a.pools.length)) kr kr rfl (EntK.row (fun _ => rfl) (A := DPool.av) (id := 1) (e := 81) (k := 2) (xs := a.pools) rfl rfl rfl sd)), ⟨(EntD.kk (x' := (AV.own 2 0 a.defaults.length)) kr kr rfl (EntK.row (fun _ => rfl) (A := AV.s) (id := 2) (e := 9) (k := 1) (xs := a.defaults) rfl rfl rfl sd)), trivial⟩⟩⟩ kr)

theorem w_law0_SameTexts (W : World) (a : List ByteArray) (b : List ByteArray) : PureAt Go.Proofs.Tryz.prog W 68 [((slA 1 AV.s) a), ((slA 1 AV.s) b)] (AV.b (m_law0_SameTexts a b)) [] := by
  refine pure_of_bodyC (fn := Go.Proofs.Tryz.f68) Go.Proofs.Tryz.func68 rfl (en68 W) (ts := [4]) rfl le ?_
  refine Awp.seq ?_
  refine Awp.region tabS_ok ?_
  refine AOps.sq (x := (AV.b false)) kr le ?_
  refine AOps.done ?_
  refine Awp.seq ?_
  refine Awp.seq ?_
  refine Awp.region tabS_ok ?_
  refine AOps.sq (x := ((slA 1 AV.s) a)) kr le ?_
  refine AOps.sq (x := (AV.i .i64 ((a.length : Nat) : Int))) (g_len (k := 1) (nl := false) (e := 9) (A := AV.s) (xs := a) kr kr) le ?_
  refine AOps.sq (x := ((slA 1 AV.s) b)) kr le ?_
  refine AOps.sq (x := (AV.i .i64 ((b.length : Nat) : Int))) (g_len (k := 1) (nl := false) (e := 9) (A := AV.s) (xs := b) kr kr) le ?_
  refine AOps.sq (x := (AV.b (!decide (((a.length : Nat) : Int) = ((b.length : Nat) : Int))))) kr le ?_
  refine AOps.done ?_
  cases c_1 : (!decide (((a.length : Nat) : Int) = ((b.length : Nat) : Int)))
  · have k_1 : (((a.length : Nat) : Int) = ((b.length : Nat) : Int)) := of_decide_eq_true (by simpa using c_1)
    refine Awp.cond (t := false) kr ?_
    refine Awp.skip ?_
    refine Awp.seq ?_
    refine Awp.seq ?_
    refine Awp.region tabS_ok ?_
    refine AOps.sq (x := (AV.i .i64 (0 : Int))) kr le ?_
    refine AOps.done ?_
    refine Awp.block ?_
    refine Awp.lim 0 (x := ((slA 1 AV.s) a)) kr fun hlm1 => ?_
    have hB1 : a.length ≤ 281474976710656 := lim_slA hlm1
    obtain ⟨R1, hR1⟩ : ∃ R, m_law0_SameTexts_L1 b a 0 = R := ⟨_, rfl⟩
    refine Awp.loopT (fun (i : Nat) => [(0, ((slA 1 AV.s) a)), (1, ((slA 1 AV.s) b)), (5, (AV.i .i64 ((i : Nat) : Int)))]) (fun (i : Nat) => ⟨0, []⟩) (fun (i : Nat) => i ≤ a.length ∧ m_law0_SameTexts_L1 b (a.drop i) i = R1) (fun (i : Nat) => a.length - i) 0 ?_ ?_ ?_
    · exact ⟨[], ⟨by decide, rfl, FitsObjs.nil, (EntE.cons (Ent.c kr kr) (EntE.cons (Ent.c kr kr) (EntE.cons (Ent.c kr kr) EntE.nil)))⟩, keep0⟩
    · exact ⟨od, hR1⟩
    · rintro i ⟨hi1, hE1⟩
      try dsimp only
      refine Awp.seq ?_
      refine Awp.seq ?_
      refine Awp.region tabS_ok ?_
      refine AOps.sq (x := (AV.i .i64 ((i : Nat) : Int))) kr le ?_
      refine AOps.sq (x := ((slA 1 AV.s) a)) kr le ?_
      refine AOps.sq (x := (AV.i .i64 ((a.length : Nat) : Int))) (g_len (k := 1) (nl := false) (e := 9) (A := AV.s) (xs := a) kr kr) le ?_
      refine AOps.sq (x := (AV.b (decide (((i : Nat) : Int) < ((a.length : Nat) : Int))))) kr le ?_
      refine AOps.done ?_
      rcases Nat.lt_or_ge i a.length with hl1 | hl1
      · have hc1 : decide (((i : Nat) : Int) < ((a.length : Nat) : Int)) = true := decide_eq_true (by omega)
        refine Awp.cond (t := true) (by rw [← hc1] <;> kernel_rfl) (Awp.skip ?_)
        obtain ⟨x1, hx1⟩ : ∃ x, a[i]? = some x := ⟨_, List.getElem?_eq_getElem hl1⟩
        rw [drop_at hx1, m_law0_SameTexts_L1.eq_2] at hE1
        refine Awp.seq ?_
        refine Awp.block ?_
        refine Awp.seq ?_
        refine Awp.drawn tabS_ok mixed 8 kr le ?_
        refine AOpsD.sq (x := ((slA 1 AV.s) a)) kr le ?_
        refine AOpsD.sq (x := (AV.i .i64 ((i : Nat) : Int))) kr le ?_
        refine AOpsD.sq (x := (AV.pt (AV.s x1).cells)) (g_idx (k := 1) (nl := false) (e := 9) (kk := .i64) (A := AV.s) (xs := a) (i := i) kr kr kr ⟨by kernel_rfl, by decide⟩ hx1) le ?_
        refine AOpsD.sq (x := (AV.s x1)) kr le ?_
        refine AOpsD.sq (x := ((slA 1 AV.s) b)) kr le ?_
        refine AOpsD.sq (x := (AV.i .i64 ((i : Nat) : Int))) kr le ?_
        refine AOpsD.sq (x := (AV.pt (AV.s (b.getD i default)).cells)) (g_idx (k := 1) (nl := false) (e := 9) (kk := .i64) (A := AV.s) (xs := b) (i := i) kr kr kr ⟨by kernel_rfl, by decide⟩ (getD_some sd)) le ?_
        refine AOpsD.sq (x := (AV.s (b.getD i default))) kr le ?_
        refine AOpsD.sq (x := (AV.b (!decide (x1 = (b.getD i default))))) kr le ?_
        refine AOpsD.fin ?_
        cases c_2 : (!decide (x1 = (b.getD i default)))
        · have k_2 : (x1 = (b.getD i default)) := of_decide_eq_true (by simpa using c_2)
          refine Awp.cond (t := false) kr ?_
          refine Awp.skip ?_
          refine Awp.region tabS_ok ?_
          refine AOps.sq (x := (AV.i .i64 ((i : Nat) : Int))) kr le ?_
          refine AOps.sq (x := (AV.i .i64 ((i + 1 : Nat) : Int))) (g_addN (i := i) (m := 1) kr kr sd) le ?_
          refine AOps.sq (x := (AV.i .i64 ((i + 1 : Nat) : Int))) kr le ?_
          refine AOps.done ?_
          try simp only [c_2, sbt] at hE1
          refine ⟨i + 1, od, ⟨od, hE1⟩, ?_⟩
          exact ⟨[], ⟨by decide, rfl, FitsObjs.nil, (EntE.cons (Ent.c kr kr) (EntE.cons (Ent.c kr kr) (EntE.cons (Ent.c kr kr) EntE.nil)))⟩, keep0⟩
        · have k_2 : ¬ (x1 = (b.getD i default)) := of_decide_eq_false (by simpa using c_2)
          refine Awp.cond (t := true) kr ?_
          refine Awp.seq ?_
          refine Awp.region tabS_ok ?_
          refine AOps.sq (x := (AV.b false)) kr le ?_
          refine AOps.done ?_
          refine Awp.ret ?_
          try simp only [c_2, sbt] at hE1
          subst hE1
          have hM : m_law0_SameTexts a b = false := by simp only [m_law0_SameTexts, c_1, hR1, sbt]
          refine ⟨Or.inr rfl, ?_⟩
          rw [hM]
          exact Ent.cast (x' := (AV.b false)) (y' := (AV.b false)) kr kr (Ent.c kr kr)
      · have hc1 : decide (((i : Nat) : Int) < ((a.length : Nat) : Int)) = false := decide_eq_false (by omega)
        refine Awp.cond (t := false) (by rw [← hc1] <;> kernel_rfl) (Awp.exit ?_)
        rw [List.drop_eq_nil_of_le (hl1), m_law0_SameTexts_L1.eq_1] at hE1
        subst hE1
        refine Awp.seq ?_
        refine Awp.region tabS_ok ?_
        refine AOps.sq (x := (AV.b true)) kr le ?_
        refine AOps.done ?_
        refine Awp.ret ?_
        have hM : m_law0_SameTexts a b = true := by simp only [m_law0_SameTexts, c_1, hR1, sbt]
        refine ⟨Or.inr rfl, ?_⟩
        rw [hM]
        exact Ent.cast (x' := (AV.b true)) (y' := (AV.b true)) kr kr (Ent.c kr kr)
  · have k_1 : ¬ (((a.length : Nat) : Int) = ((b.length : Nat) : Int)) := of_decide_eq_false (by simpa using c_1)
    refine Awp.cond (t := true) kr ?_
    refine Awp.seq ?_
    refine Awp.region tabS_ok ?_
    refine AOps.sq (x := (AV.b false)) kr le ?_
    refine AOps.done ?_
    refine Awp.ret ?_
    have hM : m_law0_SameTexts a b = false := by simp only [m_law0_SameTexts, c_1, sbt]
    refine ⟨Or.inr rfl, ?_⟩
    rw [hM]
    exact Ent.cast (x' := (AV.b false)) (y' := (AV.b false)) kr kr (Ent.c kr kr)

theorem w_law0_SameEdge (W : World) (a : DEdge) (b : DEdge) : PureAt Go.Proofs.Tryz.prog W 66 [(DEdge.av a), (DEdge.av b)] (AV.b (m_law0_SameEdge a b)) [] := by
  refine pure_of_bodyC (fn := Go.Proofs.Tryz.f66) Go.Proofs.Tryz.func66 rfl (en66 W) (ts := [4]) rfl le ?_
  refine Awp.seq ?_
  refine Awp.region tabS_ok ?_
  refine AOps.sn (x := (AV.loc 0 0 0)) (h' := ⟨1, [(0, some ⟨76, 7, [(DEdge.av a)]⟩)]⟩) kr le ?_
  refine AOps.sn (x := (AV.loc 1 0 0)) (h' := ⟨2, [(1, some ⟨76, 7, [(DEdge.av b)]⟩), (0, some ⟨76, 7, [(DEdge.av a)]⟩)]⟩) kr le ?_
  refine AOps.sq (x := (AV.b false)) kr le ?_
  refine AOps.done ?_
  refine Awp.seq ?_
  refine Awp.region tabS_ok ?_
  refine AOps.sq (x := (AV.loc 0 0 0)) kr le ?_
  refine AOps.sq (x := ((slA 1 AV.s) a.outs)) kr le ?_
  refine AOps.sq (x := (AV.loc 1 0 0)) kr le ?_
  refine AOps.sq (x := ((slA 1 AV.s) b.outs)) kr le ?_
  refine AOps.sc0 (vs := [((slA 1 AV.s) a.outs), ((slA 1 AV.s) b.outs)]) (r0 := (AV.b (m_law0_SameTexts a.outs b.outs))) kr kr (w_law0_SameTexts W a.outs b.outs) kr le ?_
  refine AOps.sq (x := (AV.b (m_law0_SameTexts a.outs b.outs))) kr le ?_
  cases c_1 : (m_law0_SameTexts a.outs b.outs)
  · refine AOps.sgn rfl rfl kr rfl le ?_
    refine AOps.sgn rfl rfl kr rfl le ?_
    refine AOps.sgn rfl rfl kr rfl le ?_
    refine AOps.sgn rfl rfl kr rfl le ?_
    refine AOps.sgn rfl rfl kr rfl le ?_
    refine AOps.sq (x := (AV.b false)) kr le ?_
    refine AOps.sq (x := (AV.b false)) kr le ?_
    refine AOps.sgn rfl rfl kr rfl le ?_
    refine AOps.sgn rfl rfl kr rfl le ?_
    refine AOps.sgn rfl rfl kr rfl le ?_
    refine AOps.sgn rfl rfl kr rfl le ?_
    refine AOps.sgn rfl rfl kr rfl le ?_
    refine AOps.sq (x := (AV.b false)) kr le ?_
    refine AOps.sq (x := (AV.b false)) kr le ?_
    refine AOps.sgn rfl rfl kr rfl le ?_
    refine AOps.sgn rfl rfl kr rfl le ?_
    refine AOps.sgn rfl rfl kr rfl le ?_
    refine AOps.sgn rfl rfl kr rfl le ?_
    refine AOps.sgn rfl rfl kr rfl le ?_
    refine AOps.sq (x := (AV.b false)) kr le ?_
    refine AOps.sq (x := (AV.b false)) kr le ?_
    refine AOps.sgn rfl rfl kr rfl le ?_
    refine AOps.sgn rfl rfl kr rfl le ?_
    refine AOps.sgn rfl rfl kr rfl le ?_
    refine AOps.sgn rfl rfl kr rfl le ?_
    refine AOps.sgn rfl rfl kr rfl le ?_
    refine AOps.sq (x := (AV.b false)) kr le ?_
    refine AOps.sq (x := (AV.b false)) kr le ?_
    refine AOps.sgn rfl rfl kr rfl le ?_
    refine AOps.sgn rfl rfl kr rfl le ?_
    refine AOps.sgn rfl rfl kr rfl le ?_
    refine AOps.sgn rfl rfl kr rfl le ?_
    refine AOps.sgn rfl rfl kr rfl le ?_
    refine AOps.sq (x := (AV.b false)) kr le ?_
    refine AOps.sq (x := (AV.b false)) kr le ?_
    refine AOps.sgn rfl rfl kr rfl le ?_
    refine AOps.sgn rfl rfl kr rfl le ?_
    refine AOps.sgn rfl rfl kr rfl le ?_
    refine AOps.sgn rfl rfl kr rfl le ?_
    refine AOps.sgn rfl rfl kr rfl le ?_
    refine AOps.sq (x := (AV.b false)) kr le ?_
    refine AOps.sq (x := (AV.b false)) kr le ?_
    refine AOps.done ?_
    refine Awp.ret ?_
    have hM : m_law0_SameEdge a b = false := by simp only [m_law0_SameEdge, c_1, sbt]
    refine ⟨Or.inr rfl, ?_⟩
    rw [hM]
    exact Ent.cast (x' := (AV.b false)) (y' := (AV.b false)) kr kr (Ent.c kr kr)
  · refine AOps.sgy rfl rfl kr rfl ?_
    refine AOps.sq (x := (AV.loc 0 0 1)) kr le ?_
    refine AOps.sgy rfl rfl kr rfl ?_
    refine AOps.sq (x := ((slA 1 AV.s) a.ins)) kr le ?_
    refine AOps.sgy rfl rfl kr rfl ?_
    refine AOps.sq (x := (AV.loc 1 0 1)) kr le ?_
    refine AOps.sgy rfl rfl kr rfl ?_
    refine AOps.sq (x := ((slA 1 AV.s) b.ins)) kr le ?_
    refine AOps.sgy rfl rfl kr rfl ?_
    refine AOps.sc0 (vs := [((slA 1 AV.s) a.ins), ((slA 1 AV.s) b.ins)]) (r0 := (AV.b (m_law0_SameTexts a.ins b.ins))) kr kr (w_law0_SameTexts W a.ins b.ins) kr le ?_
    refine AOps.sq (x := (AV.b (m_law0_SameTexts a.ins b.ins))) kr le ?_
    refine AOps.sq (x := (AV.b (m_law0_SameTexts a.ins b.ins))) kr le ?_
    cases c_2 : (m_law0_SameTexts a.ins b.ins)
    · refine AOps.sgn rfl rfl kr rfl le ?_
      refine AOps.sgn rfl rfl kr rfl le ?_
      refine AOps.sgn rfl rfl kr rfl le ?_
      refine AOps.sgn rfl rfl kr rfl le ?_
      refine AOps.sgn rfl rfl kr rfl le ?_
      refine AOps.sq (x := (AV.b false)) kr le ?_
      refine AOps.sq (x := (AV.b false)) kr le ?_
      refine AOps.sgn rfl rfl kr rfl le ?_
      refine AOps.sgn rfl rfl kr rfl le ?_
      refine AOps.sgn rfl rfl kr rfl le ?_
      refine AOps.sgn rfl rfl kr rfl le ?_
      refine AOps.sgn rfl rfl kr rfl le ?_
      refine AOps.sq (x := (AV.b false)) kr le ?_
      refine AOps.sq (x := (AV.b false)) kr le ?_
      refine AOps.sgn rfl rfl kr rfl le ?_
      refine AOps.sgn rfl rfl kr rfl le ?_
      refine AOps.sgn rfl rfl kr rfl le ?_
      refine AOps.sgn rfl rfl kr rfl le ?_
      refine AOps.sgn rfl rfl kr rfl le ?_
      refine AOps.sq (x := (AV.b false)) kr le ?_
      refine AOps.sq (x := (AV.b false)) kr le ?_
      refine AOps.sgn rfl rfl kr rfl le ?_
      refine AOps.sgn rfl rfl kr rfl le ?_
      refine AOps.sgn rfl rfl kr rfl le ?_
      refine AOps.sgn rfl rfl kr rfl le ?_
      refine AOps.sgn rfl rfl kr rfl le ?_
      refine AOps.sq (x := (AV.b false)) kr le ?_
      refine AOps.sq (x := (AV.b false)) kr le ?_
      refine AOps.sgn rfl rfl kr rfl le ?_
      refine AOps.sgn rfl rfl kr rfl le ?_
      refine AOps.sgn rfl rfl kr rfl le ?_
      refine AOps.sgn rfl rfl kr rfl le ?_
      refine AOps.sgn rfl rfl kr rfl le ?_
      refine AOps.sq (x := (AV.b false)) kr le ?_
      refine AOps.sq (x := (AV.b false)) kr le ?_
      refine AOps.done ?_
      refine Awp.ret ?_
      have hM : m_law0_SameEdge a b = false := by simp only [m_law0_SameEdge, c_1, c_2, sbt]
      refine ⟨Or.inr rfl, ?_⟩
      rw [hM]
      exact Ent.cast (x' := (AV.b false)) (y' := (AV.b false)) kr kr (Ent.c kr kr)
    · refine AOps.sgy rfl rfl kr rfl ?_
      refine AOps.sq (x := (AV.loc 0 0 2)) kr le ?_
      refine AOps.sgy rfl rfl kr rfl ?_
      refine AOps.sq (x := ((slA 1 AV.s) a.implicit)) kr le ?_
      refine AOps.sgy rfl rfl kr rfl ?_
      refine AOps.sq (x := (AV.loc 1 0 2)) kr le ?_
      refine AOps.sgy rfl rfl kr rfl ?_
      refine AOps.sq (x := ((slA 1 AV.s) b.implicit)) kr le ?_
      refine AOps.sgy rfl rfl kr rfl ?_
      refine AOps.sc0 (vs := [((slA 1 AV.s) a.implicit), ((slA 1 AV.s) b.implicit)]) (r0 := (AV.b (m_law0_SameTexts a.implicit b.implicit))) kr kr (w_law0_SameTexts W a.implicit b.implicit) kr le ?_
      refine AOps.sq (x := (AV.b (m_law0_SameTexts a.implicit b.implicit))) kr le ?_
      refine AOps.sq (x := (AV.b (m_law0_SameTexts a.implicit b.implicit))) kr le ?_
      cases c_3 : (m_law0_SameTexts a.implicit b.implicit)
      · refine AOps.sgn rfl rfl kr rfl le ?_
        refine AOps.sgn rfl rfl kr rfl le ?_
        refine AOps.sgn rfl rfl kr rfl le ?_
        refine AOps.sgn rfl rfl kr rfl le ?_
        refine AOps.sgn rfl rfl kr rfl le ?_
        refine AOps.sq (x := (AV.b false)) kr le ?_
        refine AOps.sq (x := (AV.b false)) kr le ?_
        refine AOps.sgn rfl rfl kr rfl le ?_
        refine AOps.sgn rfl rfl kr rfl le ?_
        refine AOps.sgn rfl rfl kr rfl le ?_
        refine AOps.sgn rfl rfl kr rfl le ?_
        refine AOps.sgn rfl rfl kr rfl le ?_
        refine AOps.sq (x := (AV.b false)) kr le ?_
        refine AOps.sq (x := (AV.b false)) kr le ?_
        refine AOps.sgn rfl rfl kr rfl le ?_
        refine AOps.sgn rfl rfl kr rfl le ?_
        refine AOps.sgn rfl rfl kr rfl le ?_
        refine AOps.sgn rfl rfl kr rfl le ?_
        refine AOps.sgn rfl rfl kr rfl le ?_
        refine AOps.sq (x := (AV.b false)) kr le ?_
        refine AOps.sq (x := (AV.b false)) kr le ?_
        refine AOps.sgn rfl rfl kr rfl le ?_
        refine AOps.sgn rfl rfl kr rfl le ?_
        refine AOps.sgn rfl rfl kr rfl le ?_
        refine AOps.sgn rfl rfl kr rfl le ?_
        refine AOps.sgn rfl rfl kr rfl le ?_
        refine AOps.sq (x := (AV.b false)) kr le ?_
        refine AOps.sq (x := (AV.b false)) kr le ?_
        refine AOps.done ?_
        refine Awp.ret ?_
        have hM : m_law0_SameEdge a b = false := by simp only [m_law0_SameEdge, c_1, c_2, c_3, sbt]
        refine ⟨Or.inr rfl, ?_⟩
        rw [hM]
        exact Ent.cast (x' := (AV.b false)) (y' := (AV.b false)) kr kr (Ent.c kr kr)
      · refine AOps.sgy rfl rfl kr rfl ?_
        refine AOps.sq (x := (AV.loc 0 0 3)) kr le ?_
        refine AOps.sgy rfl rfl kr rfl ?_
        refine AOps.sq (x := ((slA 1 AV.s) a.order)) kr le ?_
        refine AOps.sgy rfl rfl kr rfl ?_
        refine AOps.sq (x := (AV.loc 1 0 3)) kr le ?_
        refine AOps.sgy rfl rfl kr rfl ?_
        refine AOps.sq (x := ((slA 1 AV.s) b.order)) kr le ?_
        refine AOps.sgy rfl rfl kr rfl ?_
        refine AOps.sc0 (vs := [((slA 1 AV.s) a.order), ((slA 1 AV.s) b.order)]) (r0 := (AV.b (m_law0_SameTexts a.order b.order))) kr kr (w_law0_SameTexts W a.order b.order) kr le ?_
        refine AOps.sq (x := (AV.b (m_law0_SameTexts a.order b.order))) kr le ?_
        refine AOps.sq (x := (AV.b (m_law0_SameTexts a.order b.order))) kr le ?_
        cases c_4 : (m_law0_SameTexts a.order b.order)
        · refine AOps.sgn rfl rfl kr rfl le ?_
          refine AOps.sgn rfl rfl kr rfl le ?_
          refine AOps.sgn rfl rfl kr rfl le ?_
          refine AOps.sgn rfl rfl kr rfl le ?_
          refine AOps.sgn rfl rfl kr rfl le ?_
          refine AOps.sq (x := (AV.b false)) kr le ?_
          refine AOps.sq (x := (AV.b false)) kr le ?_
          refine AOps.sgn rfl rfl kr rfl le ?_
          refine AOps.sgn rfl rfl kr rfl le ?_
          refine AOps.sgn rfl rfl kr rfl le ?_
          refine AOps.sgn rfl rfl kr rfl le ?_
          refine AOps.sgn rfl rfl kr rfl le ?_
          refine AOps.sq (x := (AV.b false)) kr le ?_
          refine AOps.sq (x := (AV.b false)) kr le ?_
          refine AOps.sgn rfl rfl kr rfl le ?_
          refine AOps.sgn rfl rfl kr rfl le ?_
          refine AOps.sgn rfl rfl kr rfl le ?_
          refine AOps.sgn rfl rfl kr rfl le ?_
          refine AOps.sgn rfl rfl kr rfl le ?_
          refine AOps.sq (x := (AV.b false)) kr le ?_
          refine AOps.sq (x := (AV.b false)) kr le ?_
          refine AOps.done ?_
          refine Awp.ret ?_
          have hM : m_law0_SameEdge a b = false := by simp only [m_law0_SameEdge, c_1, c_2, c_3, c_4, sbt]
          refine ⟨Or.inr rfl, ?_⟩
          rw [hM]
          exact Ent.cast (x' := (AV.b false)) (y' := (AV.b false)) kr kr (Ent.c kr kr)
        · refine AOps.sgy rfl rfl kr rfl ?_
          refine AOps.sq (x := (AV.loc 0 0 4)) kr le ?_
          refine AOps.sgy rfl rfl kr rfl ?_
          refine AOps.sq (x := (AV.s a.command)) kr le ?_
          refine AOps.sgy rfl rfl kr rfl ?_
          refine AOps.sq (x := (AV.loc 1 0 4)) kr le ?_
          refine AOps.sgy rfl rfl kr rfl ?_
          refine AOps.sq (x := (AV.s b.command)) kr le ?_
          refine AOps.sgy rfl rfl kr rfl ?_
          refine AOps.sq (x := (AV.b (decide (a.command = b.command)))) kr le ?_
          refine AOps.sq (x := (AV.b (decide (a.command = b.command)))) kr le ?_
          refine AOps.sq (x := (AV.b (decide (a.command = b.command)))) kr le ?_
          cases c_5 : decide (a.command = b.command)
          · have k_5 : ¬ (a.command = b.command) := of_decide_eq_false c_5
            refine AOps.sgn rfl rfl kr rfl le ?_
            refine AOps.sgn rfl rfl kr rfl le ?_
            refine AOps.sgn rfl rfl kr rfl le ?_
            refine AOps.sgn rfl rfl kr rfl le ?_
            refine AOps.sgn rfl rfl kr rfl le ?_
            refine AOps.sq (x := (AV.b false)) kr le ?_
            refine AOps.sq (x := (AV.b false)) kr le ?_
            refine AOps.sgn rfl rfl kr rfl le ?_
            refine AOps.sgn rfl rfl kr rfl le ?_
            refine AOps.sgn rfl rfl kr rfl le ?_
            refine AOps.sgn rfl rfl kr rfl le ?_
            refine AOps.sgn rfl rfl kr rfl le ?_
            refine AOps.sq (x := (AV.b false)) kr le ?_
            refine AOps.sq (x := (AV.b false)) kr le ?_
            refine AOps.done ?_
            refine Awp.ret ?_
            have hM : m_law0_SameEdge a b = false := by simp only [m_law0_SameEdge, c_1, c_2, c_3, c_4, c_5, sbt]
            refine ⟨Or.inr rfl, ?_⟩
            rw [hM]
            exact Ent.cast (x' := (AV.b false)) (y' := (AV.b false)) kr kr (Ent.c kr kr)
          · have k_5 : (a.command = b.command) := of_decide_eq_true c_5
            refine AOps.sgy rfl rfl kr rfl ?_
            refine AOps.sq (x := (AV.loc 0 0 5)) kr le ?_
            refine AOps.sgy rfl rfl kr rfl ?_
            refine AOps.sq (x := (AV.b a.deps)) kr le ?_
            refine AOps.sgy rfl rfl kr rfl ?_
            refine AOps.sq (x := (AV.loc 1 0 5)) kr le ?_
            refine AOps.sgy rfl rfl kr rfl ?_
            refine AOps.sq (x := (AV.b b.deps)) kr le ?_
            refine AOps.sgy rfl rfl kr rfl ?_
            refine AOps.sq (x := (AV.b (a.deps == b.deps))) kr le ?_
            refine AOps.sq (x := (AV.b (a.deps == b.deps))) kr le ?_
            refine AOps.sq (x := (AV.b (a.deps == b.deps))) kr le ?_
            cases c_6 : (a.deps == b.deps)
            · refine AOps.sgn rfl rfl kr rfl le ?_
              refine AOps.sgn rfl rfl kr rfl le ?_
              refine AOps.sgn rfl rfl kr rfl le ?_
              refine AOps.sgn rfl rfl kr rfl le ?_
              refine AOps.sgn rfl rfl kr rfl le ?_
              refine AOps.sq (x := (AV.b false)) kr le ?_
              refine AOps.sq (x := (AV.b false)) kr le ?_
              refine AOps.done ?_
              refine Awp.ret ?_
              have hM : m_law0_SameEdge a b = false := by simp only [m_law0_SameEdge, c_1, c_2, c_3, c_4, c_5, c_6, sbt]
              refine ⟨Or.inr rfl, ?_⟩
              rw [hM]
              exact Ent.cast (x' := (AV.b false)) (y' := (AV.b false)) kr kr (Ent.c kr kr)
            · refine AOps.sgy rfl rfl kr rfl ?_
              refine AOps.sq (x := (AV.loc 0 0 6)) kr le ?_
              refine AOps.sgy rfl rfl kr rfl ?_
              refine AOps.sq (x := (AV.s a.pool)) kr le ?_
              refine AOps.sgy rfl rfl kr rfl ?_
              refine AOps.sq (x := (AV.loc 1 0 6)) kr le ?_
              refine AOps.sgy rfl rfl kr rfl ?_
              refine AOps.sq (x := (AV.s b.pool)) kr le ?_
              refine AOps.sgy rfl rfl kr rfl ?_
              refine AOps.sq (x := (AV.b (decide (a.pool = b.pool)))) kr le ?_
              refine AOps.sq (x := (AV.b (decide (a.pool = b.pool)))) kr le ?_
              refine AOps.sq (x := (AV.b (decide (a.pool = b.pool)))) kr le ?_
              refine AOps.done ?_
              refine Awp.ret ?_
              have hM : m_law0_SameEdge a b = decide (a.pool = b.pool) := by simp only [m_law0_SameEdge, c_1, c_2, c_3, c_4, c_5, c_6, sbt]
              refine ⟨Or.inr rfl, ?_⟩
              rw [hM]
              exact Ent.cast (x' := (AV.b (decide (a.pool = b.pool)))) (y' := (AV.b (decide (a.pool = b.pool)))) kr kr (Ent.c kr kr)

theorem w_law0_SamePools (W : World) (a : List DPool) (b : List DPool) : PureAt Go.Proofs.Tryz.prog W 67 [((slA 2 DPool.av) a), ((slA 2 DPool.av) b)] (AV.b (m_law0_SamePools a b)) [] := by
  refine pure_of_bodyC (fn := Go.Proofs.Tryz.f67) Go.Proofs.Tryz.func67 rfl (en67 W) (ts := [4]) rfl le ?_
  refine Awp.seq ?_
  refine Awp.region tabS_ok ?_
  refine AOps.sq (x := (AV.b false)) kr le ?_
  refine AOps.done ?_
  refine Awp.seq ?_
  refine Awp.seq ?_
  refine Awp.region tabS_ok ?_
  refine AOps.sq (x := ((slA 2 DPool.av) a)) kr le ?_
  refine AOps.sq (x := (AV.i .i64 ((a.length : Nat) : Int))) (g_len (k := 2) (nl := false) (e := 81) (A := DPool.av) (xs := a) kr kr) le ?_
  refine AOps.sq (x := ((slA 2 DPool.av) b)) kr le ?_
  refine AOps.sq (x := (AV.i .i64 ((b.length : Nat) : Int))) (g_len (k := 2) (nl := false) (e := 81) (A := DPool.av) (xs := b) kr kr) le ?_
  refine AOps.sq (x := (AV.b (!decide (((a.length : Nat) : Int) = ((b.length : Nat) : Int))))) kr le ?_
  refine AOps.done ?_
  cases c_1 : (!decide (((a.length : Nat) : Int) = ((b.length : Nat) : Int)))
  · have k_1 : (((a.length : Nat) : Int) = ((b.length : Nat) : Int)) := of_decide_eq_true (by simpa using c_1)
    refine Awp.cond (t := false) kr ?_
    refine Awp.skip ?_
    refine Awp.seq ?_
    refine Awp.seq ?_
    refine Awp.region tabS_ok ?_
    refine AOps.sq (x := (AV.i .i64 (0 : Int))) kr le ?_
    refine AOps.done ?_
    refine Awp.block ?_
    refine Awp.lim 0 (x := ((slA 2 DPool.av) a)) kr fun hlm1 => ?_
    have hB1 : a.length ≤ 281474976710656 := lim_slA hlm1
    obtain ⟨R1, hR1⟩ : ∃ R, m_law0_SamePools_L1 b a 0 = R := ⟨_, rfl⟩
    refine Awp.loopT (fun (i : Nat) => [(0, ((slA 2 DPool.av) a)), (1, ((slA 2 DPool.av) b)), (5, (AV.i .i64 ((i : Nat) : Int)))]) (fun (i : Nat) => ⟨0, []⟩) (fun (i : Nat) => i ≤ a.length ∧ m_law0_SamePools_L1 b (a.drop i) i = R1) (fun (i : Nat) => a.length - i) 0 ?_ ?_ ?_
    · exact ⟨[], ⟨by decide, rfl, FitsObjs.nil, (EntE.cons (Ent.c kr kr) (EntE.cons (Ent.c kr kr) (EntE.cons (Ent.c kr kr) EntE.nil)))⟩, keep0⟩
    · exact ⟨od, hR1⟩
    · rintro i ⟨hi1, hE1⟩
      try dsimp only
      refine Awp.seq ?_
      refine Awp.seq ?_
      refine Awp.region tabS_ok ?_
      refine AOps.sq (x := (AV.i .i64 ((i : Nat) : Int))) kr le ?_
      refine AOps.sq (x := ((slA 2 DPool.av) a)) kr le ?_
      refine AOps.sq (x := (AV.i .i64 ((a.length : Nat) : Int))) (g_len (k := 2) (nl := false) (e := 81) (A := DPool.av) (xs := a) kr kr) le ?_
      refine AOps.sq (x := (AV.b (decide (((i : Nat) : Int) < ((a.length : Nat) : Int))))) kr le ?_
      refine AOps.done ?_
      rcases Nat.lt_or_ge i a.length with hl1 | hl1
      · have hc1 : decide (((i : Nat) : Int) < ((a.length : Nat) : Int)) = true := decide_eq_true (by omega)
        refine Awp.cond (t := true) (by rw [← hc1] <;> kernel_rfl) (Awp.skip ?_)
        obtain ⟨x1, hx1⟩ : ∃ x, a[i]? = some x := ⟨_, List.getElem?_eq_getElem hl1⟩
        rw [drop_at hx1, m_law0_SamePools_L1.eq_2] at hE1
        refine Awp.seq ?_
        refine Awp.block ?_
        refine Awp.seq ?_
        refine Awp.drawn tabS_ok mixed 8 kr le ?_
        refine AOpsD.sq (x := ((slA 2 DPool.av) a)) kr le ?_
        refine AOpsD.sq (x := (AV.i .i64 ((i : Nat) : Int))) kr le ?_
        refine AOpsD.sq (x := (AV.pt (DPool.av x1).cells)) (g_idx (k := 2) (nl := false) (e := 81) (kk := .i64) (A := DPool.av) (xs := a) (i := i) kr kr kr ⟨by kernel_rfl, by decide⟩ hx1) le ?_
        refine AOpsD.sq (x := (DPool.av x1)) kr le ?_
        refine AOpsD.sq (x := ((slA 2 DPool.av) b)) kr le ?_
        refine AOpsD.sq (x := (AV.i .i64 ((i : Nat) : Int))) kr le ?_
        refine AOpsD.sq (x := (AV.pt (DPool.av (b.getD i default)).cells)) (g_idx (k := 2) (nl := false) (e := 81) (kk := .i64) (A := DPool.av) (xs := b) (i := i) kr kr kr ⟨by kernel_rfl, by decide⟩ (getD_some sd)) le ?_
        refine AOpsD.sq (x := (DPool.av (b.getD i default))) kr le ?_
        refine AOpsD.sqs (x := (AV.b (!(decide (x1.name = (b.getD i default).name) && (decide (x1.depth = (b.getD i default).depth) && true))))) kr kr le ?_
        refine AOpsD.fin ?_
        cases c_2 : (!(decide (x1.name = (b.getD i default).name) && (decide (x1.depth = (b.getD i default).depth) && true)))
        · refine Awp.cond (t := false) kr ?_
          refine Awp.skip ?_
          refine Awp.region tabS_ok ?_
          refine AOps.sq (x := (AV.i .i64 ((i : Nat) : Int))) kr le ?_
          refine AOps.sq (x := (AV.i .i64 ((i + 1 : Nat) : Int))) (g_addN (i := i) (m := 1) kr kr sd) le ?_
          refine AOps.sq (x := (AV.i .i64 ((i + 1 : Nat) : Int))) kr le ?_
          refine AOps.done ?_
          try simp only [c_2, sbt] at hE1
          refine ⟨i + 1, od, ⟨od, hE1⟩, ?_⟩
          exact ⟨[], ⟨by decide, rfl, FitsObjs.nil, (EntE.cons (Ent.c kr kr) (EntE.cons (Ent.c kr kr) (EntE.cons (Ent.c kr kr) EntE.nil)))⟩, keep0⟩
        · refine Awp.cond (t := true) kr ?_
          refine Awp.seq ?_
          refine Awp.region tabS_ok ?_
          refine AOps.sq (x := (AV.b false)) kr le ?_
          refine AOps.done ?_
          refine Awp.ret ?_
          try simp only [c_2, sbt] at hE1
          subst hE1
          have hM : m_law0_SamePools a b = false := by simp only [m_law0_SamePools, c_1, hR1, sbt]
          refine ⟨Or.inr rfl, ?_⟩
          rw [hM]
          exact Ent.cast (x' := (AV.b false)) (y' := (AV.b false)) kr kr (Ent.c kr kr)
      · have hc1 : decide (((i : Nat) : Int) < ((a.length : Nat) : Int)) = false := decide_eq_false (by omega)
        refine Awp.cond (t := false) (by rw [← hc1] <;> kernel_rfl) (Awp.exit ?_)
        rw [List.drop_eq_nil_of_le (hl1), m_law0_SamePools_L1.eq_1] at hE1
        subst hE1
        refine Awp.seq ?_
        refine Awp.region tabS_ok ?_
        refine AOps.sq (x := (AV.b true)) kr le ?_
        refine AOps.done ?_
        refine Awp.ret ?_
        have hM : m_law0_SamePools a b = true := by simp only [m_law0_SamePools, c_1, hR1, sbt]
        refine ⟨Or.inr rfl, ?_⟩
        rw [hM]
        exact Ent.cast (x' := (AV.b true)) (y' := (AV.b true)) kr kr (Ent.c kr kr)
  · have k_1 : ¬ (((a.length : Nat) : Int) = ((b.length : Nat) : Int)) := of_decide_eq_false (by simpa using c_1)
    refine Awp.cond (t := true) kr ?_
    refine Awp.seq ?_
    refine Awp.region tabS_ok ?_
    refine AOps.sq (x := (AV.b false)) kr le ?_
    refine AOps.done ?_
    refine Awp.ret ?_
    have hM : m_law0_SamePools a b = false := by simp only [m_law0_SamePools, c_1, sbt]
    refine ⟨Or.inr rfl, ?_⟩
    rw [hM]
    exact Ent.cast (x' := (AV.b false)) (y' := (AV.b false)) kr kr (Ent.c kr kr)

theorem w_law0_SameGraph (W : World) (a : DGraph) (b : DGraph) : PureAt Go.Proofs.Tryz.prog W 22 [(DGraph.av a), (DGraph.av b)] (AV.b (m_law0_SameGraph a b)) [] := by
  refine pure_of_bodyC (fn := Go.Proofs.Tryz.f22) Go.Proofs.Tryz.func22 rfl (en22 W) (ts := [4]) rfl le ?_
  refine Awp.seq ?_
  refine Awp.region tabS_ok ?_
  refine AOps.sn (x := (AV.loc 0 0 0)) (h' := ⟨1, [(0, some ⟨26, 3, [(DGraph.av a)]⟩)]⟩) kr le ?_
  refine AOps.sn (x := (AV.loc 1 0 0)) (h' := ⟨2, [(1, some ⟨26, 3, [(DGraph.av b)]⟩), (0, some ⟨26, 3, [(DGraph.av a)]⟩)]⟩) kr le ?_
  refine AOps.sq (x := (AV.b false)) kr le ?_
  refine AOps.done ?_
  refine Awp.seq ?_
  refine Awp.seq ?_
  refine Awp.region tabS_ok ?_
  refine AOps.sq (x := (AV.loc 0 0 0)) kr le ?_
  refine AOps.sq (x := ((slA 7 DEdge.av) a.edges)) kr le ?_
  refine AOps.sq (x := (AV.i .i64 ((a.edges.length : Nat) : Int))) (g_len (k := 7) (nl := false) (e := 76) (A := DEdge.av) (xs := a.edges) kr kr) le ?_
  refine AOps.sq (x := (AV.loc 1 0 0)) kr le ?_
  refine AOps.sq (x := ((slA 7 DEdge.av) b.edges)) kr le ?_
  refine AOps.sq (x := (AV.i .i64 ((b.edges.length : Nat) : Int))) (g_len (k := 7) (nl := false) (e := 76) (A := DEdge.av) (xs := b.edges) kr kr) le ?_
  refine AOps.sq (x := (AV.b (!decide (((a.edges.length : Nat) : Int) = ((b.edges.length : Nat) : Int))))) kr le ?_
  refine AOps.done ?_
  cases c_1 : (!decide (((a.edges.length : Nat) : Int) = ((b.edges.length : Nat) : Int)))
  · have k_1 : (((a.edges.length : Nat) : Int) = ((b.edges.length : Nat) : Int)) := of_decide_eq_true (by simpa using c_1)
    refine Awp.cond (t := false) kr ?_
    refine Awp.skip ?_
    refine Awp.seq ?_
    refine Awp.seq ?_
    refine Awp.region tabS_ok ?_
    refine AOps.sq (x := (AV.i .i64 (0 : Int))) kr le ?_
    refine AOps.done ?_
    refine Awp.block ?_
    refine Awp.lim 7 (x := ((slA 7 DEdge.av) a.edges)) kr fun hlm1 => ?_
    have hB1 : a.edges.length ≤ 281474976710656 := lim_slA hlm1
    obtain ⟨R1, hR1⟩ : ∃ R, m_law0_SameGraph_L1 b a.edges 0 = R := ⟨_, rfl⟩
    refine Awp.loopT (fun (i : Nat) => [(2, (AV.loc 0 0 0)), (3, (AV.loc 1 0 0)), (5, (AV.i .i64 ((i : Nat) : Int)))]) (fun (i : Nat) => ⟨2, [(0, some ⟨26, 3, [(DGraph.av a)]⟩), (1, some ⟨26, 3, [(DGraph.av b)]⟩)]⟩) (fun (i : Nat) => i ≤ a.edges.length ∧ m_law0_SameGraph_L1 b (a.edges.drop i) i = R1) (fun (i : Nat) => a.edges.length - i) 0 ?_ ?_ ?_
    · exact ⟨[0, 1], ⟨by decide, rfl, (FitsObjs.cons kr (FitsObjs.cons kr FitsObjs.nil)), (EntE.cons (Ent.f kr) (EntE.cons (Ent.f kr) (EntE.cons (Ent.c kr kr) EntE.nil)))⟩, keep0⟩
    · exact ⟨od, hR1⟩
    · rintro i ⟨hi1, hE1⟩
      try dsimp only
      refine Awp.seq ?_
      refine Awp.seq ?_
      refine Awp.region tabS_ok ?_
      refine AOps.sq (x := (AV.i .i64 ((i : Nat) : Int))) kr le ?_
      refine AOps.sq (x := (AV.loc 0 0 0)) kr le ?_
      refine AOps.sq (x := ((slA 7 DEdge.av) a.edges)) kr le ?_
      refine AOps.sq (x := (AV.i .i64 ((a.edges.length : Nat) : Int))) (g_len (k := 7) (nl := false) (e := 76) (A := DEdge.av) (xs := a.edges) kr kr) le ?_
      refine AOps.sq (x := (AV.b (decide (((i : Nat) : Int) < ((a.edges.length : Nat) : Int))))) kr le ?_
      refine AOps.done ?_
      rcases Nat.lt_or_ge i a.edges.length with hl1 | hl1
      · have hc1 : decide (((i : Nat) : Int) < ((a.edges.length : Nat) : Int)) = true := decide_eq_true (by omega)
        refine Awp.cond (t := true) (by rw [← hc1] <;> kernel_rfl) (Awp.skip ?_)
        obtain ⟨x1, hx1⟩ : ∃ x, a.edges[i]? = some x := ⟨_, List.getElem?_eq_getElem hl1⟩
        rw [drop_at hx1, m_law0_SameGraph_L1.eq_2] at hE1
        refine Awp.seq ?_
        refine Awp.block ?_
        refine Awp.seq ?_
        refine Awp.drawn tabS_ok mixed 10 kr le ?_
        refine AOpsD.sq (x := (AV.loc 0 0 0)) kr le ?_
        refine AOpsD.sq (x := ((slA 7 DEdge.av) a.edges)) kr le ?_
        refine AOpsD.sq (x := (AV.i .i64 ((i : Nat) : Int))) kr le ?_
        refine AOpsD.sq (x := (AV.pt (DEdge.av x1).cells)) (g_idx (k := 7) (nl := false) (e := 76) (kk := .i64) (A := DEdge.av) (xs := a.edges) (i := i) kr kr kr ⟨by kernel_rfl, by decide⟩ hx1) le ?_
        refine AOpsD.sq (x := (DEdge.av x1)) kr le ?_
        refine AOpsD.sq (x := (AV.loc 1 0 0)) kr le ?_
        refine AOpsD.sq (x := ((slA 7 DEdge.av) b.edges)) kr le ?_
        refine AOpsD.sq (x := (AV.i .i64 ((i : Nat) : Int))) kr le ?_
        refine AOpsD.sq (x := (AV.pt (DEdge.av (b.edges.getD i default)).cells)) (g_idx (k := 7) (nl := false) (e := 76) (kk := .i64) (A := DEdge.av) (xs := b.edges) (i := i) kr kr kr ⟨by kernel_rfl, by decide⟩ (getD_some sd)) le ?_
        refine AOpsD.sq (x := (DEdge.av (b.edges.getD i default))) kr le ?_
        refine AOpsD.sc0 (vs := [(DEdge.av x1), (DEdge.av (b.edges.getD i default))]) (r0 := (AV.b (m_law0_SameEdge x1 (b.edges.getD i default)))) kr kr (w_law0_SameEdge W x1 (b.edges.getD i default)) kr le ?_
        refine AOpsD.sq (x := (AV.b (!(m_law0_SameEdge x1 (b.edges.getD i default))))) kr le ?_
        refine AOpsD.fin ?_
        cases c_2 : (!(m_law0_SameEdge x1 (b.edges.getD i default)))
        · refine Awp.cond (t := false) kr ?_
          refine Awp.skip ?_
          refine Awp.region tabS_ok ?_
          refine AOps.sq (x := (AV.i .i64 ((i : Nat) : Int))) kr le ?_
          refine AOps.sq (x := (AV.i .i64 ((i + 1 : Nat) : Int))) (g_addN (i := i) (m := 1) kr kr sd) le ?_
          refine AOps.sq (x := (AV.i .i64 ((i + 1 : Nat) : Int))) kr le ?_
          refine AOps.done ?_
          try simp only [c_2, sbt] at hE1
          refine ⟨i + 1, od, ⟨od, hE1⟩, ?_⟩
          exact ⟨[0, 1], ⟨by decide, rfl, (FitsObjs.cons kr (FitsObjs.cons kr FitsObjs.nil)), (EntE.cons (Ent.f kr) (EntE.cons (Ent.f kr) (EntE.cons (Ent.c kr kr) EntE.nil)))⟩, keep0⟩
        · refine Awp.cond (t := true) kr ?_
          refine Awp.seq ?_
          refine Awp.region tabS_ok ?_
          refine AOps.sq (x := (AV.b false)) kr le ?_
          refine AOps.done ?_
          refine Awp.ret ?_
          try simp only [c_2, sbt] at hE1
          subst hE1
          have hM : m_law0_SameGraph a b = false := by simp only [m_law0_SameGraph, c_1, hR1, sbt]
          refine ⟨Or.inr rfl, ?_⟩
          rw [hM]
          exact Ent.cast (x' := (AV.b false)) (y' := (AV.b false)) kr kr (Ent.c kr kr)
      · have hc1 : decide (((i : Nat) : Int) < ((a.edges.length : Nat) : Int)) = false := decide_eq_false (by omega)
        refine Awp.cond (t := false) (by rw [← hc1] <;> kernel_rfl) (Awp.exit ?_)
        rw [List.drop_eq_nil_of_le (hl1), m_law0_SameGraph_L1.eq_1] at hE1
        subst hE1
        refine Awp.seq ?_
        refine Awp.region tabS_ok ?_
        refine AOps.sq (x := (AV.loc 0 0 1)) kr le ?_
        refine AOps.sq (x := ((slA 2 DPool.av) a.pools)) kr le ?_
        refine AOps.sq (x := (AV.loc 1 0 1)) kr le ?_
        refine AOps.sq (x := ((slA 2 DPool.av) b.pools)) kr le ?_
        refine AOps.sc0 (vs := [((slA 2 DPool.av) a.pools), ((slA 2 DPool.av) b.pools)]) (r0 := (AV.b (m_law0_SamePools a.pools b.pools))) kr kr (w_law0_SamePools W a.pools b.pools) kr le ?_
        refine AOps.sq (x := (AV.b (m_law0_SamePools a.pools b.pools))) kr le ?_
        cases c_3 : (m_law0_SamePools a.pools b.pools)
        · refine AOps.sgn rfl rfl kr rfl le ?_
          refine AOps.sgn rfl rfl kr rfl le ?_
          refine AOps.sgn rfl rfl kr rfl le ?_
          refine AOps.sgn rfl rfl kr rfl le ?_
          refine AOps.sgn rfl rfl kr rfl le ?_
          refine AOps.sq (x := (AV.b false)) kr le ?_
          refine AOps.sq (x := (AV.b false)) kr le ?_
          refine AOps.done ?_
          refine Awp.ret ?_
          have hM : m_law0_SameGraph a b = false := by simp only [m_law0_SameGraph, c_1, hR1, c_3, sbt]
          refine ⟨Or.inr rfl, ?_⟩
          rw [hM]
          exact Ent.cast (x' := (AV.b false)) (y' := (AV.b false)) kr kr (Ent.c kr kr)
        · refine AOps.sgy rfl rfl kr rfl ?_
          refine AOps.sq (x := (AV.loc 0 0 2)) kr le ?_
          refine AOps.sgy rfl rfl kr rfl ?_
          refine AOps.sq (x := ((slA 1 AV.s) a.defaults)) kr le ?_
          refine AOps.sgy rfl rfl kr rfl ?_
          refine AOps.sq (x := (AV.loc 1 0 2)) kr le ?_
          refine AOps.sgy rfl rfl kr rfl ?_
          refine AOps.sq (x := ((slA 1 AV.s) b.defaults)) kr le ?_
          refine AOps.sgy rfl rfl kr rfl ?_
          refine AOps.sc0 (vs := [((slA 1 AV.s) a.defaults), ((slA 1 AV.s) b.defaults)]) (r0 := (AV.b (m_law0_SameTexts a.defaults b.defaults))) kr kr (w_law0_SameTexts W a.defaults b.defaults) kr le ?_
          refine AOps.sq (x := (AV.b (m_law0_SameTexts a.defaults b.defaults))) kr le ?_
          refine AOps.sq (x := (AV.b (m_law0_SameTexts a.defaults b.defaults))) kr le ?_
          refine AOps.done ?_
          refine Awp.ret ?_
          have hM : m_law0_SameGraph a b = (m_law0_SameTexts a.defaults b.defaults) := by simp only [m_law0_SameGraph, c_1, hR1, c_3, sbt]
          refine ⟨Or.inr rfl, ?_⟩
          rw [hM]
          exact Ent.cast (x' := (AV.b (m_law0_SameTexts a.defaults b.defaults))) (y' := (AV.b (m_law0_SameTexts a.defaults b.defaults))) kr kr (Ent.c kr kr)
  · have k_1 : ¬ (((a.edges.length : Nat) : Int) = ((b.edges.length : Nat) : Int)) := of_decide_eq_false (by simpa using c_1)
    refine Awp.cond (t := true) kr ?_
    refine Awp.seq ?_
    refine Awp.region tabS_ok ?_
    refine AOps.sq (x := (AV.b false)) kr le ?_
    refine AOps.done ?_
    refine Awp.ret ?_
    have hM : m_law0_SameGraph a b = false := by simp only [m_law0_SameGraph, c_1, sbt]
    refine ⟨Or.inr rfl, ?_⟩
    rw [hM]
    exact Ent.cast (x' := (AV.b false)) (y' := (AV.b false)) kr kr (Ent.c kr kr)

theorem w_law0_Num (W : World) (e : Int) : PureAt Go.Proofs.Tryz.prog W 17 [(AV.i .i64 e)] (AV.i .i64 (m_law0_Num e)) [] := by
  refine pure_of_bodyC (fn := Go.Proofs.Tryz.f17) Go.Proofs.Tryz.func17 rfl (en17 W) (ts := [2]) rfl le ?_
  refine Awp.seq ?_
  refine Awp.region tabS_ok ?_
  refine AOps.sq (x := (AV.i .i64 (0 : Int))) kr le ?_
  refine AOps.done ?_
  refine Awp.seq ?_
  refine Awp.region tabS_ok ?_
  refine AOps.sq (x := (AV.i .i64 e)) kr le ?_
  refine AOps.sq (x := (AV.i .i64 e)) kr le ?_
  refine AOps.done ?_
  refine Awp.ret ?_
  have hM : m_law0_Num e = e := by simp only [m_law0_Num, sbt]
  refine ⟨Or.inr rfl, ?_⟩
  rw [hM]
  exact Ent.cast (x' := (AV.i .i64 e)) (y' := (AV.i .i64 e)) kr kr (Ent.c kr kr)

theorem wd_law9_given (W : World) : PureAt Go.Proofs.Tryz.prog W 69 [] (AV.st [(AV.own 0 0 3), (AV.own 9 0 1), (AV.own 10 0 1)]) [⟨76, 7, [(AV.st [(AV.own 1 0 1), (AV.own 2 0 2), (AV.sl 1 true []), (AV.sl 1 true []), (AV.s (⟨#[97, 114]⟩ : ByteArray)), (AV.b false), (AV.s (⟨#[]⟩ : ByteArray))]), (AV.st [(AV.own 3 0 2), (AV.own 4 0 1), (AV.own 5 0 1), (AV.sl 1 true []), (AV.s (⟨#[99, 99, 32, 97]⟩ : ByteArray)), (AV.b true), (AV.s (⟨#[116, 119, 111]⟩ : ByteArray))]), (AV.st [(AV.own 6 0 1), (AV.own 7 0 1), (AV.sl 1 true []), (AV.own 8 0 1), (AV.s (⟨#[99, 99, 32, 98]⟩ : ByteArray)), (AV.b false), (AV.s (⟨#[116, 119, 111]⟩ : ByteArray))])]⟩, ⟨9, 1, [(⟨#[108, 105, 98]⟩ : ByteArray)].map AV.s⟩, ⟨9, 1, [(⟨#[97, 46, 111]⟩ : ByteArray), (⟨#[98, 46, 111]⟩ : ByteArray)].map AV.s⟩, ⟨9, 1, [(⟨#[97, 46, 111]⟩ : ByteArray), (⟨#[97, 46, 100]⟩ : ByteArray)].map AV.s⟩, ⟨9, 1, [(⟨#[97, 46, 99]⟩ : ByteArray)].map AV.s⟩, ⟨9, 1, [(⟨#[97, 46, 104]⟩ : ByteArray)].map AV.s⟩, ⟨9, 1, [(⟨#[98, 46, 111]⟩ : ByteArray)].map AV.s⟩, ⟨9, 1, [(⟨#[98, 46, 99]⟩ : ByteArray)].map AV.s⟩, ⟨9, 1, [(⟨#[97, 46, 111]⟩ : ByteArray)].map AV.s⟩, ⟨81, 2, [(⟨(⟨#[116, 119, 111]⟩ : ByteArray), (2 : Int)⟩ : DPool)].map DPool.av⟩, ⟨9, 1, [(⟨#[108, 105, 98]⟩ : ByteArray)].map AV.s⟩] := by
  refine pure_of_run tabS_ok (fn := Go.Proofs.Tryz.f69) Go.Proofs.Tryz.func69 rfl (en69 W) le ?_
  refine Awp.seq ?_
  refine Awp.region tabS_ok ?_
  refine AOps.sn (x := (AV.loc 0 0 0)) (h' := ⟨1, [(0, some ⟨26, 3, [(AV.st [(AV.sl 7 true []), (AV.sl 2 true []), (AV.sl 1 true [])])]⟩)]⟩) kr le ?_
  refine AOps.done ?_
  refine Awp.seq ?_
  refine Awp.region tabS_ok ?_
  refine AOps.sn (x := (AV.own 1 0 1)) (h' := ⟨2, [(1, some ⟨9, 1, [(⟨#[108, 105, 98]⟩ : ByteArray)].map AV.s⟩), (0, some ⟨26, 3, [(AV.st [(AV.sl 7 true []), (AV.sl 2 true []), (AV.sl 1 true [])])]⟩)]⟩) kr le ?_
  refine AOps.sn (x := (AV.own 2 0 2)) (h' := ⟨3, [(2, some ⟨9, 1, [(⟨#[97, 46, 111]⟩ : ByteArray), (⟨#[98, 46, 111]⟩ : ByteArray)].map AV.s⟩), (1, some ⟨9, 1, [(⟨#[108, 105, 98]⟩ : ByteArray)].map AV.s⟩), (0, some ⟨26, 3, [(AV.st [(AV.sl 7 true []), (AV.sl 2 true []), (AV.sl 1 true [])])]⟩)]⟩) kr le ?_
  refine AOps.sn (x := (AV.st [(AV.own 1 0 1), (AV.own 2 0 2), (AV.sl 1 true []), (AV.sl 1 true []), (AV.s (⟨#[97, 114]⟩ : ByteArray)), (AV.b false), (AV.s (⟨#[]⟩ : ByteArray))])) (h' := ⟨3, [(2, some ⟨9, 1, [(⟨#[97, 46, 111]⟩ : ByteArray), (⟨#[98, 46, 111]⟩ : ByteArray)].map AV.s⟩), (1, some ⟨9, 1, [(⟨#[108, 105, 98]⟩ : ByteArray)].map AV.s⟩), (0, some ⟨26, 3, [(AV.st [(AV.sl 7 true []), (AV.sl 2 true []), (AV.sl 1 true [])])]⟩)]⟩) kr le ?_
  refine AOps.sn (x := (AV.own 3 0 2)) (h' := ⟨4, [(3, some ⟨9, 1, [(⟨#[97, 46, 111]⟩ : ByteArray), (⟨#[97, 46, 100]⟩ : ByteArray)].map AV.s⟩), (2, some ⟨9, 1, [(⟨#[97, 46, 111]⟩ : ByteArray), (⟨#[98, 46, 111]⟩ : ByteArray)].map AV.s⟩), (1, some ⟨9, 1, [(⟨#[108, 105, 98]⟩ : ByteArray)].map AV.s⟩), (0, some ⟨26, 3, [(AV.st [(AV.sl 7 true []), (AV.sl 2 true []), (AV.sl 1 true [])])]⟩)]⟩) kr le ?_
  refine AOps.sn (x := (AV.own 4 0 1)) (h' := ⟨5, [(4, some ⟨9, 1, [(⟨#[97, 46, 99]⟩ : ByteArray)].map AV.s⟩), (3, some ⟨9, 1, [(⟨#[97, 46, 111]⟩ : ByteArray), (⟨#[97, 46, 100]⟩ : ByteArray)].map AV.s⟩), (2, some ⟨9, 1, [(⟨#[97, 46, 111]⟩ : ByteArray), (⟨#[98, 46, 111]⟩ : ByteArray)].map AV.s⟩), (1, some ⟨9, 1, [(⟨#[108, 105, 98]⟩ : ByteArray)].map AV.s⟩), (0, some ⟨26, 3, [(AV.st [(AV.sl 7 true []), (AV.sl 2 true []), (AV.sl 1 true [])])]⟩)]⟩) kr le ?_
  refine AOps.sn (x := (AV.own 5 0 1)) (h' := ⟨6, [(5, some ⟨9, 1, [(⟨#[97, 46, 104]⟩ : ByteArray)].map AV.s⟩), (4, some ⟨9, 1, [(⟨#[97, 46, 99]⟩ : ByteArray)].map AV.s⟩), (3, some ⟨9, 1, [(⟨#[97, 46, 111]⟩ : ByteArray), (⟨#[97, 46, 100]⟩ : ByteArray)].map AV.s⟩), (2, some ⟨9, 1, [(⟨#[97, 46, 111]⟩ : ByteArray), (⟨#[98, 46, 111]⟩ : ByteArray)].map AV.s⟩), (1, some ⟨9, 1, [(⟨#[108, 105, 98]⟩ : ByteArray)].map AV.s⟩), (0, some ⟨26, 3, [(AV.st [(AV.sl 7 true []), (AV.sl 2 true []), (AV.sl 1 true [])])]⟩)]⟩) kr le ?_
  refine AOps.sn (x := (AV.st [(AV.own 3 0 2), (AV.own 4 0 1), (AV.own 5 0 1), (AV.sl 1 true []), (AV.s (⟨#[99, 99, 32, 97]⟩ : ByteArray)), (AV.b true), (AV.s (⟨#[116, 119, 111]⟩ : ByteArray))])) (h' := ⟨6, [(5, some ⟨9, 1, [(⟨#[97, 46, 104]⟩ : ByteArray)].map AV.s⟩), (4, some ⟨9, 1, [(⟨#[97, 46, 99]⟩ : ByteArray)].map AV.s⟩), (3, some ⟨9, 1, [(⟨#[97, 46, 111]⟩ : ByteArray), (⟨#[97, 46, 100]⟩ : ByteArray)].map AV.s⟩), (2, some ⟨9, 1, [(⟨#[97, 46, 111]⟩ : ByteArray), (⟨#[98, 46, 111]⟩ : ByteArray)].map AV.s⟩), (1, some ⟨9, 1, [(⟨#[108, 105, 98]⟩ : ByteArray)].map AV.s⟩), (0, some ⟨26, 3, [(AV.st [(AV.sl 7 true []), (AV.sl 2 true []), (AV.sl 1 true [])])]⟩)]⟩) kr le ?_
  refine AOps.sn (x := (AV.own 6 0 1)) (h' := ⟨7, [(6, some ⟨9, 1, [(⟨#[98, 46, 111]⟩ : ByteArray)].map AV.s⟩), (5, some ⟨9, 1, [(⟨#[97, 46, 104]⟩ : ByteArray)].map AV.s⟩), (4, some ⟨9, 1, [(⟨#[97, 46, 99]⟩ : ByteArray)].map AV.s⟩), (3, some ⟨9, 1, [(⟨#[97, 46, 111]⟩ : ByteArray), (⟨#[97, 46, 100]⟩ : ByteArray)].map AV.s⟩), (2, some ⟨9, 1, [(⟨#[97, 46, 111]⟩ : ByteArray), (⟨#[98, 46, 111]⟩ : ByteArray)].map AV.s⟩), (1, some ⟨9, 1, [(⟨#[108, 105, 98]⟩ : ByteArray)].map AV.s⟩), (0, some ⟨26, 3, [(AV.st [(AV.sl 7 true []), (AV.sl 2 true []), (AV.sl 1 true [])])]⟩)]⟩) kr le ?_
  refine AOps.sn (x := (AV.own 7 0 1)) (h' := ⟨8, [(7, some ⟨9, 1, [(⟨#[98, 46, 99]⟩ : ByteArray)].map AV.s⟩), (6, some ⟨9, 1, [(⟨#[98, 46, 111]⟩ : ByteArray)].map AV.s⟩), (5, some ⟨9, 1, [(⟨#[97, 46, 104]⟩ : ByteArray)].map AV.s⟩), (4, some ⟨9, 1, [(⟨#[97, 46, 99]⟩ : ByteArray)].map AV.s⟩), (3, some ⟨9, 1, [(⟨#[97, 46, 111]⟩ : ByteArray), (⟨#[97, 46, 100]⟩ : ByteArray)].map AV.s⟩), (2, some ⟨9, 1, [(⟨#[97, 46, 111]⟩ : ByteArray), (⟨#[98, 46, 111]⟩ : ByteArray)].map AV.s⟩), (1, some ⟨9, 1, [(⟨#[108, 105, 98]⟩ : ByteArray)].map AV.s⟩), (0, some ⟨26, 3, [(AV.st [(AV.sl 7 true []), (AV.sl 2 true []), (AV.sl 1 true [])])]⟩)]⟩) kr le ?_
  refine AOps.sn (x := (AV.own 8 0 1)) (h' := ⟨9, [(8, some ⟨9, 1, [(⟨#[97, 46, 111]⟩ : ByteArray)].map AV.s⟩), (7, some ⟨9, 1, [(⟨#[98, 46, 99]⟩ : ByteArray)].map AV.s⟩), (6, some ⟨9, 1, [(⟨#[98, 46, 111]⟩ : ByteArray)].map AV.s⟩), (5, some ⟨9, 1, [(⟨#[97, 46, 104]⟩ : ByteArray)].map AV.s⟩), (4, some ⟨9, 1, [(⟨#[97, 46, 99]⟩ : ByteArray)].map AV.s⟩), (3, some ⟨9, 1, [(⟨#[97, 46, 111]⟩ : ByteArray), (⟨#[97, 46, 100]⟩ : ByteArray)].map AV.s⟩), (2, some ⟨9, 1, [(⟨#[97, 46, 111]⟩ : ByteArray), (⟨#[98, 46, 111]⟩ : ByteArray)].map AV.s⟩), (1, some ⟨9, 1, [(⟨#[108, 105, 98]⟩ : ByteArray)].map AV.s⟩), (0, some ⟨26, 3, [(AV.st [(AV.sl 7 true []), (AV.sl 2 true []), (AV.sl 1 true [])])]⟩)]⟩) kr le ?_
  refine AOps.sn (x := (AV.st [(AV.own 6 0 1), (AV.own 7 0 1), (AV.sl 1 true []), (AV.own 8 0 1), (AV.s (⟨#[99, 99, 32, 98]⟩ : ByteArray)), (AV.b false), (AV.s (⟨#[116, 119, 111]⟩ : ByteArray))])) (h' := ⟨9, [(8, some ⟨9, 1, [(⟨#[97, 46, 111]⟩ : ByteArray)].map AV.s⟩), (7, some ⟨9, 1, [(⟨#[98, 46, 99]⟩ : ByteArray)].map AV.s⟩), (6, some ⟨9, 1, [(⟨#[98, 46, 111]⟩ : ByteArray)].map AV.s⟩), (5, some ⟨9, 1, [(⟨#[97, 46, 104]⟩ : ByteArray)].map AV.s⟩), (4, some ⟨9, 1, [(⟨#[97, 46, 99]⟩ : ByteArray)].map AV.s⟩), (3, some ⟨9, 1, [(⟨#[97, 46, 111]⟩ : ByteArray), (⟨#[97, 46, 100]⟩ : ByteArray)].map AV.s⟩), (2, some ⟨9, 1, [(⟨#[97, 46, 111]⟩ : ByteArray), (⟨#[98, 46, 111]⟩ : ByteArray)].map AV.s⟩), (1, some ⟨9, 1, [(⟨#[108, 105, 98]⟩ : ByteArray)].map AV.s⟩), (0, some ⟨26, 3, [(AV.st [(AV.sl 7 true []), (AV.sl 2 true []), (AV.sl 1 true [])])]⟩)]⟩) kr le ?_
  refine AOps.sn (x := (AV.own 9 0 3)) (h' := ⟨10, [(9, some ⟨76, 7, [(AV.st [(AV.own 1 0 1), (AV.own 2 0 2), (AV.sl 1 true []), (AV.sl 1 true []), (AV.s (⟨#[97, 114]⟩ : ByteArray)), (AV.b false), (AV.s (⟨#[]⟩ : ByteArray))]), (AV.st [(AV.own 3 0 2), (AV.own 4 0 1), (AV.own 5 0 1), (AV.sl 1 true []), (AV.s (⟨#[99, 99, 32, 97]⟩ : ByteArray)), (AV.b true), (AV.s (⟨#[116, 119, 111]⟩ : ByteArray))]), (AV.st [(AV.own 6 0 1), (AV.own 7 0 1), (AV.sl 1 true []), (AV.own 8 0 1), (AV.s (⟨#[99, 99, 32, 98]⟩ : ByteArray)), (AV.b false), (AV.s (⟨#[116, 119, 111]⟩ : ByteArray))])]⟩), (8, some ⟨9, 1, [(⟨#[97, 46, 111]⟩ : ByteArray)].map AV.s⟩), (7, some ⟨9, 1, [(⟨#[98, 46, 99]⟩ : ByteArray)].map AV.s⟩), (6, some ⟨9, 1, [(⟨#[98, 46, 111]⟩ : ByteArray)].map AV.s⟩), (5, some ⟨9, 1, [(⟨#[97, 46, 104]⟩ : ByteArray)].map AV.s⟩), (4, some ⟨9, 1, [(⟨#[97, 46, 99]⟩ : ByteArray)].map AV.s⟩), (3, some ⟨9, 1, [(⟨#[97, 46, 111]⟩ : ByteArray), (⟨#[97, 46, 100]⟩ : ByteArray)].map AV.s⟩), (2, some ⟨9, 1, [(⟨#[97, 46, 111]⟩ : ByteArray), (⟨#[98, 46, 111]⟩ : ByteArray)].map AV.s⟩), (1, some ⟨9, 1, [(⟨#[108, 105, 98]⟩ : ByteArray)].map AV.s⟩), (0, some ⟨26, 3, [(AV.st [(AV.sl 7 true []), (AV.sl 2 true []), (AV.sl 1 true [])])]⟩)]⟩) kr le ?_
  refine AOps.sn (x := (AV.st [(AV.s (⟨#[116, 119, 111]⟩ : ByteArray)), (AV.i .i64 (2 : Int))])) (h' := ⟨10, [(9, some ⟨76, 7, [(AV.st [(AV.own 1 0 1), (AV.own 2 0 2), (AV.sl 1 true []), (AV.sl 1 true []), (AV.s (⟨#[97, 114]⟩ : ByteArray)), (AV.b false), (AV.s (⟨#[]⟩ : ByteArray))]), (AV.st [(AV.own 3 0 2), (AV.own 4 0 1), (AV.own 5 0 1), (AV.sl 1 true []), (AV.s (⟨#[99, 99, 32, 97]⟩ : ByteArray)), (AV.b true), (AV.s (⟨#[116, 119, 111]⟩ : ByteArray))]), (AV.st [(AV.own 6 0 1), (AV.own 7 0 1), (AV.sl 1 true []), (AV.own 8 0 1), (AV.s (⟨#[99, 99, 32, 98]⟩ : ByteArray)), (AV.b false), (AV.s (⟨#[116, 119, 111]⟩ : ByteArray))])]⟩), (8, some ⟨9, 1, [(⟨#[97, 46, 111]⟩ : ByteArray)].map AV.s⟩), (7, some ⟨9, 1, [(⟨#[98, 46, 99]⟩ : ByteArray)].map AV.s⟩), (6, some ⟨9, 1, [(⟨#[98, 46, 111]⟩ : ByteArray)].map AV.s⟩), (5, some ⟨9, 1, [(⟨#[97, 46, 104]⟩ : ByteArray)].map AV.s⟩), (4, some ⟨9, 1, [(⟨#[97, 46, 99]⟩ : ByteArray)].map AV.s⟩), (3, some ⟨9, 1, [(⟨#[97, 46, 111]⟩ : ByteArray), (⟨#[97, 46, 100]⟩ : ByteArray)].map AV.s⟩), (2, some ⟨9, 1, [(⟨#[97, 46, 111]⟩ : ByteArray), (⟨#[98, 46, 111]⟩ : ByteArray)].map AV.s⟩), (1, some ⟨9, 1, [(⟨#[108, 105, 98]⟩ : ByteArray)].map AV.s⟩), (0, some ⟨26, 3, [(AV.st [(AV.sl 7 true []), (AV.sl 2 true []), (AV.sl 1 true [])])]⟩)]⟩) kr le ?_
  refine AOps.sn (x := (AV.own 10 0 1)) (h' := ⟨11, [(10, some ⟨81, 2, [(⟨(⟨#[116, 119, 111]⟩ : ByteArray), (2 : Int)⟩ : DPool)].map DPool.av⟩), (9, some ⟨76, 7, [(AV.st [(AV.own 1 0 1), (AV.own 2 0 2), (AV.sl 1 true []), (AV.sl 1 true []), (AV.s (⟨#[97, 114]⟩ : ByteArray)), (AV.b false), (AV.s (⟨#[]⟩ : ByteArray))]), (AV.st [(AV.own 3 0 2), (AV.own 4 0 1), (AV.own 5 0 1), (AV.sl 1 true []), (AV.s (⟨#[99, 99, 32, 97]⟩ : ByteArray)), (AV.b true), (AV.s (⟨#[116, 119, 111]⟩ : ByteArray))]), (AV.st [(AV.own 6 0 1), (AV.own 7 0 1), (AV.sl 1 true []), (AV.own 8 0 1), (AV.s (⟨#[99, 99, 32, 98]⟩ : ByteArray)), (AV.b false), (AV.s (⟨#[116, 119, 111]⟩ : ByteArray))])]⟩), (8, some ⟨9, 1, [(⟨#[97, 46, 111]⟩ : ByteArray)].map AV.s⟩), (7, some ⟨9, 1, [(⟨#[98, 46, 99]⟩ : ByteArray)].map AV.s⟩), (6, some ⟨9, 1, [(⟨#[98, 46, 111]⟩ : ByteArray)].map AV.s⟩), (5, some ⟨9, 1, [(⟨#[97, 46, 104]⟩ : ByteArray)].map AV.s⟩), (4, some ⟨9, 1, [(⟨#[97, 46, 99]⟩ : ByteArray)].map AV.s⟩), (3, some ⟨9, 1, [(⟨#[97, 46, 111]⟩ : ByteArray), (⟨#[97, 46, 100]⟩ : ByteArray)].map AV.s⟩), (2, some ⟨9, 1, [(⟨#[97, 46, 111]⟩ : ByteArray), (⟨#[98, 46, 111]⟩ : ByteArray)].map AV.s⟩), (1, some ⟨9, 1, [(⟨#[108, 105, 98]⟩ : ByteArray)].map AV.s⟩), (0, some ⟨26, 3, [(AV.st [(AV.sl 7 true []), (AV.sl 2 true []), (AV.sl 1 true [])])]⟩)]⟩) kr le ?_
  refine AOps.sn (x := (AV.own 11 0 1)) (h' := ⟨12, [(11, some ⟨9, 1, [(⟨#[108, 105, 98]⟩ : ByteArray)].map AV.s⟩), (10, some ⟨81, 2, [(⟨(⟨#[116, 119, 111]⟩ : ByteArray), (2 : Int)⟩ : DPool)].map DPool.av⟩), (9, some ⟨76, 7, [(AV.st [(AV.own 1 0 1), (AV.own 2 0 2), (AV.sl 1 true []), (AV.sl 1 true []), (AV.s (⟨#[97, 114]⟩ : ByteArray)), (AV.b false), (AV.s (⟨#[]⟩ : ByteArray))]), (AV.st [(AV.own 3 0 2), (AV.own 4 0 1), (AV.own 5 0 1), (AV.sl 1 true []), (AV.s (⟨#[99, 99, 32, 97]⟩ : ByteArray)), (AV.b true), (AV.s (⟨#[116, 119, 111]⟩ : ByteArray))]), (AV.st [(AV.own 6 0 1), (AV.own 7 0 1), (AV.sl 1 true []), (AV.own 8 0 1), (AV.s (⟨#[99, 99, 32, 98]⟩ : ByteArray)), (AV.b false), (AV.s (⟨#[116, 119, 111]⟩ : ByteArray))])]⟩), (8, some ⟨9, 1, [(⟨#[97, 46, 111]⟩ : ByteArray)].map AV.s⟩), (7, some ⟨9, 1, [(⟨#[98, 46, 99]⟩ : ByteArray)].map AV.s⟩), (6, some ⟨9, 1, [(⟨#[98, 46, 111]⟩ : ByteArray)].map AV.s⟩), (5, some ⟨9, 1, [(⟨#[97, 46, 104]⟩ : ByteArray)].map AV.s⟩), (4, some ⟨9, 1, [(⟨#[97, 46, 99]⟩ : ByteArray)].map AV.s⟩), (3, some ⟨9, 1, [(⟨#[97, 46, 111]⟩ : ByteArray), (⟨#[97, 46, 100]⟩ : ByteArray)].map AV.s⟩), (2, some ⟨9, 1, [(⟨#[97, 46, 111]⟩ : ByteArray), (⟨#[98, 46, 111]⟩ : ByteArray)].map AV.s⟩), (1, some ⟨9, 1, [(⟨#[108, 105, 98]⟩ : ByteArray)].map AV.s⟩), (0, some ⟨26, 3, [(AV.st [(AV.sl 7 true []), (AV.sl 2 true []), (AV.sl 1 true [])])]⟩)]⟩) kr le ?_
  refine AOps.sn (x := (AV.st [(AV.own 9 0 3), (AV.own 10 0 1), (AV.own 11 0 1)])) (h' := ⟨12, [(11, some ⟨9, 1, [(⟨#[108, 105, 98]⟩ : ByteArray)].map AV.s⟩), (10, some ⟨81, 2, [(⟨(⟨#[116, 119, 111]⟩ : ByteArray), (2 : Int)⟩ : DPool)].map DPool.av⟩), (9, some ⟨76, 7, [(AV.st [(AV.own 1 0 1), (AV.own 2 0 2), (AV.sl 1 true []), (AV.sl 1 true []), (AV.s (⟨#[97, 114]⟩ : ByteArray)), (AV.b false), (AV.s (⟨#[]⟩ : ByteArray))]), (AV.st [(AV.own 3 0 2), (AV.own 4 0 1), (AV.own 5 0 1), (AV.sl 1 true []), (AV.s (⟨#[99, 99, 32, 97]⟩ : ByteArray)), (AV.b true), (AV.s (⟨#[116, 119, 111]⟩ : ByteArray))]), (AV.st [(AV.own 6 0 1), (AV.own 7 0 1), (AV.sl 1 true []), (AV.own 8 0 1), (AV.s (⟨#[99, 99, 32, 98]⟩ : ByteArray)), (AV.b false), (AV.s (⟨#[116, 119, 111]⟩ : ByteArray))])]⟩), (8, some ⟨9, 1, [(⟨#[97, 46, 111]⟩ : ByteArray)].map AV.s⟩), (7, some ⟨9, 1, [(⟨#[98, 46, 99]⟩ : ByteArray)].map AV.s⟩), (6, some ⟨9, 1, [(⟨#[98, 46, 111]⟩ : ByteArray)].map AV.s⟩), (5, some ⟨9, 1, [(⟨#[97, 46, 104]⟩ : ByteArray)].map AV.s⟩), (4, some ⟨9, 1, [(⟨#[97, 46, 99]⟩ : ByteArray)].map AV.s⟩), (3, some ⟨9, 1, [(⟨#[97, 46, 111]⟩ : ByteArray), (⟨#[97, 46, 100]⟩ : ByteArray)].map AV.s⟩), (2, some ⟨9, 1, [(⟨#[97, 46, 111]⟩ : ByteArray), (⟨#[98, 46, 111]⟩ : ByteArray)].map AV.s⟩), (1, some ⟨9, 1, [(⟨#[108, 105, 98]⟩ : ByteArray)].map AV.s⟩), (0, some ⟨26, 3, [(AV.st [(AV.sl 7 true []), (AV.sl 2 true []), (AV.sl 1 true [])])]⟩)]⟩) kr le ?_
  refine AOps.st (x := AV.und) (h' := ⟨12, [(11, some ⟨9, 1, [(⟨#[108, 105, 98]⟩ : ByteArray)].map AV.s⟩), (10, some ⟨81, 2, [(⟨(⟨#[116, 119, 111]⟩ : ByteArray), (2 : Int)⟩ : DPool)].map DPool.av⟩), (9, some ⟨76, 7, [(AV.st [(AV.own 1 0 1), (AV.own 2 0 2), (AV.sl 1 true []), (AV.sl 1 true []), (AV.s (⟨#[97, 114]⟩ : ByteArray)), (AV.b false), (AV.s (⟨#[]⟩ : ByteArray))]), (AV.st [(AV.own 3 0 2), (AV.own 4 0 1), (AV.own 5 0 1), (AV.sl 1 true []), (AV.s (⟨#[99, 99, 32, 97]⟩ : ByteArray)), (AV.b true), (AV.s (⟨#[116, 119, 111]⟩ : ByteArray))]), (AV.st [(AV.own 6 0 1), (AV.own 7 0 1), (AV.sl 1 true []), (AV.own 8 0 1), (AV.s (⟨#[99, 99, 32, 98]⟩ : ByteArray)), (AV.b false), (AV.s (⟨#[116, 119, 111]⟩ : ByteArray))])]⟩), (8, some ⟨9, 1, [(⟨#[97, 46, 111]⟩ : ByteArray)].map AV.s⟩), (7, some ⟨9, 1, [(⟨#[98, 46, 99]⟩ : ByteArray)].map AV.s⟩), (6, some ⟨9, 1, [(⟨#[98, 46, 111]⟩ : ByteArray)].map AV.s⟩), (5, some ⟨9, 1, [(⟨#[97, 46, 104]⟩ : ByteArray)].map AV.s⟩), (4, some ⟨9, 1, [(⟨#[97, 46, 99]⟩ : ByteArray)].map AV.s⟩), (3, some ⟨9, 1, [(⟨#[97, 46, 111]⟩ : ByteArray), (⟨#[97, 46, 100]⟩ : ByteArray)].map AV.s⟩), (2, some ⟨9, 1, [(⟨#[97, 46, 111]⟩ : ByteArray), (⟨#[98, 46, 111]⟩ : ByteArray)].map AV.s⟩), (1, some ⟨9, 1, [(⟨#[108, 105, 98]⟩ : ByteArray)].map AV.s⟩), (0, some ⟨26, 3, [(AV.st [(AV.own 9 0 3), (AV.own 10 0 1), (AV.own 11 0 1)])]⟩)]⟩) kr ?_
  refine AOps.done ?_
  refine Awp.ret ?_
  have hM : m_law9_given = lit13 := by simp only [m_law9_given, sbt]
  exact ⟨[9, 1, 2, 3, 4, 5, 6, 7, 8, 10, 11], Or.inr rfl, by decide, rfl, ⟨kr, ⟨kr, ⟨kr, ⟨kr, ⟨kr, ⟨kr, ⟨kr, ⟨kr, ⟨kr, ⟨kr, ⟨kr, trivial⟩⟩⟩⟩⟩⟩⟩⟩⟩⟩⟩, (AV.st [(AV.own 9 0 3), (AV.own 10 0 1), (AV.own 11 0 1)]), kr, kr⟩

end
end Go.Lift
