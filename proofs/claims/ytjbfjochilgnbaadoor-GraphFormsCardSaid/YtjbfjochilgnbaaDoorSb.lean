/-
  Lemmas of this claim: a layer over the kit's calls, contracts of the functions that the law reaches, and the law's row. No condition of its own.
-/
import Derived.Test.YtjbfjochilgnbaaDoorSa
import Derived.Test.YtjbfjochilgnbaaDoorLb
namespace Go.Lift
open Go Go.RowKit
set_option linter.unusedSimpArgs false
set_option linter.unusedVariables false
set_option maxRecDepth 20000
section
variable (W : World)
theorem lib_sort {h : Store} {id : Nat} {xs : List ByteArray} (hg : h.get id = some ⟨9, 1, xs.map .s⟩) (hne : xs ≠ []) (hn : xs.length ≤ 281474976710656) :
    EffAt Go.Proofs.Tryd.prog W 41 [.own id 0 xs.length] h (.tup []) (h.put id (some ⟨9, 1, ((xs.map (·.data.toList)).mergeSort fun x y => decide (x ≤ y)).map (fun y => AV.s (toBA y))⟩)) where
  enters := en41 W
  calls := fun w0 μ w vs hG hs hfr hvr => by
    simp only [VRs] at hvr
    obtain ⟨v, r, rfl, hv, rfl⟩ := hvr
    obtain ⟨b, c, rfl, h1, h2, h3, h4, h5, -, hstep⟩ := step_put hs hg hne hv
    have := Go.Proofs.Tryd.slices_Sort_string b 0 c (xs.map (·.data.toList)) w h4 h3 (by rw [List.length_map]; omega)
    rw [List.length_map] at this
    refine this.mono ?_
    rintro e w' ⟨rfl, n, os, rfl⟩
    have st := hstep ((xs.map (·.data.toList)).mergeSort fun x y => decide (x ≤ y)) n (by rw [List.length_mergeSort, List.length_map]) (fun y hy => by
      rw [List.mem_mergeSort] at hy
      obtain ⟨x, hx, rfl⟩ := List.mem_map.1 hy
      rw [data_len]; exact h5 x hx)
    exact ⟨_, μ, rfl, by simp only [VR, VRs]; exact ⟨#[], rfl, rfl⟩, st.trans (step_grow st.sim os)⟩

theorem lib_compact {h : Store} {id : Nat} {xs : List ByteArray} (hg : h.get id = some ⟨9, 1, xs.map .s⟩) (hne : xs ≠ []) (hn : xs.length ≤ 281474976710656)
    (hle : (Lib.compact (xs.map (fun x : ByteArray => x.data.toList))).length ≤ xs.length) (hmem : ∀ y ∈ Lib.compact (xs.map (fun x : ByteArray => x.data.toList)), y ∈ xs.map (fun x : ByteArray => x.data.toList)) :
    EffAt Go.Proofs.Tryd.prog W 42 [.own id 0 xs.length] h (.own id 0 (Lib.compact (xs.map (fun x : ByteArray => x.data.toList))).length) (h.put id (some ⟨9, 1, (Lib.compact (xs.map (fun x : ByteArray => x.data.toList)) ++ List.replicate (xs.length - (Lib.compact (xs.map (fun x : ByteArray => x.data.toList))).length) []).map (fun y => AV.s (toBA y))⟩)) where
  enters := en42 W
  calls := fun w0 μ w vs hG hs hfr hvr => by
    simp only [VRs] at hvr
    obtain ⟨v, r, rfl, hv, rfl⟩ := hvr
    obtain ⟨b, c, rfl, h1, h2, h3, h4, h5, ⟨sl, hm, hb, hc, hk⟩, hstep⟩ := step_put hs hg hne hv
    have := Go.Proofs.Tryd.slices_Compact_string b 0 c (xs.map (fun x : ByteArray => x.data.toList)) w h4 (by rw [List.length_map]; omega) (by rw [List.length_map]; exact h1)
    rw [List.length_map] at this
    refine this.mono ?_
    rintro e w' ⟨rfl, n, rfl⟩
    have st := hstep (Lib.compact (xs.map (fun x : ByteArray => x.data.toList)) ++ List.replicate (xs.length - (Lib.compact (xs.map (fun x : ByteArray => x.data.toList))).length) []) n (by rw [List.length_append, List.length_replicate]; omega) (fun y hy => by
      rcases List.mem_append.1 hy with hy | hy
      · obtain ⟨x, hx, rfl⟩ := List.mem_map.1 (hmem y hy)
        rw [data_len]; exact h5 x hx
      · have := List.eq_of_mem_replicate hy
        subst this; exact Nat.zero_le _)
    refine ⟨_, μ, rfl, ?_, st⟩
    simp only [VR, hm]
    exact ⟨_, c, rfl, by omega, by omega, by rw [hb], fun _ => by rw [hb, Nat.zero_mul]⟩

theorem lib_clone (xs : List ByteArray) (hne : xs ≠ []) (hn : xs.length * 16 ≤ 140737488355328) :
    PureAt Go.Proofs.Tryd.prog W 43 [.sl 1 false (xs.map .s)] (.own 0 0 xs.length) [⟨9, 1, xs.map .s⟩] := by
  have key := pure_of_row (P := Go.Proofs.Tryd.prog) (W := W) (f := 43) (en43 W) (args := [.sl 1 false (xs.map .s)]) (et := 9) (k := 1) (by omega) (els := xs.map .s) fun w Y vs hG hvs => by
    simp only [CRs_cons, CRs_nil, CR_sl, List.length_map] at hvs
    obtain ⟨v1, r1, rfl, h1, rfl⟩ := hvs
    rcases h1 with ⟨h, _⟩ | ⟨_, a, c, rfl, hc, hl, hrows⟩
    · exact absurd (by simpa using h) hne
    · obtain ⟨h1, h2, h3⟩ := CRrows_strs hrows hne
      rw [h1]
      refine (Go.Proofs.Tryd.slices_Clone_string a.block a.off xs.length c xs w (Nat.le_refl _) hn (fun j hj => ?_)).mono ?_
      · rw [List.getD_eq_getElem?_getD, List.getElem?_eq_getElem hj]
        exact (h3 j _ (List.getElem?_eq_getElem hj)).1
      · rintro e w' ⟨v', rfl, ho, hnn, hb⟩
        rw [List.take_length] at ho
        refine ⟨v', _, rfl, by rw [List.length_map]; exact ho, hnn, hb, fun j x hx => ?_⟩
        obtain ⟨q, hq, rfl⟩ := cells_strs_get hx
        refine ⟨rfl, fun i y hy => ?_⟩
        cases i with
        | succ i => simp [AV.cells] at hy
        | zero =>
          simp [AV.cells] at hy
          subst hy
          refine ⟨.string q, by rw [Nat.mul_one, Nat.add_zero, List.getElem?_map, hq]; rfl, ?_, rfl⟩
          rw [CR_s]; exact ⟨rfl, (h3 j q hq).2⟩
  rwa [List.length_map] at key

theorem lib_clone_nil : PureAt Go.Proofs.Tryd.prog W 43 [.sl 1 true []] (.sl 1 true []) [] := by
  refine pure_of_calls (en43 W) fun w Y vs hG hvs => ?_
  simp only [CRs_cons, CRs_nil, CR_sl] at hvs
  obtain ⟨v1, r1, rfl, h1, rfl⟩ := hvs
  rcases h1 with ⟨_, rfl⟩ | ⟨h, _⟩
  · refine (Go.Proofs.Tryd.slices_Clone_string_nil 0 0 w).mono ?_
    rintro e w' ⟨rfl, rfl⟩
    exact ⟨_, rfl, by simp only [VR, CR]; exact Or.inl ⟨trivial, trivial⟩, Below.refl _ _⟩
  · cases h

theorem lib_compact_nil : PureAt Go.Proofs.Tryd.prog W 42 [.sl 1 true []] (.sl 1 true []) [] := by
  refine pure_of_calls (en42 W) fun w Y vs hG hvs => ?_
  simp only [CRs_cons, CRs_nil, CR_sl] at hvs
  obtain ⟨v1, r1, rfl, h1, rfl⟩ := hvs
  rcases h1 with ⟨_, rfl⟩ | ⟨h, _⟩
  · refine (Go.Proofs.Tryd.slices_Compact_string_empty none 0 w).mono ?_
    rintro e w' ⟨rfl, rfl⟩
    exact ⟨_, rfl, by simp only [VR, CR]; exact Or.inl ⟨trivial, trivial⟩, Below.refl _ _⟩
  · cases h

theorem lib_sort_nil : PureAt Go.Proofs.Tryd.prog W 41 [.sl 1 true []] (.tup []) [] := by
  refine pure_of_calls (en41 W) fun w Y vs hG hvs => ?_
  simp only [CRs_cons, CRs_nil, CR_sl] at hvs
  obtain ⟨v1, r1, rfl, h1, rfl⟩ := hvs
  rcases h1 with ⟨_, rfl⟩ | ⟨h, _⟩
  · refine (Go.Proofs.Tryd.slices_Sort_string_none none 0 w).mono ?_
    rintro e w' ⟨rfl, rfl⟩
    exact ⟨_, rfl, by simp only [VR, VRs]; exact ⟨#[], rfl, rfl⟩, Below.refl _ _⟩
  · cases h
end
end Go.Lift
namespace Go.Lift
open Go Go.RowKit
set_option linter.unusedSimpArgs false
set_option linter.unusedVariables false
set_option maxRecDepth 20000
section
variable (W : World)
theorem lib_sort' {h : Store} {id : Nat} {xs : List ByteArray} (hg : h.get id = some ⟨9, 1, xs.map .s⟩) (hne : xs ≠ []) (hn : xs.length ≤ 281474976710656) :
    EffAt Go.Proofs.Tryd.prog W 41 [.own id 0 xs.length] h (.tup []) (h.put id (some ⟨9, 1, ((sortL (xs.map fun x => x.data.toList)).map toBA).map .s⟩)) := by
  have := lib_sort W hg hne hn
  rw [List.map_map]; exact this

theorem graph_check {m : Int} (hW : W.cell? ⟨0, 0, none⟩ = some (.int .i64 m)) (g : GraphD) : PureAt Go.Proofs.Tryd.prog W 20 [g.av] (.i .i64 (checkS g)) [] := by
  refine pure_of_body (fn := Go.Proofs.Tryd.f20) Go.Proofs.Tryd.func20 rfl (en20 W) (ts := [2]) rfl (Nat.le_of_ble_eq_true rfl) ?_
  refine Awp.seq ?_
  refine Awp.region tabS_ok ?_
  refine AOps.sn (by simp only [BB, BC, TTs, reduceIte, reduceCtorEq, Nat.reduceEqDiff, Nat.reduceAdd, Nat.reduceSub, Nat.reduceMul, Nat.reduceLT, Nat.reduceLeDiff, closed_graph, GraphD.av] <;> rfl) (Nat.le_of_ble_eq_true rfl) ?_
  refine AOps.sq (by simp only [BB, BC, TTs, reduceIte, reduceCtorEq, Nat.reduceEqDiff, Nat.reduceAdd, Nat.reduceSub, Nat.reduceMul, Nat.reduceLT, Nat.reduceLeDiff, closed_graph, GraphD.av] <;> rfl) (Nat.le_of_ble_eq_true rfl) ?_
  refine Awp.seq (Awp.seq ?_)
  refine Awp.region tabS_ok ?_
  refine AOps.sq (by simp only [BB, BC, TTs, reduceIte, reduceCtorEq, Nat.reduceEqDiff, Nat.reduceAdd, Nat.reduceSub, Nat.reduceMul, Nat.reduceLT, Nat.reduceLeDiff, GraphD.av] <;> rfl) (Nat.le_of_ble_eq_true rfl) ?_
  refine AOps.sc0 (by simp only [BB, BC, TTs, reduceIte, reduceCtorEq, Nat.reduceEqDiff, Nat.reduceAdd, Nat.reduceSub, Nat.reduceMul, Nat.reduceLT, Nat.reduceLeDiff, GraphD.av] <;> rfl) (by simp [closedL, closed, closed_strs, closed_graph]) (graph_may W hW g) (by simp [closedL, closed]) (Nat.le_of_ble_eq_true rfl) ?_
  refine AOps.sq (by simp only [BB, BC, TTs, reduceIte, reduceCtorEq, Nat.reduceEqDiff, Nat.reduceAdd, Nat.reduceSub, Nat.reduceMul, Nat.reduceLT, Nat.reduceLeDiff, GraphD.av] <;> rfl) (Nat.le_of_ble_eq_true rfl) ?_
  cases hm : mayG g with
  | false =>
    refine Awp.cond (t := true) (by simp only [BB, reduceIte, Nat.reduceEqDiff, hm, Bool.not_false]) (Awp.seq ?_)
    refine Awp.region tabS_ok ?_
    refine AOps.sq (by simp only [BB, BC, TTs, reduceIte, reduceCtorEq, Nat.reduceEqDiff, Nat.reduceAdd, Nat.reduceSub, Nat.reduceMul, Nat.reduceLT, Nat.reduceLeDiff] <;> rfl) (Nat.le_of_ble_eq_true rfl) ?_
    refine Awp.ret ⟨[], Or.inr rfl, List.nodup_nil, rfl, trivial, ?_⟩
    have hz : checkS g = 900 := by unfold checkS; rw [if_pos hm]
    simp only [resAV, get_cons, finV, reduceIte, Nat.reduceEqDiff, hz]
  | true =>
    refine Awp.cond (t := false) (by simp only [BB, reduceIte, Nat.reduceEqDiff, hm, Bool.not_true]) (Awp.skip ?_)
    have hle := mayG_outs hm
    have ho := graph_outs W g (by omega)
    have hz : checkS g = if hasDup ((outsOf g.edges).map fun x => x.data.toList) then 901 else 0 := by unfold checkS; rw [if_neg (by rw [hm]; simp)]
    rw [← sort_dup] at hz
    generalize outsOf g.edges = xs at hle ho hz
    refine Awp.fits [0] (env' := [(1, .loc 0 0 0)]) (h' := ⟨1, [(0, some ⟨27, 3, [g.av]⟩)]⟩) ⟨by simp, rfl, ⟨fitsO_c (ob := ⟨27, 3, [g.av]⟩) rfl rfl rfl, trivial⟩, ⟨rfl, trivial⟩⟩ keep0 ?_
    have hs1 : mapC (snapC [] ⟨1, [(0, some ⟨27, 3, [g.av]⟩)]⟩ 8) [.loc 0 0 0] = some [g.pt] := snap_g rfl
    refine Awp.seq ?_
    by_cases hne : xs = []
    · subst hne
      rw [rowR_nil, rowS_nil] at ho
      refine Awp.region tabS_ok ?_
      refine AOps.sf0 (by simp only [BB, BC, TTs, reduceIte, reduceCtorEq, Nat.reduceEqDiff, Nat.reduceAdd, Nat.reduceSub, Nat.reduceMul, Nat.reduceLT, Nat.reduceLeDiff] <;> rfl) (by exact hs1) ho (by simp [flat, flat.flat1, flat.flat2]) (by simp [closedL, closed]) (Nat.le_of_ble_eq_true rfl) ?_
      refine AOps.sq (by simp only [BB, BC, TTs, reduceIte, reduceCtorEq, Nat.reduceEqDiff, Nat.reduceAdd, Nat.reduceSub, Nat.reduceMul, Nat.reduceLT, Nat.reduceLeDiff] <;> rfl) (Nat.le_of_ble_eq_true rfl) ?_
      refine Awp.seq ?_
      refine Awp.region tabS_ok ?_
      refine AOps.sq (by simp only [BB, BC, TTs, reduceIte, reduceCtorEq, Nat.reduceEqDiff, Nat.reduceAdd, Nat.reduceSub, Nat.reduceMul, Nat.reduceLT, Nat.reduceLeDiff] <;> rfl) (Nat.le_of_ble_eq_true rfl) ?_
      refine AOps.sc0 (by simp only [BB, BC, TTs, reduceIte, reduceCtorEq, Nat.reduceEqDiff, Nat.reduceAdd, Nat.reduceSub, Nat.reduceMul, Nat.reduceLT, Nat.reduceLeDiff] <;> rfl) (by simp [closedL, closed]) (lib_sort_nil W) (by simp [closedL, closed]) (Nat.le_of_ble_eq_true rfl) ?_
      refine Awp.seq (Awp.seq ?_)
      refine Awp.region tabS_ok ?_
      refine AOps.sq (by simp only [BB, BC, TTs, reduceIte, reduceCtorEq, Nat.reduceEqDiff, Nat.reduceAdd, Nat.reduceSub, Nat.reduceMul, Nat.reduceLT, Nat.reduceLeDiff] <;> rfl) (Nat.le_of_ble_eq_true rfl) ?_
      refine AOps.sc0 (by simp only [BB, BC, TTs, reduceIte, reduceCtorEq, Nat.reduceEqDiff, Nat.reduceAdd, Nat.reduceSub, Nat.reduceMul, Nat.reduceLT, Nat.reduceLeDiff] <;> rfl) (by simp [closedL, closed]) (lib_clone_nil W) (by simp [closedL, closed]) (Nat.le_of_ble_eq_true rfl) ?_
      refine AOps.sc0 (by simp only [BB, BC, TTs, reduceIte, reduceCtorEq, Nat.reduceEqDiff, Nat.reduceAdd, Nat.reduceSub, Nat.reduceMul, Nat.reduceLT, Nat.reduceLeDiff] <;> rfl) (by simp [closedL, closed]) (lib_compact_nil W) (by simp [closedL, closed]) (Nat.le_of_ble_eq_true rfl) ?_
      iterate 4 (refine AOps.sq (by simp only [BB, BC, TTs, reduceIte, reduceCtorEq, Nat.reduceEqDiff, Nat.reduceAdd, Nat.reduceSub, Nat.reduceMul, Nat.reduceLT, Nat.reduceLeDiff] <;> rfl) (Nat.le_of_ble_eq_true rfl) ?_)
      refine Awp.cond (t := false) (by simp [BB]) (Awp.skip ?_)
      refine Awp.seq ?_
      refine Awp.region tabS_ok ?_
      refine AOps.sq (by simp only [BB, BC, TTs, reduceIte, reduceCtorEq, Nat.reduceEqDiff, Nat.reduceAdd, Nat.reduceSub, Nat.reduceMul, Nat.reduceLT, Nat.reduceLeDiff] <;> rfl) (Nat.le_of_ble_eq_true rfl) ?_
      refine Awp.ret ⟨[], Or.inr rfl, List.nodup_nil, rfl, trivial, ?_⟩
      simp [resAV, get_cons, finV, hz]
    · rw [rowR_own hne, rowS_own hne] at ho
      refine Awp.region tabS_ok ?_
      refine AOps.sfr (by simp only [BB, BC, TTs, reduceIte, reduceCtorEq, Nat.reduceEqDiff, Nat.reduceAdd, Nat.reduceSub, Nat.reduceMul, Nat.reduceLT, Nat.reduceLeDiff] <;> rfl) (by exact hs1) ho (by exact closedL_s _) (by simp [AV.cells, flat]) (Nat.le_of_ble_eq_true rfl) ?_
      refine AOps.sq (by simp only [BB, BC, TTs, reduceIte, reduceCtorEq, Nat.reduceEqDiff, Nat.reduceAdd, Nat.reduceSub, Nat.reduceMul, Nat.reduceLT, Nat.reduceLeDiff] <;> rfl) (Nat.le_of_ble_eq_true rfl) ?_
      refine Awp.seq ?_
      refine Awp.region tabS_ok ?_
      refine AOps.sq (by simp only [BB, BC, TTs, reduceIte, reduceCtorEq, Nat.reduceEqDiff, Nat.reduceAdd, Nat.reduceSub, Nat.reduceMul, Nat.reduceLT, Nat.reduceLeDiff] <;> rfl) (Nat.le_of_ble_eq_true rfl) ?_
      refine AOps.sm (by simp only [BB, BC, TTs, reduceIte, reduceCtorEq, Nat.reduceEqDiff, Nat.reduceAdd, Nat.reduceSub, Nat.reduceMul, Nat.reduceLT, Nat.reduceLeDiff] <;> rfl) (lib_sort' W (id := 1) rfl hne (by omega)) (Nat.le_of_ble_eq_true rfl) ?_
      obtain ⟨ys, hys⟩ : ∃ ys, ys = (sortL (xs.map fun x => x.data.toList)).map toBA := ⟨_, rfl⟩
      have hyl : ys.length = xs.length := by rw [hys, List.length_map, sortL_len, List.length_map]
      have hyne : ys ≠ [] := fun e => hne (List.length_eq_zero_iff.1 (by rw [← hyl, e]; rfl))
      have hyd : ys.map (fun x : ByteArray => x.data.toList) = sortL (xs.map fun x => x.data.toList) := by rw [hys, map_toBA_data]
      rw [← hys]
      refine Awp.seq (Awp.seq ?_)
      refine Awp.region tabS_ok ?_
      refine AOps.sq (by simp only [BB, BC, TTs, reduceIte, reduceCtorEq, Nat.reduceEqDiff, Nat.reduceAdd, Nat.reduceSub, Nat.reduceMul, Nat.reduceLT, Nat.reduceLeDiff] <;> rfl) (Nat.le_of_ble_eq_true rfl) ?_
      refine AOps.sfr (by simp only [BB, BC, TTs, reduceIte, reduceCtorEq, Nat.reduceEqDiff, Nat.reduceAdd, Nat.reduceSub, Nat.reduceMul, Nat.reduceLT, Nat.reduceLeDiff] <;> rfl) (by exact snap_row rfl hyl.symm (by unfold LIM; omega)) (lib_clone W ys hyne (by omega)) (by exact closedL_s _) (by simp [AV.cells, flat]) (Nat.le_of_ble_eq_true rfl) ?_
      refine AOps.sm (by simp only [BB, BC, TTs, reduceIte, reduceCtorEq, Nat.reduceEqDiff, Nat.reduceAdd, Nat.reduceSub, Nat.reduceMul, Nat.reduceLT, Nat.reduceLeDiff] <;> rfl) (lib_compact W (id := 2) (xs := ys) rfl hyne (by omega) (by rw [← List.length_map (f := fun x : ByteArray => x.data.toList)]; exact compact_le _) (compact_mem _)) (Nat.le_of_ble_eq_true rfl) ?_
      iterate 4 (refine AOps.sq (by simp only [BB, BC, TTs, reduceIte, reduceCtorEq, Nat.reduceEqDiff, Nat.reduceAdd, Nat.reduceSub, Nat.reduceMul, Nat.reduceLT, Nat.reduceLeDiff] <;> rfl) (Nat.le_of_ble_eq_true rfl) ?_)
      rw [hyd]
      have hlt : decide (((Lib.compact (sortL (xs.map fun x => x.data.toList))).length : Int) < (xs.length : Int)) = decide ((Lib.compact (sortL (xs.map fun x => x.data.toList))).length < (xs.map fun x => x.data.toList).length) := by
        rw [List.length_map, decide_eq_decide]; omega
      rw [← hlt] at hz
      refine Awp.cond' (t := decide (((Lib.compact (sortL (xs.map fun x => x.data.toList))).length : Int) < (xs.length : Int))) (by simp only [BB, reduceIte, Nat.reduceEqDiff]) (fun ht => Awp.seq ?_) (fun ht => Awp.skip (Awp.seq ?_))
      · refine Awp.region tabS_ok ?_
        refine AOps.sq (by simp only [BB, BC, TTs, reduceIte, reduceCtorEq, Nat.reduceEqDiff, Nat.reduceAdd, Nat.reduceSub, Nat.reduceMul, Nat.reduceLT, Nat.reduceLeDiff] <;> rfl) (Nat.le_of_ble_eq_true rfl) ?_
        refine Awp.ret ⟨[], Or.inr rfl, List.nodup_nil, rfl, trivial, ?_⟩
        simp only [resAV, get_cons, finV, reduceIte, Nat.reduceEqDiff, hz, ht]
      · refine Awp.region tabS_ok ?_
        refine AOps.sq (by simp only [BB, BC, TTs, reduceIte, reduceCtorEq, Nat.reduceEqDiff, Nat.reduceAdd, Nat.reduceSub, Nat.reduceMul, Nat.reduceLT, Nat.reduceLeDiff] <;> rfl) (Nat.le_of_ble_eq_true rfl) ?_
        refine Awp.ret ⟨[], Or.inr rfl, List.nodup_nil, rfl, trivial, ?_⟩
        simp only [resAV, get_cons, finV, reduceIte, Nat.reduceEqDiff, hz, ht, Bool.false_eq_true]
end
end Go.Lift
namespace Go.Lift
open Go Go.RowKit
set_option linter.unusedSimpArgs false
set_option linter.unusedVariables false
set_option maxRecDepth 20000
section
variable (W : World)
theorem graph_maker {m : Int} (hW : W.cell? ⟨0, 0, none⟩ = some (.int .i64 m)) (g : GraphD) (name : ByteArray) : PureAt Go.Proofs.Tryd.prog W 17 [g.av, .s name] (.tup [.i .i64 (makerS g name).1, .b (makerS g name).2.1, .i .i64 (makerS g name).2.2]) [] := by
  refine pure_of_body (fn := Go.Proofs.Tryd.f17) Go.Proofs.Tryd.func17 rfl (en17 W) (ts := [4, 5, 6]) rfl (Nat.le_of_ble_eq_true rfl) ?_
  refine Awp.seq ?_
  refine Awp.region tabS_ok ?_
  refine AOps.sn (by simp only [BB, BC, TTs, reduceIte, reduceCtorEq, Nat.reduceEqDiff, Nat.reduceAdd, Nat.reduceSub, Nat.reduceMul, Nat.reduceLT, Nat.reduceLeDiff, closed_graph, GraphD.av] <;> rfl) (Nat.le_of_ble_eq_true rfl) ?_
  iterate 3 (refine AOps.sq (by simp only [BB, BC, TTs, reduceIte, reduceCtorEq, Nat.reduceEqDiff, Nat.reduceAdd, Nat.reduceSub, Nat.reduceMul, Nat.reduceLT, Nat.reduceLeDiff, closed_graph, GraphD.av] <;> rfl) (Nat.le_of_ble_eq_true rfl) ?_)
  refine Awp.seq (Awp.seq ?_)
  refine Awp.region tabS_ok ?_
  refine AOps.sq (by simp only [BB, BC, TTs, reduceIte, reduceCtorEq, Nat.reduceEqDiff, Nat.reduceAdd, Nat.reduceSub, Nat.reduceMul, Nat.reduceLT, Nat.reduceLeDiff, GraphD.av] <;> rfl) (Nat.le_of_ble_eq_true rfl) ?_
  refine AOps.sc0 (by simp only [BB, BC, TTs, reduceIte, reduceCtorEq, Nat.reduceEqDiff, Nat.reduceAdd, Nat.reduceSub, Nat.reduceMul, Nat.reduceLT, Nat.reduceLeDiff, GraphD.av] <;> rfl) (by simp [closedL, closed, closed_strs, closed_graph]) (graph_check W hW g) (by simp [closedL, closed]) (Nat.le_of_ble_eq_true rfl) ?_
  refine AOps.sq (by simp only [BB, BC, TTs, reduceIte, reduceCtorEq, Nat.reduceEqDiff, Nat.reduceAdd, Nat.reduceSub, Nat.reduceMul, Nat.reduceLT, Nat.reduceLeDiff, GraphD.av] <;> rfl) (Nat.le_of_ble_eq_true rfl) ?_
  refine Awp.seq ?_
  refine Awp.region tabS_ok ?_
  iterate 2 (refine AOps.sq (by simp only [BB, BC, TTs, reduceIte, reduceCtorEq, Nat.reduceEqDiff, Nat.reduceAdd, Nat.reduceSub, Nat.reduceMul, Nat.reduceLT, Nat.reduceLeDiff] <;> rfl) (Nat.le_of_ble_eq_true rfl) ?_)
  by_cases h0 : checkS g = 0
  · have hz : makerS g name = (max (makesAt g name) 0, decide (makesAt g name ≥ 0), 0) := by unfold makerS; rw [if_pos h0]
    refine Awp.cond (t := false) (by simp [BB, h0]) (Awp.skip ?_)
    refine Awp.fits [0] (env' := [(1, .s name), (2, .loc 0 0 0)]) (h' := ⟨1, [(0, some ⟨27, 3, [g.av]⟩)]⟩) ⟨by simp, rfl, ⟨fitsO_c (ob := ⟨27, 3, [g.av]⟩) rfl rfl rfl, trivial⟩, ⟨finV_closed rfl, rfl, trivial⟩⟩ keep0 ?_
    have hsg : mapC (snapC [] ⟨1, [(0, some ⟨27, 3, [g.av]⟩)]⟩ 8) [.loc 0 0 0, .s name] = some [g.pt, .s name] := snap_gs rfl
    refine Awp.seq ?_
    refine Awp.region tabS_ok ?_
    refine AOps.sq (by simp only [BB, BC, TTs, reduceIte, reduceCtorEq, Nat.reduceEqDiff, Nat.reduceAdd, Nat.reduceSub, Nat.reduceMul, Nat.reduceLT, Nat.reduceLeDiff] <;> rfl) (Nat.le_of_ble_eq_true rfl) ?_
    refine AOps.sf0 (by simp only [BB, BC, TTs, reduceIte, reduceCtorEq, Nat.reduceEqDiff, Nat.reduceAdd, Nat.reduceSub, Nat.reduceMul, Nat.reduceLT, Nat.reduceLeDiff] <;> rfl) (by exact hsg) (graph_makes W g name) (by simp [flat, flat.flat1, flat.flat2]) (by simp [closedL, closed]) (Nat.le_of_ble_eq_true rfl) ?_
    refine AOps.sq (by simp only [BB, BC, TTs, reduceIte, reduceCtorEq, Nat.reduceEqDiff, Nat.reduceAdd, Nat.reduceSub, Nat.reduceMul, Nat.reduceLT, Nat.reduceLeDiff] <;> rfl) (Nat.le_of_ble_eq_true rfl) ?_
    refine Awp.seq ?_
    refine Awp.region tabS_ok ?_
    iterate 7 (refine AOps.sq (by simp only [BB, BC, TTs, reduceIte, reduceCtorEq, Nat.reduceEqDiff, Nat.reduceAdd, Nat.reduceSub, Nat.reduceMul, Nat.reduceLT, Nat.reduceLeDiff] <;> rfl) (Nat.le_of_ble_eq_true rfl) ?_)
    refine Awp.ret ⟨[], Or.inr rfl, List.nodup_nil, rfl, trivial, ?_⟩
    have e1 : (if (0 : Int) > makesAt g name then 0 else makesAt g name) = max (makesAt g name) 0 := by
      rw [Int.max_def]; split <;> split <;> omega
    simp [resAV, get_cons, finV, mapC, closedL, closed, hz, e1]
  · have hz : makerS g name = (0, false, checkS g) := by unfold makerS; rw [if_neg h0]
    refine Awp.cond (t := true) (by simp [BB, h0]) (Awp.seq ?_)
    refine Awp.region tabS_ok ?_
    iterate 4 (refine AOps.sq (by simp only [BB, BC, TTs, reduceIte, reduceCtorEq, Nat.reduceEqDiff, Nat.reduceAdd, Nat.reduceSub, Nat.reduceMul, Nat.reduceLT, Nat.reduceLeDiff] <;> rfl) (Nat.le_of_ble_eq_true rfl) ?_)
    refine Awp.ret ⟨[], Or.inr rfl, List.nodup_nil, rfl, trivial, ?_⟩
    simp [resAV, get_cons, finV, mapC, closedL, closed, hz]
end
end Go.Lift
namespace Go.Lift
open Go Go.RowKit
set_option linter.unusedSimpArgs false
set_option linter.unusedVariables false
set_option maxRecDepth 20000
section
variable (W : World)
theorem ref_small (b : Int) : PureAt Go.Proofs.Tryd.prog W 44 [.i .u8 b] (.b (smallS b)) [] := by
  refine pure_of_body (fn := Go.Proofs.Tryd.f44) Go.Proofs.Tryd.func44 rfl (en44 W) (ts := [2]) rfl (Nat.le_of_ble_eq_true rfl) ?_
  refine Awp.seq ?_
  refine Awp.region tabS_ok ?_
  refine AOps.sq (by simp only [BB, BC, TTs, reduceIte, reduceCtorEq, Nat.reduceEqDiff, Nat.reduceAdd, Nat.reduceSub, Nat.reduceMul, Nat.reduceLT, Nat.reduceLeDiff] <;> rfl) (Nat.le_of_ble_eq_true rfl) ?_
  refine Awp.seq ?_
  by_cases h1 : 97 ≤ b <;> by_cases h2 : b ≤ 122 <;> by_cases h3 : 48 ≤ b <;> by_cases h4 : b ≤ 57
  all_goals try (exfalso; omega)
  all_goals
    refine Awp.region tabS_ok ?_
    iterate 3 (refine AOps.sq (by simp only [BB, BC, TTs, reduceIte, reduceCtorEq, Nat.reduceEqDiff, Nat.reduceAdd, Nat.reduceSub, Nat.reduceMul, Nat.reduceLT, Nat.reduceLeDiff, h1, h2, h3, h4, decide_true, decide_false, Bool.false_eq_true] <;> rfl) (Nat.le_of_ble_eq_true rfl) ?_)
    iterate 2 (first | (refine AOps.sgy rfl rfl (by first | rfl | fail) (by first | rfl | (simp [*]; done) | fail) ?_; refine AOps.sq (by simp only [BB, BC, TTs, reduceIte, reduceCtorEq, Nat.reduceEqDiff, Nat.reduceAdd, Nat.reduceSub, Nat.reduceMul, Nat.reduceLT, Nat.reduceLeDiff, h1, h2, h3, h4, decide_true, decide_false, Bool.false_eq_true] <;> rfl) (Nat.le_of_ble_eq_true rfl) ?_) | refine AOps.sgn rfl rfl (by first | rfl | fail) (by first | rfl | (simp [*]; done) | fail) (Nat.le_of_ble_eq_true rfl) ?_ | refine AOps.sgu rfl rfl (by first | rfl | fail) (Nat.le_of_ble_eq_true rfl) ?_)
    iterate 2 (refine AOps.sq (by simp only [BB, BC, TTs, reduceIte, reduceCtorEq, Nat.reduceEqDiff, Nat.reduceAdd, Nat.reduceSub, Nat.reduceMul, Nat.reduceLT, Nat.reduceLeDiff, h1, h2, h3, h4, decide_true, decide_false, Bool.false_eq_true] <;> rfl) (Nat.le_of_ble_eq_true rfl) ?_)
    iterate 6 (first | (refine AOps.sgy rfl rfl (by first | rfl | fail) (by first | rfl | (simp [*]; done) | fail) ?_; refine AOps.sq (by simp only [BB, BC, TTs, reduceIte, reduceCtorEq, Nat.reduceEqDiff, Nat.reduceAdd, Nat.reduceSub, Nat.reduceMul, Nat.reduceLT, Nat.reduceLeDiff, h1, h2, h3, h4, decide_true, decide_false, Bool.false_eq_true] <;> rfl) (Nat.le_of_ble_eq_true rfl) ?_) | refine AOps.sgn rfl rfl (by first | rfl | fail) (by first | rfl | (simp [*]; done) | fail) (Nat.le_of_ble_eq_true rfl) ?_ | refine AOps.sgu rfl rfl (by first | rfl | fail) (Nat.le_of_ble_eq_true rfl) ?_)
    iterate 2 (refine AOps.sq (by simp only [BB, BC, TTs, reduceIte, reduceCtorEq, Nat.reduceEqDiff, Nat.reduceAdd, Nat.reduceSub, Nat.reduceMul, Nat.reduceLT, Nat.reduceLeDiff, h1, h2, h3, h4, decide_true, decide_false, Bool.false_eq_true] <;> rfl) (Nat.le_of_ble_eq_true rfl) ?_)
    refine Awp.ret ⟨[], Or.inr rfl, List.nodup_nil, rfl, trivial, ?_⟩
    simp [resAV, get_cons, finV, smallS, h1, h2, h3, h4]

set_option maxHeartbeats 4000000 in
theorem ref_nameMay (s : ByteArray) : PureAt Go.Proofs.Tryd.prog W 21 [.s s] (.b (mayS s)) [] := by
  refine pure_of_lim (en21 W) fun hl => ?_
  simp only [limL, lim] at hl
  obtain ⟨hn, -⟩ := hl
  unfold LIM at hn
  refine pure_of_body (fn := Go.Proofs.Tryd.f21) Go.Proofs.Tryd.func21 rfl (en21 W) (ts := [2]) rfl (Nat.le_of_ble_eq_true rfl) ?_
  refine Awp.seq ?_
  refine Awp.region tabS_ok ?_
  refine AOps.sq (by simp only [BB, BC, TTs, reduceIte, reduceCtorEq, Nat.reduceEqDiff, Nat.reduceAdd, Nat.reduceSub, Nat.reduceMul, Nat.reduceLT, Nat.reduceLeDiff] <;> rfl) (Nat.le_of_ble_eq_true rfl) ?_
  refine Awp.seq (Awp.seq ?_)
  refine Awp.region tabS_ok ?_
  refine AOps.sq (by simp only [BB, BC, TTs, reduceIte, reduceCtorEq, Nat.reduceEqDiff, Nat.reduceAdd, Nat.reduceSub, Nat.reduceMul, Nat.reduceLT, Nat.reduceLeDiff] <;> rfl) (Nat.le_of_ble_eq_true rfl) ?_
  refine Awp.block (Awp.fits [] (env' := [(0, .s s), (2, .b false), (3, .i .i64 (0 : Nat))]) (h' := ⟨0, []⟩) ⟨List.nodup_nil, rfl, trivial, ⟨finV_closed rfl, finV_closed rfl, finV_closed rfl, trivial⟩⟩ keep0 (Awp.loop (fun k env h => ∃ i, i + k = s.size ∧ h = ⟨0, []⟩ ∧ (s.data.toList.take i).all byteOk = true ∧ env = [(0, .s s), (2, .b false), (3, .i .i64 i)]) s.size ?_ ?_))
  · exact ⟨0, by simp, rfl, rfl, rfl⟩
  · rintro k env h ⟨i, hk, rfl, hp, rfl⟩
    refine Awp.seq (Awp.seq ?_)
    refine Awp.region tabS_ok ?_
    iterate 4 (refine AOps.sq (by simp only [BB, BC, TTs, reduceIte, reduceCtorEq, Nat.reduceEqDiff, Nat.reduceAdd, Nat.reduceSub, Nat.reduceMul, Nat.reduceLT, Nat.reduceLeDiff] <;> rfl) (Nat.le_of_ble_eq_true rfl) ?_)
    rcases Nat.lt_or_ge i s.size with hlt | hge
    · refine Awp.cond (t := true) (by simp only [BB, reduceIte, Nat.reduceEqDiff]; simpa using hlt) (Awp.skip ?_)
      refine Awp.seq (Awp.block (Awp.seq ?_))
      obtain ⟨b, hb, hx⟩ := data_get hlt
      have hw := wrap_succ hlt hn
      have hbo := byteOk_eq b
      cases hok : byteOk b
      · rw [hok] at hbo
        simp only [Bool.false_eq, Bool.or_eq_false_iff, decide_eq_false_iff_not] at hbo
        obtain ⟨⟨⟨⟨hs, h1⟩, h2⟩, h3⟩, h4⟩ := hbo
        refine Awp.region tabS_ok ?_
        iterate 3 (refine AOps.sq (by simp only [BB, BC, TTs, reduceIte, reduceCtorEq, Nat.reduceEqDiff, Nat.reduceAdd, Nat.reduceSub, Nat.reduceMul, Nat.reduceLT, Nat.reduceLeDiff, hb, hs, h1, h2, h3, h4, decide_false, Bool.not_false] <;> rfl) (Nat.le_of_ble_eq_true rfl) ?_)
        refine AOps.sc0 (by simp only [BB, BC, TTs, reduceIte, reduceCtorEq, Nat.reduceEqDiff, Nat.reduceAdd, Nat.reduceSub, Nat.reduceMul, Nat.reduceLT, Nat.reduceLeDiff, hb, hs, h1, h2, h3, h4, decide_false, Bool.not_false] <;> rfl) (by simp [closedL, closed]) (ref_small W b.toNat) (by simp [closedL, closed]) (Nat.le_of_ble_eq_true rfl) ?_
        iterate 2 (refine AOps.sq (by simp only [BB, BC, TTs, reduceIte, reduceCtorEq, Nat.reduceEqDiff, Nat.reduceAdd, Nat.reduceSub, Nat.reduceMul, Nat.reduceLT, Nat.reduceLeDiff, hb, hs, h1, h2, h3, h4, decide_false, Bool.not_false] <;> rfl) (Nat.le_of_ble_eq_true rfl) ?_)
        iterate 4 (first | (refine AOps.sgy rfl rfl (by first | rfl | fail) (by first | rfl | (simp [*]; done) | fail) ?_; refine AOps.sq (by simp only [BB, BC, TTs, reduceIte, reduceCtorEq, Nat.reduceEqDiff, Nat.reduceAdd, Nat.reduceSub, Nat.reduceMul, Nat.reduceLT, Nat.reduceLeDiff, hb, hs, h1, h2, h3, h4, decide_false, Bool.not_false] <;> rfl) (Nat.le_of_ble_eq_true rfl) ?_) | refine AOps.sgn rfl rfl (by first | rfl | fail) (by first | rfl | (simp [*]; done) | fail) (Nat.le_of_ble_eq_true rfl) ?_ | refine AOps.sgu rfl rfl (by first | rfl | fail) (Nat.le_of_ble_eq_true rfl) ?_)
        iterate 2 (refine AOps.sq (by simp only [BB, BC, TTs, reduceIte, reduceCtorEq, Nat.reduceEqDiff, Nat.reduceAdd, Nat.reduceSub, Nat.reduceMul, Nat.reduceLT, Nat.reduceLeDiff, hb, hs, h1, h2, h3, h4, decide_false, Bool.not_false] <;> rfl) (Nat.le_of_ble_eq_true rfl) ?_)
        iterate 4 (first | (refine AOps.sgy rfl rfl (by first | rfl | fail) (by first | rfl | (simp [*]; done) | fail) ?_; refine AOps.sq (by simp only [BB, BC, TTs, reduceIte, reduceCtorEq, Nat.reduceEqDiff, Nat.reduceAdd, Nat.reduceSub, Nat.reduceMul, Nat.reduceLT, Nat.reduceLeDiff, hb, hs, h1, h2, h3, h4, decide_false, Bool.not_false] <;> rfl) (Nat.le_of_ble_eq_true rfl) ?_) | refine AOps.sgn rfl rfl (by first | rfl | fail) (by first | rfl | (simp [*]; done) | fail) (Nat.le_of_ble_eq_true rfl) ?_ | refine AOps.sgu rfl rfl (by first | rfl | fail) (Nat.le_of_ble_eq_true rfl) ?_)
        iterate 2 (refine AOps.sq (by simp only [BB, BC, TTs, reduceIte, reduceCtorEq, Nat.reduceEqDiff, Nat.reduceAdd, Nat.reduceSub, Nat.reduceMul, Nat.reduceLT, Nat.reduceLeDiff, hb, hs, h1, h2, h3, h4, decide_false, Bool.not_false] <;> rfl) (Nat.le_of_ble_eq_true rfl) ?_)
        iterate 4 (first | (refine AOps.sgy rfl rfl (by first | rfl | fail) (by first | rfl | (simp [*]; done) | fail) ?_; refine AOps.sq (by simp only [BB, BC, TTs, reduceIte, reduceCtorEq, Nat.reduceEqDiff, Nat.reduceAdd, Nat.reduceSub, Nat.reduceMul, Nat.reduceLT, Nat.reduceLeDiff, hb, hs, h1, h2, h3, h4, decide_false, Bool.not_false] <;> rfl) (Nat.le_of_ble_eq_true rfl) ?_) | refine AOps.sgn rfl rfl (by first | rfl | fail) (by first | rfl | (simp [*]; done) | fail) (Nat.le_of_ble_eq_true rfl) ?_ | refine AOps.sgu rfl rfl (by first | rfl | fail) (Nat.le_of_ble_eq_true rfl) ?_)
        iterate 2 (refine AOps.sq (by simp only [BB, BC, TTs, reduceIte, reduceCtorEq, Nat.reduceEqDiff, Nat.reduceAdd, Nat.reduceSub, Nat.reduceMul, Nat.reduceLT, Nat.reduceLeDiff, hb, hs, h1, h2, h3, h4, decide_false, Bool.not_false] <;> rfl) (Nat.le_of_ble_eq_true rfl) ?_)
        iterate 4 (first | (refine AOps.sgy rfl rfl (by first | rfl | fail) (by first | rfl | (simp [*]; done) | fail) ?_; refine AOps.sq (by simp only [BB, BC, TTs, reduceIte, reduceCtorEq, Nat.reduceEqDiff, Nat.reduceAdd, Nat.reduceSub, Nat.reduceMul, Nat.reduceLT, Nat.reduceLeDiff, hb, hs, h1, h2, h3, h4, decide_false, Bool.not_false] <;> rfl) (Nat.le_of_ble_eq_true rfl) ?_) | refine AOps.sgn rfl rfl (by first | rfl | fail) (by first | rfl | (simp [*]; done) | fail) (Nat.le_of_ble_eq_true rfl) ?_ | refine AOps.sgu rfl rfl (by first | rfl | fail) (Nat.le_of_ble_eq_true rfl) ?_)
        refine AOps.sq (by simp only [BB, BC, TTs, reduceIte, reduceCtorEq, Nat.reduceEqDiff, Nat.reduceAdd, Nat.reduceSub, Nat.reduceMul, Nat.reduceLT, Nat.reduceLeDiff, hb, hs, h1, h2, h3, h4, decide_false, Bool.not_false] <;> rfl) (Nat.le_of_ble_eq_true rfl) ?_
        refine Awp.cond (t := true) (by simp only [BB, reduceIte, Nat.reduceEqDiff]) (Awp.seq ?_)
        refine Awp.region tabS_ok ?_
        refine AOps.sq (by simp only [BB, BC, TTs, reduceIte, reduceCtorEq, Nat.reduceEqDiff, Nat.reduceAdd, Nat.reduceSub, Nat.reduceMul, Nat.reduceLT, Nat.reduceLeDiff] <;> rfl) (Nat.le_of_ble_eq_true rfl) ?_
        refine Awp.ret ⟨[], Or.inr rfl, List.nodup_nil, rfl, trivial, ?_⟩
        simp only [resAV, get_cons, finV, reduceIte, Nat.reduceEqDiff, mayS_ref, all_false hx hok, Bool.false_and]
      · rw [hok] at hbo
        have hok' := hok
        cases hs : smallS b.toNat <;> cases h1 : decide ((b.toNat : Int) = 46) <;> cases h2 : decide ((b.toNat : Int) = 95) <;> cases h3 : decide ((b.toNat : Int) = 45) <;> cases h4 : decide ((b.toNat : Int) = 47)
        all_goals try (exfalso; rw [hs, h1, h2, h3, h4] at hbo; cases hbo; done)
        all_goals try (exfalso; unfold smallS at hs; simp only [decide_eq_true_eq, Bool.or_eq_true, Bool.and_eq_true] at hs h1 h2 h3 h4; omega)
        all_goals clear hbo hok
        all_goals
          refine Awp.region tabS_ok ?_
          iterate 3 (refine AOps.sq (by simp only [BB, BC, TTs, reduceIte, reduceCtorEq, Nat.reduceEqDiff, Nat.reduceAdd, Nat.reduceSub, Nat.reduceMul, Nat.reduceLT, Nat.reduceLeDiff, hb, hs, h1, h2, h3, h4, Bool.not_false, Bool.not_true, Bool.false_eq_true] <;> rfl) (Nat.le_of_ble_eq_true rfl) ?_)
          refine AOps.sc0 (by simp only [BB, BC, TTs, reduceIte, reduceCtorEq, Nat.reduceEqDiff, Nat.reduceAdd, Nat.reduceSub, Nat.reduceMul, Nat.reduceLT, Nat.reduceLeDiff, hb, hs, h1, h2, h3, h4, Bool.not_false, Bool.not_true, Bool.false_eq_true] <;> rfl) (by simp [closedL, closed]) (ref_small W b.toNat) (by simp [closedL, closed]) (Nat.le_of_ble_eq_true rfl) ?_
          iterate 2 (refine AOps.sq (by simp only [BB, BC, TTs, reduceIte, reduceCtorEq, Nat.reduceEqDiff, Nat.reduceAdd, Nat.reduceSub, Nat.reduceMul, Nat.reduceLT, Nat.reduceLeDiff, hb, hs, h1, h2, h3, h4, Bool.not_false, Bool.not_true, Bool.false_eq_true] <;> rfl) (Nat.le_of_ble_eq_true rfl) ?_)
          iterate 4 (first | (refine AOps.sgy rfl rfl (by first | rfl | fail) (by first | rfl | fail) ?_; refine AOps.sq (by simp only [BB, BC, TTs, reduceIte, reduceCtorEq, Nat.reduceEqDiff, Nat.reduceAdd, Nat.reduceSub, Nat.reduceMul, Nat.reduceLT, Nat.reduceLeDiff, hb, hs, h1, h2, h3, h4, Bool.not_false, Bool.not_true, Bool.false_eq_true] <;> rfl) (Nat.le_of_ble_eq_true rfl) ?_) | refine AOps.sgn rfl rfl (by first | rfl | fail) (by first | rfl | fail) (Nat.le_of_ble_eq_true rfl) ?_ | refine AOps.sgu rfl rfl (by first | rfl | fail) (Nat.le_of_ble_eq_true rfl) ?_)
          iterate 2 (refine AOps.sq (by simp only [BB, BC, TTs, reduceIte, reduceCtorEq, Nat.reduceEqDiff, Nat.reduceAdd, Nat.reduceSub, Nat.reduceMul, Nat.reduceLT, Nat.reduceLeDiff, hb, hs, h1, h2, h3, h4, Bool.not_false, Bool.not_true, Bool.false_eq_true] <;> rfl) (Nat.le_of_ble_eq_true rfl) ?_)
          iterate 4 (first | (refine AOps.sgy rfl rfl (by first | rfl | fail) (by first | rfl | fail) ?_; refine AOps.sq (by simp only [BB, BC, TTs, reduceIte, reduceCtorEq, Nat.reduceEqDiff, Nat.reduceAdd, Nat.reduceSub, Nat.reduceMul, Nat.reduceLT, Nat.reduceLeDiff, hb, hs, h1, h2, h3, h4, Bool.not_false, Bool.not_true, Bool.false_eq_true] <;> rfl) (Nat.le_of_ble_eq_true rfl) ?_) | refine AOps.sgn rfl rfl (by first | rfl | fail) (by first | rfl | fail) (Nat.le_of_ble_eq_true rfl) ?_ | refine AOps.sgu rfl rfl (by first | rfl | fail) (Nat.le_of_ble_eq_true rfl) ?_)
          iterate 2 (refine AOps.sq (by simp only [BB, BC, TTs, reduceIte, reduceCtorEq, Nat.reduceEqDiff, Nat.reduceAdd, Nat.reduceSub, Nat.reduceMul, Nat.reduceLT, Nat.reduceLeDiff, hb, hs, h1, h2, h3, h4, Bool.not_false, Bool.not_true, Bool.false_eq_true] <;> rfl) (Nat.le_of_ble_eq_true rfl) ?_)
          iterate 4 (first | (refine AOps.sgy rfl rfl (by first | rfl | fail) (by first | rfl | fail) ?_; refine AOps.sq (by simp only [BB, BC, TTs, reduceIte, reduceCtorEq, Nat.reduceEqDiff, Nat.reduceAdd, Nat.reduceSub, Nat.reduceMul, Nat.reduceLT, Nat.reduceLeDiff, hb, hs, h1, h2, h3, h4, Bool.not_false, Bool.not_true, Bool.false_eq_true] <;> rfl) (Nat.le_of_ble_eq_true rfl) ?_) | refine AOps.sgn rfl rfl (by first | rfl | fail) (by first | rfl | fail) (Nat.le_of_ble_eq_true rfl) ?_ | refine AOps.sgu rfl rfl (by first | rfl | fail) (Nat.le_of_ble_eq_true rfl) ?_)
          iterate 2 (refine AOps.sq (by simp only [BB, BC, TTs, reduceIte, reduceCtorEq, Nat.reduceEqDiff, Nat.reduceAdd, Nat.reduceSub, Nat.reduceMul, Nat.reduceLT, Nat.reduceLeDiff, hb, hs, h1, h2, h3, h4, Bool.not_false, Bool.not_true, Bool.false_eq_true] <;> rfl) (Nat.le_of_ble_eq_true rfl) ?_)
          iterate 4 (first | (refine AOps.sgy rfl rfl (by first | rfl | fail) (by first | rfl | fail) ?_; refine AOps.sq (by simp only [BB, BC, TTs, reduceIte, reduceCtorEq, Nat.reduceEqDiff, Nat.reduceAdd, Nat.reduceSub, Nat.reduceMul, Nat.reduceLT, Nat.reduceLeDiff, hb, hs, h1, h2, h3, h4, Bool.not_false, Bool.not_true, Bool.false_eq_true] <;> rfl) (Nat.le_of_ble_eq_true rfl) ?_) | refine AOps.sgn rfl rfl (by first | rfl | fail) (by first | rfl | fail) (Nat.le_of_ble_eq_true rfl) ?_ | refine AOps.sgu rfl rfl (by first | rfl | fail) (Nat.le_of_ble_eq_true rfl) ?_)
          refine AOps.sq (by simp only [BB, BC, TTs, reduceIte, reduceCtorEq, Nat.reduceEqDiff, Nat.reduceAdd, Nat.reduceSub, Nat.reduceMul, Nat.reduceLT, Nat.reduceLeDiff, hb, hs, h1, h2, h3, h4, Bool.not_false, Bool.not_true, Bool.false_eq_true] <;> rfl) (Nat.le_of_ble_eq_true rfl) ?_
          refine Awp.cond (t := false) (by simp only [BB, reduceIte, Nat.reduceEqDiff]) (Awp.skip ?_)
          refine Awp.region tabS_ok ?_
          iterate 3 (refine AOps.sq (by simp only [BB, BC, TTs, reduceIte, reduceCtorEq, Nat.reduceEqDiff, Nat.reduceAdd, Nat.reduceSub, Nat.reduceMul, Nat.reduceLT, Nat.reduceLeDiff, hw] <;> rfl) (Nat.le_of_ble_eq_true rfl) ?_)
          refine ⟨[], [(0, .s s), (2, .b false), (3, .i .i64 (i + 1 : Nat))], ⟨0, []⟩, ⟨List.nodup_nil, rfl, trivial, ⟨finV_closed rfl, finV_closed rfl, finV_closed rfl, trivial⟩⟩, keep0, k - 1, by omega, i + 1, by omega, rfl, all_take_succ hx hp hok', rfl⟩
    · refine Awp.cond (t := false) (by simp only [BB, reduceIte, Nat.reduceEqDiff]; simpa using hge) (Awp.exit ?_)
      refine Awp.seq ?_
      have hz : mayS s = (decide ((s.size : Int) ≥ 1) && decide ((s.size : Int) ≤ 16)) := by rw [mayS_ref, all_take_all hp (by rw [data_len]; exact hge)]; rfl
      by_cases h1 : (1 : Int) ≤ s.size
      · refine Awp.region tabS_ok ?_
        iterate 4 (refine AOps.sq (by simp only [BB, BC, TTs, reduceIte, reduceCtorEq, Nat.reduceEqDiff, Nat.reduceAdd, Nat.reduceSub, Nat.reduceMul, Nat.reduceLT, Nat.reduceLeDiff, h1, decide_true] <;> rfl) (Nat.le_of_ble_eq_true rfl) ?_)
        iterate 3 (first | (refine AOps.sgy rfl rfl (by first | rfl | fail) (by first | rfl | (simp [*]; done) | fail) ?_; refine AOps.sq (by simp only [BB, BC, TTs, reduceIte, reduceCtorEq, Nat.reduceEqDiff, Nat.reduceAdd, Nat.reduceSub, Nat.reduceMul, Nat.reduceLT, Nat.reduceLeDiff, h1, decide_true] <;> rfl) (Nat.le_of_ble_eq_true rfl) ?_) | refine AOps.sgn rfl rfl (by first | rfl | fail) (by first | rfl | (simp [*]; done) | fail) (Nat.le_of_ble_eq_true rfl) ?_ | refine AOps.sgu rfl rfl (by first | rfl | fail) (Nat.le_of_ble_eq_true rfl) ?_)
        iterate 2 (refine AOps.sq (by simp only [BB, BC, TTs, reduceIte, reduceCtorEq, Nat.reduceEqDiff, Nat.reduceAdd, Nat.reduceSub, Nat.reduceMul, Nat.reduceLT, Nat.reduceLeDiff, h1, decide_true] <;> rfl) (Nat.le_of_ble_eq_true rfl) ?_)
        refine Awp.ret ⟨[], Or.inr rfl, List.nodup_nil, rfl, trivial, ?_⟩
        simp only [resAV, get_cons, finV, reduceIte, Nat.reduceEqDiff, hz, decide_eq_true (p := (s.size : Int) ≥ 1) h1, Bool.true_and]
      · refine Awp.region tabS_ok ?_
        iterate 4 (refine AOps.sq (by simp only [BB, BC, TTs, reduceIte, reduceCtorEq, Nat.reduceEqDiff, Nat.reduceAdd, Nat.reduceSub, Nat.reduceMul, Nat.reduceLT, Nat.reduceLeDiff, h1, decide_false, Bool.false_eq_true] <;> rfl) (Nat.le_of_ble_eq_true rfl) ?_)
        iterate 3 (first | (refine AOps.sgy rfl rfl (by first | rfl | fail) (by first | rfl | (simp [*]; done) | fail) ?_; refine AOps.sq (by simp only [BB, BC, TTs, reduceIte, reduceCtorEq, Nat.reduceEqDiff, Nat.reduceAdd, Nat.reduceSub, Nat.reduceMul, Nat.reduceLT, Nat.reduceLeDiff, h1, decide_false, Bool.false_eq_true] <;> rfl) (Nat.le_of_ble_eq_true rfl) ?_) | refine AOps.sgn rfl rfl (by first | rfl | fail) (by first | rfl | (simp [*]; done) | fail) (Nat.le_of_ble_eq_true rfl) ?_ | refine AOps.sgu rfl rfl (by first | rfl | fail) (Nat.le_of_ble_eq_true rfl) ?_)
        iterate 2 (refine AOps.sq (by simp only [BB, BC, TTs, reduceIte, reduceCtorEq, Nat.reduceEqDiff, Nat.reduceAdd, Nat.reduceSub, Nat.reduceMul, Nat.reduceLT, Nat.reduceLeDiff, h1, decide_false, Bool.false_eq_true] <;> rfl) (Nat.le_of_ble_eq_true rfl) ?_)
        refine Awp.ret ⟨[], Or.inr rfl, List.nodup_nil, rfl, trivial, ?_⟩
        simp only [resAV, get_cons, finV, reduceIte, Nat.reduceEqDiff, hz, decide_eq_false (p := (s.size : Int) ≥ 1) h1, Bool.false_and]
end
end Go.Lift
namespace Go.Lift
open Go Go.RowKit
set_option linter.unusedSimpArgs false
set_option linter.unusedVariables false
set_option maxRecDepth 20000
section
variable (W : World)
theorem law_num (n : Int) : PureAt Go.Proofs.Tryd.prog W 19 [.i .i64 n] (.i .i64 n) [] := by
  refine pure_of_body (fn := Go.Proofs.Tryd.f19) Go.Proofs.Tryd.func19 rfl (en19 W) (ts := [2]) rfl (Nat.le_of_ble_eq_true rfl) ?_
  refine Awp.seq ?_
  refine Awp.region tabS_ok ?_
  refine AOps.sq (by simp only [BB, BC, TTs, reduceIte, reduceCtorEq, Nat.reduceEqDiff, Nat.reduceAdd, Nat.reduceSub, Nat.reduceMul, Nat.reduceLT, Nat.reduceLeDiff] <;> rfl) (Nat.le_of_ble_eq_true rfl) ?_
  refine Awp.seq ?_
  refine Awp.region tabS_ok ?_
  iterate 2 (refine AOps.sq (by simp only [BB, BC, TTs, reduceIte, reduceCtorEq, Nat.reduceEqDiff, Nat.reduceAdd, Nat.reduceSub, Nat.reduceMul, Nat.reduceLT, Nat.reduceLeDiff] <;> rfl) (Nat.le_of_ble_eq_true rfl) ?_)
  refine Awp.ret ⟨[], Or.inr rfl, List.nodup_nil, rfl, trivial, ?_⟩
  simp only [resAV, get_cons, finV, reduceIte, Nat.reduceEqDiff]

theorem law9_given : PureAt Go.Proofs.Tryd.prog W 16 [] (.st [.own 0 0 3, .own 1 0 1, givenG.defaults.av]) [⟨31, 7, [given0.av, given1.av, given2.av]⟩, ⟨34, 2, [givenP.av]⟩] := by
  refine pure_of_cell tabS_ok (fn := Go.Proofs.Tryd.f16) Go.Proofs.Tryd.func16 rfl (en16 W) rfl tt27 (Nat.le_of_ble_eq_true rfl) ?_
  refine Awp.seq ?_
  refine Awp.region tabS_ok ?_
  refine AOps.sn (by simp only [BB, BC, TTs, reduceIte, reduceCtorEq, Nat.reduceEqDiff, Nat.reduceAdd, Nat.reduceSub, Nat.reduceMul, Nat.reduceLT, Nat.reduceLeDiff] <;> rfl) (Nat.le_of_ble_eq_true rfl) ?_
  refine Awp.seq ?_
  refine Awp.region tabS_ok ?_
  iterate 16 (refine AOps.sn (by simp only [BB, BC, TTs, reduceIte, reduceCtorEq, Nat.reduceEqDiff, Nat.reduceAdd, Nat.reduceSub, Nat.reduceMul, Nat.reduceLT, Nat.reduceLeDiff] <;> rfl) (Nat.le_of_ble_eq_true rfl) ?_)
  refine AOps.st (by simp only [BB, BC, TTs, reduceIte, reduceCtorEq, Nat.reduceEqDiff, Nat.reduceAdd, Nat.reduceSub, Nat.reduceMul, Nat.reduceLT, Nat.reduceLeDiff] <;> rfl) ?_
  refine Awp.ret ⟨[9, 10], _, _, Or.inr rfl, by simp, rfl, ?_, rfl, rfl, ?_⟩
  · exact ⟨rfl, rfl, trivial⟩
  · rfl
end
end Go.Lift
namespace Go.Lift
open Go Go.RowKit
set_option linter.unusedSimpArgs false
set_option linter.unusedVariables false
set_option maxRecDepth 20000
section
variable (W : World)
theorem law9_awake {m : Int} (hW : W.cell? ⟨0, 0, none⟩ = some (.int .i64 m)) : PureAt Go.Proofs.Tryd.prog W 15 [] (.b true) [] := by
  refine pure_of_body (fn := Go.Proofs.Tryd.f15) Go.Proofs.Tryd.func15 rfl (en15 W) (ts := [0]) rfl (Nat.le_of_ble_eq_true rfl) ?_
  refine Awp.seq ?_
  refine Awp.region tabS_ok ?_
  refine AOps.sq (by simp only [BB, BC, TTs, reduceIte, reduceCtorEq, Nat.reduceEqDiff, Nat.reduceAdd, Nat.reduceSub, Nat.reduceMul, Nat.reduceLT, Nat.reduceLeDiff] <;> rfl) (Nat.le_of_ble_eq_true rfl) ?_
  refine Awp.seq ?_
  refine Awp.region tabS_ok ?_
  refine AOps.sgr (by simp only [BB, BC, TTs, reduceIte, reduceCtorEq, Nat.reduceEqDiff, Nat.reduceAdd, Nat.reduceSub, Nat.reduceMul, Nat.reduceLT, Nat.reduceLeDiff, aw1] <;> rfl) (by simp [closedL, closed]) (law9_given W) rfl rfl rfl (Nat.le_of_ble_eq_true rfl) ?_
  refine AOps.sf0 (by simp only [BB, BC, TTs, reduceIte, reduceCtorEq, Nat.reduceEqDiff, Nat.reduceAdd, Nat.reduceSub, Nat.reduceMul, Nat.reduceLT, Nat.reduceLeDiff, aw1] <;> rfl) (by rfl) (graph_maker W hW givenG ⟨⟨[97, 46, 100]⟩⟩) (by simp [flat, flat.flat1, flat.flat2]) (by simp [closedL, closed]) (Nat.le_of_ble_eq_true rfl) ?_
  iterate 7 (refine AOps.sq (by simp only [BB, BC, TTs, reduceIte, reduceCtorEq, Nat.reduceEqDiff, Nat.reduceAdd, Nat.reduceSub, Nat.reduceMul, Nat.reduceLT, Nat.reduceLeDiff, aw1] <;> rfl) (Nat.le_of_ble_eq_true rfl) ?_)
  refine Awp.seq ?_
  refine Awp.region tabS_ok ?_
  refine AOps.sgr (by simp only [BB, BC, TTs, reduceIte, reduceCtorEq, Nat.reduceEqDiff, Nat.reduceAdd, Nat.reduceSub, Nat.reduceMul, Nat.reduceLT, Nat.reduceLeDiff, aw2] <;> rfl) (by simp [closedL, closed]) (law9_given W) rfl rfl rfl (Nat.le_of_ble_eq_true rfl) ?_
  refine AOps.sf0 (by simp only [BB, BC, TTs, reduceIte, reduceCtorEq, Nat.reduceEqDiff, Nat.reduceAdd, Nat.reduceSub, Nat.reduceMul, Nat.reduceLT, Nat.reduceLeDiff, aw2] <;> rfl) (by rfl) (graph_maker W hW givenG ⟨⟨[97, 46, 99]⟩⟩) (by simp [flat, flat.flat1, flat.flat2]) (by simp [closedL, closed]) (Nat.le_of_ble_eq_true rfl) ?_
  iterate 7 (refine AOps.sq (by simp only [BB, BC, TTs, reduceIte, reduceCtorEq, Nat.reduceEqDiff, Nat.reduceAdd, Nat.reduceSub, Nat.reduceMul, Nat.reduceLT, Nat.reduceLeDiff, aw2] <;> rfl) (Nat.le_of_ble_eq_true rfl) ?_)
  refine Awp.fits [] (env' := [(1, .i .i64 1), (2, .b true), (3, .i .i64 0), (5, .b false), (6, .i .i64 0)]) (h' := ⟨0, []⟩) ⟨List.nodup_nil, rfl, trivial, ⟨finV_closed rfl, finV_closed rfl, finV_closed rfl, finV_closed rfl, finV_closed rfl, trivial⟩⟩ keep0 ?_
  refine Awp.seq ?_
  refine Awp.region tabS_ok ?_
  refine AOps.sgr (by simp only [BB, BC, TTs, reduceIte, reduceCtorEq, Nat.reduceEqDiff, Nat.reduceAdd, Nat.reduceSub, Nat.reduceMul, Nat.reduceLT, Nat.reduceLeDiff, fitAV.eq_1, AV.withCells.eq_1] <;> rfl) (by simp [closedL, closed]) (law9_given W) rfl rfl rfl (Nat.le_of_ble_eq_true rfl) ?_
  refine AOps.sn (by simp only [BB, BC, TTs, reduceIte, reduceCtorEq, Nat.reduceEqDiff, Nat.reduceAdd, Nat.reduceSub, Nat.reduceMul, Nat.reduceLT, Nat.reduceLeDiff, fitAV.eq_1, AV.withCells.eq_1] <;> rfl) (Nat.le_of_ble_eq_true rfl) ?_
  refine AOps.st (by simp only [BB, BC, TTs, reduceIte, reduceCtorEq, Nat.reduceEqDiff, Nat.reduceAdd, Nat.reduceSub, Nat.reduceMul, Nat.reduceLT, Nat.reduceLeDiff, fitAV.eq_1, AV.withCells.eq_1] <;> rfl) ?_
  refine Awp.seq ?_
  refine Awp.region tabS_ok ?_
  iterate 2 (refine AOps.sq (by simp only [BB, BC, TTs, reduceIte, reduceCtorEq, Nat.reduceEqDiff, Nat.reduceAdd, Nat.reduceSub, Nat.reduceMul, Nat.reduceLT, Nat.reduceLeDiff, given2, EdgeD.av, fitAV.eq_1, AV.withCells.eq_1] <;> rfl) (Nat.le_of_ble_eq_true rfl) ?_)
  refine AOps.sn (by simp only [BB, BC, TTs, reduceIte, reduceCtorEq, Nat.reduceEqDiff, Nat.reduceAdd, Nat.reduceSub, Nat.reduceMul, Nat.reduceLT, Nat.reduceLeDiff, given2, EdgeD.av, fitAV.eq_1, AV.withCells.eq_1] <;> rfl) (Nat.le_of_ble_eq_true rfl) ?_
  iterate 2 (refine AOps.sq (by simp only [BB, BC, TTs, reduceIte, reduceCtorEq, Nat.reduceEqDiff, Nat.reduceAdd, Nat.reduceSub, Nat.reduceMul, Nat.reduceLT, Nat.reduceLeDiff, given2, EdgeD.av, fitAV.eq_1, AV.withCells.eq_1] <;> rfl) (Nat.le_of_ble_eq_true rfl) ?_)
  refine AOps.st (by simp only [BB, BC, TTs, reduceIte, reduceCtorEq, Nat.reduceEqDiff, Nat.reduceAdd, Nat.reduceSub, Nat.reduceMul, Nat.reduceLT, Nat.reduceLeDiff, given2, EdgeD.av, fitAV.eq_1, AV.withCells.eq_1] <;> rfl) ?_
  refine Awp.seq ?_
  refine Awp.region tabS_ok ?_
  refine AOps.sgr (by simp only [BB, BC, TTs, reduceIte, reduceCtorEq, Nat.reduceEqDiff, Nat.reduceAdd, Nat.reduceSub, Nat.reduceMul, Nat.reduceLT, Nat.reduceLeDiff, fitAV.eq_1, AV.withCells.eq_1] <;> rfl) (by simp [closedL, closed]) (law9_given W) rfl rfl rfl (Nat.le_of_ble_eq_true rfl) ?_
  refine AOps.sn (by simp only [BB, BC, TTs, reduceIte, reduceCtorEq, Nat.reduceEqDiff, Nat.reduceAdd, Nat.reduceSub, Nat.reduceMul, Nat.reduceLT, Nat.reduceLeDiff, fitAV.eq_1, AV.withCells.eq_1] <;> rfl) (Nat.le_of_ble_eq_true rfl) ?_
  refine AOps.st (by simp only [BB, BC, TTs, reduceIte, reduceCtorEq, Nat.reduceEqDiff, Nat.reduceAdd, Nat.reduceSub, Nat.reduceMul, Nat.reduceLT, Nat.reduceLeDiff, fitAV.eq_1, AV.withCells.eq_1] <;> rfl) ?_
  refine Awp.seq ?_
  refine Awp.region tabS_ok ?_
  iterate 4 (refine AOps.sq (by simp only [BB, BC, TTs, reduceIte, reduceCtorEq, Nat.reduceEqDiff, Nat.reduceAdd, Nat.reduceSub, Nat.reduceMul, Nat.reduceLT, Nat.reduceLeDiff, given2, EdgeD.av, fitAV.eq_1, AV.withCells.eq_1] <;> rfl) (Nat.le_of_ble_eq_true rfl) ?_)
  refine AOps.st (by simp only [BB, BC, TTs, reduceIte, reduceCtorEq, Nat.reduceEqDiff, Nat.reduceAdd, Nat.reduceSub, Nat.reduceMul, Nat.reduceLT, Nat.reduceLeDiff, given2, EdgeD.av, fitAV.eq_1, AV.withCells.eq_1] <;> rfl) ?_
  refine Awp.seq ?_
  refine Awp.region tabS_ok ?_
  iterate 3 (refine AOps.sq (by simp only [BB, BC, TTs, reduceIte, reduceCtorEq, Nat.reduceEqDiff, Nat.reduceAdd, Nat.reduceSub, Nat.reduceMul, Nat.reduceLT, Nat.reduceLeDiff, aw3, aw4, aw5, aw6, aw7, decide_true, Bool.not_false] <;> rfl) (Nat.le_of_ble_eq_true rfl) ?_)
  first | (refine AOps.sgy rfl rfl (by first | rfl | fail) (by rfl) ?_; refine AOps.sq (by simp only [BB, BC, TTs, reduceIte, reduceCtorEq, Nat.reduceEqDiff, Nat.reduceAdd, Nat.reduceSub, Nat.reduceMul, Nat.reduceLT, Nat.reduceLeDiff, aw3, aw4, aw5, aw6, aw7, decide_true, Bool.not_false] <;> rfl) (Nat.le_of_ble_eq_true rfl) ?_) | refine AOps.sgn rfl rfl (by first | rfl | fail) (by rfl) (Nat.le_of_ble_eq_true rfl) ?_ | refine AOps.sgu rfl rfl (by first | rfl | fail) (Nat.le_of_ble_eq_true rfl) ?_
  iterate 2 (refine AOps.sq (by simp only [BB, BC, TTs, reduceIte, reduceCtorEq, Nat.reduceEqDiff, Nat.reduceAdd, Nat.reduceSub, Nat.reduceMul, Nat.reduceLT, Nat.reduceLeDiff, aw3, aw4, aw5, aw6, aw7, decide_true, Bool.not_false] <;> rfl) (Nat.le_of_ble_eq_true rfl) ?_)
  first | (refine AOps.sgy rfl rfl (by first | rfl | fail) (by rfl) ?_; refine AOps.sq (by simp only [BB, BC, TTs, reduceIte, reduceCtorEq, Nat.reduceEqDiff, Nat.reduceAdd, Nat.reduceSub, Nat.reduceMul, Nat.reduceLT, Nat.reduceLeDiff, aw3, aw4, aw5, aw6, aw7, decide_true, Bool.not_false] <;> rfl) (Nat.le_of_ble_eq_true rfl) ?_) | refine AOps.sgn rfl rfl (by first | rfl | fail) (by rfl) (Nat.le_of_ble_eq_true rfl) ?_ | refine AOps.sgu rfl rfl (by first | rfl | fail) (Nat.le_of_ble_eq_true rfl) ?_
  first | (refine AOps.sgy rfl rfl (by first | rfl | fail) (by rfl) ?_; refine AOps.sc0 (by simp only [BB, BC, TTs, reduceIte, reduceCtorEq, Nat.reduceEqDiff, Nat.reduceAdd, Nat.reduceSub, Nat.reduceMul, Nat.reduceLT, Nat.reduceLeDiff, aw3, aw4, aw5, aw6, aw7, decide_true, Bool.not_false] <;> rfl) (by simp [closedL, closed]) (law_num W _) (by simp [closedL, closed]) (Nat.le_of_ble_eq_true rfl) ?_) | refine AOps.sgn rfl rfl (by first | rfl | fail) (by rfl) (Nat.le_of_ble_eq_true rfl) ?_ | refine AOps.sgu rfl rfl (by first | rfl | fail) (Nat.le_of_ble_eq_true rfl) ?_
  first | (refine AOps.sgy rfl rfl (by first | rfl | fail) (by rfl) ?_; refine AOps.sq (by simp only [BB, BC, TTs, reduceIte, reduceCtorEq, Nat.reduceEqDiff, Nat.reduceAdd, Nat.reduceSub, Nat.reduceMul, Nat.reduceLT, Nat.reduceLeDiff, aw3, aw4, aw5, aw6, aw7, decide_true, Bool.not_false] <;> rfl) (Nat.le_of_ble_eq_true rfl) ?_) | refine AOps.sgn rfl rfl (by first | rfl | fail) (by rfl) (Nat.le_of_ble_eq_true rfl) ?_ | refine AOps.sgu rfl rfl (by first | rfl | fail) (Nat.le_of_ble_eq_true rfl) ?_
  iterate 2 (refine AOps.sq (by simp only [BB, BC, TTs, reduceIte, reduceCtorEq, Nat.reduceEqDiff, Nat.reduceAdd, Nat.reduceSub, Nat.reduceMul, Nat.reduceLT, Nat.reduceLeDiff, aw3, aw4, aw5, aw6, aw7, decide_true, Bool.not_false] <;> rfl) (Nat.le_of_ble_eq_true rfl) ?_)
  iterate 2 (first | (refine AOps.sgy rfl rfl (by first | rfl | fail) (by rfl) ?_; refine AOps.sq (by simp only [BB, BC, TTs, reduceIte, reduceCtorEq, Nat.reduceEqDiff, Nat.reduceAdd, Nat.reduceSub, Nat.reduceMul, Nat.reduceLT, Nat.reduceLeDiff, aw3, aw4, aw5, aw6, aw7, decide_true, Bool.not_false] <;> rfl) (Nat.le_of_ble_eq_true rfl) ?_) | refine AOps.sgn rfl rfl (by first | rfl | fail) (by rfl) (Nat.le_of_ble_eq_true rfl) ?_ | refine AOps.sgu rfl rfl (by first | rfl | fail) (Nat.le_of_ble_eq_true rfl) ?_)
  iterate 2 (refine AOps.sq (by simp only [BB, BC, TTs, reduceIte, reduceCtorEq, Nat.reduceEqDiff, Nat.reduceAdd, Nat.reduceSub, Nat.reduceMul, Nat.reduceLT, Nat.reduceLeDiff, aw3, aw4, aw5, aw6, aw7, decide_true, Bool.not_false] <;> rfl) (Nat.le_of_ble_eq_true rfl) ?_)
  first | (refine AOps.sgy rfl rfl (by first | rfl | fail) (by rfl) ?_; refine AOps.sq (by simp only [BB, BC, TTs, reduceIte, reduceCtorEq, Nat.reduceEqDiff, Nat.reduceAdd, Nat.reduceSub, Nat.reduceMul, Nat.reduceLT, Nat.reduceLeDiff, aw3, aw4, aw5, aw6, aw7, decide_true, Bool.not_false] <;> rfl) (Nat.le_of_ble_eq_true rfl) ?_) | refine AOps.sgn rfl rfl (by first | rfl | fail) (by rfl) (Nat.le_of_ble_eq_true rfl) ?_ | refine AOps.sgu rfl rfl (by first | rfl | fail) (Nat.le_of_ble_eq_true rfl) ?_
  first | (refine AOps.sgy rfl rfl (by first | rfl | fail) (by rfl) ?_; refine AOps.sc0 (by simp only [BB, BC, TTs, reduceIte, reduceCtorEq, Nat.reduceEqDiff, Nat.reduceAdd, Nat.reduceSub, Nat.reduceMul, Nat.reduceLT, Nat.reduceLeDiff, aw3, aw4, aw5, aw6, aw7, decide_true, Bool.not_false] <;> rfl) (by simp [closedL, closed]) (law_num W _) (by simp [closedL, closed]) (Nat.le_of_ble_eq_true rfl) ?_) | refine AOps.sgn rfl rfl (by first | rfl | fail) (by rfl) (Nat.le_of_ble_eq_true rfl) ?_ | refine AOps.sgu rfl rfl (by first | rfl | fail) (Nat.le_of_ble_eq_true rfl) ?_
  first | (refine AOps.sgy rfl rfl (by first | rfl | fail) (by rfl) ?_; refine AOps.sq (by simp only [BB, BC, TTs, reduceIte, reduceCtorEq, Nat.reduceEqDiff, Nat.reduceAdd, Nat.reduceSub, Nat.reduceMul, Nat.reduceLT, Nat.reduceLeDiff, aw3, aw4, aw5, aw6, aw7, decide_true, Bool.not_false] <;> rfl) (Nat.le_of_ble_eq_true rfl) ?_) | refine AOps.sgn rfl rfl (by first | rfl | fail) (by rfl) (Nat.le_of_ble_eq_true rfl) ?_ | refine AOps.sgu rfl rfl (by first | rfl | fail) (Nat.le_of_ble_eq_true rfl) ?_
  iterate 2 (refine AOps.sq (by simp only [BB, BC, TTs, reduceIte, reduceCtorEq, Nat.reduceEqDiff, Nat.reduceAdd, Nat.reduceSub, Nat.reduceMul, Nat.reduceLT, Nat.reduceLeDiff, aw3, aw4, aw5, aw6, aw7, decide_true, Bool.not_false] <;> rfl) (Nat.le_of_ble_eq_true rfl) ?_)
  first | (refine AOps.sgy rfl rfl (by first | rfl | fail) (by rfl) ?_; refine AOps.sgr (by simp only [BB, BC, TTs, reduceIte, reduceCtorEq, Nat.reduceEqDiff, Nat.reduceAdd, Nat.reduceSub, Nat.reduceMul, Nat.reduceLT, Nat.reduceLeDiff, aw3, aw4, aw5, aw6, aw7, decide_true, Bool.not_false] <;> rfl) (by simp [closedL, closed]) (law9_given W) rfl rfl rfl (Nat.le_of_ble_eq_true rfl) ?_) | refine AOps.sgn rfl rfl (by first | rfl | fail) (by rfl) (Nat.le_of_ble_eq_true rfl) ?_ | refine AOps.sgu rfl rfl (by first | rfl | fail) (Nat.le_of_ble_eq_true rfl) ?_
  first | (refine AOps.sgy rfl rfl (by first | rfl | fail) (by rfl) ?_; refine AOps.sf0 (by simp only [BB, BC, TTs, reduceIte, reduceCtorEq, Nat.reduceEqDiff, Nat.reduceAdd, Nat.reduceSub, Nat.reduceMul, Nat.reduceLT, Nat.reduceLeDiff, aw3, aw4, aw5, aw6, aw7, decide_true, Bool.not_false] <;> rfl) (by rfl) (graph_check W hW givenG) (by simp [flat, flat.flat1, flat.flat2]) (by simp [closedL, closed]) (Nat.le_of_ble_eq_true rfl) ?_) | refine AOps.sgn rfl rfl (by first | rfl | fail) (by rfl) (Nat.le_of_ble_eq_true rfl) ?_ | refine AOps.sgu rfl rfl (by first | rfl | fail) (Nat.le_of_ble_eq_true rfl) ?_
  first | (refine AOps.sgy rfl rfl (by first | rfl | fail) (by rfl) ?_; refine AOps.sc0 (by simp only [BB, BC, TTs, reduceIte, reduceCtorEq, Nat.reduceEqDiff, Nat.reduceAdd, Nat.reduceSub, Nat.reduceMul, Nat.reduceLT, Nat.reduceLeDiff, aw3, aw4, aw5, aw6, aw7, decide_true, Bool.not_false] <;> rfl) (by simp [closedL, closed]) (law_num W _) (by simp [closedL, closed]) (Nat.le_of_ble_eq_true rfl) ?_) | refine AOps.sgn rfl rfl (by first | rfl | fail) (by rfl) (Nat.le_of_ble_eq_true rfl) ?_ | refine AOps.sgu rfl rfl (by first | rfl | fail) (Nat.le_of_ble_eq_true rfl) ?_
  first | (refine AOps.sgy rfl rfl (by first | rfl | fail) (by rfl) ?_; refine AOps.sq (by simp only [BB, BC, TTs, reduceIte, reduceCtorEq, Nat.reduceEqDiff, Nat.reduceAdd, Nat.reduceSub, Nat.reduceMul, Nat.reduceLT, Nat.reduceLeDiff, aw3, aw4, aw5, aw6, aw7, decide_true, Bool.not_false] <;> rfl) (Nat.le_of_ble_eq_true rfl) ?_) | refine AOps.sgn rfl rfl (by first | rfl | fail) (by rfl) (Nat.le_of_ble_eq_true rfl) ?_ | refine AOps.sgu rfl rfl (by first | rfl | fail) (Nat.le_of_ble_eq_true rfl) ?_
  iterate 2 (refine AOps.sq (by simp only [BB, BC, TTs, reduceIte, reduceCtorEq, Nat.reduceEqDiff, Nat.reduceAdd, Nat.reduceSub, Nat.reduceMul, Nat.reduceLT, Nat.reduceLeDiff, aw3, aw4, aw5, aw6, aw7, decide_true, Bool.not_false] <;> rfl) (Nat.le_of_ble_eq_true rfl) ?_)
  first | (refine AOps.sgy rfl rfl (by first | rfl | fail) (by rfl) ?_; refine AOps.sq (by simp only [BB, BC, TTs, reduceIte, reduceCtorEq, Nat.reduceEqDiff, Nat.reduceAdd, Nat.reduceSub, Nat.reduceMul, Nat.reduceLT, Nat.reduceLeDiff, aw3, aw4, aw5, aw6, aw7, decide_true, Bool.not_false] <;> rfl) (Nat.le_of_ble_eq_true rfl) ?_) | refine AOps.sgn rfl rfl (by first | rfl | fail) (by rfl) (Nat.le_of_ble_eq_true rfl) ?_ | refine AOps.sgu rfl rfl (by first | rfl | fail) (Nat.le_of_ble_eq_true rfl) ?_
  first | (refine AOps.sgy rfl rfl (by first | rfl | fail) (by rfl) ?_; refine AOps.sf0 (by simp only [BB, BC, TTs, reduceIte, reduceCtorEq, Nat.reduceEqDiff, Nat.reduceAdd, Nat.reduceSub, Nat.reduceMul, Nat.reduceLT, Nat.reduceLeDiff, aw3, aw4, aw5, aw6, aw7, decide_true, Bool.not_false] <;> rfl) (by rfl) (graph_check W hW awB) (by simp [flat, flat.flat1, flat.flat2]) (by simp [closedL, closed]) (Nat.le_of_ble_eq_true rfl) ?_) | refine AOps.sgn rfl rfl (by first | rfl | fail) (by rfl) (Nat.le_of_ble_eq_true rfl) ?_ | refine AOps.sgu rfl rfl (by first | rfl | fail) (Nat.le_of_ble_eq_true rfl) ?_
  first | (refine AOps.sgy rfl rfl (by first | rfl | fail) (by rfl) ?_; refine AOps.sc0 (by simp only [BB, BC, TTs, reduceIte, reduceCtorEq, Nat.reduceEqDiff, Nat.reduceAdd, Nat.reduceSub, Nat.reduceMul, Nat.reduceLT, Nat.reduceLeDiff, aw3, aw4, aw5, aw6, aw7, decide_true, Bool.not_false] <;> rfl) (by simp [closedL, closed]) (law_num W _) (by simp [closedL, closed]) (Nat.le_of_ble_eq_true rfl) ?_) | refine AOps.sgn rfl rfl (by first | rfl | fail) (by rfl) (Nat.le_of_ble_eq_true rfl) ?_ | refine AOps.sgu rfl rfl (by first | rfl | fail) (Nat.le_of_ble_eq_true rfl) ?_
  first | (refine AOps.sgy rfl rfl (by first | rfl | fail) (by rfl) ?_; refine AOps.sq (by simp only [BB, BC, TTs, reduceIte, reduceCtorEq, Nat.reduceEqDiff, Nat.reduceAdd, Nat.reduceSub, Nat.reduceMul, Nat.reduceLT, Nat.reduceLeDiff, aw3, aw4, aw5, aw6, aw7, decide_true, Bool.not_false] <;> rfl) (Nat.le_of_ble_eq_true rfl) ?_) | refine AOps.sgn rfl rfl (by first | rfl | fail) (by rfl) (Nat.le_of_ble_eq_true rfl) ?_ | refine AOps.sgu rfl rfl (by first | rfl | fail) (Nat.le_of_ble_eq_true rfl) ?_
  iterate 2 (refine AOps.sq (by simp only [BB, BC, TTs, reduceIte, reduceCtorEq, Nat.reduceEqDiff, Nat.reduceAdd, Nat.reduceSub, Nat.reduceMul, Nat.reduceLT, Nat.reduceLeDiff, aw3, aw4, aw5, aw6, aw7, decide_true, Bool.not_false] <;> rfl) (Nat.le_of_ble_eq_true rfl) ?_)
  first | (refine AOps.sgy rfl rfl (by first | rfl | fail) (by rfl) ?_; refine AOps.sq (by simp only [BB, BC, TTs, reduceIte, reduceCtorEq, Nat.reduceEqDiff, Nat.reduceAdd, Nat.reduceSub, Nat.reduceMul, Nat.reduceLT, Nat.reduceLeDiff, aw3, aw4, aw5, aw6, aw7, decide_true, Bool.not_false] <;> rfl) (Nat.le_of_ble_eq_true rfl) ?_) | refine AOps.sgn rfl rfl (by first | rfl | fail) (by rfl) (Nat.le_of_ble_eq_true rfl) ?_ | refine AOps.sgu rfl rfl (by first | rfl | fail) (Nat.le_of_ble_eq_true rfl) ?_
  first | (refine AOps.sgy rfl rfl (by first | rfl | fail) (by rfl) ?_; refine AOps.sf0 (by simp only [BB, BC, TTs, reduceIte, reduceCtorEq, Nat.reduceEqDiff, Nat.reduceAdd, Nat.reduceSub, Nat.reduceMul, Nat.reduceLT, Nat.reduceLeDiff, aw3, aw4, aw5, aw6, aw7, decide_true, Bool.not_false] <;> rfl) (by rfl) (graph_check W hW awC) (by simp [flat, flat.flat1, flat.flat2]) (by simp [closedL, closed]) (Nat.le_of_ble_eq_true rfl) ?_) | refine AOps.sgn rfl rfl (by first | rfl | fail) (by rfl) (Nat.le_of_ble_eq_true rfl) ?_ | refine AOps.sgu rfl rfl (by first | rfl | fail) (Nat.le_of_ble_eq_true rfl) ?_
  first | (refine AOps.sgy rfl rfl (by first | rfl | fail) (by rfl) ?_; refine AOps.sc0 (by simp only [BB, BC, TTs, reduceIte, reduceCtorEq, Nat.reduceEqDiff, Nat.reduceAdd, Nat.reduceSub, Nat.reduceMul, Nat.reduceLT, Nat.reduceLeDiff, aw3, aw4, aw5, aw6, aw7, decide_true, Bool.not_false] <;> rfl) (by simp [closedL, closed]) (law_num W _) (by simp [closedL, closed]) (Nat.le_of_ble_eq_true rfl) ?_) | refine AOps.sgn rfl rfl (by first | rfl | fail) (by rfl) (Nat.le_of_ble_eq_true rfl) ?_ | refine AOps.sgu rfl rfl (by first | rfl | fail) (Nat.le_of_ble_eq_true rfl) ?_
  first | (refine AOps.sgy rfl rfl (by first | rfl | fail) (by rfl) ?_; refine AOps.sq (by simp only [BB, BC, TTs, reduceIte, reduceCtorEq, Nat.reduceEqDiff, Nat.reduceAdd, Nat.reduceSub, Nat.reduceMul, Nat.reduceLT, Nat.reduceLeDiff, aw3, aw4, aw5, aw6, aw7, decide_true, Bool.not_false] <;> rfl) (Nat.le_of_ble_eq_true rfl) ?_) | refine AOps.sgn rfl rfl (by first | rfl | fail) (by rfl) (Nat.le_of_ble_eq_true rfl) ?_ | refine AOps.sgu rfl rfl (by first | rfl | fail) (Nat.le_of_ble_eq_true rfl) ?_
  iterate 2 (refine AOps.sq (by simp only [BB, BC, TTs, reduceIte, reduceCtorEq, Nat.reduceEqDiff, Nat.reduceAdd, Nat.reduceSub, Nat.reduceMul, Nat.reduceLT, Nat.reduceLeDiff, aw3, aw4, aw5, aw6, aw7, decide_true, Bool.not_false] <;> rfl) (Nat.le_of_ble_eq_true rfl) ?_)
  first | (refine AOps.sgy rfl rfl (by first | rfl | fail) (by rfl) ?_; refine AOps.sq (by simp only [BB, BC, TTs, reduceIte, reduceCtorEq, Nat.reduceEqDiff, Nat.reduceAdd, Nat.reduceSub, Nat.reduceMul, Nat.reduceLT, Nat.reduceLeDiff, aw3, aw4, aw5, aw6, aw7, decide_true, Bool.not_false] <;> rfl) (Nat.le_of_ble_eq_true rfl) ?_) | refine AOps.sgn rfl rfl (by first | rfl | fail) (by rfl) (Nat.le_of_ble_eq_true rfl) ?_ | refine AOps.sgu rfl rfl (by first | rfl | fail) (Nat.le_of_ble_eq_true rfl) ?_
  first | (refine AOps.sgy rfl rfl (by first | rfl | fail) (by rfl) ?_; refine AOps.sf0 (by simp only [BB, BC, TTs, reduceIte, reduceCtorEq, Nat.reduceEqDiff, Nat.reduceAdd, Nat.reduceSub, Nat.reduceMul, Nat.reduceLT, Nat.reduceLeDiff, aw3, aw4, aw5, aw6, aw7, decide_true, Bool.not_false] <;> rfl) (by rfl) (graph_may W hW awB) (by simp [flat, flat.flat1, flat.flat2]) (by simp [closedL, closed]) (Nat.le_of_ble_eq_true rfl) ?_) | refine AOps.sgn rfl rfl (by first | rfl | fail) (by rfl) (Nat.le_of_ble_eq_true rfl) ?_ | refine AOps.sgu rfl rfl (by first | rfl | fail) (Nat.le_of_ble_eq_true rfl) ?_
  iterate 2 (refine AOps.sq (by simp only [BB, BC, TTs, reduceIte, reduceCtorEq, Nat.reduceEqDiff, Nat.reduceAdd, Nat.reduceSub, Nat.reduceMul, Nat.reduceLT, Nat.reduceLeDiff, aw3, aw4, aw5, aw6, aw7, decide_true, Bool.not_false] <;> rfl) (Nat.le_of_ble_eq_true rfl) ?_)
  first | (refine AOps.sgy rfl rfl (by first | rfl | fail) (by rfl) ?_; refine AOps.sq (by simp only [BB, BC, TTs, reduceIte, reduceCtorEq, Nat.reduceEqDiff, Nat.reduceAdd, Nat.reduceSub, Nat.reduceMul, Nat.reduceLT, Nat.reduceLeDiff, aw3, aw4, aw5, aw6, aw7, decide_true, Bool.not_false] <;> rfl) (Nat.le_of_ble_eq_true rfl) ?_) | refine AOps.sgn rfl rfl (by first | rfl | fail) (by rfl) (Nat.le_of_ble_eq_true rfl) ?_ | refine AOps.sgu rfl rfl (by first | rfl | fail) (Nat.le_of_ble_eq_true rfl) ?_
  first | (refine AOps.sgy rfl rfl (by first | rfl | fail) (by rfl) ?_; refine AOps.sf0 (by simp only [BB, BC, TTs, reduceIte, reduceCtorEq, Nat.reduceEqDiff, Nat.reduceAdd, Nat.reduceSub, Nat.reduceMul, Nat.reduceLT, Nat.reduceLeDiff, aw3, aw4, aw5, aw6, aw7, decide_true, Bool.not_false] <;> rfl) (by rfl) (graph_may W hW awC) (by simp [flat, flat.flat1, flat.flat2]) (by simp [closedL, closed]) (Nat.le_of_ble_eq_true rfl) ?_) | refine AOps.sgn rfl rfl (by first | rfl | fail) (by rfl) (Nat.le_of_ble_eq_true rfl) ?_ | refine AOps.sgu rfl rfl (by first | rfl | fail) (Nat.le_of_ble_eq_true rfl) ?_
  first | (refine AOps.sgy rfl rfl (by first | rfl | fail) (by rfl) ?_; refine AOps.sq (by simp only [BB, BC, TTs, reduceIte, reduceCtorEq, Nat.reduceEqDiff, Nat.reduceAdd, Nat.reduceSub, Nat.reduceMul, Nat.reduceLT, Nat.reduceLeDiff, aw3, aw4, aw5, aw6, aw7, decide_true, Bool.not_false] <;> rfl) (Nat.le_of_ble_eq_true rfl) ?_) | refine AOps.sgn rfl rfl (by first | rfl | fail) (by rfl) (Nat.le_of_ble_eq_true rfl) ?_ | refine AOps.sgu rfl rfl (by first | rfl | fail) (Nat.le_of_ble_eq_true rfl) ?_
  iterate 2 (refine AOps.sq (by simp only [BB, BC, TTs, reduceIte, reduceCtorEq, Nat.reduceEqDiff, Nat.reduceAdd, Nat.reduceSub, Nat.reduceMul, Nat.reduceLT, Nat.reduceLeDiff, aw3, aw4, aw5, aw6, aw7, decide_true, Bool.not_false] <;> rfl) (Nat.le_of_ble_eq_true rfl) ?_)
  refine Awp.ret ⟨[], Or.inr rfl, List.nodup_nil, rfl, trivial, ?_⟩
  simp only [resAV, get_cons, finV, reduceIte, Nat.reduceEqDiff]
end
end Go.Lift
namespace Go.Lift
open Go Go.RowKit
set_option linter.unusedSimpArgs false
set_option linter.unusedVariables false
set_option maxRecDepth 20000
section
variable (W : World)
theorem law9_forms {m : Int} (hW : W.cell? ⟨0, 0, none⟩ = some (.int .i64 m)) (which x : Int) : PureAt Go.Proofs.Tryd.prog W 3 [.i .i64 which, .i .i64 x] (.b true) [] := by
  refine pure_of_body (fn := Go.Proofs.Tryd.f3) Go.Proofs.Tryd.func3 rfl (en3 W) (ts := [4]) rfl (Nat.le_of_ble_eq_true rfl) ?_
  refine Awp.seq ?_
  refine Awp.region tabS_ok ?_
  refine AOps.sq (by simp only [BB, BC, TTs, reduceIte, reduceCtorEq, Nat.reduceEqDiff, Nat.reduceAdd, Nat.reduceSub, Nat.reduceMul, Nat.reduceLT, Nat.reduceLeDiff] <;> rfl) (Nat.le_of_ble_eq_true rfl) ?_
  refine Awp.seq (Awp.seq ?_)
  refine Awp.region tabS_ok ?_
  refine AOps.sc0 (by simp only [BB, BC, TTs, reduceIte, reduceCtorEq, Nat.reduceEqDiff, Nat.reduceAdd, Nat.reduceSub, Nat.reduceMul, Nat.reduceLT, Nat.reduceLeDiff] <;> rfl) (by simp [closedL, closed]) (law9_awake W hW) (by simp [closedL, closed]) (Nat.le_of_ble_eq_true rfl) ?_
  refine AOps.sq (by simp only [BB, BC, TTs, reduceIte, reduceCtorEq, Nat.reduceEqDiff, Nat.reduceAdd, Nat.reduceSub, Nat.reduceMul, Nat.reduceLT, Nat.reduceLeDiff] <;> rfl) (Nat.le_of_ble_eq_true rfl) ?_
  refine Awp.cond (t := false) (by simp only [BB, reduceIte, Nat.reduceEqDiff, Bool.not_true]) (Awp.skip ?_)
  obtain ⟨D, hD, hD1, hD2⟩ : ∃ D, IntKind.i64.wrap (1 + bitAV BinOp.and IntKind.i64 x 127) = D ∧ 1 ≤ D ∧ D ≤ 128 := by
    obtain ⟨h1, h2⟩ := and127 x
    exact ⟨_, rfl, by rw [wrap_i64 (by omega) (by omega)]; omega, by rw [wrap_i64 (by omega) (by omega)]; omega⟩
  obtain ⟨N, hN, hN1, hN2⟩ : ∃ N : Nat, IntKind.i64.wrap (256 + D) = (N : Int) ∧ 256 < N ∧ N ≤ 384 := by
    refine ⟨(256 + D).toNat, ?_, by omega, by omega⟩
    rw [wrap_i64 (by omega) (by omega)]; omega
  have hM1 : (N : Int) * ((1 : Nat) : Int) ≤ 140737488355328 := by omega
  have hM2 : (N : Int) ≤ 140737488355328 := by omega
  have hM3 : N ≤ LIM := by unfold LIM; omega
  have hM4 : List.take N (List.replicate N (AV.i .u8 0)) = List.replicate N (AV.i .u8 0) := by rw [List.take_of_length_le (by simp)]
  have hM5 := bytesL_zero N
  have hw9 : IntKind.i64.wrap (1 - D) = 1 - D := wrap_i64 (by omega) (by omega)
  have hw10 : IntKind.i64.wrap (8 + D) = 8 + D := wrap_i64 (by omega) (by omega)
  refine Awp.seq ?_
  refine Awp.region tabS_ok ?_
  iterate 4 (refine AOps.sq (by simp only [BB, BC, TTs, reduceIte, reduceCtorEq, Nat.reduceEqDiff, Nat.reduceAdd, Nat.reduceSub, Nat.reduceMul, Nat.reduceLT, Nat.reduceLeDiff, hD] <;> rfl) (Nat.le_of_ble_eq_true rfl) ?_)
  refine Awp.seq ?_
  refine Awp.region tabS_ok ?_
  refine AOps.sgr (by simp only [BB, BC, TTs, reduceIte, reduceCtorEq, Nat.reduceEqDiff, Nat.reduceAdd, Nat.reduceSub, Nat.reduceMul, Nat.reduceLT, Nat.reduceLeDiff, fitAV.eq_1, AV.withCells.eq_1] <;> rfl) (by simp [closedL, closed]) (law9_given W) rfl rfl rfl (Nat.le_of_ble_eq_true rfl) ?_
  refine AOps.sn (by simp only [BB, BC, TTs, reduceIte, reduceCtorEq, Nat.reduceEqDiff, Nat.reduceAdd, Nat.reduceSub, Nat.reduceMul, Nat.reduceLT, Nat.reduceLeDiff, fitAV.eq_1, AV.withCells.eq_1] <;> rfl) (Nat.le_of_ble_eq_true rfl) ?_
  refine AOps.st (by simp only [BB, BC, TTs, reduceIte, reduceCtorEq, Nat.reduceEqDiff, Nat.reduceAdd, Nat.reduceSub, Nat.reduceMul, Nat.reduceLT, Nat.reduceLeDiff, fitAV.eq_1, AV.withCells.eq_1] <;> rfl) ?_
  refine Awp.seq ?_
  refine Awp.region tabS_ok ?_
  refine AOps.sn (by simp only [BB, BC, TTs, reduceIte, reduceCtorEq, Nat.reduceEqDiff, Nat.reduceAdd, Nat.reduceSub, Nat.reduceMul, Nat.reduceLT, Nat.reduceLeDiff] <;> rfl) (Nat.le_of_ble_eq_true rfl) ?_
  refine AOps.sq (by simp only [BB, BC, TTs, reduceIte, reduceCtorEq, Nat.reduceEqDiff, Nat.reduceAdd, Nat.reduceSub, Nat.reduceMul, Nat.reduceLT, Nat.reduceLeDiff] <;> rfl) (Nat.le_of_ble_eq_true rfl) ?_
  refine Awp.seqF (fun env h => ∃ gX : GraphD, mayG gX = false ∧ env = [(6, .loc 0 0 0)] ∧ h = ⟨1, [(0, some ⟨27, 3, [gX.av]⟩)]⟩) ?_ ?_
  · refine Awp.seq ?_
    refine Awp.region tabS_ok ?_
    iterate 3 (refine AOps.sq (by simp only [BB, BC, TTs, reduceIte, reduceCtorEq, Nat.reduceEqDiff, Nat.reduceAdd, Nat.reduceSub, Nat.reduceMul, Nat.reduceLT, Nat.reduceLeDiff] <;> rfl) (Nat.le_of_ble_eq_true rfl) ?_)
    generalize (IntKind.u64.wrap which).tmod 16 = r
    refine Awp.block ?_
    refine Awp.seq ?_
    refine Awp.region tabS_ok ?_
    iterate 2 (refine AOps.sq (by simp only [BB, BC, TTs, reduceIte, reduceCtorEq, Nat.reduceEqDiff, Nat.reduceAdd, Nat.reduceSub, Nat.reduceMul, Nat.reduceLT, Nat.reduceLeDiff] <;> rfl) (Nat.le_of_ble_eq_true rfl) ?_)
    refine Awp.cond' (t := decide (r = 0)) (by simp only [BB, reduceIte, Nat.reduceEqDiff]) (fun _ => ?_) (fun _ => ?_)
    · refine Awp.region tabS_ok ?_
      iterate 4 (refine AOps.sq (by simp only [BB, BC, TTs, reduceIte, reduceCtorEq, Nat.reduceEqDiff, Nat.reduceAdd, Nat.reduceSub, Nat.reduceMul, Nat.reduceLT, Nat.reduceLeDiff, given0, givenP, EdgeD.av, PoolD.av, fitAV.eq_1, AV.withCells.eq_1] <;> rfl) (Nat.le_of_ble_eq_true rfl) ?_)
      refine AOps.st (by simp only [BB, BC, TTs, reduceIte, reduceCtorEq, Nat.reduceEqDiff, Nat.reduceAdd, Nat.reduceSub, Nat.reduceMul, Nat.reduceLT, Nat.reduceLeDiff, given0, givenP, EdgeD.av, PoolD.av, fitAV.eq_1, AV.withCells.eq_1] <;> rfl) ?_
      exact ⟨[2], [(6, .loc 0 0 0)], ⟨1, [(0, some ⟨27, 3, [gf0.av]⟩)]⟩, ⟨by simp, rfl, ⟨rfl, trivial⟩, ⟨rfl, trivial⟩⟩, keep0, gf0, gf0_no, rfl, rfl⟩
    refine Awp.seq ?_
    refine Awp.region tabS_ok ?_
    iterate 2 (refine AOps.sq (by simp only [BB, BC, TTs, reduceIte, reduceCtorEq, Nat.reduceEqDiff, Nat.reduceAdd, Nat.reduceSub, Nat.reduceMul, Nat.reduceLT, Nat.reduceLeDiff] <;> rfl) (Nat.le_of_ble_eq_true rfl) ?_)
    refine Awp.cond' (t := decide (r = 1)) (by simp only [BB, reduceIte, Nat.reduceEqDiff]) (fun _ => ?_) (fun _ => ?_)
    · refine Awp.region tabS_ok ?_
      iterate 2 (refine AOps.sq (by simp only [BB, BC, TTs, reduceIte, reduceCtorEq, Nat.reduceEqDiff, Nat.reduceAdd, Nat.reduceSub, Nat.reduceMul, Nat.reduceLT, Nat.reduceLeDiff, given0, givenP, EdgeD.av, PoolD.av, fitAV.eq_1, AV.withCells.eq_1] <;> rfl) (Nat.le_of_ble_eq_true rfl) ?_)
      refine AOps.sn (by simp only [BB, BC, TTs, reduceIte, reduceCtorEq, Nat.reduceEqDiff, Nat.reduceAdd, Nat.reduceSub, Nat.reduceMul, Nat.reduceLT, Nat.reduceLeDiff, given0, givenP, EdgeD.av, PoolD.av, fitAV.eq_1, AV.withCells.eq_1] <;> rfl) (Nat.le_of_ble_eq_true rfl) ?_
      iterate 2 (refine AOps.sq (by simp only [BB, BC, TTs, reduceIte, reduceCtorEq, Nat.reduceEqDiff, Nat.reduceAdd, Nat.reduceSub, Nat.reduceMul, Nat.reduceLT, Nat.reduceLeDiff, given0, givenP, EdgeD.av, PoolD.av, fitAV.eq_1, AV.withCells.eq_1] <;> rfl) (Nat.le_of_ble_eq_true rfl) ?_)
      refine AOps.st (by simp only [BB, BC, TTs, reduceIte, reduceCtorEq, Nat.reduceEqDiff, Nat.reduceAdd, Nat.reduceSub, Nat.reduceMul, Nat.reduceLT, Nat.reduceLeDiff, given0, givenP, EdgeD.av, PoolD.av, fitAV.eq_1, AV.withCells.eq_1] <;> rfl) ?_
      exact ⟨[2], [(6, .loc 0 0 0)], ⟨1, [(0, some ⟨27, 3, [gf1.av]⟩)]⟩, ⟨by simp, rfl, ⟨rfl, trivial⟩, ⟨rfl, trivial⟩⟩, keep0, gf1, gf1_no, rfl, rfl⟩
    refine Awp.seq ?_
    refine Awp.region tabS_ok ?_
    iterate 2 (refine AOps.sq (by simp only [BB, BC, TTs, reduceIte, reduceCtorEq, Nat.reduceEqDiff, Nat.reduceAdd, Nat.reduceSub, Nat.reduceMul, Nat.reduceLT, Nat.reduceLeDiff] <;> rfl) (Nat.le_of_ble_eq_true rfl) ?_)
    refine Awp.cond' (t := decide (r = 2)) (by simp only [BB, reduceIte, Nat.reduceEqDiff]) (fun _ => ?_) (fun _ => ?_)
    · refine Awp.region tabS_ok ?_
      iterate 2 (refine AOps.sq (by simp only [BB, BC, TTs, reduceIte, reduceCtorEq, Nat.reduceEqDiff, Nat.reduceAdd, Nat.reduceSub, Nat.reduceMul, Nat.reduceLT, Nat.reduceLeDiff, given0, givenP, EdgeD.av, PoolD.av, fitAV.eq_1, AV.withCells.eq_1] <;> rfl) (Nat.le_of_ble_eq_true rfl) ?_)
      refine AOps.sn (by simp only [BB, BC, TTs, reduceIte, reduceCtorEq, Nat.reduceEqDiff, Nat.reduceAdd, Nat.reduceSub, Nat.reduceMul, Nat.reduceLT, Nat.reduceLeDiff, given0, givenP, EdgeD.av, PoolD.av, fitAV.eq_1, AV.withCells.eq_1] <;> rfl) (Nat.le_of_ble_eq_true rfl) ?_
      iterate 2 (refine AOps.sq (by simp only [BB, BC, TTs, reduceIte, reduceCtorEq, Nat.reduceEqDiff, Nat.reduceAdd, Nat.reduceSub, Nat.reduceMul, Nat.reduceLT, Nat.reduceLeDiff, given0, givenP, EdgeD.av, PoolD.av, fitAV.eq_1, AV.withCells.eq_1] <;> rfl) (Nat.le_of_ble_eq_true rfl) ?_)
      refine AOps.st (by simp only [BB, BC, TTs, reduceIte, reduceCtorEq, Nat.reduceEqDiff, Nat.reduceAdd, Nat.reduceSub, Nat.reduceMul, Nat.reduceLT, Nat.reduceLeDiff, given0, givenP, EdgeD.av, PoolD.av, fitAV.eq_1, AV.withCells.eq_1] <;> rfl) ?_
      exact ⟨[2], [(6, .loc 0 0 0)], ⟨1, [(0, some ⟨27, 3, [gf2.av]⟩)]⟩, ⟨by simp, rfl, ⟨rfl, trivial⟩, ⟨rfl, trivial⟩⟩, keep0, gf2, gf2_no, rfl, rfl⟩
    refine Awp.seq ?_
    refine Awp.region tabS_ok ?_
    iterate 2 (refine AOps.sq (by simp only [BB, BC, TTs, reduceIte, reduceCtorEq, Nat.reduceEqDiff, Nat.reduceAdd, Nat.reduceSub, Nat.reduceMul, Nat.reduceLT, Nat.reduceLeDiff] <;> rfl) (Nat.le_of_ble_eq_true rfl) ?_)
    refine Awp.cond' (t := decide (r = 3)) (by simp only [BB, reduceIte, Nat.reduceEqDiff]) (fun _ => ?_) (fun _ => ?_)
    · refine Awp.region tabS_ok ?_
      iterate 2 (refine AOps.sq (by simp only [BB, BC, TTs, reduceIte, reduceCtorEq, Nat.reduceEqDiff, Nat.reduceAdd, Nat.reduceSub, Nat.reduceMul, Nat.reduceLT, Nat.reduceLeDiff, given0, givenP, EdgeD.av, PoolD.av, fitAV.eq_1, AV.withCells.eq_1] <;> rfl) (Nat.le_of_ble_eq_true rfl) ?_)
      refine AOps.sn (by simp only [BB, BC, TTs, reduceIte, reduceCtorEq, Nat.reduceEqDiff, Nat.reduceAdd, Nat.reduceSub, Nat.reduceMul, Nat.reduceLT, Nat.reduceLeDiff, given0, givenP, EdgeD.av, PoolD.av, fitAV.eq_1, AV.withCells.eq_1] <;> rfl) (Nat.le_of_ble_eq_true rfl) ?_
      iterate 2 (refine AOps.sq (by simp only [BB, BC, TTs, reduceIte, reduceCtorEq, Nat.reduceEqDiff, Nat.reduceAdd, Nat.reduceSub, Nat.reduceMul, Nat.reduceLT, Nat.reduceLeDiff, given0, givenP, EdgeD.av, PoolD.av, fitAV.eq_1, AV.withCells.eq_1] <;> rfl) (Nat.le_of_ble_eq_true rfl) ?_)
      refine AOps.st (by simp only [BB, BC, TTs, reduceIte, reduceCtorEq, Nat.reduceEqDiff, Nat.reduceAdd, Nat.reduceSub, Nat.reduceMul, Nat.reduceLT, Nat.reduceLeDiff, given0, givenP, EdgeD.av, PoolD.av, fitAV.eq_1, AV.withCells.eq_1] <;> rfl) ?_
      exact ⟨[2], [(6, .loc 0 0 0)], ⟨1, [(0, some ⟨27, 3, [gf3.av]⟩)]⟩, ⟨by simp, rfl, ⟨rfl, trivial⟩, ⟨rfl, trivial⟩⟩, keep0, gf3, gf3_no, rfl, rfl⟩
    refine Awp.seq ?_
    refine Awp.region tabS_ok ?_
    iterate 2 (refine AOps.sq (by simp only [BB, BC, TTs, reduceIte, reduceCtorEq, Nat.reduceEqDiff, Nat.reduceAdd, Nat.reduceSub, Nat.reduceMul, Nat.reduceLT, Nat.reduceLeDiff] <;> rfl) (Nat.le_of_ble_eq_true rfl) ?_)
    refine Awp.cond' (t := decide (r = 4)) (by simp only [BB, reduceIte, Nat.reduceEqDiff]) (fun _ => ?_) (fun _ => ?_)
    · refine Awp.region tabS_ok ?_
      iterate 2 (refine AOps.sq (by simp only [BB, BC, TTs, reduceIte, reduceCtorEq, Nat.reduceEqDiff, Nat.reduceAdd, Nat.reduceSub, Nat.reduceMul, Nat.reduceLT, Nat.reduceLeDiff, given0, givenP, EdgeD.av, PoolD.av, fitAV.eq_1, AV.withCells.eq_1] <;> rfl) (Nat.le_of_ble_eq_true rfl) ?_)
      refine AOps.sn (by simp only [BB, BC, TTs, reduceIte, reduceCtorEq, Nat.reduceEqDiff, Nat.reduceAdd, Nat.reduceSub, Nat.reduceMul, Nat.reduceLT, Nat.reduceLeDiff, given0, givenP, EdgeD.av, PoolD.av, fitAV.eq_1, AV.withCells.eq_1] <;> rfl) (Nat.le_of_ble_eq_true rfl) ?_
      iterate 2 (refine AOps.sq (by simp only [BB, BC, TTs, reduceIte, reduceCtorEq, Nat.reduceEqDiff, Nat.reduceAdd, Nat.reduceSub, Nat.reduceMul, Nat.reduceLT, Nat.reduceLeDiff, given0, givenP, EdgeD.av, PoolD.av, fitAV.eq_1, AV.withCells.eq_1] <;> rfl) (Nat.le_of_ble_eq_true rfl) ?_)
      refine AOps.st (by simp only [BB, BC, TTs, reduceIte, reduceCtorEq, Nat.reduceEqDiff, Nat.reduceAdd, Nat.reduceSub, Nat.reduceMul, Nat.reduceLT, Nat.reduceLeDiff, given0, givenP, EdgeD.av, PoolD.av, fitAV.eq_1, AV.withCells.eq_1] <;> rfl) ?_
      exact ⟨[2], [(6, .loc 0 0 0)], ⟨1, [(0, some ⟨27, 3, [gf4.av]⟩)]⟩, ⟨by simp, rfl, ⟨rfl, trivial⟩, ⟨rfl, trivial⟩⟩, keep0, gf4, gf4_no, rfl, rfl⟩
    refine Awp.seq ?_
    refine Awp.region tabS_ok ?_
    iterate 2 (refine AOps.sq (by simp only [BB, BC, TTs, reduceIte, reduceCtorEq, Nat.reduceEqDiff, Nat.reduceAdd, Nat.reduceSub, Nat.reduceMul, Nat.reduceLT, Nat.reduceLeDiff] <;> rfl) (Nat.le_of_ble_eq_true rfl) ?_)
    refine Awp.cond' (t := decide (r = 5)) (by simp only [BB, reduceIte, Nat.reduceEqDiff]) (fun _ => ?_) (fun _ => ?_)
    · refine Awp.region tabS_ok ?_
      iterate 4 (refine AOps.sq (by simp only [BB, BC, TTs, reduceIte, reduceCtorEq, Nat.reduceEqDiff, Nat.reduceAdd, Nat.reduceSub, Nat.reduceMul, Nat.reduceLT, Nat.reduceLeDiff, given0, givenP, EdgeD.av, PoolD.av, fitAV.eq_1, AV.withCells.eq_1] <;> rfl) (Nat.le_of_ble_eq_true rfl) ?_)
      refine AOps.st (by simp only [BB, BC, TTs, reduceIte, reduceCtorEq, Nat.reduceEqDiff, Nat.reduceAdd, Nat.reduceSub, Nat.reduceMul, Nat.reduceLT, Nat.reduceLeDiff, given0, givenP, EdgeD.av, PoolD.av, fitAV.eq_1, AV.withCells.eq_1] <;> rfl) ?_
      exact ⟨[2], [(6, .loc 0 0 0)], ⟨1, [(0, some ⟨27, 3, [gf5.av]⟩)]⟩, ⟨by simp, rfl, ⟨rfl, trivial⟩, ⟨rfl, trivial⟩⟩, keep0, gf5, gf5_no, rfl, rfl⟩
    refine Awp.seq ?_
    refine Awp.region tabS_ok ?_
    iterate 2 (refine AOps.sq (by simp only [BB, BC, TTs, reduceIte, reduceCtorEq, Nat.reduceEqDiff, Nat.reduceAdd, Nat.reduceSub, Nat.reduceMul, Nat.reduceLT, Nat.reduceLeDiff] <;> rfl) (Nat.le_of_ble_eq_true rfl) ?_)
    refine Awp.cond' (t := decide (r = 6)) (by simp only [BB, reduceIte, Nat.reduceEqDiff]) (fun _ => ?_) (fun _ => ?_)
    · refine Awp.region tabS_ok ?_
      iterate 4 (refine AOps.sq (by simp only [BB, BC, TTs, reduceIte, reduceCtorEq, Nat.reduceEqDiff, Nat.reduceAdd, Nat.reduceSub, Nat.reduceMul, Nat.reduceLT, Nat.reduceLeDiff, given0, givenP, EdgeD.av, PoolD.av, fitAV.eq_1, AV.withCells.eq_1] <;> rfl) (Nat.le_of_ble_eq_true rfl) ?_)
      refine AOps.st (by simp only [BB, BC, TTs, reduceIte, reduceCtorEq, Nat.reduceEqDiff, Nat.reduceAdd, Nat.reduceSub, Nat.reduceMul, Nat.reduceLT, Nat.reduceLeDiff, given0, givenP, EdgeD.av, PoolD.av, fitAV.eq_1, AV.withCells.eq_1] <;> rfl) ?_
      exact ⟨[2], [(6, .loc 0 0 0)], ⟨1, [(0, some ⟨27, 3, [gf6.av]⟩)]⟩, ⟨by simp, rfl, ⟨rfl, trivial⟩, ⟨rfl, trivial⟩⟩, keep0, gf6, gf6_no, rfl, rfl⟩
    refine Awp.seq ?_
    refine Awp.region tabS_ok ?_
    iterate 2 (refine AOps.sq (by simp only [BB, BC, TTs, reduceIte, reduceCtorEq, Nat.reduceEqDiff, Nat.reduceAdd, Nat.reduceSub, Nat.reduceMul, Nat.reduceLT, Nat.reduceLeDiff] <;> rfl) (Nat.le_of_ble_eq_true rfl) ?_)
    refine Awp.cond' (t := decide (r = 7)) (by simp only [BB, reduceIte, Nat.reduceEqDiff]) (fun _ => ?_) (fun _ => ?_)
    · refine Awp.drawn tabS_ok mixed 8 (by kernel_rfl) (Nat.le_of_ble_eq_true rfl) ?_
      iterate 4 (refine AOpsD.sq (by simp only [BB, BC, TTs, reduceIte, reduceCtorEq, Nat.reduceEqDiff, Nat.reduceAdd, Nat.reduceSub, Nat.reduceMul, Nat.reduceLT, Nat.reduceLeDiff, given0, givenP, EdgeD.av, PoolD.av, fitAV.eq_1, AV.withCells.eq_1, hN, hM1, hM2, hM3, hM4, hM5, Nat.le_refl] <;> rfl) (Nat.le_of_ble_eq_true rfl) ?_)
      iterate 2 (refine AOpsD.sn (by simp only [BB, BC, TTs, reduceIte, reduceCtorEq, Nat.reduceEqDiff, Nat.reduceAdd, Nat.reduceSub, Nat.reduceMul, Nat.reduceLT, Nat.reduceLeDiff, given0, givenP, EdgeD.av, PoolD.av, fitAV.eq_1, AV.withCells.eq_1, hN, hM1, hM2, hM3, hM4, hM5, Nat.le_refl] <;> rfl) (Nat.le_of_ble_eq_true rfl) ?_)
      iterate 2 (refine AOpsD.sq (by simp only [BB, BC, TTs, reduceIte, reduceCtorEq, Nat.reduceEqDiff, Nat.reduceAdd, Nat.reduceSub, Nat.reduceMul, Nat.reduceLT, Nat.reduceLeDiff, given0, givenP, EdgeD.av, PoolD.av, fitAV.eq_1, AV.withCells.eq_1, hN, hM1, hM2, hM3, hM4, hM5, Nat.le_refl] <;> rfl) (Nat.le_of_ble_eq_true rfl) ?_)
      refine AOpsD.st (by omega) (by simp only [BB, BC, TTs, reduceIte, reduceCtorEq, Nat.reduceEqDiff, Nat.reduceAdd, Nat.reduceSub, Nat.reduceMul, Nat.reduceLT, Nat.reduceLeDiff, given0, givenP, EdgeD.av, PoolD.av, fitAV.eq_1, AV.withCells.eq_1, hN, hM1, hM2, hM3, hM4, hM5, Nat.le_refl] <;> rfl) ?_
      exact ⟨[2], [(6, .loc 0 0 0)], ⟨1, [(0, some ⟨27, 3, [(⟨false, [{ given0 with command := bytesStr (List.replicate N 0) }, given1, given2], false, [givenP], strs [[108, 105, 98]]⟩ : GraphD).av]⟩)]⟩, ⟨by simp, rfl, ⟨rfl, trivial⟩, ⟨rfl, trivial⟩⟩, keep0, _, long_no N hN1, rfl, rfl⟩
    refine Awp.seq ?_
    refine Awp.region tabS_ok ?_
    iterate 2 (refine AOps.sq (by simp only [BB, BC, TTs, reduceIte, reduceCtorEq, Nat.reduceEqDiff, Nat.reduceAdd, Nat.reduceSub, Nat.reduceMul, Nat.reduceLT, Nat.reduceLeDiff] <;> rfl) (Nat.le_of_ble_eq_true rfl) ?_)
    refine Awp.cond' (t := decide (r = 8)) (by simp only [BB, reduceIte, Nat.reduceEqDiff]) (fun _ => ?_) (fun _ => ?_)
    · refine Awp.region tabS_ok ?_
      iterate 4 (refine AOps.sq (by simp only [BB, BC, TTs, reduceIte, reduceCtorEq, Nat.reduceEqDiff, Nat.reduceAdd, Nat.reduceSub, Nat.reduceMul, Nat.reduceLT, Nat.reduceLeDiff, given0, givenP, EdgeD.av, PoolD.av, fitAV.eq_1, AV.withCells.eq_1] <;> rfl) (Nat.le_of_ble_eq_true rfl) ?_)
      refine AOps.st (by simp only [BB, BC, TTs, reduceIte, reduceCtorEq, Nat.reduceEqDiff, Nat.reduceAdd, Nat.reduceSub, Nat.reduceMul, Nat.reduceLT, Nat.reduceLeDiff, given0, givenP, EdgeD.av, PoolD.av, fitAV.eq_1, AV.withCells.eq_1] <;> rfl) ?_
      exact ⟨[2], [(6, .loc 0 0 0)], ⟨1, [(0, some ⟨27, 3, [gf8.av]⟩)]⟩, ⟨by simp, rfl, ⟨rfl, trivial⟩, ⟨rfl, trivial⟩⟩, keep0, gf8, gf8_no, rfl, rfl⟩
    refine Awp.seq ?_
    refine Awp.region tabS_ok ?_
    iterate 2 (refine AOps.sq (by simp only [BB, BC, TTs, reduceIte, reduceCtorEq, Nat.reduceEqDiff, Nat.reduceAdd, Nat.reduceSub, Nat.reduceMul, Nat.reduceLT, Nat.reduceLeDiff] <;> rfl) (Nat.le_of_ble_eq_true rfl) ?_)
    refine Awp.cond' (t := decide (r = 9)) (by simp only [BB, reduceIte, Nat.reduceEqDiff]) (fun _ => ?_) (fun _ => ?_)
    · refine Awp.region tabS_ok ?_
      iterate 6 (refine AOps.sq (by simp only [BB, BC, TTs, reduceIte, reduceCtorEq, Nat.reduceEqDiff, Nat.reduceAdd, Nat.reduceSub, Nat.reduceMul, Nat.reduceLT, Nat.reduceLeDiff, given0, givenP, EdgeD.av, PoolD.av, fitAV.eq_1, AV.withCells.eq_1, hw9] <;> rfl) (Nat.le_of_ble_eq_true rfl) ?_)
      refine AOps.st (by simp only [BB, BC, TTs, reduceIte, reduceCtorEq, Nat.reduceEqDiff, Nat.reduceAdd, Nat.reduceSub, Nat.reduceMul, Nat.reduceLT, Nat.reduceLeDiff, given0, givenP, EdgeD.av, PoolD.av, fitAV.eq_1, AV.withCells.eq_1, hw9] <;> rfl) ?_
      exact ⟨[2], [(6, .loc 0 0 0)], ⟨1, [(0, some ⟨27, 3, [(⟨false, [given0, given1, given2], false, [{ givenP with depth := 1 - D }], strs [[108, 105, 98]]⟩ : GraphD).av]⟩)]⟩, ⟨by simp, rfl, ⟨rfl, trivial⟩, ⟨rfl, trivial⟩⟩, keep0, _, depth_no (1 - D) (Or.inl (by omega)), rfl, rfl⟩
    refine Awp.seq ?_
    refine Awp.region tabS_ok ?_
    iterate 2 (refine AOps.sq (by simp only [BB, BC, TTs, reduceIte, reduceCtorEq, Nat.reduceEqDiff, Nat.reduceAdd, Nat.reduceSub, Nat.reduceMul, Nat.reduceLT, Nat.reduceLeDiff] <;> rfl) (Nat.le_of_ble_eq_true rfl) ?_)
    refine Awp.cond' (t := decide (r = 10)) (by simp only [BB, reduceIte, Nat.reduceEqDiff]) (fun _ => ?_) (fun _ => ?_)
    · refine Awp.region tabS_ok ?_
      iterate 6 (refine AOps.sq (by simp only [BB, BC, TTs, reduceIte, reduceCtorEq, Nat.reduceEqDiff, Nat.reduceAdd, Nat.reduceSub, Nat.reduceMul, Nat.reduceLT, Nat.reduceLeDiff, given0, givenP, EdgeD.av, PoolD.av, fitAV.eq_1, AV.withCells.eq_1, hw10] <;> rfl) (Nat.le_of_ble_eq_true rfl) ?_)
      refine AOps.st (by simp only [BB, BC, TTs, reduceIte, reduceCtorEq, Nat.reduceEqDiff, Nat.reduceAdd, Nat.reduceSub, Nat.reduceMul, Nat.reduceLT, Nat.reduceLeDiff, given0, givenP, EdgeD.av, PoolD.av, fitAV.eq_1, AV.withCells.eq_1, hw10] <;> rfl) ?_
      exact ⟨[2], [(6, .loc 0 0 0)], ⟨1, [(0, some ⟨27, 3, [(⟨false, [given0, given1, given2], false, [{ givenP with depth := 8 + D }], strs [[108, 105, 98]]⟩ : GraphD).av]⟩)]⟩, ⟨by simp, rfl, ⟨rfl, trivial⟩, ⟨rfl, trivial⟩⟩, keep0, _, depth_no (8 + D) (Or.inr (by omega)), rfl, rfl⟩
    refine Awp.seq ?_
    refine Awp.region tabS_ok ?_
    iterate 2 (refine AOps.sq (by simp only [BB, BC, TTs, reduceIte, reduceCtorEq, Nat.reduceEqDiff, Nat.reduceAdd, Nat.reduceSub, Nat.reduceMul, Nat.reduceLT, Nat.reduceLeDiff] <;> rfl) (Nat.le_of_ble_eq_true rfl) ?_)
    refine Awp.cond' (t := decide (r = 11)) (by simp only [BB, reduceIte, Nat.reduceEqDiff]) (fun _ => ?_) (fun _ => ?_)
    · refine Awp.drawn tabS_ok mixed 7 (by kernel_rfl) (Nat.le_of_ble_eq_true rfl) ?_
      iterate 6 (refine AOpsD.sq (by simp only [BB, BC, TTs, reduceIte, reduceCtorEq, Nat.reduceEqDiff, Nat.reduceAdd, Nat.reduceSub, Nat.reduceMul, Nat.reduceLT, Nat.reduceLeDiff, given0, givenP, EdgeD.av, PoolD.av, fitAV.eq_1, AV.withCells.eq_1] <;> rfl) (Nat.le_of_ble_eq_true rfl) ?_)
      refine AOpsD.sn (by simp only [BB, BC, TTs, reduceIte, reduceCtorEq, Nat.reduceEqDiff, Nat.reduceAdd, Nat.reduceSub, Nat.reduceMul, Nat.reduceLT, Nat.reduceLeDiff, given0, givenP, EdgeD.av, PoolD.av, fitAV.eq_1, AV.withCells.eq_1] <;> rfl) (Nat.le_of_ble_eq_true rfl) ?_
      refine AOpsD.se (by omega) (by simp only [BB, BC, TTs, reduceIte, reduceCtorEq, Nat.reduceEqDiff, Nat.reduceAdd, Nat.reduceSub, Nat.reduceMul, Nat.reduceLT, Nat.reduceLeDiff, given0, givenP, EdgeD.av, PoolD.av, fitAV.eq_1, AV.withCells.eq_1] <;> rfl) (Nat.le_of_ble_eq_true rfl) ?_
      refine AOpsD.sq (by simp only [BB, BC, TTs, reduceIte, reduceCtorEq, Nat.reduceEqDiff, Nat.reduceAdd, Nat.reduceSub, Nat.reduceMul, Nat.reduceLT, Nat.reduceLeDiff, given0, givenP, EdgeD.av, PoolD.av, fitAV.eq_1, AV.withCells.eq_1] <;> rfl) (Nat.le_of_ble_eq_true rfl) ?_
      refine AOpsD.st (by omega) (by simp only [BB, BC, TTs, reduceIte, reduceCtorEq, Nat.reduceEqDiff, Nat.reduceAdd, Nat.reduceSub, Nat.reduceMul, Nat.reduceLT, Nat.reduceLeDiff, given0, givenP, EdgeD.av, PoolD.av, fitAV.eq_1, AV.withCells.eq_1] <;> rfl) ?_
      exact ⟨[2], [(6, .loc 0 0 0)], ⟨1, [(0, some ⟨27, 3, [gf11.av]⟩)]⟩, ⟨by simp, rfl, ⟨rfl, trivial⟩, ⟨rfl, trivial⟩⟩, keep0, gf11, gf11_no, rfl, rfl⟩
    refine Awp.seq ?_
    refine Awp.region tabS_ok ?_
    iterate 2 (refine AOps.sq (by simp only [BB, BC, TTs, reduceIte, reduceCtorEq, Nat.reduceEqDiff, Nat.reduceAdd, Nat.reduceSub, Nat.reduceMul, Nat.reduceLT, Nat.reduceLeDiff] <;> rfl) (Nat.le_of_ble_eq_true rfl) ?_)
    refine Awp.cond' (t := decide (r = 12)) (by simp only [BB, reduceIte, Nat.reduceEqDiff]) (fun _ => ?_) (fun _ => ?_)
    · refine Awp.region tabS_ok ?_
      iterate 4 (refine AOps.sq (by simp only [BB, BC, TTs, reduceIte, reduceCtorEq, Nat.reduceEqDiff, Nat.reduceAdd, Nat.reduceSub, Nat.reduceMul, Nat.reduceLT, Nat.reduceLeDiff, given0, givenP, EdgeD.av, PoolD.av, fitAV.eq_1, AV.withCells.eq_1] <;> rfl) (Nat.le_of_ble_eq_true rfl) ?_)
      refine AOps.st (by simp only [BB, BC, TTs, reduceIte, reduceCtorEq, Nat.reduceEqDiff, Nat.reduceAdd, Nat.reduceSub, Nat.reduceMul, Nat.reduceLT, Nat.reduceLeDiff, given0, givenP, EdgeD.av, PoolD.av, fitAV.eq_1, AV.withCells.eq_1] <;> rfl) ?_
      exact ⟨[2], [(6, .loc 0 0 0)], ⟨1, [(0, some ⟨27, 3, [gf12.av]⟩)]⟩, ⟨by simp, rfl, ⟨rfl, trivial⟩, ⟨rfl, trivial⟩⟩, keep0, gf12, gf12_no, rfl, rfl⟩
    refine Awp.seq ?_
    refine Awp.region tabS_ok ?_
    iterate 2 (refine AOps.sq (by simp only [BB, BC, TTs, reduceIte, reduceCtorEq, Nat.reduceEqDiff, Nat.reduceAdd, Nat.reduceSub, Nat.reduceMul, Nat.reduceLT, Nat.reduceLeDiff] <;> rfl) (Nat.le_of_ble_eq_true rfl) ?_)
    refine Awp.cond' (t := decide (r = 13)) (by simp only [BB, reduceIte, Nat.reduceEqDiff]) (fun _ => ?_) (fun _ => ?_)
    · refine Awp.region tabS_ok ?_
      refine AOps.sn (by simp only [BB, BC, TTs, reduceIte, reduceCtorEq, Nat.reduceEqDiff, Nat.reduceAdd, Nat.reduceSub, Nat.reduceMul, Nat.reduceLT, Nat.reduceLeDiff, given0, givenP, EdgeD.av, PoolD.av, fitAV.eq_1, AV.withCells.eq_1] <;> rfl) (Nat.le_of_ble_eq_true rfl) ?_
      refine AOps.sq (by simp only [BB, BC, TTs, reduceIte, reduceCtorEq, Nat.reduceEqDiff, Nat.reduceAdd, Nat.reduceSub, Nat.reduceMul, Nat.reduceLT, Nat.reduceLeDiff, given0, givenP, EdgeD.av, PoolD.av, fitAV.eq_1, AV.withCells.eq_1] <;> rfl) (Nat.le_of_ble_eq_true rfl) ?_
      refine AOps.st (by simp only [BB, BC, TTs, reduceIte, reduceCtorEq, Nat.reduceEqDiff, Nat.reduceAdd, Nat.reduceSub, Nat.reduceMul, Nat.reduceLT, Nat.reduceLeDiff, given0, givenP, EdgeD.av, PoolD.av, fitAV.eq_1, AV.withCells.eq_1] <;> rfl) ?_
      exact ⟨[2], [(6, .loc 0 0 0)], ⟨1, [(0, some ⟨27, 3, [gf13.av]⟩)]⟩, ⟨by simp, rfl, ⟨rfl, trivial⟩, ⟨rfl, trivial⟩⟩, keep0, gf13, gf13_no, rfl, rfl⟩
    refine Awp.seq ?_
    refine Awp.region tabS_ok ?_
    iterate 2 (refine AOps.sq (by simp only [BB, BC, TTs, reduceIte, reduceCtorEq, Nat.reduceEqDiff, Nat.reduceAdd, Nat.reduceSub, Nat.reduceMul, Nat.reduceLT, Nat.reduceLeDiff] <;> rfl) (Nat.le_of_ble_eq_true rfl) ?_)
    refine Awp.cond' (t := decide (r = 14)) (by simp only [BB, reduceIte, Nat.reduceEqDiff]) (fun _ => ?_) (fun _ => ?_)
    · refine Awp.region tabS_ok ?_
      iterate 5 (refine AOps.sq (by simp only [BB, BC, TTs, reduceIte, reduceCtorEq, Nat.reduceEqDiff, Nat.reduceAdd, Nat.reduceSub, Nat.reduceMul, Nat.reduceLT, Nat.reduceLeDiff, given0, givenP, EdgeD.av, PoolD.av, fitAV.eq_1, AV.withCells.eq_1] <;> rfl) (Nat.le_of_ble_eq_true rfl) ?_)
      refine AOps.st (by simp only [BB, BC, TTs, reduceIte, reduceCtorEq, Nat.reduceEqDiff, Nat.reduceAdd, Nat.reduceSub, Nat.reduceMul, Nat.reduceLT, Nat.reduceLeDiff, given0, givenP, EdgeD.av, PoolD.av, fitAV.eq_1, AV.withCells.eq_1] <;> rfl) ?_
      exact ⟨[2], [(6, .loc 0 0 0)], ⟨1, [(0, some ⟨27, 3, [gf14.av]⟩)]⟩, ⟨by simp, rfl, ⟨rfl, trivial⟩, ⟨rfl, trivial⟩⟩, keep0, gf14, gf14_no, rfl, rfl⟩
    refine Awp.region tabS_ok ?_
    iterate 2 (refine AOps.sq (by simp only [BB, BC, TTs, reduceIte, reduceCtorEq, Nat.reduceEqDiff, Nat.reduceAdd, Nat.reduceSub, Nat.reduceMul, Nat.reduceLT, Nat.reduceLeDiff, given0, EdgeD.av, fitAV.eq_1, AV.withCells.eq_1] <;> rfl) (Nat.le_of_ble_eq_true rfl) ?_)
    refine AOps.st (by simp only [BB, BC, TTs, reduceIte, reduceCtorEq, Nat.reduceEqDiff, Nat.reduceAdd, Nat.reduceSub, Nat.reduceMul, Nat.reduceLT, Nat.reduceLeDiff, given0, EdgeD.av, fitAV.eq_1, AV.withCells.eq_1] <;> rfl) ?_
    exact ⟨[2], [(6, .loc 0 0 0)], ⟨1, [(0, some ⟨27, 3, [gf15.av]⟩)]⟩, ⟨by simp, rfl, ⟨rfl, trivial⟩, ⟨rfl, trivial⟩⟩, keep0, gf15, gf15_no, rfl, rfl⟩
  · rintro env h ⟨gX, hm, rfl, rfl⟩
    have h1 : checkS gX = 900 := by unfold checkS; rw [if_pos hm]
    have h2 : makerS gX ⟨⟨[108, 105, 98]⟩⟩ = (0, false, 900) := by unfold makerS; rw [h1]; rfl
    have h3 : mayS ⟨⟨[113, 57]⟩⟩ = true := by kernel_rfl
    refine Awp.seq ?_
    refine Awp.region tabS_ok ?_
    refine AOps.sq (by simp only [BB, BC, TTs, reduceIte, reduceCtorEq, Nat.reduceEqDiff, Nat.reduceAdd, Nat.reduceSub, Nat.reduceMul, Nat.reduceLT, Nat.reduceLeDiff, h2, GraphD.av] <;> rfl) (Nat.le_of_ble_eq_true rfl) ?_
    refine AOps.sc0 (by simp only [BB, BC, TTs, reduceIte, reduceCtorEq, Nat.reduceEqDiff, Nat.reduceAdd, Nat.reduceSub, Nat.reduceMul, Nat.reduceLT, Nat.reduceLeDiff, h2, GraphD.av] <;> rfl) (by simp [closedL, closed, closed_strs, closed_graph]) (graph_maker W hW gX ⟨⟨[108, 105, 98]⟩⟩) (by simp [closedL, closed]) (Nat.le_of_ble_eq_true rfl) ?_
    iterate 7 (refine AOps.sq (by simp only [BB, BC, TTs, reduceIte, reduceCtorEq, Nat.reduceEqDiff, Nat.reduceAdd, Nat.reduceSub, Nat.reduceMul, Nat.reduceLT, Nat.reduceLeDiff, h2, GraphD.av] <;> rfl) (Nat.le_of_ble_eq_true rfl) ?_)
    refine Awp.seq ?_
    refine Awp.region tabS_ok ?_
    refine AOps.sgr (by simp only [BB, BC, TTs, reduceIte, reduceCtorEq, Nat.reduceEqDiff, Nat.reduceAdd, Nat.reduceSub, Nat.reduceMul, Nat.reduceLT, Nat.reduceLeDiff, GraphD.av, aw8, hm, h1, h3, Bool.not_false, decide_true] <;> rfl) (by simp [closedL, closed, closed_strs, closed_graph]) (law9_given W) rfl rfl rfl (Nat.le_of_ble_eq_true rfl) ?_
    refine AOps.sf0 (by simp only [BB, BC, TTs, reduceIte, reduceCtorEq, Nat.reduceEqDiff, Nat.reduceAdd, Nat.reduceSub, Nat.reduceMul, Nat.reduceLT, Nat.reduceLeDiff, GraphD.av, aw8, hm, h1, h3, Bool.not_false, decide_true] <;> rfl) (by rfl) (graph_may W hW givenG) (by simp [flat, flat.flat1, flat.flat2]) (by simp [closedL, closed]) (Nat.le_of_ble_eq_true rfl) ?_
    refine AOps.sq (by simp only [BB, BC, TTs, reduceIte, reduceCtorEq, Nat.reduceEqDiff, Nat.reduceAdd, Nat.reduceSub, Nat.reduceMul, Nat.reduceLT, Nat.reduceLeDiff, GraphD.av, aw8, hm, h1, h3, Bool.not_false, decide_true] <;> rfl) (Nat.le_of_ble_eq_true rfl) ?_
    first | (refine AOps.sgy rfl rfl (by first | rfl | fail) (by rfl) ?_; refine AOps.sq (by simp only [BB, BC, TTs, reduceIte, reduceCtorEq, Nat.reduceEqDiff, Nat.reduceAdd, Nat.reduceSub, Nat.reduceMul, Nat.reduceLT, Nat.reduceLeDiff, GraphD.av, aw8, hm, h1, h3, Bool.not_false, decide_true] <;> rfl) (Nat.le_of_ble_eq_true rfl) ?_) | refine AOps.sgn rfl rfl (by first | rfl | fail) (by rfl) (Nat.le_of_ble_eq_true rfl) ?_ | refine AOps.sgu rfl rfl (by first | rfl | fail) (Nat.le_of_ble_eq_true rfl) ?_
    first | (refine AOps.sgy rfl rfl (by first | rfl | fail) (by rfl) ?_; refine AOps.sc0 (by simp only [BB, BC, TTs, reduceIte, reduceCtorEq, Nat.reduceEqDiff, Nat.reduceAdd, Nat.reduceSub, Nat.reduceMul, Nat.reduceLT, Nat.reduceLeDiff, GraphD.av, aw8, hm, h1, h3, Bool.not_false, decide_true] <;> rfl) (by simp [closedL, closed, closed_strs, closed_graph]) (graph_may W hW gX) (by simp [closedL, closed]) (Nat.le_of_ble_eq_true rfl) ?_) | refine AOps.sgn rfl rfl (by first | rfl | fail) (by rfl) (Nat.le_of_ble_eq_true rfl) ?_ | refine AOps.sgu rfl rfl (by first | rfl | fail) (Nat.le_of_ble_eq_true rfl) ?_
    first | (refine AOps.sgy rfl rfl (by first | rfl | fail) (by rfl) ?_; refine AOps.sq (by simp only [BB, BC, TTs, reduceIte, reduceCtorEq, Nat.reduceEqDiff, Nat.reduceAdd, Nat.reduceSub, Nat.reduceMul, Nat.reduceLT, Nat.reduceLeDiff, GraphD.av, aw8, hm, h1, h3, Bool.not_false, decide_true] <;> rfl) (Nat.le_of_ble_eq_true rfl) ?_) | refine AOps.sgn rfl rfl (by first | rfl | fail) (by rfl) (Nat.le_of_ble_eq_true rfl) ?_ | refine AOps.sgu rfl rfl (by first | rfl | fail) (Nat.le_of_ble_eq_true rfl) ?_
    iterate 2 (refine AOps.sq (by simp only [BB, BC, TTs, reduceIte, reduceCtorEq, Nat.reduceEqDiff, Nat.reduceAdd, Nat.reduceSub, Nat.reduceMul, Nat.reduceLT, Nat.reduceLeDiff, GraphD.av, aw8, hm, h1, h3, Bool.not_false, decide_true] <;> rfl) (Nat.le_of_ble_eq_true rfl) ?_)
    first | (refine AOps.sgy rfl rfl (by first | rfl | fail) (by rfl) ?_; refine AOps.sq (by simp only [BB, BC, TTs, reduceIte, reduceCtorEq, Nat.reduceEqDiff, Nat.reduceAdd, Nat.reduceSub, Nat.reduceMul, Nat.reduceLT, Nat.reduceLeDiff, GraphD.av, aw8, hm, h1, h3, Bool.not_false, decide_true] <;> rfl) (Nat.le_of_ble_eq_true rfl) ?_) | refine AOps.sgn rfl rfl (by first | rfl | fail) (by rfl) (Nat.le_of_ble_eq_true rfl) ?_ | refine AOps.sgu rfl rfl (by first | rfl | fail) (Nat.le_of_ble_eq_true rfl) ?_
    first | (refine AOps.sgy rfl rfl (by first | rfl | fail) (by rfl) ?_; refine AOps.sc0 (by simp only [BB, BC, TTs, reduceIte, reduceCtorEq, Nat.reduceEqDiff, Nat.reduceAdd, Nat.reduceSub, Nat.reduceMul, Nat.reduceLT, Nat.reduceLeDiff, GraphD.av, aw8, hm, h1, h3, Bool.not_false, decide_true] <;> rfl) (by simp [closedL, closed, closed_strs, closed_graph]) (graph_check W hW gX) (by simp [closedL, closed]) (Nat.le_of_ble_eq_true rfl) ?_) | refine AOps.sgn rfl rfl (by first | rfl | fail) (by rfl) (Nat.le_of_ble_eq_true rfl) ?_ | refine AOps.sgu rfl rfl (by first | rfl | fail) (Nat.le_of_ble_eq_true rfl) ?_
    first | (refine AOps.sgy rfl rfl (by first | rfl | fail) (by rfl) ?_; refine AOps.sc0 (by simp only [BB, BC, TTs, reduceIte, reduceCtorEq, Nat.reduceEqDiff, Nat.reduceAdd, Nat.reduceSub, Nat.reduceMul, Nat.reduceLT, Nat.reduceLeDiff, GraphD.av, aw8, hm, h1, h3, Bool.not_false, decide_true] <;> rfl) (by simp [closedL, closed, closed_strs, closed_graph]) (law_num W _) (by simp [closedL, closed]) (Nat.le_of_ble_eq_true rfl) ?_) | refine AOps.sgn rfl rfl (by first | rfl | fail) (by rfl) (Nat.le_of_ble_eq_true rfl) ?_ | refine AOps.sgu rfl rfl (by first | rfl | fail) (Nat.le_of_ble_eq_true rfl) ?_
    first | (refine AOps.sgy rfl rfl (by first | rfl | fail) (by rfl) ?_; refine AOps.sq (by simp only [BB, BC, TTs, reduceIte, reduceCtorEq, Nat.reduceEqDiff, Nat.reduceAdd, Nat.reduceSub, Nat.reduceMul, Nat.reduceLT, Nat.reduceLeDiff, GraphD.av, aw8, hm, h1, h3, Bool.not_false, decide_true] <;> rfl) (Nat.le_of_ble_eq_true rfl) ?_) | refine AOps.sgn rfl rfl (by first | rfl | fail) (by rfl) (Nat.le_of_ble_eq_true rfl) ?_ | refine AOps.sgu rfl rfl (by first | rfl | fail) (Nat.le_of_ble_eq_true rfl) ?_
    iterate 2 (refine AOps.sq (by simp only [BB, BC, TTs, reduceIte, reduceCtorEq, Nat.reduceEqDiff, Nat.reduceAdd, Nat.reduceSub, Nat.reduceMul, Nat.reduceLT, Nat.reduceLeDiff, GraphD.av, aw8, hm, h1, h3, Bool.not_false, decide_true] <;> rfl) (Nat.le_of_ble_eq_true rfl) ?_)
    first | (refine AOps.sgy rfl rfl (by first | rfl | fail) (by rfl) ?_; refine AOps.sq (by simp only [BB, BC, TTs, reduceIte, reduceCtorEq, Nat.reduceEqDiff, Nat.reduceAdd, Nat.reduceSub, Nat.reduceMul, Nat.reduceLT, Nat.reduceLeDiff, GraphD.av, aw8, hm, h1, h3, Bool.not_false, decide_true] <;> rfl) (Nat.le_of_ble_eq_true rfl) ?_) | refine AOps.sgn rfl rfl (by first | rfl | fail) (by rfl) (Nat.le_of_ble_eq_true rfl) ?_ | refine AOps.sgu rfl rfl (by first | rfl | fail) (Nat.le_of_ble_eq_true rfl) ?_
    first | (refine AOps.sgy rfl rfl (by first | rfl | fail) (by rfl) ?_; refine AOps.sc0 (by simp only [BB, BC, TTs, reduceIte, reduceCtorEq, Nat.reduceEqDiff, Nat.reduceAdd, Nat.reduceSub, Nat.reduceMul, Nat.reduceLT, Nat.reduceLeDiff, GraphD.av, aw8, hm, h1, h3, Bool.not_false, decide_true] <;> rfl) (by simp [closedL, closed, closed_strs, closed_graph]) (law_num W _) (by simp [closedL, closed]) (Nat.le_of_ble_eq_true rfl) ?_) | refine AOps.sgn rfl rfl (by first | rfl | fail) (by rfl) (Nat.le_of_ble_eq_true rfl) ?_ | refine AOps.sgu rfl rfl (by first | rfl | fail) (Nat.le_of_ble_eq_true rfl) ?_
    first | (refine AOps.sgy rfl rfl (by first | rfl | fail) (by rfl) ?_; refine AOps.sq (by simp only [BB, BC, TTs, reduceIte, reduceCtorEq, Nat.reduceEqDiff, Nat.reduceAdd, Nat.reduceSub, Nat.reduceMul, Nat.reduceLT, Nat.reduceLeDiff, GraphD.av, aw8, hm, h1, h3, Bool.not_false, decide_true] <;> rfl) (Nat.le_of_ble_eq_true rfl) ?_) | refine AOps.sgn rfl rfl (by first | rfl | fail) (by rfl) (Nat.le_of_ble_eq_true rfl) ?_ | refine AOps.sgu rfl rfl (by first | rfl | fail) (Nat.le_of_ble_eq_true rfl) ?_
    iterate 2 (refine AOps.sq (by simp only [BB, BC, TTs, reduceIte, reduceCtorEq, Nat.reduceEqDiff, Nat.reduceAdd, Nat.reduceSub, Nat.reduceMul, Nat.reduceLT, Nat.reduceLeDiff, GraphD.av, aw8, hm, h1, h3, Bool.not_false, decide_true] <;> rfl) (Nat.le_of_ble_eq_true rfl) ?_)
    first | (refine AOps.sgy rfl rfl (by first | rfl | fail) (by rfl) ?_; refine AOps.sc0 (by simp only [BB, BC, TTs, reduceIte, reduceCtorEq, Nat.reduceEqDiff, Nat.reduceAdd, Nat.reduceSub, Nat.reduceMul, Nat.reduceLT, Nat.reduceLeDiff, GraphD.av, aw8, hm, h1, h3, Bool.not_false, decide_true] <;> rfl) (by simp [closedL, closed, closed_strs, closed_graph]) (ref_nameMay W ⟨⟨[113, 57]⟩⟩) (by simp [closedL, closed]) (Nat.le_of_ble_eq_true rfl) ?_) | refine AOps.sgn rfl rfl (by first | rfl | fail) (by rfl) (Nat.le_of_ble_eq_true rfl) ?_ | refine AOps.sgu rfl rfl (by first | rfl | fail) (Nat.le_of_ble_eq_true rfl) ?_
    iterate 2 (refine AOps.sq (by simp only [BB, BC, TTs, reduceIte, reduceCtorEq, Nat.reduceEqDiff, Nat.reduceAdd, Nat.reduceSub, Nat.reduceMul, Nat.reduceLT, Nat.reduceLeDiff, GraphD.av, aw8, hm, h1, h3, Bool.not_false, decide_true] <;> rfl) (Nat.le_of_ble_eq_true rfl) ?_)
    refine Awp.ret ⟨[], Or.inr rfl, List.nodup_nil, rfl, trivial, ?_⟩
    simp only [resAV, get_cons, finV, reduceIte, Nat.reduceEqDiff]
end
end Go.Lift
