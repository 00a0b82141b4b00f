/-
  Lemmas of this claim: a layer over the kit's calls, contracts of the functions that the law reaches, and the law's row. No condition of its own.
-/
import Derived.Test.YthagoaoenalmbaaGreatDoorSa
import Derived.Test.YthagoaoenalmbaaGreatDoorLb
namespace Go.Lift
open Go Go.RowKit
set_option linter.unusedSimpArgs false
set_option linter.unusedVariables false
set_option maxRecDepth 20000
section
variable (W : World)
theorem graph_may {m : Int} (hW : W.cell? ⟨0, 0, none⟩ = some (.int .i64 m)) (g : GraphD) : PureAt Go.Proofs.Tryz.prog W 20 [g.av] (.b (mayG g)) [] := by
  refine pure_of_lim (en20 W) fun hl => ?_
  simp only [limL, lim, GraphD.av, List.length_map] at hl
  have hn : g.edges.length ≤ 281474976710656 := hl.1.1.1
  clear hl
  refine pure_of_body (fn := Go.Proofs.Tryz.f20) Go.Proofs.Tryz.func20 rfl (en20 W) (ts := [2]) rfl (Nat.le_of_ble_eq_true rfl) ?_
  refine Awp.seq ?_
  refine Awp.region tabS_ok ?_
  refine AOps.sn (by simp only [BB, BC, TTs, reduceIte, reduceCtorEq, Nat.reduceEqDiff, Nat.reduceAdd, Nat.reduceSub, Nat.reduceMul, Nat.reduceLT, Nat.reduceLeDiff, closed_graph, GraphD.av] <;> rfl) (Nat.le_of_ble_eq_true rfl) ?_
  refine AOps.sq (by simp only [BB, BC, TTs, reduceIte, reduceCtorEq, Nat.reduceEqDiff, Nat.reduceAdd, Nat.reduceSub, Nat.reduceMul, Nat.reduceLT, Nat.reduceLeDiff, closed_graph, GraphD.av] <;> rfl) (Nat.le_of_ble_eq_true rfl) ?_
  refine Awp.seq (Awp.seq ?_)
  refine Awp.region tabS_ok ?_
  iterate 4 (refine AOps.sq (by simp only [BB, BC, TTs, reduceIte, reduceCtorEq, Nat.reduceEqDiff, Nat.reduceAdd, Nat.reduceSub, Nat.reduceMul, Nat.reduceLT, Nat.reduceLeDiff, GraphD.av] <;> rfl) (Nat.le_of_ble_eq_true rfl) ?_)
  refine Awp.block (Awp.fits [0] (env' := [(1, .loc 0 0 0), (2, .b false), (7, .i .i64 g.edges.length), (8, .i .i64 (0 : Nat))]) (h' := ⟨1, [(0, some ⟨26, 3, [g.av]⟩)]⟩) ⟨by simp, rfl, ⟨fitsO_c (ob := ⟨26, 3, [g.av]⟩) rfl rfl rfl, trivial⟩, ⟨rfl, finV_closed rfl, finV_closed rfl, finV_closed rfl, trivial⟩⟩ keep0 (Awp.loop (fun k env h => ∃ i, i + k = g.edges.length ∧ h = ⟨1, [(0, some ⟨26, 3, [g.av]⟩)]⟩ ∧ (g.edges.take i).all (edgeIn g) = true ∧ env = [(1, .loc 0 0 0), (2, .b false), (7, .i .i64 g.edges.length), (8, .i .i64 i)]) g.edges.length ?_ ?_))
  · exact ⟨0, by simp, rfl, rfl, rfl⟩
  · rintro k env h ⟨i, hk, rfl, hp, rfl⟩
    have hsg : ∀ (s : ByteArray), mapC (snapC [] ⟨1, [(0, some ⟨26, 3, [g.av]⟩)]⟩ 8) [.loc 0 0 0, .s s] = some [g.pt, .s s] := fun s => snap_gs rfl
    have hs1 : mapC (snapC [] ⟨1, [(0, some ⟨26, 3, [g.av]⟩)]⟩ 8) [.loc 0 0 0] = some [g.pt] := snap_g rfl
    refine Awp.seq ?_
    refine Awp.region tabS_ok ?_
    refine AOps.sq (by simp only [BB, BC, TTs, reduceIte, reduceCtorEq, Nat.reduceEqDiff, Nat.reduceAdd, Nat.reduceSub, Nat.reduceMul, Nat.reduceLT, Nat.reduceLeDiff] <;> rfl) (Nat.le_of_ble_eq_true rfl) ?_
    refine Awp.seq ?_
    rcases Nat.lt_or_ge i g.edges.length with hlt | hge
    · refine Awp.cond (t := true) (by simp only [BB, reduceIte, Nat.reduceEqDiff]; simpa using hlt) (Awp.skip ?_)
      refine Awp.seq (Awp.block (Awp.seq ?_))
      have hx : g.edges[i]? = some g.edges[i] := List.getElem?_eq_getElem hlt
      generalize g.edges[i] = e at hx
      have hw := wrap_succ hlt hn
      refine Awp.region tabS_ok ?_
      iterate 2 (refine AOps.sq (by simp only [BB, BC, TTs, reduceIte, reduceCtorEq, Nat.reduceEqDiff, Nat.reduceAdd, Nat.reduceSub, Nat.reduceMul, Nat.reduceLT, Nat.reduceLeDiff] <;> rfl) (Nat.le_of_ble_eq_true rfl) ?_)
      refine Awp.seq ?_
      refine Awp.region tabS_ok ?_
      iterate 5 (refine AOps.sq (by simp only [BB, BC, TTs, reduceIte, reduceCtorEq, Nat.reduceEqDiff, Nat.reduceAdd, Nat.reduceSub, Nat.reduceMul, Nat.reduceLT, Nat.reduceLeDiff, hx, GraphD.av, EdgeD.av] <;> rfl) (Nat.le_of_ble_eq_true rfl) ?_)
      refine Awp.seq ?_
      by_cases hok : edgeIn g e = true
      · have hok' := hok
        unfold edgeIn at hok'
        simp only [Bool.and_eq_true, Bool.or_eq_true, decide_eq_true_eq, Bool.not_eq_true', decide_eq_false_iff_not] at hok'
        obtain ⟨h1, h2⟩ := hok'
        by_cases h3 : e.pool = ⟨#[]⟩
        · have h3d := decide_eq_true h3
          refine Awp.region tabS_ok ?_
          refine AOps.sq (by simp only [BB, BC, TTs, reduceIte, reduceCtorEq, Nat.reduceEqDiff, Nat.reduceAdd, Nat.reduceSub, Nat.reduceMul, Nat.reduceLT, Nat.reduceLeDiff, h1, h3d, Bool.not_true, Bool.false_eq_true] <;> rfl) (Nat.le_of_ble_eq_true rfl) ?_
          refine AOps.sc0 (by simp only [BB, BC, TTs, reduceIte, reduceCtorEq, Nat.reduceEqDiff, Nat.reduceAdd, Nat.reduceSub, Nat.reduceMul, Nat.reduceLT, Nat.reduceLeDiff, h1, h3d, Bool.not_true, Bool.false_eq_true] <;> rfl) (by simp [closedL, closed, closed_strs, closed_ept]) (graph_edge W hW e) (by simp [closedL, closed]) (Nat.le_of_ble_eq_true rfl) ?_
          iterate 2 (refine AOps.sq (by simp only [BB, BC, TTs, reduceIte, reduceCtorEq, Nat.reduceEqDiff, Nat.reduceAdd, Nat.reduceSub, Nat.reduceMul, Nat.reduceLT, Nat.reduceLeDiff, h1, h3d, Bool.not_true, Bool.false_eq_true] <;> rfl) (Nat.le_of_ble_eq_true rfl) ?_)
          iterate 10 (first | (refine AOps.sgy rfl rfl (by first | rfl | fail) (by first | rfl | (simp [*]; done) | fail) ?_; refine AOps.sq (by simp only [BB, BC, TTs, reduceIte, reduceCtorEq, Nat.reduceEqDiff, Nat.reduceAdd, Nat.reduceSub, Nat.reduceMul, Nat.reduceLT, Nat.reduceLeDiff, h1, h3d, Bool.not_true, Bool.false_eq_true] <;> rfl) (Nat.le_of_ble_eq_true rfl) ?_) | refine AOps.sgn rfl rfl (by first | rfl | fail) (by first | rfl | (simp [*]; done) | fail) (Nat.le_of_ble_eq_true rfl) ?_ | refine AOps.sgu rfl rfl (by first | rfl | fail) (Nat.le_of_ble_eq_true rfl) ?_)
          first | (refine AOps.sgy rfl rfl (by first | rfl | fail) (by first | rfl | (simp [*]; done) | fail) ?_; refine AOps.sf0 (by simp only [BB, BC, TTs, reduceIte, reduceCtorEq, Nat.reduceEqDiff, Nat.reduceAdd, Nat.reduceSub, Nat.reduceMul, Nat.reduceLT, Nat.reduceLeDiff, h1, h3d, Bool.not_true, Bool.false_eq_true] <;> rfl) (by exact hsg _) (graph_pool W g e.pool) (by simp [flat, flat.flat1, flat.flat2]) (by simp [closedL, closed]) (Nat.le_of_ble_eq_true rfl) ?_) | refine AOps.sgn rfl rfl (by first | rfl | fail) (by first | rfl | (simp [*]; done) | fail) (Nat.le_of_ble_eq_true rfl) ?_ | refine AOps.sgu rfl rfl (by first | rfl | fail) (Nat.le_of_ble_eq_true rfl) ?_
          iterate 2 (first | (refine AOps.sgy rfl rfl (by first | rfl | fail) (by first | rfl | (simp [*]; done) | fail) ?_; refine AOps.sq (by simp only [BB, BC, TTs, reduceIte, reduceCtorEq, Nat.reduceEqDiff, Nat.reduceAdd, Nat.reduceSub, Nat.reduceMul, Nat.reduceLT, Nat.reduceLeDiff, h1, h3d, Bool.not_true, Bool.false_eq_true] <;> rfl) (Nat.le_of_ble_eq_true rfl) ?_) | refine AOps.sgn rfl rfl (by first | rfl | fail) (by first | rfl | (simp [*]; done) | fail) (Nat.le_of_ble_eq_true rfl) ?_ | refine AOps.sgu rfl rfl (by first | rfl | fail) (Nat.le_of_ble_eq_true rfl) ?_)
          refine AOps.sq (by simp only [BB, BC, TTs, reduceIte, reduceCtorEq, Nat.reduceEqDiff, Nat.reduceAdd, Nat.reduceSub, Nat.reduceMul, Nat.reduceLT, Nat.reduceLeDiff, h1, h3d, Bool.not_true, Bool.false_eq_true] <;> rfl) (Nat.le_of_ble_eq_true rfl) ?_
          refine Awp.cond (t := false) (by simp only [BB, reduceIte, Nat.reduceEqDiff]) (Awp.skip ?_)
          refine Awp.region tabS_ok ?_
          iterate 2 (refine AOps.sq (by simp only [BB, BC, TTs, reduceIte, reduceCtorEq, Nat.reduceEqDiff, Nat.reduceAdd, Nat.reduceSub, Nat.reduceMul, Nat.reduceLT, Nat.reduceLeDiff, hw] <;> rfl) (Nat.le_of_ble_eq_true rfl) ?_)
          refine ⟨[0], [(1, .loc 0 0 0), (2, .b false), (7, .i .i64 g.edges.length), (8, .i .i64 (i + 1 : Nat))], ⟨1, [(0, some ⟨26, 3, [g.av]⟩)]⟩, ⟨by simp, rfl, ⟨fitsO_c (ob := ⟨26, 3, [g.av]⟩) rfl rfl rfl, trivial⟩, ⟨rfl, finV_closed rfl, finV_closed rfl, finV_closed rfl, trivial⟩⟩, keep0, k - 1, by omega, i + 1, by omega, rfl, all_take_succ hx hp hok, rfl⟩
        · have h4 := h2.resolve_left h3
          refine Awp.region tabS_ok ?_
          refine AOps.sq (by simp only [BB, BC, TTs, reduceIte, reduceCtorEq, Nat.reduceEqDiff, Nat.reduceAdd, Nat.reduceSub, Nat.reduceMul, Nat.reduceLT, Nat.reduceLeDiff, h1, h3, h4, decide_false, Bool.not_true, Bool.false_eq_true] <;> rfl) (Nat.le_of_ble_eq_true rfl) ?_
          refine AOps.sc0 (by simp only [BB, BC, TTs, reduceIte, reduceCtorEq, Nat.reduceEqDiff, Nat.reduceAdd, Nat.reduceSub, Nat.reduceMul, Nat.reduceLT, Nat.reduceLeDiff, h1, h3, h4, decide_false, Bool.not_true, Bool.false_eq_true] <;> rfl) (by simp [closedL, closed, closed_strs, closed_ept]) (graph_edge W hW e) (by simp [closedL, closed]) (Nat.le_of_ble_eq_true rfl) ?_
          iterate 2 (refine AOps.sq (by simp only [BB, BC, TTs, reduceIte, reduceCtorEq, Nat.reduceEqDiff, Nat.reduceAdd, Nat.reduceSub, Nat.reduceMul, Nat.reduceLT, Nat.reduceLeDiff, h1, h3, h4, decide_false, Bool.not_true, Bool.false_eq_true] <;> rfl) (Nat.le_of_ble_eq_true rfl) ?_)
          iterate 10 (first | (refine AOps.sgy rfl rfl (by first | rfl | fail) (by first | rfl | (simp [*]; done) | fail) ?_; refine AOps.sq (by simp only [BB, BC, TTs, reduceIte, reduceCtorEq, Nat.reduceEqDiff, Nat.reduceAdd, Nat.reduceSub, Nat.reduceMul, Nat.reduceLT, Nat.reduceLeDiff, h1, h3, h4, decide_false, Bool.not_true, Bool.false_eq_true] <;> rfl) (Nat.le_of_ble_eq_true rfl) ?_) | refine AOps.sgn rfl rfl (by first | rfl | fail) (by first | rfl | (simp [*]; done) | fail) (Nat.le_of_ble_eq_true rfl) ?_ | refine AOps.sgu rfl rfl (by first | rfl | fail) (Nat.le_of_ble_eq_true rfl) ?_)
          first | (refine AOps.sgy rfl rfl (by first | rfl | fail) (by first | rfl | (simp [*]; done) | fail) ?_; refine AOps.sf0 (by simp only [BB, BC, TTs, reduceIte, reduceCtorEq, Nat.reduceEqDiff, Nat.reduceAdd, Nat.reduceSub, Nat.reduceMul, Nat.reduceLT, Nat.reduceLeDiff, h1, h3, h4, decide_false, Bool.not_true, Bool.false_eq_true] <;> rfl) (by exact hsg _) (graph_pool W g e.pool) (by simp [flat, flat.flat1, flat.flat2]) (by simp [closedL, closed]) (Nat.le_of_ble_eq_true rfl) ?_) | refine AOps.sgn rfl rfl (by first | rfl | fail) (by first | rfl | (simp [*]; done) | fail) (Nat.le_of_ble_eq_true rfl) ?_ | refine AOps.sgu rfl rfl (by first | rfl | fail) (Nat.le_of_ble_eq_true rfl) ?_
          iterate 2 (first | (refine AOps.sgy rfl rfl (by first | rfl | fail) (by first | rfl | (simp [*]; done) | fail) ?_; refine AOps.sq (by simp only [BB, BC, TTs, reduceIte, reduceCtorEq, Nat.reduceEqDiff, Nat.reduceAdd, Nat.reduceSub, Nat.reduceMul, Nat.reduceLT, Nat.reduceLeDiff, h1, h3, h4, decide_false, Bool.not_true, Bool.false_eq_true] <;> rfl) (Nat.le_of_ble_eq_true rfl) ?_) | refine AOps.sgn rfl rfl (by first | rfl | fail) (by first | rfl | (simp [*]; done) | fail) (Nat.le_of_ble_eq_true rfl) ?_ | refine AOps.sgu rfl rfl (by first | rfl | fail) (Nat.le_of_ble_eq_true rfl) ?_)
          refine AOps.sq (by simp only [BB, BC, TTs, reduceIte, reduceCtorEq, Nat.reduceEqDiff, Nat.reduceAdd, Nat.reduceSub, Nat.reduceMul, Nat.reduceLT, Nat.reduceLeDiff, h1, h3, h4, decide_false, Bool.not_true, Bool.false_eq_true] <;> rfl) (Nat.le_of_ble_eq_true rfl) ?_
          refine Awp.cond (t := false) (by simp only [BB, reduceIte, Nat.reduceEqDiff]) (Awp.skip ?_)
          refine Awp.region tabS_ok ?_
          iterate 2 (refine AOps.sq (by simp only [BB, BC, TTs, reduceIte, reduceCtorEq, Nat.reduceEqDiff, Nat.reduceAdd, Nat.reduceSub, Nat.reduceMul, Nat.reduceLT, Nat.reduceLeDiff, hw] <;> rfl) (Nat.le_of_ble_eq_true rfl) ?_)
          refine ⟨[0], [(1, .loc 0 0 0), (2, .b false), (7, .i .i64 g.edges.length), (8, .i .i64 (i + 1 : Nat))], ⟨1, [(0, some ⟨26, 3, [g.av]⟩)]⟩, ⟨by simp, rfl, ⟨fitsO_c (ob := ⟨26, 3, [g.av]⟩) rfl rfl rfl, trivial⟩, ⟨rfl, finV_closed rfl, finV_closed rfl, finV_closed rfl, trivial⟩⟩, keep0, k - 1, by omega, i + 1, by omega, rfl, all_take_succ hx hp hok, rfl⟩
      · simp only [Bool.not_eq_true] at hok
        have hz : mayG g = false := by unfold mayG; rw [all_false hx hok]; rfl
        cases h1 : edgeS e
        · refine Awp.region tabS_ok ?_
          refine AOps.sq (by simp only [BB, BC, TTs, reduceIte, reduceCtorEq, Nat.reduceEqDiff, Nat.reduceAdd, Nat.reduceSub, Nat.reduceMul, Nat.reduceLT, Nat.reduceLeDiff, h1, decide_true, Bool.not_false] <;> rfl) (Nat.le_of_ble_eq_true rfl) ?_
          refine AOps.sc0 (by simp only [BB, BC, TTs, reduceIte, reduceCtorEq, Nat.reduceEqDiff, Nat.reduceAdd, Nat.reduceSub, Nat.reduceMul, Nat.reduceLT, Nat.reduceLeDiff, h1, decide_true, Bool.not_false] <;> rfl) (by simp [closedL, closed, closed_strs, closed_ept]) (graph_edge W hW e) (by simp [closedL, closed]) (Nat.le_of_ble_eq_true rfl) ?_
          iterate 2 (refine AOps.sq (by simp only [BB, BC, TTs, reduceIte, reduceCtorEq, Nat.reduceEqDiff, Nat.reduceAdd, Nat.reduceSub, Nat.reduceMul, Nat.reduceLT, Nat.reduceLeDiff, h1, decide_true, Bool.not_false] <;> rfl) (Nat.le_of_ble_eq_true rfl) ?_)
          iterate 10 (first | (refine AOps.sgy rfl rfl (by first | rfl | fail) (by first | rfl | (simp [*]; done) | fail) ?_; refine AOps.sq (by simp only [BB, BC, TTs, reduceIte, reduceCtorEq, Nat.reduceEqDiff, Nat.reduceAdd, Nat.reduceSub, Nat.reduceMul, Nat.reduceLT, Nat.reduceLeDiff, h1, decide_true, Bool.not_false] <;> rfl) (Nat.le_of_ble_eq_true rfl) ?_) | refine AOps.sgn rfl rfl (by first | rfl | fail) (by first | rfl | (simp [*]; done) | fail) (Nat.le_of_ble_eq_true rfl) ?_ | refine AOps.sgu rfl rfl (by first | rfl | fail) (Nat.le_of_ble_eq_true rfl) ?_)
          first | (refine AOps.sgy rfl rfl (by first | rfl | fail) (by first | rfl | (simp [*]; done) | fail) ?_; refine AOps.sf0 (by simp only [BB, BC, TTs, reduceIte, reduceCtorEq, Nat.reduceEqDiff, Nat.reduceAdd, Nat.reduceSub, Nat.reduceMul, Nat.reduceLT, Nat.reduceLeDiff, h1, decide_true, Bool.not_false] <;> rfl) (by exact hsg _) (graph_pool W g e.pool) (by simp [flat, flat.flat1, flat.flat2]) (by simp [closedL, closed]) (Nat.le_of_ble_eq_true rfl) ?_) | refine AOps.sgn rfl rfl (by first | rfl | fail) (by first | rfl | (simp [*]; done) | fail) (Nat.le_of_ble_eq_true rfl) ?_ | refine AOps.sgu rfl rfl (by first | rfl | fail) (Nat.le_of_ble_eq_true rfl) ?_
          iterate 2 (first | (refine AOps.sgy rfl rfl (by first | rfl | fail) (by first | rfl | (simp [*]; done) | fail) ?_; refine AOps.sq (by simp only [BB, BC, TTs, reduceIte, reduceCtorEq, Nat.reduceEqDiff, Nat.reduceAdd, Nat.reduceSub, Nat.reduceMul, Nat.reduceLT, Nat.reduceLeDiff, h1, decide_true, Bool.not_false] <;> rfl) (Nat.le_of_ble_eq_true rfl) ?_) | refine AOps.sgn rfl rfl (by first | rfl | fail) (by first | rfl | (simp [*]; done) | fail) (Nat.le_of_ble_eq_true rfl) ?_ | refine AOps.sgu rfl rfl (by first | rfl | fail) (Nat.le_of_ble_eq_true rfl) ?_)
          refine AOps.sq (by simp only [BB, BC, TTs, reduceIte, reduceCtorEq, Nat.reduceEqDiff, Nat.reduceAdd, Nat.reduceSub, Nat.reduceMul, Nat.reduceLT, Nat.reduceLeDiff, h1, decide_true, Bool.not_false] <;> rfl) (Nat.le_of_ble_eq_true rfl) ?_
          refine Awp.cond (t := true) (by simp only [BB, reduceIte, Nat.reduceEqDiff]) (Awp.seq ?_)
          refine Awp.region tabS_ok ?_
          refine AOps.sq (by simp only [BB, BC, TTs, reduceIte, reduceCtorEq, Nat.reduceEqDiff, Nat.reduceAdd, Nat.reduceSub, Nat.reduceMul, Nat.reduceLT, Nat.reduceLeDiff] <;> rfl) (Nat.le_of_ble_eq_true rfl) ?_
          refine Awp.ret ⟨[], Or.inr rfl, List.nodup_nil, rfl, trivial, ?_⟩
          simp only [resAV, get_cons, finV, reduceIte, Nat.reduceEqDiff, hz]
        · have h3 : ¬ e.pool = ⟨#[]⟩ := fun q => by unfold edgeIn at hok; rw [h1, decide_eq_true q] at hok; cases hok
          have h4 : poolAt g e.pool < 0 := Decidable.byContradiction fun q => by unfold edgeIn at hok; rw [h1, decide_eq_false h3, decide_eq_false q] at hok; cases hok
          refine Awp.region tabS_ok ?_
          refine AOps.sq (by simp only [BB, BC, TTs, reduceIte, reduceCtorEq, Nat.reduceEqDiff, Nat.reduceAdd, Nat.reduceSub, Nat.reduceMul, Nat.reduceLT, Nat.reduceLeDiff, h1, h3, h4, decide_true, decide_false, Bool.not_true, Bool.not_false, Bool.false_eq_true] <;> rfl) (Nat.le_of_ble_eq_true rfl) ?_
          refine AOps.sc0 (by simp only [BB, BC, TTs, reduceIte, reduceCtorEq, Nat.reduceEqDiff, Nat.reduceAdd, Nat.reduceSub, Nat.reduceMul, Nat.reduceLT, Nat.reduceLeDiff, h1, h3, h4, decide_true, decide_false, Bool.not_true, Bool.not_false, Bool.false_eq_true] <;> rfl) (by simp [closedL, closed, closed_strs, closed_ept]) (graph_edge W hW e) (by simp [closedL, closed]) (Nat.le_of_ble_eq_true rfl) ?_
          iterate 2 (refine AOps.sq (by simp only [BB, BC, TTs, reduceIte, reduceCtorEq, Nat.reduceEqDiff, Nat.reduceAdd, Nat.reduceSub, Nat.reduceMul, Nat.reduceLT, Nat.reduceLeDiff, h1, h3, h4, decide_true, decide_false, Bool.not_true, Bool.not_false, Bool.false_eq_true] <;> rfl) (Nat.le_of_ble_eq_true rfl) ?_)
          iterate 10 (first | (refine AOps.sgy rfl rfl (by first | rfl | fail) (by first | rfl | (simp [*]; done) | fail) ?_; refine AOps.sq (by simp only [BB, BC, TTs, reduceIte, reduceCtorEq, Nat.reduceEqDiff, Nat.reduceAdd, Nat.reduceSub, Nat.reduceMul, Nat.reduceLT, Nat.reduceLeDiff, h1, h3, h4, decide_true, decide_false, Bool.not_true, Bool.not_false, Bool.false_eq_true] <;> rfl) (Nat.le_of_ble_eq_true rfl) ?_) | refine AOps.sgn rfl rfl (by first | rfl | fail) (by first | rfl | (simp [*]; done) | fail) (Nat.le_of_ble_eq_true rfl) ?_ | refine AOps.sgu rfl rfl (by first | rfl | fail) (Nat.le_of_ble_eq_true rfl) ?_)
          first | (refine AOps.sgy rfl rfl (by first | rfl | fail) (by first | rfl | (simp [*]; done) | fail) ?_; refine AOps.sf0 (by simp only [BB, BC, TTs, reduceIte, reduceCtorEq, Nat.reduceEqDiff, Nat.reduceAdd, Nat.reduceSub, Nat.reduceMul, Nat.reduceLT, Nat.reduceLeDiff, h1, h3, h4, decide_true, decide_false, Bool.not_true, Bool.not_false, Bool.false_eq_true] <;> rfl) (by exact hsg _) (graph_pool W g e.pool) (by simp [flat, flat.flat1, flat.flat2]) (by simp [closedL, closed]) (Nat.le_of_ble_eq_true rfl) ?_) | refine AOps.sgn rfl rfl (by first | rfl | fail) (by first | rfl | (simp [*]; done) | fail) (Nat.le_of_ble_eq_true rfl) ?_ | refine AOps.sgu rfl rfl (by first | rfl | fail) (Nat.le_of_ble_eq_true rfl) ?_
          iterate 2 (first | (refine AOps.sgy rfl rfl (by first | rfl | fail) (by first | rfl | (simp [*]; done) | fail) ?_; refine AOps.sq (by simp only [BB, BC, TTs, reduceIte, reduceCtorEq, Nat.reduceEqDiff, Nat.reduceAdd, Nat.reduceSub, Nat.reduceMul, Nat.reduceLT, Nat.reduceLeDiff, h1, h3, h4, decide_true, decide_false, Bool.not_true, Bool.not_false, Bool.false_eq_true] <;> rfl) (Nat.le_of_ble_eq_true rfl) ?_) | refine AOps.sgn rfl rfl (by first | rfl | fail) (by first | rfl | (simp [*]; done) | fail) (Nat.le_of_ble_eq_true rfl) ?_ | refine AOps.sgu rfl rfl (by first | rfl | fail) (Nat.le_of_ble_eq_true rfl) ?_)
          refine AOps.sq (by simp only [BB, BC, TTs, reduceIte, reduceCtorEq, Nat.reduceEqDiff, Nat.reduceAdd, Nat.reduceSub, Nat.reduceMul, Nat.reduceLT, Nat.reduceLeDiff, h1, h3, h4, decide_true, decide_false, Bool.not_true, Bool.not_false, Bool.false_eq_true] <;> rfl) (Nat.le_of_ble_eq_true rfl) ?_
          refine Awp.cond (t := true) (by simp only [BB, reduceIte, Nat.reduceEqDiff]) (Awp.seq ?_)
          refine Awp.region tabS_ok ?_
          refine AOps.sq (by simp only [BB, BC, TTs, reduceIte, reduceCtorEq, Nat.reduceEqDiff, Nat.reduceAdd, Nat.reduceSub, Nat.reduceMul, Nat.reduceLT, Nat.reduceLeDiff] <;> rfl) (Nat.le_of_ble_eq_true rfl) ?_
          refine Awp.ret ⟨[], Or.inr rfl, List.nodup_nil, rfl, trivial, ?_⟩
          simp only [resAV, get_cons, finV, reduceIte, Nat.reduceEqDiff, hz]
    · refine Awp.cond (t := false) (by simp only [BB, reduceIte, Nat.reduceEqDiff]; simpa using hge) (Awp.exit ?_)
      refine Awp.seq ?_
      have hall := all_take_all hp hge
      have hz : mayG g = (decide ((g.edges.length : Int) ≤ 16) && poolsS g && allS g.defaults) := by unfold mayG; rw [hall]; rfl
      by_cases h1 : (g.edges.length : Int) ≤ 16
      · cases h2 : poolsS g
        · refine Awp.region tabS_ok ?_
          iterate 5 (refine AOps.sq (by simp only [BB, BC, TTs, reduceIte, reduceCtorEq, Nat.reduceEqDiff, Nat.reduceAdd, Nat.reduceSub, Nat.reduceMul, Nat.reduceLT, Nat.reduceLeDiff, GraphD.av, h1, h2, decide_true, Bool.false_eq_true] <;> rfl) (Nat.le_of_ble_eq_true rfl) ?_)
          first | (refine AOps.sgy rfl rfl (by first | rfl | fail) (by first | rfl | (simp [*]; done) | fail) ?_; refine AOps.sf0 (by simp only [BB, BC, TTs, reduceIte, reduceCtorEq, Nat.reduceEqDiff, Nat.reduceAdd, Nat.reduceSub, Nat.reduceMul, Nat.reduceLT, Nat.reduceLeDiff, GraphD.av, h1, h2, decide_true, Bool.false_eq_true] <;> rfl) (by exact hs1) (graph_pools W g) (by simp [flat, flat.flat1, flat.flat2]) (by simp [closedL, closed]) (Nat.le_of_ble_eq_true rfl) ?_) | refine AOps.sgn rfl rfl (by first | rfl | fail) (by first | rfl | (simp [*]; done) | fail) (Nat.le_of_ble_eq_true rfl) ?_ | refine AOps.sgu rfl rfl (by first | rfl | fail) (Nat.le_of_ble_eq_true rfl) ?_
          iterate 2 (refine AOps.sq (by simp only [BB, BC, TTs, reduceIte, reduceCtorEq, Nat.reduceEqDiff, Nat.reduceAdd, Nat.reduceSub, Nat.reduceMul, Nat.reduceLT, Nat.reduceLeDiff, GraphD.av, h1, h2, decide_true, Bool.false_eq_true] <;> rfl) (Nat.le_of_ble_eq_true rfl) ?_)
          iterate 2 (first | (refine AOps.sgy rfl rfl (by first | rfl | fail) (by first | rfl | (simp [*]; done) | fail) ?_; refine AOps.sq (by simp only [BB, BC, TTs, reduceIte, reduceCtorEq, Nat.reduceEqDiff, Nat.reduceAdd, Nat.reduceSub, Nat.reduceMul, Nat.reduceLT, Nat.reduceLeDiff, GraphD.av, h1, h2, decide_true, Bool.false_eq_true] <;> rfl) (Nat.le_of_ble_eq_true rfl) ?_) | refine AOps.sgn rfl rfl (by first | rfl | fail) (by first | rfl | (simp [*]; done) | fail) (Nat.le_of_ble_eq_true rfl) ?_ | refine AOps.sgu rfl rfl (by first | rfl | fail) (Nat.le_of_ble_eq_true rfl) ?_)
          first | (refine AOps.sgy rfl rfl (by first | rfl | fail) (by first | rfl | (simp [*]; done) | fail) ?_; refine AOps.sc0 (by simp only [BB, BC, TTs, reduceIte, reduceCtorEq, Nat.reduceEqDiff, Nat.reduceAdd, Nat.reduceSub, Nat.reduceMul, Nat.reduceLT, Nat.reduceLeDiff, GraphD.av, h1, h2, decide_true, Bool.false_eq_true] <;> rfl) (by simp [closedL, closed, closed_strs]) (path_allS W hW g.defaults) (by simp [closedL, closed]) (Nat.le_of_ble_eq_true rfl) ?_) | refine AOps.sgn rfl rfl (by first | rfl | fail) (by first | rfl | (simp [*]; done) | fail) (Nat.le_of_ble_eq_true rfl) ?_ | refine AOps.sgu rfl rfl (by first | rfl | fail) (Nat.le_of_ble_eq_true rfl) ?_
          iterate 2 (refine AOps.sq (by simp only [BB, BC, TTs, reduceIte, reduceCtorEq, Nat.reduceEqDiff, Nat.reduceAdd, Nat.reduceSub, Nat.reduceMul, Nat.reduceLT, Nat.reduceLeDiff, GraphD.av, h1, h2, decide_true, Bool.false_eq_true] <;> rfl) (Nat.le_of_ble_eq_true rfl) ?_)
          refine Awp.ret ⟨[], Or.inr rfl, List.nodup_nil, rfl, trivial, ?_⟩
          simp only [resAV, get_cons, finV, reduceIte, Nat.reduceEqDiff, hz, h2, Bool.and_false, Bool.false_and]
        · refine Awp.region tabS_ok ?_
          iterate 5 (refine AOps.sq (by simp only [BB, BC, TTs, reduceIte, reduceCtorEq, Nat.reduceEqDiff, Nat.reduceAdd, Nat.reduceSub, Nat.reduceMul, Nat.reduceLT, Nat.reduceLeDiff, GraphD.av, h1, h2, decide_true] <;> rfl) (Nat.le_of_ble_eq_true rfl) ?_)
          first | (refine AOps.sgy rfl rfl (by first | rfl | fail) (by first | rfl | (simp [*]; done) | fail) ?_; refine AOps.sf0 (by simp only [BB, BC, TTs, reduceIte, reduceCtorEq, Nat.reduceEqDiff, Nat.reduceAdd, Nat.reduceSub, Nat.reduceMul, Nat.reduceLT, Nat.reduceLeDiff, GraphD.av, h1, h2, decide_true] <;> rfl) (by exact hs1) (graph_pools W g) (by simp [flat, flat.flat1, flat.flat2]) (by simp [closedL, closed]) (Nat.le_of_ble_eq_true rfl) ?_) | refine AOps.sgn rfl rfl (by first | rfl | fail) (by first | rfl | (simp [*]; done) | fail) (Nat.le_of_ble_eq_true rfl) ?_ | refine AOps.sgu rfl rfl (by first | rfl | fail) (Nat.le_of_ble_eq_true rfl) ?_
          iterate 2 (refine AOps.sq (by simp only [BB, BC, TTs, reduceIte, reduceCtorEq, Nat.reduceEqDiff, Nat.reduceAdd, Nat.reduceSub, Nat.reduceMul, Nat.reduceLT, Nat.reduceLeDiff, GraphD.av, h1, h2, decide_true] <;> rfl) (Nat.le_of_ble_eq_true rfl) ?_)
          iterate 2 (first | (refine AOps.sgy rfl rfl (by first | rfl | fail) (by first | rfl | (simp [*]; done) | fail) ?_; refine AOps.sq (by simp only [BB, BC, TTs, reduceIte, reduceCtorEq, Nat.reduceEqDiff, Nat.reduceAdd, Nat.reduceSub, Nat.reduceMul, Nat.reduceLT, Nat.reduceLeDiff, GraphD.av, h1, h2, decide_true] <;> rfl) (Nat.le_of_ble_eq_true rfl) ?_) | refine AOps.sgn rfl rfl (by first | rfl | fail) (by first | rfl | (simp [*]; done) | fail) (Nat.le_of_ble_eq_true rfl) ?_ | refine AOps.sgu rfl rfl (by first | rfl | fail) (Nat.le_of_ble_eq_true rfl) ?_)
          first | (refine AOps.sgy rfl rfl (by first | rfl | fail) (by first | rfl | (simp [*]; done) | fail) ?_; refine AOps.sc0 (by simp only [BB, BC, TTs, reduceIte, reduceCtorEq, Nat.reduceEqDiff, Nat.reduceAdd, Nat.reduceSub, Nat.reduceMul, Nat.reduceLT, Nat.reduceLeDiff, GraphD.av, h1, h2, decide_true] <;> rfl) (by simp [closedL, closed, closed_strs]) (path_allS W hW g.defaults) (by simp [closedL, closed]) (Nat.le_of_ble_eq_true rfl) ?_) | refine AOps.sgn rfl rfl (by first | rfl | fail) (by first | rfl | (simp [*]; done) | fail) (Nat.le_of_ble_eq_true rfl) ?_ | refine AOps.sgu rfl rfl (by first | rfl | fail) (Nat.le_of_ble_eq_true rfl) ?_
          iterate 2 (refine AOps.sq (by simp only [BB, BC, TTs, reduceIte, reduceCtorEq, Nat.reduceEqDiff, Nat.reduceAdd, Nat.reduceSub, Nat.reduceMul, Nat.reduceLT, Nat.reduceLeDiff, GraphD.av, h1, h2, decide_true] <;> rfl) (Nat.le_of_ble_eq_true rfl) ?_)
          refine Awp.ret ⟨[], Or.inr rfl, List.nodup_nil, rfl, trivial, ?_⟩
          simp only [resAV, get_cons, finV, reduceIte, Nat.reduceEqDiff, hz, h2, h1, decide_true, Bool.true_and]
      · refine Awp.region tabS_ok ?_
        iterate 5 (refine AOps.sq (by simp only [BB, BC, TTs, reduceIte, reduceCtorEq, Nat.reduceEqDiff, Nat.reduceAdd, Nat.reduceSub, Nat.reduceMul, Nat.reduceLT, Nat.reduceLeDiff, GraphD.av, h1, decide_false, Bool.false_eq_true] <;> rfl) (Nat.le_of_ble_eq_true rfl) ?_)
        first | (refine AOps.sgy rfl rfl (by first | rfl | fail) (by first | rfl | (simp [*]; done) | fail) ?_; refine AOps.sf0 (by simp only [BB, BC, TTs, reduceIte, reduceCtorEq, Nat.reduceEqDiff, Nat.reduceAdd, Nat.reduceSub, Nat.reduceMul, Nat.reduceLT, Nat.reduceLeDiff, GraphD.av, h1, decide_false, Bool.false_eq_true] <;> rfl) (by exact hs1) (graph_pools W g) (by simp [flat, flat.flat1, flat.flat2]) (by simp [closedL, closed]) (Nat.le_of_ble_eq_true rfl) ?_) | refine AOps.sgn rfl rfl (by first | rfl | fail) (by first | rfl | (simp [*]; done) | fail) (Nat.le_of_ble_eq_true rfl) ?_ | refine AOps.sgu rfl rfl (by first | rfl | fail) (Nat.le_of_ble_eq_true rfl) ?_
        iterate 2 (refine AOps.sq (by simp only [BB, BC, TTs, reduceIte, reduceCtorEq, Nat.reduceEqDiff, Nat.reduceAdd, Nat.reduceSub, Nat.reduceMul, Nat.reduceLT, Nat.reduceLeDiff, GraphD.av, h1, decide_false, Bool.false_eq_true] <;> rfl) (Nat.le_of_ble_eq_true rfl) ?_)
        iterate 2 (first | (refine AOps.sgy rfl rfl (by first | rfl | fail) (by first | rfl | (simp [*]; done) | fail) ?_; refine AOps.sq (by simp only [BB, BC, TTs, reduceIte, reduceCtorEq, Nat.reduceEqDiff, Nat.reduceAdd, Nat.reduceSub, Nat.reduceMul, Nat.reduceLT, Nat.reduceLeDiff, GraphD.av, h1, decide_false, Bool.false_eq_true] <;> rfl) (Nat.le_of_ble_eq_true rfl) ?_) | refine AOps.sgn rfl rfl (by first | rfl | fail) (by first | rfl | (simp [*]; done) | fail) (Nat.le_of_ble_eq_true rfl) ?_ | refine AOps.sgu rfl rfl (by first | rfl | fail) (Nat.le_of_ble_eq_true rfl) ?_)
        first | (refine AOps.sgy rfl rfl (by first | rfl | fail) (by first | rfl | (simp [*]; done) | fail) ?_; refine AOps.sc0 (by simp only [BB, BC, TTs, reduceIte, reduceCtorEq, Nat.reduceEqDiff, Nat.reduceAdd, Nat.reduceSub, Nat.reduceMul, Nat.reduceLT, Nat.reduceLeDiff, GraphD.av, h1, decide_false, Bool.false_eq_true] <;> rfl) (by simp [closedL, closed, closed_strs]) (path_allS W hW g.defaults) (by simp [closedL, closed]) (Nat.le_of_ble_eq_true rfl) ?_) | refine AOps.sgn rfl rfl (by first | rfl | fail) (by first | rfl | (simp [*]; done) | fail) (Nat.le_of_ble_eq_true rfl) ?_ | refine AOps.sgu rfl rfl (by first | rfl | fail) (Nat.le_of_ble_eq_true rfl) ?_
        iterate 2 (refine AOps.sq (by simp only [BB, BC, TTs, reduceIte, reduceCtorEq, Nat.reduceEqDiff, Nat.reduceAdd, Nat.reduceSub, Nat.reduceMul, Nat.reduceLT, Nat.reduceLeDiff, GraphD.av, h1, decide_false, Bool.false_eq_true] <;> rfl) (Nat.le_of_ble_eq_true rfl) ?_)
        refine Awp.ret ⟨[], Or.inr rfl, List.nodup_nil, rfl, trivial, ?_⟩
        simp only [resAV, get_cons, finV, reduceIte, Nat.reduceEqDiff, hz, h1, decide_false, Bool.false_and]
end
end Go.Lift
namespace Go.Lift
open Go Go.RowKit
set_option linter.unusedSimpArgs false
set_option linter.unusedVariables false
set_option maxRecDepth 20000
section
variable (W : World)
theorem graph_outs (g : GraphD) (hsz : (outsOf g.edges).length * 16 ≤ 140737488355328) : PureAt Go.Proofs.Tryz.prog W 53 [g.pt] (rowR (outsOf g.edges)) (rowS 9 (outsOf g.edges)) := by
  refine pure_of_lim (en53 W) fun hl => ?_
  simp only [limL, lim, GraphD.pt, List.length_map] at hl
  have hn : g.edges.length ≤ 281474976710656 := hl.1.1.1
  clear hl
  unfold GraphD.pt
  refine pure_of_body (fn := Go.Proofs.Tryz.f53) Go.Proofs.Tryz.func53 rfl (en53 W) (ts := [2]) rfl (Nat.le_of_ble_eq_true rfl) ?_
  refine Awp.seq ?_
  refine Awp.region tabS_ok ?_
  refine AOps.sq (by simp only [BB, BC, TTs, reduceIte, reduceCtorEq, Nat.reduceEqDiff, Nat.reduceAdd, Nat.reduceSub, Nat.reduceMul, Nat.reduceLT, Nat.reduceLeDiff] <;> rfl) (Nat.le_of_ble_eq_true rfl) ?_
  refine Awp.seq ?_
  refine Awp.region tabS_ok ?_
  refine AOps.sq (by simp only [BB, BC, TTs, reduceIte, reduceCtorEq, Nat.reduceEqDiff, Nat.reduceAdd, Nat.reduceSub, Nat.reduceMul, Nat.reduceLT, Nat.reduceLeDiff] <;> rfl) (Nat.le_of_ble_eq_true rfl) ?_
  refine Awp.seq (Awp.seq ?_)
  refine Awp.region tabS_ok ?_
  iterate 6 (refine AOps.sq (by simp only [BB, BC, TTs, reduceIte, reduceCtorEq, Nat.reduceEqDiff, Nat.reduceAdd, Nat.reduceSub, Nat.reduceMul, Nat.reduceLT, Nat.reduceLeDiff] <;> rfl) (Nat.le_of_ble_eq_true rfl) ?_)
  refine Awp.block (Awp.fits [] (env' := [(2, .sl 1 true []), (3, .sl 1 true []), (9, .sl 7 g.enl (g.edges.map EdgeD.av)), (10, .i .i64 g.edges.length), (11, .i .i64 (0 : Nat))]) (h' := ⟨0, []⟩) ⟨List.nodup_nil, rfl, trivial, ⟨finV_closed rfl, finV_closed rfl, finV_closed rfl, finV_closed rfl, finV_closed rfl, trivial⟩⟩ keep0 (Awp.loop (fun k env h => ∃ i x, i + k = g.edges.length ∧ RowIs 9 x h (outsOf (g.edges.take i)) ∧ env = [(2, .sl 1 true []), (3, x), (9, .sl 7 g.enl (g.edges.map EdgeD.av)), (10, .i .i64 g.edges.length), (11, .i .i64 i)]) g.edges.length ?_ ?_))
  · exact ⟨0, _, by simp, Or.inl ⟨rfl, rfl, rfl⟩, rfl⟩
  · rintro k env h ⟨i, x, hk, hK, rfl⟩
    refine Awp.seq ?_
    refine Awp.region tabS_ok ?_
    refine AOps.sq (by simp only [BB, BC, TTs, reduceIte, reduceCtorEq, Nat.reduceEqDiff, Nat.reduceAdd, Nat.reduceSub, Nat.reduceMul, Nat.reduceLT, Nat.reduceLeDiff] <;> rfl) (Nat.le_of_ble_eq_true rfl) ?_
    refine Awp.seq ?_
    rcases Nat.lt_or_ge i g.edges.length with hlt | hge
    · refine Awp.cond (t := true) (by simp only [BB, reduceIte, Nat.reduceEqDiff]; simpa using hlt) (Awp.skip ?_)
      refine Awp.seq (Awp.block (Awp.seq ?_))
      have hx : g.edges[i]? = some g.edges[i] := List.getElem?_eq_getElem hlt
      generalize g.edges[i] = e at hx
      have hw := wrap_succ hlt hn
      have ho := outsOf_take hx
      have hle := outsOf_len (es := g.edges) (i + 1)
      rw [ho, List.length_append] at hle
      rcases hK with ⟨rfl, h1, rfl⟩ | ⟨hne, rfl, rfl⟩
      · rw [h1, List.nil_append] at ho
        rw [h1, List.length_nil] at hle
        refine Awp.region tabS_ok ?_
        iterate 2 (refine AOps.sq (by simp only [BB, BC, TTs, reduceIte, reduceCtorEq, Nat.reduceEqDiff, Nat.reduceAdd, Nat.reduceSub, Nat.reduceMul, Nat.reduceLT, Nat.reduceLeDiff, hx, EdgeD.av, closed_strs, fitAV.eq_1, AV.withCells.eq_1] <;> rfl) (Nat.le_of_ble_eq_true rfl) ?_)
        refine AOps.sn (by simp only [BB, BC, TTs, reduceIte, reduceCtorEq, Nat.reduceEqDiff, Nat.reduceAdd, Nat.reduceSub, Nat.reduceMul, Nat.reduceLT, Nat.reduceLeDiff, hx, EdgeD.av, closed_strs, fitAV.eq_1, AV.withCells.eq_1] <;> rfl) (Nat.le_of_ble_eq_true rfl) ?_
        refine AOps.st (by simp only [BB, BC, TTs, reduceIte, reduceCtorEq, Nat.reduceEqDiff, Nat.reduceAdd, Nat.reduceSub, Nat.reduceMul, Nat.reduceLT, Nat.reduceLeDiff, hx, EdgeD.av, closed_strs, fitAV.eq_1, AV.withCells.eq_1] <;> rfl) ?_
        cases hc : e.outs.xs with
        | nil =>
          refine Awp.region tabS_ok ?_
          iterate 3 (refine AOps.sq (by simp only [BB, BC, TTs, reduceIte, reduceCtorEq, Nat.reduceEqDiff, Nat.reduceAdd, Nat.reduceSub, Nat.reduceMul, Nat.reduceLT, Nat.reduceLeDiff, Strs.av, hc, List.map_nil, Nat.zero_mul, Nat.zero_le] <;> rfl) (Nat.le_of_ble_eq_true rfl) ?_)
          refine AOps.se (by simp only [BB, BC, TTs, reduceIte, reduceCtorEq, Nat.reduceEqDiff, Nat.reduceAdd, Nat.reduceSub, Nat.reduceMul, Nat.reduceLT, Nat.reduceLeDiff, Strs.av, hc, List.map_nil, Nat.zero_mul, Nat.zero_le] <;> rfl) (Nat.le_of_ble_eq_true rfl) ?_
          refine AOps.sq (by simp only [BB, BC, TTs, reduceIte, reduceCtorEq, Nat.reduceEqDiff, Nat.reduceAdd, Nat.reduceSub, Nat.reduceMul, Nat.reduceLT, Nat.reduceLeDiff, Strs.av, hc, List.map_nil, Nat.zero_mul, Nat.zero_le] <;> rfl) (Nat.le_of_ble_eq_true rfl) ?_
          refine Awp.region tabS_ok ?_
          iterate 2 (refine AOps.sq (by simp only [BB, BC, TTs, reduceIte, reduceCtorEq, Nat.reduceEqDiff, Nat.reduceAdd, Nat.reduceSub, Nat.reduceMul, Nat.reduceLT, Nat.reduceLeDiff, hw] <;> rfl) (Nat.le_of_ble_eq_true rfl) ?_)
          rw [hc] at ho
          refine ⟨[], [(2, .sl 1 true []), (3, .sl 1 true []), (9, .sl 7 g.enl (g.edges.map EdgeD.av)), (10, .i .i64 g.edges.length), (11, .i .i64 (i + 1 : Nat))], ⟨0, []⟩, ⟨List.nodup_nil, rfl, trivial, ⟨finV_closed rfl, finV_closed rfl, finV_closed rfl, finV_closed rfl, finV_closed rfl, trivial⟩⟩, keep0, k - 1, by omega, i + 1, _, by omega, Or.inl ⟨rfl, ho, rfl⟩, rfl⟩
        | cons y ys =>
          rw [hc] at hle ho
          have hA : (ys.length + 1) * 16 ≤ 140737488355328 := by simp at hle; omega
          have hB : ys.length + 1 ≤ LIM := by unfold LIM; omega
          refine Awp.region tabS_ok ?_
          iterate 3 (refine AOps.sq (by simp only [BB, BC, TTs, reduceIte, reduceCtorEq, Nat.reduceEqDiff, Nat.reduceAdd, Nat.reduceSub, Nat.reduceMul, Nat.reduceLT, Nat.reduceLeDiff, Strs.av, hc, List.map_cons, hA, hB] <;> rfl) (Nat.le_of_ble_eq_true rfl) ?_)
          refine AOps.se (by simp only [BB, BC, TTs, reduceIte, reduceCtorEq, Nat.reduceEqDiff, Nat.reduceAdd, Nat.reduceSub, Nat.reduceMul, Nat.reduceLT, Nat.reduceLeDiff, Strs.av, hc, List.map_cons, hA, hB] <;> rfl) (Nat.le_of_ble_eq_true rfl) ?_
          refine AOps.sq (by simp only [BB, BC, TTs, reduceIte, reduceCtorEq, Nat.reduceEqDiff, Nat.reduceAdd, Nat.reduceSub, Nat.reduceMul, Nat.reduceLT, Nat.reduceLeDiff, Strs.av, hc, List.map_cons, hA, hB] <;> rfl) (Nat.le_of_ble_eq_true rfl) ?_
          refine Awp.region tabS_ok ?_
          iterate 2 (refine AOps.sq (by simp only [BB, BC, TTs, reduceIte, reduceCtorEq, Nat.reduceEqDiff, Nat.reduceAdd, Nat.reduceSub, Nat.reduceMul, Nat.reduceLT, Nat.reduceLeDiff, hw] <;> rfl) (Nat.le_of_ble_eq_true rfl) ?_)
          refine ⟨[1], [(2, .sl 1 true []), (3, .own 0 0 (ys.length + 1)), (9, .sl 7 g.enl (g.edges.map EdgeD.av)), (10, .i .i64 g.edges.length), (11, .i .i64 (i + 1 : Nat))], ⟨1, [(0, some ⟨9, 1, (y :: ys).map AV.s⟩)]⟩, ⟨by simp, rfl, ⟨fitsO_s (xs := y :: ys) rfl rfl, trivial⟩, ⟨finV_closed rfl, rfl, finV_closed rfl, finV_closed rfl, finV_closed rfl, trivial⟩⟩, keep0, k - 1, by omega, i + 1, _, by omega, Or.inr ⟨by rw [ho]; simp, by rw [ho]; rfl, by rw [ho]⟩, rfl⟩
      · generalize outsOf (g.edges.take i) = kept at *
        have hA : (kept.length + e.outs.xs.length) * 16 ≤ 140737488355328 := by omega
        have hB : kept.length + e.outs.xs.length ≤ LIM := by unfold LIM; omega
        have hT : List.take kept.length (kept.map AV.s) = kept.map AV.s := by rw [List.take_of_length_le (by simp)]
        refine Awp.region tabS_ok ?_
        iterate 2 (refine AOps.sq (by simp only [BB, BC, TTs, reduceIte, reduceCtorEq, Nat.reduceEqDiff, Nat.reduceAdd, Nat.reduceSub, Nat.reduceMul, Nat.reduceLT, Nat.reduceLeDiff, hx, EdgeD.av, closed_strs, fitAV.eq_1, AV.withCells.eq_1] <;> rfl) (Nat.le_of_ble_eq_true rfl) ?_)
        refine AOps.sn (by simp only [BB, BC, TTs, reduceIte, reduceCtorEq, Nat.reduceEqDiff, Nat.reduceAdd, Nat.reduceSub, Nat.reduceMul, Nat.reduceLT, Nat.reduceLeDiff, hx, EdgeD.av, closed_strs, fitAV.eq_1, AV.withCells.eq_1] <;> rfl) (Nat.le_of_ble_eq_true rfl) ?_
        refine AOps.st (by simp only [BB, BC, TTs, reduceIte, reduceCtorEq, Nat.reduceEqDiff, Nat.reduceAdd, Nat.reduceSub, Nat.reduceMul, Nat.reduceLT, Nat.reduceLeDiff, hx, EdgeD.av, closed_strs, fitAV.eq_1, AV.withCells.eq_1] <;> rfl) ?_
        refine Awp.region tabS_ok ?_
        iterate 3 (refine AOps.sq (by simp only [BB, BC, TTs, reduceIte, reduceCtorEq, Nat.reduceEqDiff, Nat.reduceAdd, Nat.reduceSub, Nat.reduceMul, Nat.reduceLT, Nat.reduceLeDiff, Strs.av, hA, hB, hT, Nat.le_refl] <;> rfl) (Nat.le_of_ble_eq_true rfl) ?_)
        refine AOps.se (by simp only [BB, BC, TTs, reduceIte, reduceCtorEq, Nat.reduceEqDiff, Nat.reduceAdd, Nat.reduceSub, Nat.reduceMul, Nat.reduceLT, Nat.reduceLeDiff, Strs.av, hA, hB, hT, Nat.le_refl] <;> rfl) (Nat.le_of_ble_eq_true rfl) ?_
        refine AOps.sq (by simp only [BB, BC, TTs, reduceIte, reduceCtorEq, Nat.reduceEqDiff, Nat.reduceAdd, Nat.reduceSub, Nat.reduceMul, Nat.reduceLT, Nat.reduceLeDiff, Strs.av, hA, hB, hT, Nat.le_refl] <;> rfl) (Nat.le_of_ble_eq_true rfl) ?_
        refine Awp.region tabS_ok ?_
        iterate 2 (refine AOps.sq (by simp only [BB, BC, TTs, reduceIte, reduceCtorEq, Nat.reduceEqDiff, Nat.reduceAdd, Nat.reduceSub, Nat.reduceMul, Nat.reduceLT, Nat.reduceLeDiff, hw] <;> rfl) (Nat.le_of_ble_eq_true rfl) ?_)
        refine ⟨[2], [(2, .sl 1 true []), (3, .own 0 0 (kept.length + e.outs.xs.length)), (9, .sl 7 g.enl (g.edges.map EdgeD.av)), (10, .i .i64 g.edges.length), (11, .i .i64 (i + 1 : Nat))], ⟨1, [(0, some ⟨9, 1, (kept ++ e.outs.xs).map AV.s⟩)]⟩, ⟨by simp, rfl, ⟨fitsO_s (xs := kept ++ e.outs.xs) (by rw [List.map_append]; rfl) rfl, trivial⟩, ⟨finV_closed rfl, rfl, finV_closed rfl, finV_closed rfl, finV_closed rfl, trivial⟩⟩, keep0, k - 1, by omega, i + 1, _, by omega, Or.inr ⟨by rw [ho]; simp [hne], by rw [ho, List.length_append], by rw [ho]⟩, rfl⟩
    · refine Awp.cond (t := false) (by simp only [BB, reduceIte, Nat.reduceEqDiff]; simpa using hge) (Awp.exit ?_)
      rw [List.take_of_length_le hge] at hK
      refine Awp.seq ?_
      rcases hK with ⟨rfl, h1, rfl⟩ | ⟨hne, rfl, rfl⟩
      · rw [h1, rowR_nil, rowS_nil]
        refine Awp.region tabS_ok ?_
        iterate 2 (refine AOps.sq (by simp only [BB, BC, TTs, reduceIte, reduceCtorEq, Nat.reduceEqDiff, Nat.reduceAdd, Nat.reduceSub, Nat.reduceMul, Nat.reduceLT, Nat.reduceLeDiff] <;> rfl) (Nat.le_of_ble_eq_true rfl) ?_)
        refine Awp.ret ⟨[], Or.inr rfl, List.nodup_nil, rfl, trivial, ?_⟩
        simp only [resAV, get_cons, finV, reduceIte, Nat.reduceEqDiff]
      · rw [rowR_own hne, rowS_own hne]
        refine Awp.region tabS_ok ?_
        iterate 2 (refine AOps.sq (by simp only [BB, BC, TTs, reduceIte, reduceCtorEq, Nat.reduceEqDiff, Nat.reduceAdd, Nat.reduceSub, Nat.reduceMul, Nat.reduceLT, Nat.reduceLeDiff] <;> rfl) (Nat.le_of_ble_eq_true rfl) ?_)
        refine Awp.ret ⟨[0], Or.inr rfl, by simp, rfl, ⟨fitsO_s (xs := outsOf g.edges) rfl (get_S0_one _), trivial⟩, ?_⟩
        simp only [resAV, get_cons, reduceIte, Nat.reduceEqDiff]
        rfl
end
end Go.Lift
namespace Go.Lift
open Go Go.RowKit
set_option linter.unusedSimpArgs false
set_option linter.unusedVariables false
set_option maxRecDepth 20000
section
variable (W : World)
theorem lib_sort {h : Store} {id : Nat} {xs : List ByteArray} (hg : h.get id = some ⟨9, 1, xs.map .s⟩) (hne : xs ≠ []) (hn : xs.length ≤ 281474976710656) :
    EffAt Go.Proofs.Tryz.prog W 54 [.own id 0 xs.length] h (.tup []) (h.put id (some ⟨9, 1, ((xs.map (·.data.toList)).mergeSort fun x y => decide (x ≤ y)).map (fun y => AV.s (toBA y))⟩)) where
  enters := en54 W
  calls := fun w0 μ w vs hG hs hfr hvr => by
    simp only [VRs] at hvr
    obtain ⟨v, r, rfl, hv, rfl⟩ := hvr
    obtain ⟨b, c, rfl, h1, h2, h3, h4, h5, -, hstep⟩ := step_put hs hg hne hv
    have := Go.Proofs.Tryz.slices_Sort_string b 0 c (xs.map (·.data.toList)) w h4 h3 (by rw [List.length_map]; omega)
    rw [List.length_map] at this
    refine this.mono ?_
    rintro e w' ⟨rfl, n, os, rfl⟩
    have st := hstep ((xs.map (·.data.toList)).mergeSort fun x y => decide (x ≤ y)) n (by rw [List.length_mergeSort, List.length_map]) (fun y hy => by
      rw [List.mem_mergeSort] at hy
      obtain ⟨x, hx, rfl⟩ := List.mem_map.1 hy
      rw [data_len]; exact h5 x hx)
    exact ⟨_, μ, rfl, by simp only [VR, VRs]; exact ⟨#[], rfl, rfl⟩, st.trans (step_grow st.sim os)⟩

theorem lib_compact {h : Store} {id : Nat} {xs : List ByteArray} (hg : h.get id = some ⟨9, 1, xs.map .s⟩) (hne : xs ≠ []) (hn : xs.length ≤ 281474976710656)
    (hle : (Lib.compact (xs.map (fun x : ByteArray => x.data.toList))).length ≤ xs.length) (hmem : ∀ y ∈ Lib.compact (xs.map (fun x : ByteArray => x.data.toList)), y ∈ xs.map (fun x : ByteArray => x.data.toList)) :
    EffAt Go.Proofs.Tryz.prog W 55 [.own id 0 xs.length] h (.own id 0 (Lib.compact (xs.map (fun x : ByteArray => x.data.toList))).length) (h.put id (some ⟨9, 1, (Lib.compact (xs.map (fun x : ByteArray => x.data.toList)) ++ List.replicate (xs.length - (Lib.compact (xs.map (fun x : ByteArray => x.data.toList))).length) []).map (fun y => AV.s (toBA y))⟩)) where
  enters := en55 W
  calls := fun w0 μ w vs hG hs hfr hvr => by
    simp only [VRs] at hvr
    obtain ⟨v, r, rfl, hv, rfl⟩ := hvr
    obtain ⟨b, c, rfl, h1, h2, h3, h4, h5, ⟨sl, hm, hb, hc, hk⟩, hstep⟩ := step_put hs hg hne hv
    have := Go.Proofs.Tryz.slices_Compact_string b 0 c (xs.map (fun x : ByteArray => x.data.toList)) w h4 (by rw [List.length_map]; omega) (by rw [List.length_map]; exact h1)
    rw [List.length_map] at this
    refine this.mono ?_
    rintro e w' ⟨rfl, n, rfl⟩
    have st := hstep (Lib.compact (xs.map (fun x : ByteArray => x.data.toList)) ++ List.replicate (xs.length - (Lib.compact (xs.map (fun x : ByteArray => x.data.toList))).length) []) n (by rw [List.length_append, List.length_replicate]; omega) (fun y hy => by
      rcases List.mem_append.1 hy with hy | hy
      · obtain ⟨x, hx, rfl⟩ := List.mem_map.1 (hmem y hy)
        rw [data_len]; exact h5 x hx
      · have := List.eq_of_mem_replicate hy
        subst this; exact Nat.zero_le _)
    refine ⟨_, μ, rfl, ?_, st⟩
    simp only [VR, hm]
    exact ⟨_, c, rfl, by omega, by omega, by rw [hb], fun _ => by rw [hb, Nat.zero_mul]⟩

theorem lib_clone (xs : List ByteArray) (hne : xs ≠ []) (hn : xs.length * 16 ≤ 140737488355328) :
    PureAt Go.Proofs.Tryz.prog W 56 [.sl 1 false (xs.map .s)] (.own 0 0 xs.length) [⟨9, 1, xs.map .s⟩] := by
  have key := pure_of_row (P := Go.Proofs.Tryz.prog) (W := W) (f := 56) (en56 W) (args := [.sl 1 false (xs.map .s)]) (et := 9) (k := 1) (by omega) (els := xs.map .s) fun w Y vs hG hvs => by
    simp only [CRs_cons, CRs_nil, CR_sl, List.length_map] at hvs
    obtain ⟨v1, r1, rfl, h1, rfl⟩ := hvs
    rcases h1 with ⟨h, _⟩ | ⟨_, a, c, rfl, hc, hl, hrows⟩
    · exact absurd (by simpa using h) hne
    · obtain ⟨h1, h2, h3⟩ := CRrows_strs hrows hne
      rw [h1]
      refine (Go.Proofs.Tryz.slices_Clone_string a.block a.off xs.length c xs w (Nat.le_refl _) hn (fun j hj => ?_)).mono ?_
      · rw [List.getD_eq_getElem?_getD, List.getElem?_eq_getElem hj]
        exact (h3 j _ (List.getElem?_eq_getElem hj)).1
      · rintro e w' ⟨v', rfl, ho, hnn, hb⟩
        rw [List.take_length] at ho
        refine ⟨v', _, rfl, by rw [List.length_map]; exact ho, hnn, hb, fun j x hx => ?_⟩
        obtain ⟨q, hq, rfl⟩ := cells_strs_get hx
        refine ⟨rfl, fun i y hy => ?_⟩
        cases i with
        | succ i => simp [AV.cells] at hy
        | zero =>
          simp [AV.cells] at hy
          subst hy
          refine ⟨.string q, by rw [Nat.mul_one, Nat.add_zero, List.getElem?_map, hq]; rfl, ?_, rfl⟩
          rw [CR_s]; exact ⟨rfl, (h3 j q hq).2⟩
  rwa [List.length_map] at key

theorem lib_clone_nil : PureAt Go.Proofs.Tryz.prog W 56 [.sl 1 true []] (.sl 1 true []) [] := by
  refine pure_of_calls (en56 W) fun w Y vs hG hvs => ?_
  simp only [CRs_cons, CRs_nil, CR_sl] at hvs
  obtain ⟨v1, r1, rfl, h1, rfl⟩ := hvs
  rcases h1 with ⟨_, rfl⟩ | ⟨h, _⟩
  · refine (Go.Proofs.Tryz.slices_Clone_string_nil 0 0 w).mono ?_
    rintro e w' ⟨rfl, rfl⟩
    exact ⟨_, rfl, by simp only [VR, CR]; exact Or.inl ⟨trivial, trivial⟩, Below.refl _ _⟩
  · cases h

theorem lib_compact_nil : PureAt Go.Proofs.Tryz.prog W 55 [.sl 1 true []] (.sl 1 true []) [] := by
  refine pure_of_calls (en55 W) fun w Y vs hG hvs => ?_
  simp only [CRs_cons, CRs_nil, CR_sl] at hvs
  obtain ⟨v1, r1, rfl, h1, rfl⟩ := hvs
  rcases h1 with ⟨_, rfl⟩ | ⟨h, _⟩
  · refine (Go.Proofs.Tryz.slices_Compact_string_empty none 0 w).mono ?_
    rintro e w' ⟨rfl, rfl⟩
    exact ⟨_, rfl, by simp only [VR, CR]; exact Or.inl ⟨trivial, trivial⟩, Below.refl _ _⟩
  · cases h

theorem lib_sort_nil : PureAt Go.Proofs.Tryz.prog W 54 [.sl 1 true []] (.tup []) [] := by
  refine pure_of_calls (en54 W) fun w Y vs hG hvs => ?_
  simp only [CRs_cons, CRs_nil, CR_sl] at hvs
  obtain ⟨v1, r1, rfl, h1, rfl⟩ := hvs
  rcases h1 with ⟨_, rfl⟩ | ⟨h, _⟩
  · refine (Go.Proofs.Tryz.slices_Sort_string_none none 0 w).mono ?_
    rintro e w' ⟨rfl, rfl⟩
    exact ⟨_, rfl, by simp only [VR, VRs]; exact ⟨#[], rfl, rfl⟩, Below.refl _ _⟩
  · cases h
end
end Go.Lift
namespace Go.Lift
open Go Go.RowKit
set_option linter.unusedSimpArgs false
set_option linter.unusedVariables false
set_option maxRecDepth 20000
section
variable (W : World)
theorem lib_sort' {h : Store} {id : Nat} {xs : List ByteArray} (hg : h.get id = some ⟨9, 1, xs.map .s⟩) (hne : xs ≠ []) (hn : xs.length ≤ 281474976710656) :
    EffAt Go.Proofs.Tryz.prog W 54 [.own id 0 xs.length] h (.tup []) (h.put id (some ⟨9, 1, ((sortL (xs.map fun x => x.data.toList)).map toBA).map .s⟩)) := by
  have := lib_sort W hg hne hn
  rw [List.map_map]; exact this

theorem graph_check {m : Int} (hW : W.cell? ⟨0, 0, none⟩ = some (.int .i64 m)) (g : GraphD) : PureAt Go.Proofs.Tryz.prog W 18 [g.av] (.i .i64 (checkS g)) [] := by
  refine pure_of_body (fn := Go.Proofs.Tryz.f18) Go.Proofs.Tryz.func18 rfl (en18 W) (ts := [2]) rfl (Nat.le_of_ble_eq_true rfl) ?_
  refine Awp.seq ?_
  refine Awp.region tabS_ok ?_
  refine AOps.sn (by simp only [BB, BC, TTs, reduceIte, reduceCtorEq, Nat.reduceEqDiff, Nat.reduceAdd, Nat.reduceSub, Nat.reduceMul, Nat.reduceLT, Nat.reduceLeDiff, closed_graph, GraphD.av] <;> rfl) (Nat.le_of_ble_eq_true rfl) ?_
  refine AOps.sq (by simp only [BB, BC, TTs, reduceIte, reduceCtorEq, Nat.reduceEqDiff, Nat.reduceAdd, Nat.reduceSub, Nat.reduceMul, Nat.reduceLT, Nat.reduceLeDiff, closed_graph, GraphD.av] <;> rfl) (Nat.le_of_ble_eq_true rfl) ?_
  refine Awp.seq (Awp.seq ?_)
  refine Awp.region tabS_ok ?_
  refine AOps.sq (by simp only [BB, BC, TTs, reduceIte, reduceCtorEq, Nat.reduceEqDiff, Nat.reduceAdd, Nat.reduceSub, Nat.reduceMul, Nat.reduceLT, Nat.reduceLeDiff, GraphD.av] <;> rfl) (Nat.le_of_ble_eq_true rfl) ?_
  refine AOps.sc0 (by simp only [BB, BC, TTs, reduceIte, reduceCtorEq, Nat.reduceEqDiff, Nat.reduceAdd, Nat.reduceSub, Nat.reduceMul, Nat.reduceLT, Nat.reduceLeDiff, GraphD.av] <;> rfl) (by simp [closedL, closed, closed_strs, closed_graph]) (graph_may W hW g) (by simp [closedL, closed]) (Nat.le_of_ble_eq_true rfl) ?_
  refine AOps.sq (by simp only [BB, BC, TTs, reduceIte, reduceCtorEq, Nat.reduceEqDiff, Nat.reduceAdd, Nat.reduceSub, Nat.reduceMul, Nat.reduceLT, Nat.reduceLeDiff, GraphD.av] <;> rfl) (Nat.le_of_ble_eq_true rfl) ?_
  cases hm : mayG g with
  | false =>
    refine Awp.cond (t := true) (by simp only [BB, reduceIte, Nat.reduceEqDiff, hm, Bool.not_false]) (Awp.seq ?_)
    refine Awp.region tabS_ok ?_
    refine AOps.sq (by simp only [BB, BC, TTs, reduceIte, reduceCtorEq, Nat.reduceEqDiff, Nat.reduceAdd, Nat.reduceSub, Nat.reduceMul, Nat.reduceLT, Nat.reduceLeDiff] <;> rfl) (Nat.le_of_ble_eq_true rfl) ?_
    refine Awp.ret ⟨[], Or.inr rfl, List.nodup_nil, rfl, trivial, ?_⟩
    have hz : checkS g = 900 := by unfold checkS; rw [if_pos hm]
    simp only [resAV, get_cons, finV, reduceIte, Nat.reduceEqDiff, hz]
  | true =>
    refine Awp.cond (t := false) (by simp only [BB, reduceIte, Nat.reduceEqDiff, hm, Bool.not_true]) (Awp.skip ?_)
    have hle := mayG_outs hm
    have ho := graph_outs W g (by omega)
    have hz : checkS g = if hasDup ((outsOf g.edges).map fun x => x.data.toList) then 901 else 0 := by unfold checkS; rw [if_neg (by rw [hm]; simp)]
    rw [← sort_dup] at hz
    generalize outsOf g.edges = xs at hle ho hz
    refine Awp.fits [0] (env' := [(1, .loc 0 0 0)]) (h' := ⟨1, [(0, some ⟨26, 3, [g.av]⟩)]⟩) ⟨by simp, rfl, ⟨fitsO_c (ob := ⟨26, 3, [g.av]⟩) rfl rfl rfl, trivial⟩, ⟨rfl, trivial⟩⟩ keep0 ?_
    have hs1 : mapC (snapC [] ⟨1, [(0, some ⟨26, 3, [g.av]⟩)]⟩ 8) [.loc 0 0 0] = some [g.pt] := snap_g rfl
    refine Awp.seq ?_
    by_cases hne : xs = []
    · subst hne
      rw [rowR_nil, rowS_nil] at ho
      refine Awp.region tabS_ok ?_
      refine AOps.sf0 (by simp only [BB, BC, TTs, reduceIte, reduceCtorEq, Nat.reduceEqDiff, Nat.reduceAdd, Nat.reduceSub, Nat.reduceMul, Nat.reduceLT, Nat.reduceLeDiff] <;> rfl) (by exact hs1) ho (by simp [flat, flat.flat1, flat.flat2]) (by simp [closedL, closed]) (Nat.le_of_ble_eq_true rfl) ?_
      refine AOps.sq (by simp only [BB, BC, TTs, reduceIte, reduceCtorEq, Nat.reduceEqDiff, Nat.reduceAdd, Nat.reduceSub, Nat.reduceMul, Nat.reduceLT, Nat.reduceLeDiff] <;> rfl) (Nat.le_of_ble_eq_true rfl) ?_
      refine Awp.seq ?_
      refine Awp.region tabS_ok ?_
      refine AOps.sq (by simp only [BB, BC, TTs, reduceIte, reduceCtorEq, Nat.reduceEqDiff, Nat.reduceAdd, Nat.reduceSub, Nat.reduceMul, Nat.reduceLT, Nat.reduceLeDiff] <;> rfl) (Nat.le_of_ble_eq_true rfl) ?_
      refine AOps.sc0 (by simp only [BB, BC, TTs, reduceIte, reduceCtorEq, Nat.reduceEqDiff, Nat.reduceAdd, Nat.reduceSub, Nat.reduceMul, Nat.reduceLT, Nat.reduceLeDiff] <;> rfl) (by simp [closedL, closed]) (lib_sort_nil W) (by simp [closedL, closed]) (Nat.le_of_ble_eq_true rfl) ?_
      refine Awp.seq (Awp.seq ?_)
      refine Awp.region tabS_ok ?_
      refine AOps.sq (by simp only [BB, BC, TTs, reduceIte, reduceCtorEq, Nat.reduceEqDiff, Nat.reduceAdd, Nat.reduceSub, Nat.reduceMul, Nat.reduceLT, Nat.reduceLeDiff] <;> rfl) (Nat.le_of_ble_eq_true rfl) ?_
      refine AOps.sc0 (by simp only [BB, BC, TTs, reduceIte, reduceCtorEq, Nat.reduceEqDiff, Nat.reduceAdd, Nat.reduceSub, Nat.reduceMul, Nat.reduceLT, Nat.reduceLeDiff] <;> rfl) (by simp [closedL, closed]) (lib_clone_nil W) (by simp [closedL, closed]) (Nat.le_of_ble_eq_true rfl) ?_
      refine AOps.sc0 (by simp only [BB, BC, TTs, reduceIte, reduceCtorEq, Nat.reduceEqDiff, Nat.reduceAdd, Nat.reduceSub, Nat.reduceMul, Nat.reduceLT, Nat.reduceLeDiff] <;> rfl) (by simp [closedL, closed]) (lib_compact_nil W) (by simp [closedL, closed]) (Nat.le_of_ble_eq_true rfl) ?_
      iterate 4 (refine AOps.sq (by simp only [BB, BC, TTs, reduceIte, reduceCtorEq, Nat.reduceEqDiff, Nat.reduceAdd, Nat.reduceSub, Nat.reduceMul, Nat.reduceLT, Nat.reduceLeDiff] <;> rfl) (Nat.le_of_ble_eq_true rfl) ?_)
      refine Awp.cond (t := false) (by simp [BB]) (Awp.skip ?_)
      refine Awp.seq ?_
      refine Awp.region tabS_ok ?_
      refine AOps.sq (by simp only [BB, BC, TTs, reduceIte, reduceCtorEq, Nat.reduceEqDiff, Nat.reduceAdd, Nat.reduceSub, Nat.reduceMul, Nat.reduceLT, Nat.reduceLeDiff] <;> rfl) (Nat.le_of_ble_eq_true rfl) ?_
      refine Awp.ret ⟨[], Or.inr rfl, List.nodup_nil, rfl, trivial, ?_⟩
      simp [resAV, get_cons, finV, hz]
    · rw [rowR_own hne, rowS_own hne] at ho
      refine Awp.region tabS_ok ?_
      refine AOps.sfr (by simp only [BB, BC, TTs, reduceIte, reduceCtorEq, Nat.reduceEqDiff, Nat.reduceAdd, Nat.reduceSub, Nat.reduceMul, Nat.reduceLT, Nat.reduceLeDiff] <;> rfl) (by exact hs1) ho (by exact closedL_s _) (by simp [AV.cells, flat]) (Nat.le_of_ble_eq_true rfl) ?_
      refine AOps.sq (by simp only [BB, BC, TTs, reduceIte, reduceCtorEq, Nat.reduceEqDiff, Nat.reduceAdd, Nat.reduceSub, Nat.reduceMul, Nat.reduceLT, Nat.reduceLeDiff] <;> rfl) (Nat.le_of_ble_eq_true rfl) ?_
      refine Awp.seq ?_
      refine Awp.region tabS_ok ?_
      refine AOps.sq (by simp only [BB, BC, TTs, reduceIte, reduceCtorEq, Nat.reduceEqDiff, Nat.reduceAdd, Nat.reduceSub, Nat.reduceMul, Nat.reduceLT, Nat.reduceLeDiff] <;> rfl) (Nat.le_of_ble_eq_true rfl) ?_
      refine AOps.sm (by simp only [BB, BC, TTs, reduceIte, reduceCtorEq, Nat.reduceEqDiff, Nat.reduceAdd, Nat.reduceSub, Nat.reduceMul, Nat.reduceLT, Nat.reduceLeDiff] <;> rfl) (lib_sort' W (id := 1) rfl hne (by omega)) (Nat.le_of_ble_eq_true rfl) ?_
      obtain ⟨ys, hys⟩ : ∃ ys, ys = (sortL (xs.map fun x => x.data.toList)).map toBA := ⟨_, rfl⟩
      have hyl : ys.length = xs.length := by rw [hys, List.length_map, sortL_len, List.length_map]
      have hyne : ys ≠ [] := fun e => hne (List.length_eq_zero_iff.1 (by rw [← hyl, e]; rfl))
      have hyd : ys.map (fun x : ByteArray => x.data.toList) = sortL (xs.map fun x => x.data.toList) := by rw [hys, map_toBA_data]
      rw [← hys]
      refine Awp.seq (Awp.seq ?_)
      refine Awp.region tabS_ok ?_
      refine AOps.sq (by simp only [BB, BC, TTs, reduceIte, reduceCtorEq, Nat.reduceEqDiff, Nat.reduceAdd, Nat.reduceSub, Nat.reduceMul, Nat.reduceLT, Nat.reduceLeDiff] <;> rfl) (Nat.le_of_ble_eq_true rfl) ?_
      refine AOps.sfr (by simp only [BB, BC, TTs, reduceIte, reduceCtorEq, Nat.reduceEqDiff, Nat.reduceAdd, Nat.reduceSub, Nat.reduceMul, Nat.reduceLT, Nat.reduceLeDiff] <;> rfl) (by exact snap_row rfl hyl.symm (by unfold LIM; omega)) (lib_clone W ys hyne (by omega)) (by exact closedL_s _) (by simp [AV.cells, flat]) (Nat.le_of_ble_eq_true rfl) ?_
      refine AOps.sm (by simp only [BB, BC, TTs, reduceIte, reduceCtorEq, Nat.reduceEqDiff, Nat.reduceAdd, Nat.reduceSub, Nat.reduceMul, Nat.reduceLT, Nat.reduceLeDiff] <;> rfl) (lib_compact W (id := 2) (xs := ys) rfl hyne (by omega) (by rw [← List.length_map (f := fun x : ByteArray => x.data.toList)]; exact compact_le _) (compact_mem _)) (Nat.le_of_ble_eq_true rfl) ?_
      iterate 4 (refine AOps.sq (by simp only [BB, BC, TTs, reduceIte, reduceCtorEq, Nat.reduceEqDiff, Nat.reduceAdd, Nat.reduceSub, Nat.reduceMul, Nat.reduceLT, Nat.reduceLeDiff] <;> rfl) (Nat.le_of_ble_eq_true rfl) ?_)
      rw [hyd]
      have hlt : decide (((Lib.compact (sortL (xs.map fun x => x.data.toList))).length : Int) < (xs.length : Int)) = decide ((Lib.compact (sortL (xs.map fun x => x.data.toList))).length < (xs.map fun x => x.data.toList).length) := by
        rw [List.length_map, decide_eq_decide]; omega
      rw [← hlt] at hz
      refine Awp.cond' (t := decide (((Lib.compact (sortL (xs.map fun x => x.data.toList))).length : Int) < (xs.length : Int))) (by simp only [BB, reduceIte, Nat.reduceEqDiff]) (fun ht => Awp.seq ?_) (fun ht => Awp.skip (Awp.seq ?_))
      · refine Awp.region tabS_ok ?_
        refine AOps.sq (by simp only [BB, BC, TTs, reduceIte, reduceCtorEq, Nat.reduceEqDiff, Nat.reduceAdd, Nat.reduceSub, Nat.reduceMul, Nat.reduceLT, Nat.reduceLeDiff] <;> rfl) (Nat.le_of_ble_eq_true rfl) ?_
        refine Awp.ret ⟨[], Or.inr rfl, List.nodup_nil, rfl, trivial, ?_⟩
        simp only [resAV, get_cons, finV, reduceIte, Nat.reduceEqDiff, hz, ht]
      · refine Awp.region tabS_ok ?_
        refine AOps.sq (by simp only [BB, BC, TTs, reduceIte, reduceCtorEq, Nat.reduceEqDiff, Nat.reduceAdd, Nat.reduceSub, Nat.reduceMul, Nat.reduceLT, Nat.reduceLeDiff] <;> rfl) (Nat.le_of_ble_eq_true rfl) ?_
        refine Awp.ret ⟨[], Or.inr rfl, List.nodup_nil, rfl, trivial, ?_⟩
        simp only [resAV, get_cons, finV, reduceIte, Nat.reduceEqDiff, hz, ht, Bool.false_eq_true]
end
end Go.Lift
namespace Go.Lift
open Go Go.RowKit
set_option linter.unusedSimpArgs false
set_option linter.unusedVariables false
set_option maxRecDepth 20000
section
variable (W : World)
theorem graph_maker {m : Int} (hW : W.cell? ⟨0, 0, none⟩ = some (.int .i64 m)) (g : GraphD) (name : ByteArray) : PureAt Go.Proofs.Tryz.prog W 15 [g.av, .s name] (.tup [.i .i64 (makerS g name).1, .b (makerS g name).2.1, .i .i64 (makerS g name).2.2]) [] := by
  refine pure_of_body (fn := Go.Proofs.Tryz.f15) Go.Proofs.Tryz.func15 rfl (en15 W) (ts := [4, 5, 6]) rfl (Nat.le_of_ble_eq_true rfl) ?_
  refine Awp.seq ?_
  refine Awp.region tabS_ok ?_
  refine AOps.sn (by simp only [BB, BC, TTs, reduceIte, reduceCtorEq, Nat.reduceEqDiff, Nat.reduceAdd, Nat.reduceSub, Nat.reduceMul, Nat.reduceLT, Nat.reduceLeDiff, closed_graph, GraphD.av] <;> rfl) (Nat.le_of_ble_eq_true rfl) ?_
  iterate 3 (refine AOps.sq (by simp only [BB, BC, TTs, reduceIte, reduceCtorEq, Nat.reduceEqDiff, Nat.reduceAdd, Nat.reduceSub, Nat.reduceMul, Nat.reduceLT, Nat.reduceLeDiff, closed_graph, GraphD.av] <;> rfl) (Nat.le_of_ble_eq_true rfl) ?_)
  refine Awp.seq (Awp.seq ?_)
  refine Awp.region tabS_ok ?_
  refine AOps.sq (by simp only [BB, BC, TTs, reduceIte, reduceCtorEq, Nat.reduceEqDiff, Nat.reduceAdd, Nat.reduceSub, Nat.reduceMul, Nat.reduceLT, Nat.reduceLeDiff, GraphD.av] <;> rfl) (Nat.le_of_ble_eq_true rfl) ?_
  refine AOps.sc0 (by simp only [BB, BC, TTs, reduceIte, reduceCtorEq, Nat.reduceEqDiff, Nat.reduceAdd, Nat.reduceSub, Nat.reduceMul, Nat.reduceLT, Nat.reduceLeDiff, GraphD.av] <;> rfl) (by simp [closedL, closed, closed_strs, closed_graph]) (graph_check W hW g) (by simp [closedL, closed]) (Nat.le_of_ble_eq_true rfl) ?_
  refine AOps.sq (by simp only [BB, BC, TTs, reduceIte, reduceCtorEq, Nat.reduceEqDiff, Nat.reduceAdd, Nat.reduceSub, Nat.reduceMul, Nat.reduceLT, Nat.reduceLeDiff, GraphD.av] <;> rfl) (Nat.le_of_ble_eq_true rfl) ?_
  refine Awp.seq ?_
  refine Awp.region tabS_ok ?_
  iterate 2 (refine AOps.sq (by simp only [BB, BC, TTs, reduceIte, reduceCtorEq, Nat.reduceEqDiff, Nat.reduceAdd, Nat.reduceSub, Nat.reduceMul, Nat.reduceLT, Nat.reduceLeDiff] <;> rfl) (Nat.le_of_ble_eq_true rfl) ?_)
  by_cases h0 : checkS g = 0
  · have hz : makerS g name = (max (makesAt g name) 0, decide (makesAt g name ≥ 0), 0) := by unfold makerS; rw [if_pos h0]
    refine Awp.cond (t := false) (by simp [BB, h0]) (Awp.skip ?_)
    refine Awp.fits [0] (env' := [(1, .s name), (2, .loc 0 0 0)]) (h' := ⟨1, [(0, some ⟨26, 3, [g.av]⟩)]⟩) ⟨by simp, rfl, ⟨fitsO_c (ob := ⟨26, 3, [g.av]⟩) rfl rfl rfl, trivial⟩, ⟨finV_closed rfl, rfl, trivial⟩⟩ keep0 ?_
    have hsg : mapC (snapC [] ⟨1, [(0, some ⟨26, 3, [g.av]⟩)]⟩ 8) [.loc 0 0 0, .s name] = some [g.pt, .s name] := snap_gs rfl
    refine Awp.seq ?_
    refine Awp.region tabS_ok ?_
    refine AOps.sq (by simp only [BB, BC, TTs, reduceIte, reduceCtorEq, Nat.reduceEqDiff, Nat.reduceAdd, Nat.reduceSub, Nat.reduceMul, Nat.reduceLT, Nat.reduceLeDiff] <;> rfl) (Nat.le_of_ble_eq_true rfl) ?_
    refine AOps.sf0 (by simp only [BB, BC, TTs, reduceIte, reduceCtorEq, Nat.reduceEqDiff, Nat.reduceAdd, Nat.reduceSub, Nat.reduceMul, Nat.reduceLT, Nat.reduceLeDiff] <;> rfl) (by exact hsg) (graph_makes W g name) (by simp [flat, flat.flat1, flat.flat2]) (by simp [closedL, closed]) (Nat.le_of_ble_eq_true rfl) ?_
    refine AOps.sq (by simp only [BB, BC, TTs, reduceIte, reduceCtorEq, Nat.reduceEqDiff, Nat.reduceAdd, Nat.reduceSub, Nat.reduceMul, Nat.reduceLT, Nat.reduceLeDiff] <;> rfl) (Nat.le_of_ble_eq_true rfl) ?_
    refine Awp.seq ?_
    refine Awp.region tabS_ok ?_
    iterate 7 (refine AOps.sq (by simp only [BB, BC, TTs, reduceIte, reduceCtorEq, Nat.reduceEqDiff, Nat.reduceAdd, Nat.reduceSub, Nat.reduceMul, Nat.reduceLT, Nat.reduceLeDiff] <;> rfl) (Nat.le_of_ble_eq_true rfl) ?_)
    refine Awp.ret ⟨[], Or.inr rfl, List.nodup_nil, rfl, trivial, ?_⟩
    have e1 : (if (0 : Int) > makesAt g name then 0 else makesAt g name) = max (makesAt g name) 0 := by
      rw [Int.max_def]; split <;> split <;> omega
    simp [resAV, get_cons, finV, mapC, closedL, closed, hz, e1]
  · have hz : makerS g name = (0, false, checkS g) := by unfold makerS; rw [if_neg h0]
    refine Awp.cond (t := true) (by simp [BB, h0]) (Awp.seq ?_)
    refine Awp.region tabS_ok ?_
    iterate 4 (refine AOps.sq (by simp only [BB, BC, TTs, reduceIte, reduceCtorEq, Nat.reduceEqDiff, Nat.reduceAdd, Nat.reduceSub, Nat.reduceMul, Nat.reduceLT, Nat.reduceLeDiff] <;> rfl) (Nat.le_of_ble_eq_true rfl) ?_)
    refine Awp.ret ⟨[], Or.inr rfl, List.nodup_nil, rfl, trivial, ?_⟩
    simp [resAV, get_cons, finV, mapC, closedL, closed, hz]
end
end Go.Lift
