/-
  Lemmas of this claim: a layer over the kit's calls, contracts of the functions that the law reaches, and the law's row. No condition of its own.
-/
import Derived.Test.YthagoaoenalmbaaGreatDoorWaGraphs
namespace Go.Lift
noncomputable section
open Go Go.RowKit
set_option linter.unusedSimpArgs false
set_option linter.unusedVariables false
set_option linter.unusedSectionVars false
set_option maxRecDepth 20000
theorem w_law9_awake (W : World) {m0 : Int} (hW : W.cell? ⟨0, 0, none⟩ = some (.int .i64 m0)) : PureAt Go.Proofs.Tryz.prog W 23 [] (AV.b m_law9_awake) [] := by
  refine pure_of_bodyC (fn := Go.Proofs.Tryz.f23) Go.Proofs.Tryz.func23 rfl (en23 W) (ts := [0]) rfl le ?_
  refine Awp.seq ?_
  refine Awp.region tabS_ok ?_
  refine AOps.sq (x := (AV.b false)) kr le ?_
  refine AOps.done ?_
  refine Awp.seq ?_
  refine Awp.region tabS_ok ?_
  refine AOps.scD (x := (AV.st [(AV.own 0 0 3), (AV.own 9 0 1), (AV.own 10 0 1)])) (h' := ⟨11, [(10, some ⟨9, 1, [(⟨#[108, 105, 98]⟩ : ByteArray)].map AV.s⟩), (9, some ⟨81, 2, [(⟨(⟨#[116, 119, 111]⟩ : ByteArray), (2 : Int)⟩ : DPool)].map DPool.av⟩), (8, some ⟨9, 1, [(⟨#[97, 46, 111]⟩ : ByteArray)].map AV.s⟩), (7, some ⟨9, 1, [(⟨#[98, 46, 99]⟩ : ByteArray)].map AV.s⟩), (6, some ⟨9, 1, [(⟨#[98, 46, 111]⟩ : ByteArray)].map AV.s⟩), (5, some ⟨9, 1, [(⟨#[97, 46, 104]⟩ : ByteArray)].map AV.s⟩), (4, some ⟨9, 1, [(⟨#[97, 46, 99]⟩ : ByteArray)].map AV.s⟩), (3, some ⟨9, 1, [(⟨#[97, 46, 111]⟩ : ByteArray), (⟨#[97, 46, 100]⟩ : ByteArray)].map AV.s⟩), (2, some ⟨9, 1, [(⟨#[97, 46, 111]⟩ : ByteArray), (⟨#[98, 46, 111]⟩ : ByteArray)].map AV.s⟩), (1, some ⟨9, 1, [(⟨#[108, 105, 98]⟩ : ByteArray)].map AV.s⟩), (0, some ⟨76, 7, [(AV.st [(AV.own 1 0 1), (AV.own 2 0 2), (AV.sl 1 true []), (AV.sl 1 true []), (AV.s (⟨#[97, 114]⟩ : ByteArray)), (AV.b false), (AV.s (⟨#[]⟩ : ByteArray))]), (AV.st [(AV.own 3 0 2), (AV.own 4 0 1), (AV.own 5 0 1), (AV.sl 1 true []), (AV.s (⟨#[99, 99, 32, 97]⟩ : ByteArray)), (AV.b true), (AV.s (⟨#[116, 119, 111]⟩ : ByteArray))]), (AV.st [(AV.own 6 0 1), (AV.own 7 0 1), (AV.sl 1 true []), (AV.own 8 0 1), (AV.s (⟨#[99, 99, 32, 98]⟩ : ByteArray)), (AV.b false), (AV.s (⟨#[116, 119, 111]⟩ : ByteArray))])]⟩)]⟩) kr rfl (wd_law9_given W) kr kr le ?_
  refine AOps.sfw (vs := [(AV.st [(AV.own 0 0 3), (AV.own 9 0 1), (AV.own 10 0 1)]), (AV.s (⟨#[97, 46, 100]⟩ : ByteArray))]) (ss := [(DGraph.av lit13), (AV.s (⟨#[97, 46, 100]⟩ : ByteArray))]) (r0 := (AV.tup [(AV.i .i64 ((m_graph_Maker lit13 (⟨#[97, 46, 100]⟩ : ByteArray)).1)), (AV.b ((m_graph_Maker lit13 (⟨#[97, 46, 100]⟩ : ByteArray)).2.1)), (AV.i .i64 ((m_graph_Maker lit13 (⟨#[97, 46, 100]⟩ : ByteArray)).2.2))])) kr (show SnapW _ _ _ from ⟨(EntK.w (EntK.cast (x' := (AV.st [(AV.own 0 0 3), (AV.own 9 0 1), (AV.own 10 0 1)])) kr kr (EntK.st (EntKs.cons (EntK.own (id := 0) (len := 3) (e := 76) (k := 7) (els := [(AV.st [(AV.own 1 0 1), (AV.own 2 0 2), (AV.sl 1 true []), (AV.sl 1 true []), (AV.s (⟨#[97, 114]⟩ : ByteArray)), (AV.b false), (AV.s (⟨#[]⟩ : ByteArray))]), (AV.st [(AV.own 3 0 2), (AV.own 4 0 1), (AV.own 5 0 1), (AV.sl 1 true []), (AV.s (⟨#[99, 99, 32, 97]⟩ : ByteArray)), (AV.b true), (AV.s (⟨#[116, 119, 111]⟩ : ByteArray))]), (AV.st [(AV.own 6 0 1), (AV.own 7 0 1), (AV.sl 1 true []), (AV.own 8 0 1), (AV.s (⟨#[99, 99, 32, 98]⟩ : ByteArray)), (AV.b false), (AV.s (⟨#[116, 119, 111]⟩ : ByteArray))])]) rfl rfl rfl sd (EntKEs.cons (EntKE.st (EntKs.cons (EntK.row (fun _ => rfl) (A := AV.s) (id := 1) (e := 9) (k := 1) (xs := [(⟨#[108, 105, 98]⟩ : ByteArray)]) rfl rfl sd sd) (EntKs.cons (EntK.row (fun _ => rfl) (A := AV.s) (id := 2) (e := 9) (k := 1) (xs := [(⟨#[97, 46, 111]⟩ : ByteArray), (⟨#[98, 46, 111]⟩ : ByteArray)]) rfl rfl sd sd) (EntKs.cons (EntK.c rfl (WeakC.nil 1)) (EntKs.cons (EntK.c rfl (WeakC.nil 1)) (EntKs.cons (EntK.cr (x := (AV.s (⟨#[97, 114]⟩ : ByteArray))) kr) (EntKs.cons (EntK.cr (x := (AV.b false)) kr) (EntKs.cons (EntK.cr (x := (AV.s (⟨#[]⟩ : ByteArray))) kr) EntKs.nil)))))))) (EntKEs.cons (EntKE.st (EntKs.cons (EntK.row (fun _ => rfl) (A := AV.s) (id := 3) (e := 9) (k := 1) (xs := [(⟨#[97, 46, 111]⟩ : ByteArray), (⟨#[97, 46, 100]⟩ : ByteArray)]) rfl rfl sd sd) (EntKs.cons (EntK.row (fun _ => rfl) (A := AV.s) (id := 4) (e := 9) (k := 1) (xs := [(⟨#[97, 46, 99]⟩ : ByteArray)]) rfl rfl sd sd) (EntKs.cons (EntK.row (fun _ => rfl) (A := AV.s) (id := 5) (e := 9) (k := 1) (xs := [(⟨#[97, 46, 104]⟩ : ByteArray)]) rfl rfl sd sd) (EntKs.cons (EntK.c rfl (WeakC.nil 1)) (EntKs.cons (EntK.cr (x := (AV.s (⟨#[99, 99, 32, 97]⟩ : ByteArray))) kr) (EntKs.cons (EntK.cr (x := (AV.b true)) kr) (EntKs.cons (EntK.cr (x := (AV.s (⟨#[116, 119, 111]⟩ : ByteArray))) kr) EntKs.nil)))))))) (EntKEs.cons (EntKE.st (EntKs.cons (EntK.row (fun _ => rfl) (A := AV.s) (id := 6) (e := 9) (k := 1) (xs := [(⟨#[98, 46, 111]⟩ : ByteArray)]) rfl rfl sd sd) (EntKs.cons (EntK.row (fun _ => rfl) (A := AV.s) (id := 7) (e := 9) (k := 1) (xs := [(⟨#[98, 46, 99]⟩ : ByteArray)]) rfl rfl sd sd) (EntKs.cons (EntK.c rfl (WeakC.nil 1)) (EntKs.cons (EntK.row (fun _ => rfl) (A := AV.s) (id := 8) (e := 9) (k := 1) (xs := [(⟨#[97, 46, 111]⟩ : ByteArray)]) rfl rfl sd sd) (EntKs.cons (EntK.cr (x := (AV.s (⟨#[99, 99, 32, 98]⟩ : ByteArray))) kr) (EntKs.cons (EntK.cr (x := (AV.b false)) kr) (EntKs.cons (EntK.cr (x := (AV.s (⟨#[116, 119, 111]⟩ : ByteArray))) kr) EntKs.nil)))))))) EntKEs.nil)))) (EntKs.cons (EntK.row (fun _ => rfl) (A := DPool.av) (id := 9) (e := 81) (k := 2) (xs := [(⟨(⟨#[116, 119, 111]⟩ : ByteArray), (2 : Int)⟩ : DPool)]) rfl rfl sd sd) (EntKs.cons (EntK.row (fun _ => rfl) (A := AV.s) (id := 10) (e := 9) (k := 1) (xs := [(⟨#[108, 105, 98]⟩ : ByteArray)]) rfl rfl sd sd) EntKs.nil)))))), ⟨(SnapW.e kr), trivial⟩⟩) (w_graph_Maker W hW lit13 (⟨#[97, 46, 100]⟩ : ByteArray)) rfl kr le ?_
  refine AOps.sq (x := (AV.tup [(AV.i .i64 ((m_graph_Maker lit13 (⟨#[97, 46, 100]⟩ : ByteArray)).1)), (AV.b ((m_graph_Maker lit13 (⟨#[97, 46, 100]⟩ : ByteArray)).2.1)), (AV.i .i64 ((m_graph_Maker lit13 (⟨#[97, 46, 100]⟩ : ByteArray)).2.2))])) kr le ?_
  refine AOps.sq (x := (AV.i .i64 ((m_graph_Maker lit13 (⟨#[97, 46, 100]⟩ : ByteArray)).1))) kr le ?_
  refine AOps.sq (x := (AV.b ((m_graph_Maker lit13 (⟨#[97, 46, 100]⟩ : ByteArray)).2.1))) kr le ?_
  refine AOps.sq (x := (AV.i .i64 ((m_graph_Maker lit13 (⟨#[97, 46, 100]⟩ : ByteArray)).2.2))) kr le ?_
  refine AOps.sq (x := (AV.i .i64 ((m_graph_Maker lit13 (⟨#[97, 46, 100]⟩ : ByteArray)).1))) kr le ?_
  refine AOps.sq (x := (AV.b ((m_graph_Maker lit13 (⟨#[97, 46, 100]⟩ : ByteArray)).2.1))) kr le ?_
  refine AOps.sq (x := (AV.i .i64 ((m_graph_Maker lit13 (⟨#[97, 46, 100]⟩ : ByteArray)).2.2))) kr le ?_
  refine AOps.done ?_
  refine Awp.seq ?_
  refine Awp.region tabS_ok ?_
  refine AOps.scD (x := (AV.st [(AV.own 11 0 3), (AV.own 20 0 1), (AV.own 21 0 1)])) (h' := ⟨22, [(21, some ⟨9, 1, [(⟨#[108, 105, 98]⟩ : ByteArray)].map AV.s⟩), (20, some ⟨81, 2, [(⟨(⟨#[116, 119, 111]⟩ : ByteArray), (2 : Int)⟩ : DPool)].map DPool.av⟩), (19, some ⟨9, 1, [(⟨#[97, 46, 111]⟩ : ByteArray)].map AV.s⟩), (18, some ⟨9, 1, [(⟨#[98, 46, 99]⟩ : ByteArray)].map AV.s⟩), (17, some ⟨9, 1, [(⟨#[98, 46, 111]⟩ : ByteArray)].map AV.s⟩), (16, some ⟨9, 1, [(⟨#[97, 46, 104]⟩ : ByteArray)].map AV.s⟩), (15, some ⟨9, 1, [(⟨#[97, 46, 99]⟩ : ByteArray)].map AV.s⟩), (14, some ⟨9, 1, [(⟨#[97, 46, 111]⟩ : ByteArray), (⟨#[97, 46, 100]⟩ : ByteArray)].map AV.s⟩), (13, some ⟨9, 1, [(⟨#[97, 46, 111]⟩ : ByteArray), (⟨#[98, 46, 111]⟩ : ByteArray)].map AV.s⟩), (12, some ⟨9, 1, [(⟨#[108, 105, 98]⟩ : ByteArray)].map AV.s⟩), (11, some ⟨76, 7, [(AV.st [(AV.own 12 0 1), (AV.own 13 0 2), (AV.sl 1 true []), (AV.sl 1 true []), (AV.s (⟨#[97, 114]⟩ : ByteArray)), (AV.b false), (AV.s (⟨#[]⟩ : ByteArray))]), (AV.st [(AV.own 14 0 2), (AV.own 15 0 1), (AV.own 16 0 1), (AV.sl 1 true []), (AV.s (⟨#[99, 99, 32, 97]⟩ : ByteArray)), (AV.b true), (AV.s (⟨#[116, 119, 111]⟩ : ByteArray))]), (AV.st [(AV.own 17 0 1), (AV.own 18 0 1), (AV.sl 1 true []), (AV.own 19 0 1), (AV.s (⟨#[99, 99, 32, 98]⟩ : ByteArray)), (AV.b false), (AV.s (⟨#[116, 119, 111]⟩ : ByteArray))])]⟩), (10, some ⟨9, 1, [(⟨#[108, 105, 98]⟩ : ByteArray)].map AV.s⟩), (9, some ⟨81, 2, [(⟨(⟨#[116, 119, 111]⟩ : ByteArray), (2 : Int)⟩ : DPool)].map DPool.av⟩), (8, some ⟨9, 1, [(⟨#[97, 46, 111]⟩ : ByteArray)].map AV.s⟩), (7, some ⟨9, 1, [(⟨#[98, 46, 99]⟩ : ByteArray)].map AV.s⟩), (6, some ⟨9, 1, [(⟨#[98, 46, 111]⟩ : ByteArray)].map AV.s⟩), (5, some ⟨9, 1, [(⟨#[97, 46, 104]⟩ : ByteArray)].map AV.s⟩), (4, some ⟨9, 1, [(⟨#[97, 46, 99]⟩ : ByteArray)].map AV.s⟩), (3, some ⟨9, 1, [(⟨#[97, 46, 111]⟩ : ByteArray), (⟨#[97, 46, 100]⟩ : ByteArray)].map AV.s⟩), (2, some ⟨9, 1, [(⟨#[97, 46, 111]⟩ : ByteArray), (⟨#[98, 46, 111]⟩ : ByteArray)].map AV.s⟩), (1, some ⟨9, 1, [(⟨#[108, 105, 98]⟩ : ByteArray)].map AV.s⟩), (0, some ⟨76, 7, [(AV.st [(AV.own 1 0 1), (AV.own 2 0 2), (AV.sl 1 true []), (AV.sl 1 true []), (AV.s (⟨#[97, 114]⟩ : ByteArray)), (AV.b false), (AV.s (⟨#[]⟩ : ByteArray))]), (AV.st [(AV.own 3 0 2), (AV.own 4 0 1), (AV.own 5 0 1), (AV.sl 1 true []), (AV.s (⟨#[99, 99, 32, 97]⟩ : ByteArray)), (AV.b true), (AV.s (⟨#[116, 119, 111]⟩ : ByteArray))]), (AV.st [(AV.own 6 0 1), (AV.own 7 0 1), (AV.sl 1 true []), (AV.own 8 0 1), (AV.s (⟨#[99, 99, 32, 98]⟩ : ByteArray)), (AV.b false), (AV.s (⟨#[116, 119, 111]⟩ : ByteArray))])]⟩)]⟩) kr rfl (wd_law9_given W) kr kr le ?_
  refine AOps.sfw (vs := [(AV.st [(AV.own 11 0 3), (AV.own 20 0 1), (AV.own 21 0 1)]), (AV.s (⟨#[97, 46, 99]⟩ : ByteArray))]) (ss := [(DGraph.av lit13), (AV.s (⟨#[97, 46, 99]⟩ : ByteArray))]) (r0 := (AV.tup [(AV.i .i64 ((m_graph_Maker lit13 (⟨#[97, 46, 99]⟩ : ByteArray)).1)), (AV.b ((m_graph_Maker lit13 (⟨#[97, 46, 99]⟩ : ByteArray)).2.1)), (AV.i .i64 ((m_graph_Maker lit13 (⟨#[97, 46, 99]⟩ : ByteArray)).2.2))])) kr (show SnapW _ _ _ from ⟨(EntK.w (EntK.cast (x' := (AV.st [(AV.own 11 0 3), (AV.own 20 0 1), (AV.own 21 0 1)])) kr kr (EntK.st (EntKs.cons (EntK.own (id := 11) (len := 3) (e := 76) (k := 7) (els := [(AV.st [(AV.own 12 0 1), (AV.own 13 0 2), (AV.sl 1 true []), (AV.sl 1 true []), (AV.s (⟨#[97, 114]⟩ : ByteArray)), (AV.b false), (AV.s (⟨#[]⟩ : ByteArray))]), (AV.st [(AV.own 14 0 2), (AV.own 15 0 1), (AV.own 16 0 1), (AV.sl 1 true []), (AV.s (⟨#[99, 99, 32, 97]⟩ : ByteArray)), (AV.b true), (AV.s (⟨#[116, 119, 111]⟩ : ByteArray))]), (AV.st [(AV.own 17 0 1), (AV.own 18 0 1), (AV.sl 1 true []), (AV.own 19 0 1), (AV.s (⟨#[99, 99, 32, 98]⟩ : ByteArray)), (AV.b false), (AV.s (⟨#[116, 119, 111]⟩ : ByteArray))])]) rfl rfl rfl sd (EntKEs.cons (EntKE.st (EntKs.cons (EntK.row (fun _ => rfl) (A := AV.s) (id := 12) (e := 9) (k := 1) (xs := [(⟨#[108, 105, 98]⟩ : ByteArray)]) rfl rfl sd sd) (EntKs.cons (EntK.row (fun _ => rfl) (A := AV.s) (id := 13) (e := 9) (k := 1) (xs := [(⟨#[97, 46, 111]⟩ : ByteArray), (⟨#[98, 46, 111]⟩ : ByteArray)]) rfl rfl sd sd) (EntKs.cons (EntK.c rfl (WeakC.nil 1)) (EntKs.cons (EntK.c rfl (WeakC.nil 1)) (EntKs.cons (EntK.cr (x := (AV.s (⟨#[97, 114]⟩ : ByteArray))) kr) (EntKs.cons (EntK.cr (x := (AV.b false)) kr) (EntKs.cons (EntK.cr (x := (AV.s (⟨#[]⟩ : ByteArray))) kr) EntKs.nil)))))))) (EntKEs.cons (EntKE.st (EntKs.cons (EntK.row (fun _ => rfl) (A := AV.s) (id := 14) (e := 9) (k := 1) (xs := [(⟨#[97, 46, 111]⟩ : ByteArray), (⟨#[97, 46, 100]⟩ : ByteArray)]) rfl rfl sd sd) (EntKs.cons (EntK.row (fun _ => rfl) (A := AV.s) (id := 15) (e := 9) (k := 1) (xs := [(⟨#[97, 46, 99]⟩ : ByteArray)]) rfl rfl sd sd) (EntKs.cons (EntK.row (fun _ => rfl) (A := AV.s) (id := 16) (e := 9) (k := 1) (xs := [(⟨#[97, 46, 104]⟩ : ByteArray)]) rfl rfl sd sd) (EntKs.cons (EntK.c rfl (WeakC.nil 1)) (EntKs.cons (EntK.cr (x := (AV.s (⟨#[99, 99, 32, 97]⟩ : ByteArray))) kr) (EntKs.cons (EntK.cr (x := (AV.b true)) kr) (EntKs.cons (EntK.cr (x := (AV.s (⟨#[116, 119, 111]⟩ : ByteArray))) kr) EntKs.nil)))))))) (EntKEs.cons (EntKE.st (EntKs.cons (EntK.row (fun _ => rfl) (A := AV.s) (id := 17) (e := 9) (k := 1) (xs := [(⟨#[98, 46, 111]⟩ : ByteArray)]) rfl rfl sd sd) (EntKs.cons (EntK.row (fun _ => rfl) (A := AV.s) (id := 18) (e := 9) (k := 1) (xs := [(⟨#[98, 46, 99]⟩ : ByteArray)]) rfl rfl sd sd) (EntKs.cons (EntK.c rfl (WeakC.nil 1)) (EntKs.cons (EntK.row (fun _ => rfl) (A := AV.s) (id := 19) (e := 9) (k := 1) (xs := [(⟨#[97, 46, 111]⟩ : ByteArray)]) rfl rfl sd sd) (EntKs.cons (EntK.cr (x := (AV.s (⟨#[99, 99, 32, 98]⟩ : ByteArray))) kr) (EntKs.cons (EntK.cr (x := (AV.b false)) kr) (EntKs.cons (EntK.cr (x := (AV.s (⟨#[116, 119, 111]⟩ : ByteArray))) kr) EntKs.nil)))))))) EntKEs.nil)))) (EntKs.cons (EntK.row (fun _ => rfl) (A := DPool.av) (id := 20) (e := 81) (k := 2) (xs := [(⟨(⟨#[116, 119, 111]⟩ : ByteArray), (2 : Int)⟩ : DPool)]) rfl rfl sd sd) (EntKs.cons (EntK.row (fun _ => rfl) (A := AV.s) (id := 21) (e := 9) (k := 1) (xs := [(⟨#[108, 105, 98]⟩ : ByteArray)]) rfl rfl sd sd) EntKs.nil)))))), ⟨(SnapW.e kr), trivial⟩⟩) (w_graph_Maker W hW lit13 (⟨#[97, 46, 99]⟩ : ByteArray)) rfl kr le ?_
  refine AOps.sq (x := (AV.tup [(AV.i .i64 ((m_graph_Maker lit13 (⟨#[97, 46, 99]⟩ : ByteArray)).1)), (AV.b ((m_graph_Maker lit13 (⟨#[97, 46, 99]⟩ : ByteArray)).2.1)), (AV.i .i64 ((m_graph_Maker lit13 (⟨#[97, 46, 99]⟩ : ByteArray)).2.2))])) kr le ?_
  refine AOps.sq (x := (AV.i .i64 ((m_graph_Maker lit13 (⟨#[97, 46, 99]⟩ : ByteArray)).1))) kr le ?_
  refine AOps.sq (x := (AV.b ((m_graph_Maker lit13 (⟨#[97, 46, 99]⟩ : ByteArray)).2.1))) kr le ?_
  refine AOps.sq (x := (AV.i .i64 ((m_graph_Maker lit13 (⟨#[97, 46, 99]⟩ : ByteArray)).2.2))) kr le ?_
  refine AOps.sq (x := (AV.i .i64 ((m_graph_Maker lit13 (⟨#[97, 46, 99]⟩ : ByteArray)).1))) kr le ?_
  refine AOps.sq (x := (AV.b ((m_graph_Maker lit13 (⟨#[97, 46, 99]⟩ : ByteArray)).2.1))) kr le ?_
  refine AOps.sq (x := (AV.i .i64 ((m_graph_Maker lit13 (⟨#[97, 46, 99]⟩ : ByteArray)).2.2))) kr le ?_
  refine AOps.done ?_
  refine Awp.seq ?_
  refine Awp.region tabS_ok ?_
  refine AOps.scD (x := (AV.st [(AV.own 22 0 3), (AV.own 31 0 1), (AV.own 32 0 1)])) (h' := ⟨33, [(32, some ⟨9, 1, [(⟨#[108, 105, 98]⟩ : ByteArray)].map AV.s⟩), (31, some ⟨81, 2, [(⟨(⟨#[116, 119, 111]⟩ : ByteArray), (2 : Int)⟩ : DPool)].map DPool.av⟩), (30, some ⟨9, 1, [(⟨#[97, 46, 111]⟩ : ByteArray)].map AV.s⟩), (29, some ⟨9, 1, [(⟨#[98, 46, 99]⟩ : ByteArray)].map AV.s⟩), (28, some ⟨9, 1, [(⟨#[98, 46, 111]⟩ : ByteArray)].map AV.s⟩), (27, some ⟨9, 1, [(⟨#[97, 46, 104]⟩ : ByteArray)].map AV.s⟩), (26, some ⟨9, 1, [(⟨#[97, 46, 99]⟩ : ByteArray)].map AV.s⟩), (25, some ⟨9, 1, [(⟨#[97, 46, 111]⟩ : ByteArray), (⟨#[97, 46, 100]⟩ : ByteArray)].map AV.s⟩), (24, some ⟨9, 1, [(⟨#[97, 46, 111]⟩ : ByteArray), (⟨#[98, 46, 111]⟩ : ByteArray)].map AV.s⟩), (23, some ⟨9, 1, [(⟨#[108, 105, 98]⟩ : ByteArray)].map AV.s⟩), (22, some ⟨76, 7, [(AV.st [(AV.own 23 0 1), (AV.own 24 0 2), (AV.sl 1 true []), (AV.sl 1 true []), (AV.s (⟨#[97, 114]⟩ : ByteArray)), (AV.b false), (AV.s (⟨#[]⟩ : ByteArray))]), (AV.st [(AV.own 25 0 2), (AV.own 26 0 1), (AV.own 27 0 1), (AV.sl 1 true []), (AV.s (⟨#[99, 99, 32, 97]⟩ : ByteArray)), (AV.b true), (AV.s (⟨#[116, 119, 111]⟩ : ByteArray))]), (AV.st [(AV.own 28 0 1), (AV.own 29 0 1), (AV.sl 1 true []), (AV.own 30 0 1), (AV.s (⟨#[99, 99, 32, 98]⟩ : ByteArray)), (AV.b false), (AV.s (⟨#[116, 119, 111]⟩ : ByteArray))])]⟩), (21, some ⟨9, 1, [(⟨#[108, 105, 98]⟩ : ByteArray)].map AV.s⟩), (20, some ⟨81, 2, [(⟨(⟨#[116, 119, 111]⟩ : ByteArray), (2 : Int)⟩ : DPool)].map DPool.av⟩), (19, some ⟨9, 1, [(⟨#[97, 46, 111]⟩ : ByteArray)].map AV.s⟩), (18, some ⟨9, 1, [(⟨#[98, 46, 99]⟩ : ByteArray)].map AV.s⟩), (17, some ⟨9, 1, [(⟨#[98, 46, 111]⟩ : ByteArray)].map AV.s⟩), (16, some ⟨9, 1, [(⟨#[97, 46, 104]⟩ : ByteArray)].map AV.s⟩), (15, some ⟨9, 1, [(⟨#[97, 46, 99]⟩ : ByteArray)].map AV.s⟩), (14, some ⟨9, 1, [(⟨#[97, 46, 111]⟩ : ByteArray), (⟨#[97, 46, 100]⟩ : ByteArray)].map AV.s⟩), (13, some ⟨9, 1, [(⟨#[97, 46, 111]⟩ : ByteArray), (⟨#[98, 46, 111]⟩ : ByteArray)].map AV.s⟩), (12, some ⟨9, 1, [(⟨#[108, 105, 98]⟩ : ByteArray)].map AV.s⟩), (11, some ⟨76, 7, [(AV.st [(AV.own 12 0 1), (AV.own 13 0 2), (AV.sl 1 true []), (AV.sl 1 true []), (AV.s (⟨#[97, 114]⟩ : ByteArray)), (AV.b false), (AV.s (⟨#[]⟩ : ByteArray))]), (AV.st [(AV.own 14 0 2), (AV.own 15 0 1), (AV.own 16 0 1), (AV.sl 1 true []), (AV.s (⟨#[99, 99, 32, 97]⟩ : ByteArray)), (AV.b true), (AV.s (⟨#[116, 119, 111]⟩ : ByteArray))]), (AV.st [(AV.own 17 0 1), (AV.own 18 0 1), (AV.sl 1 true []), (AV.own 19 0 1), (AV.s (⟨#[99, 99, 32, 98]⟩ : ByteArray)), (AV.b false), (AV.s (⟨#[116, 119, 111]⟩ : ByteArray))])]⟩), (10, some ⟨9, 1, [(⟨#[108, 105, 98]⟩ : ByteArray)].map AV.s⟩), (9, some ⟨81, 2, [(⟨(⟨#[116, 119, 111]⟩ : ByteArray), (2 : Int)⟩ : DPool)].map DPool.av⟩), (8, some ⟨9, 1, [(⟨#[97, 46, 111]⟩ : ByteArray)].map AV.s⟩), (7, some ⟨9, 1, [(⟨#[98, 46, 99]⟩ : ByteArray)].map AV.s⟩), (6, some ⟨9, 1, [(⟨#[98, 46, 111]⟩ : ByteArray)].map AV.s⟩), (5, some ⟨9, 1, [(⟨#[97, 46, 104]⟩ : ByteArray)].map AV.s⟩), (4, some ⟨9, 1, [(⟨#[97, 46, 99]⟩ : ByteArray)].map AV.s⟩), (3, some ⟨9, 1, [(⟨#[97, 46, 111]⟩ : ByteArray), (⟨#[97, 46, 100]⟩ : ByteArray)].map AV.s⟩), (2, some ⟨9, 1, [(⟨#[97, 46, 111]⟩ : ByteArray), (⟨#[98, 46, 111]⟩ : ByteArray)].map AV.s⟩), (1, some ⟨9, 1, [(⟨#[108, 105, 98]⟩ : ByteArray)].map AV.s⟩), (0, some ⟨76, 7, [(AV.st [(AV.own 1 0 1), (AV.own 2 0 2), (AV.sl 1 true []), (AV.sl 1 true []), (AV.s (⟨#[97, 114]⟩ : ByteArray)), (AV.b false), (AV.s (⟨#[]⟩ : ByteArray))]), (AV.st [(AV.own 3 0 2), (AV.own 4 0 1), (AV.own 5 0 1), (AV.sl 1 true []), (AV.s (⟨#[99, 99, 32, 97]⟩ : ByteArray)), (AV.b true), (AV.s (⟨#[116, 119, 111]⟩ : ByteArray))]), (AV.st [(AV.own 6 0 1), (AV.own 7 0 1), (AV.sl 1 true []), (AV.own 8 0 1), (AV.s (⟨#[99, 99, 32, 98]⟩ : ByteArray)), (AV.b false), (AV.s (⟨#[116, 119, 111]⟩ : ByteArray))])]⟩)]⟩) kr rfl (wd_law9_given W) kr kr le ?_
  refine AOps.sn (x := (AV.loc 33 0 0)) (h' := ⟨34, [(33, some ⟨26, 3, [(AV.st [(AV.sl 7 true []), (AV.sl 2 true []), (AV.sl 1 true [])])]⟩), (32, some ⟨9, 1, [(⟨#[108, 105, 98]⟩ : ByteArray)].map AV.s⟩), (31, some ⟨81, 2, [(⟨(⟨#[116, 119, 111]⟩ : ByteArray), (2 : Int)⟩ : DPool)].map DPool.av⟩), (30, some ⟨9, 1, [(⟨#[97, 46, 111]⟩ : ByteArray)].map AV.s⟩), (29, some ⟨9, 1, [(⟨#[98, 46, 99]⟩ : ByteArray)].map AV.s⟩), (28, some ⟨9, 1, [(⟨#[98, 46, 111]⟩ : ByteArray)].map AV.s⟩), (27, some ⟨9, 1, [(⟨#[97, 46, 104]⟩ : ByteArray)].map AV.s⟩), (26, some ⟨9, 1, [(⟨#[97, 46, 99]⟩ : ByteArray)].map AV.s⟩), (25, some ⟨9, 1, [(⟨#[97, 46, 111]⟩ : ByteArray), (⟨#[97, 46, 100]⟩ : ByteArray)].map AV.s⟩), (24, some ⟨9, 1, [(⟨#[97, 46, 111]⟩ : ByteArray), (⟨#[98, 46, 111]⟩ : ByteArray)].map AV.s⟩), (23, some ⟨9, 1, [(⟨#[108, 105, 98]⟩ : ByteArray)].map AV.s⟩), (22, some ⟨76, 7, [(AV.st [(AV.own 23 0 1), (AV.own 24 0 2), (AV.sl 1 true []), (AV.sl 1 true []), (AV.s (⟨#[97, 114]⟩ : ByteArray)), (AV.b false), (AV.s (⟨#[]⟩ : ByteArray))]), (AV.st [(AV.own 25 0 2), (AV.own 26 0 1), (AV.own 27 0 1), (AV.sl 1 true []), (AV.s (⟨#[99, 99, 32, 97]⟩ : ByteArray)), (AV.b true), (AV.s (⟨#[116, 119, 111]⟩ : ByteArray))]), (AV.st [(AV.own 28 0 1), (AV.own 29 0 1), (AV.sl 1 true []), (AV.own 30 0 1), (AV.s (⟨#[99, 99, 32, 98]⟩ : ByteArray)), (AV.b false), (AV.s (⟨#[116, 119, 111]⟩ : ByteArray))])]⟩), (21, some ⟨9, 1, [(⟨#[108, 105, 98]⟩ : ByteArray)].map AV.s⟩), (20, some ⟨81, 2, [(⟨(⟨#[116, 119, 111]⟩ : ByteArray), (2 : Int)⟩ : DPool)].map DPool.av⟩), (19, some ⟨9, 1, [(⟨#[97, 46, 111]⟩ : ByteArray)].map AV.s⟩), (18, some ⟨9, 1, [(⟨#[98, 46, 99]⟩ : ByteArray)].map AV.s⟩), (17, some ⟨9, 1, [(⟨#[98, 46, 111]⟩ : ByteArray)].map AV.s⟩), (16, some ⟨9, 1, [(⟨#[97, 46, 104]⟩ : ByteArray)].map AV.s⟩), (15, some ⟨9, 1, [(⟨#[97, 46, 99]⟩ : ByteArray)].map AV.s⟩), (14, some ⟨9, 1, [(⟨#[97, 46, 111]⟩ : ByteArray), (⟨#[97, 46, 100]⟩ : ByteArray)].map AV.s⟩), (13, some ⟨9, 1, [(⟨#[97, 46, 111]⟩ : ByteArray), (⟨#[98, 46, 111]⟩ : ByteArray)].map AV.s⟩), (12, some ⟨9, 1, [(⟨#[108, 105, 98]⟩ : ByteArray)].map AV.s⟩), (11, some ⟨76, 7, [(AV.st [(AV.own 12 0 1), (AV.own 13 0 2), (AV.sl 1 true []), (AV.sl 1 true []), (AV.s (⟨#[97, 114]⟩ : ByteArray)), (AV.b false), (AV.s (⟨#[]⟩ : ByteArray))]), (AV.st [(AV.own 14 0 2), (AV.own 15 0 1), (AV.own 16 0 1), (AV.sl 1 true []), (AV.s (⟨#[99, 99, 32, 97]⟩ : ByteArray)), (AV.b true), (AV.s (⟨#[116, 119, 111]⟩ : ByteArray))]), (AV.st [(AV.own 17 0 1), (AV.own 18 0 1), (AV.sl 1 true []), (AV.own 19 0 1), (AV.s (⟨#[99, 99, 32, 98]⟩ : ByteArray)), (AV.b false), (AV.s (⟨#[116, 119, 111]⟩ : ByteArray))])]⟩), (10, some ⟨9, 1, [(⟨#[108, 105, 98]⟩ : ByteArray)].map AV.s⟩), (9, some ⟨81, 2, [(⟨(⟨#[116, 119, 111]⟩ : ByteArray), (2 : Int)⟩ : DPool)].map DPool.av⟩), (8, some ⟨9, 1, [(⟨#[97, 46, 111]⟩ : ByteArray)].map AV.s⟩), (7, some ⟨9, 1, [(⟨#[98, 46, 99]⟩ : ByteArray)].map AV.s⟩), (6, some ⟨9, 1, [(⟨#[98, 46, 111]⟩ : ByteArray)].map AV.s⟩), (5, some ⟨9, 1, [(⟨#[97, 46, 104]⟩ : ByteArray)].map AV.s⟩), (4, some ⟨9, 1, [(⟨#[97, 46, 99]⟩ : ByteArray)].map AV.s⟩), (3, some ⟨9, 1, [(⟨#[97, 46, 111]⟩ : ByteArray), (⟨#[97, 46, 100]⟩ : ByteArray)].map AV.s⟩), (2, some ⟨9, 1, [(⟨#[97, 46, 111]⟩ : ByteArray), (⟨#[98, 46, 111]⟩ : ByteArray)].map AV.s⟩), (1, some ⟨9, 1, [(⟨#[108, 105, 98]⟩ : ByteArray)].map AV.s⟩), (0, some ⟨76, 7, [(AV.st [(AV.own 1 0 1), (AV.own 2 0 2), (AV.sl 1 true []), (AV.sl 1 true []), (AV.s (⟨#[97, 114]⟩ : ByteArray)), (AV.b false), (AV.s (⟨#[]⟩ : ByteArray))]), (AV.st [(AV.own 3 0 2), (AV.own 4 0 1), (AV.own 5 0 1), (AV.sl 1 true []), (AV.s (⟨#[99, 99, 32, 97]⟩ : ByteArray)), (AV.b true), (AV.s (⟨#[116, 119, 111]⟩ : ByteArray))]), (AV.st [(AV.own 6 0 1), (AV.own 7 0 1), (AV.sl 1 true []), (AV.own 8 0 1), (AV.s (⟨#[99, 99, 32, 98]⟩ : ByteArray)), (AV.b false), (AV.s (⟨#[116, 119, 111]⟩ : ByteArray))])]⟩)]⟩) kr le ?_
  refine AOps.st (x := AV.und) (h' := ⟨34, [(33, some ⟨26, 3, [(AV.st [(AV.own 22 0 3), (AV.own 31 0 1), (AV.own 32 0 1)])]⟩), (32, some ⟨9, 1, [(⟨#[108, 105, 98]⟩ : ByteArray)].map AV.s⟩), (31, some ⟨81, 2, [(⟨(⟨#[116, 119, 111]⟩ : ByteArray), (2 : Int)⟩ : DPool)].map DPool.av⟩), (30, some ⟨9, 1, [(⟨#[97, 46, 111]⟩ : ByteArray)].map AV.s⟩), (29, some ⟨9, 1, [(⟨#[98, 46, 99]⟩ : ByteArray)].map AV.s⟩), (28, some ⟨9, 1, [(⟨#[98, 46, 111]⟩ : ByteArray)].map AV.s⟩), (27, some ⟨9, 1, [(⟨#[97, 46, 104]⟩ : ByteArray)].map AV.s⟩), (26, some ⟨9, 1, [(⟨#[97, 46, 99]⟩ : ByteArray)].map AV.s⟩), (25, some ⟨9, 1, [(⟨#[97, 46, 111]⟩ : ByteArray), (⟨#[97, 46, 100]⟩ : ByteArray)].map AV.s⟩), (24, some ⟨9, 1, [(⟨#[97, 46, 111]⟩ : ByteArray), (⟨#[98, 46, 111]⟩ : ByteArray)].map AV.s⟩), (23, some ⟨9, 1, [(⟨#[108, 105, 98]⟩ : ByteArray)].map AV.s⟩), (22, some ⟨76, 7, [(AV.st [(AV.own 23 0 1), (AV.own 24 0 2), (AV.sl 1 true []), (AV.sl 1 true []), (AV.s (⟨#[97, 114]⟩ : ByteArray)), (AV.b false), (AV.s (⟨#[]⟩ : ByteArray))]), (AV.st [(AV.own 25 0 2), (AV.own 26 0 1), (AV.own 27 0 1), (AV.sl 1 true []), (AV.s (⟨#[99, 99, 32, 97]⟩ : ByteArray)), (AV.b true), (AV.s (⟨#[116, 119, 111]⟩ : ByteArray))]), (AV.st [(AV.own 28 0 1), (AV.own 29 0 1), (AV.sl 1 true []), (AV.own 30 0 1), (AV.s (⟨#[99, 99, 32, 98]⟩ : ByteArray)), (AV.b false), (AV.s (⟨#[116, 119, 111]⟩ : ByteArray))])]⟩), (21, some ⟨9, 1, [(⟨#[108, 105, 98]⟩ : ByteArray)].map AV.s⟩), (20, some ⟨81, 2, [(⟨(⟨#[116, 119, 111]⟩ : ByteArray), (2 : Int)⟩ : DPool)].map DPool.av⟩), (19, some ⟨9, 1, [(⟨#[97, 46, 111]⟩ : ByteArray)].map AV.s⟩), (18, some ⟨9, 1, [(⟨#[98, 46, 99]⟩ : ByteArray)].map AV.s⟩), (17, some ⟨9, 1, [(⟨#[98, 46, 111]⟩ : ByteArray)].map AV.s⟩), (16, some ⟨9, 1, [(⟨#[97, 46, 104]⟩ : ByteArray)].map AV.s⟩), (15, some ⟨9, 1, [(⟨#[97, 46, 99]⟩ : ByteArray)].map AV.s⟩), (14, some ⟨9, 1, [(⟨#[97, 46, 111]⟩ : ByteArray), (⟨#[97, 46, 100]⟩ : ByteArray)].map AV.s⟩), (13, some ⟨9, 1, [(⟨#[97, 46, 111]⟩ : ByteArray), (⟨#[98, 46, 111]⟩ : ByteArray)].map AV.s⟩), (12, some ⟨9, 1, [(⟨#[108, 105, 98]⟩ : ByteArray)].map AV.s⟩), (11, some ⟨76, 7, [(AV.st [(AV.own 12 0 1), (AV.own 13 0 2), (AV.sl 1 true []), (AV.sl 1 true []), (AV.s (⟨#[97, 114]⟩ : ByteArray)), (AV.b false), (AV.s (⟨#[]⟩ : ByteArray))]), (AV.st [(AV.own 14 0 2), (AV.own 15 0 1), (AV.own 16 0 1), (AV.sl 1 true []), (AV.s (⟨#[99, 99, 32, 97]⟩ : ByteArray)), (AV.b true), (AV.s (⟨#[116, 119, 111]⟩ : ByteArray))]), (AV.st [(AV.own 17 0 1), (AV.own 18 0 1), (AV.sl 1 true []), (AV.own 19 0 1), (AV.s (⟨#[99, 99, 32, 98]⟩ : ByteArray)), (AV.b false), (AV.s (⟨#[116, 119, 111]⟩ : ByteArray))])]⟩), (10, some ⟨9, 1, [(⟨#[108, 105, 98]⟩ : ByteArray)].map AV.s⟩), (9, some ⟨81, 2, [(⟨(⟨#[116, 119, 111]⟩ : ByteArray), (2 : Int)⟩ : DPool)].map DPool.av⟩), (8, some ⟨9, 1, [(⟨#[97, 46, 111]⟩ : ByteArray)].map AV.s⟩), (7, some ⟨9, 1, [(⟨#[98, 46, 99]⟩ : ByteArray)].map AV.s⟩), (6, some ⟨9, 1, [(⟨#[98, 46, 111]⟩ : ByteArray)].map AV.s⟩), (5, some ⟨9, 1, [(⟨#[97, 46, 104]⟩ : ByteArray)].map AV.s⟩), (4, some ⟨9, 1, [(⟨#[97, 46, 99]⟩ : ByteArray)].map AV.s⟩), (3, some ⟨9, 1, [(⟨#[97, 46, 111]⟩ : ByteArray), (⟨#[97, 46, 100]⟩ : ByteArray)].map AV.s⟩), (2, some ⟨9, 1, [(⟨#[97, 46, 111]⟩ : ByteArray), (⟨#[98, 46, 111]⟩ : ByteArray)].map AV.s⟩), (1, some ⟨9, 1, [(⟨#[108, 105, 98]⟩ : ByteArray)].map AV.s⟩), (0, some ⟨76, 7, [(AV.st [(AV.own 1 0 1), (AV.own 2 0 2), (AV.sl 1 true []), (AV.sl 1 true []), (AV.s (⟨#[97, 114]⟩ : ByteArray)), (AV.b false), (AV.s (⟨#[]⟩ : ByteArray))]), (AV.st [(AV.own 3 0 2), (AV.own 4 0 1), (AV.own 5 0 1), (AV.sl 1 true []), (AV.s (⟨#[99, 99, 32, 97]⟩ : ByteArray)), (AV.b true), (AV.s (⟨#[116, 119, 111]⟩ : ByteArray))]), (AV.st [(AV.own 6 0 1), (AV.own 7 0 1), (AV.sl 1 true []), (AV.own 8 0 1), (AV.s (⟨#[99, 99, 32, 98]⟩ : ByteArray)), (AV.b false), (AV.s (⟨#[116, 119, 111]⟩ : ByteArray))])]⟩)]⟩) kr ?_
  refine AOps.done ?_
  refine Awp.seq ?_
  refine Awp.region tabS_ok ?_
  refine AOps.sq (x := (AV.loc 33 0 0)) kr le ?_
  refine AOps.sq (x := (AV.own 22 0 3)) kr le ?_
  refine AOps.sn (x := (AV.own 34 0 1)) (h' := ⟨35, [(34, some ⟨9, 1, [(⟨#[108, 105, 98]⟩ : ByteArray)].map AV.s⟩), (33, some ⟨26, 3, [(AV.st [(AV.own 22 0 3), (AV.own 31 0 1), (AV.own 32 0 1)])]⟩), (32, some ⟨9, 1, [(⟨#[108, 105, 98]⟩ : ByteArray)].map AV.s⟩), (31, some ⟨81, 2, [(⟨(⟨#[116, 119, 111]⟩ : ByteArray), (2 : Int)⟩ : DPool)].map DPool.av⟩), (30, some ⟨9, 1, [(⟨#[97, 46, 111]⟩ : ByteArray)].map AV.s⟩), (29, some ⟨9, 1, [(⟨#[98, 46, 99]⟩ : ByteArray)].map AV.s⟩), (28, some ⟨9, 1, [(⟨#[98, 46, 111]⟩ : ByteArray)].map AV.s⟩), (27, some ⟨9, 1, [(⟨#[97, 46, 104]⟩ : ByteArray)].map AV.s⟩), (26, some ⟨9, 1, [(⟨#[97, 46, 99]⟩ : ByteArray)].map AV.s⟩), (25, some ⟨9, 1, [(⟨#[97, 46, 111]⟩ : ByteArray), (⟨#[97, 46, 100]⟩ : ByteArray)].map AV.s⟩), (24, some ⟨9, 1, [(⟨#[97, 46, 111]⟩ : ByteArray), (⟨#[98, 46, 111]⟩ : ByteArray)].map AV.s⟩), (23, some ⟨9, 1, [(⟨#[108, 105, 98]⟩ : ByteArray)].map AV.s⟩), (22, some ⟨76, 7, [(AV.st [(AV.own 23 0 1), (AV.own 24 0 2), (AV.sl 1 true []), (AV.sl 1 true []), (AV.s (⟨#[97, 114]⟩ : ByteArray)), (AV.b false), (AV.s (⟨#[]⟩ : ByteArray))]), (AV.st [(AV.own 25 0 2), (AV.own 26 0 1), (AV.own 27 0 1), (AV.sl 1 true []), (AV.s (⟨#[99, 99, 32, 97]⟩ : ByteArray)), (AV.b true), (AV.s (⟨#[116, 119, 111]⟩ : ByteArray))]), (AV.st [(AV.own 28 0 1), (AV.own 29 0 1), (AV.sl 1 true []), (AV.own 30 0 1), (AV.s (⟨#[99, 99, 32, 98]⟩ : ByteArray)), (AV.b false), (AV.s (⟨#[116, 119, 111]⟩ : ByteArray))])]⟩), (21, some ⟨9, 1, [(⟨#[108, 105, 98]⟩ : ByteArray)].map AV.s⟩), (20, some ⟨81, 2, [(⟨(⟨#[116, 119, 111]⟩ : ByteArray), (2 : Int)⟩ : DPool)].map DPool.av⟩), (19, some ⟨9, 1, [(⟨#[97, 46, 111]⟩ : ByteArray)].map AV.s⟩), (18, some ⟨9, 1, [(⟨#[98, 46, 99]⟩ : ByteArray)].map AV.s⟩), (17, some ⟨9, 1, [(⟨#[98, 46, 111]⟩ : ByteArray)].map AV.s⟩), (16, some ⟨9, 1, [(⟨#[97, 46, 104]⟩ : ByteArray)].map AV.s⟩), (15, some ⟨9, 1, [(⟨#[97, 46, 99]⟩ : ByteArray)].map AV.s⟩), (14, some ⟨9, 1, [(⟨#[97, 46, 111]⟩ : ByteArray), (⟨#[97, 46, 100]⟩ : ByteArray)].map AV.s⟩), (13, some ⟨9, 1, [(⟨#[97, 46, 111]⟩ : ByteArray), (⟨#[98, 46, 111]⟩ : ByteArray)].map AV.s⟩), (12, some ⟨9, 1, [(⟨#[108, 105, 98]⟩ : ByteArray)].map AV.s⟩), (11, some ⟨76, 7, [(AV.st [(AV.own 12 0 1), (AV.own 13 0 2), (AV.sl 1 true []), (AV.sl 1 true []), (AV.s (⟨#[97, 114]⟩ : ByteArray)), (AV.b false), (AV.s (⟨#[]⟩ : ByteArray))]), (AV.st [(AV.own 14 0 2), (AV.own 15 0 1), (AV.own 16 0 1), (AV.sl 1 true []), (AV.s (⟨#[99, 99, 32, 97]⟩ : ByteArray)), (AV.b true), (AV.s (⟨#[116, 119, 111]⟩ : ByteArray))]), (AV.st [(AV.own 17 0 1), (AV.own 18 0 1), (AV.sl 1 true []), (AV.own 19 0 1), (AV.s (⟨#[99, 99, 32, 98]⟩ : ByteArray)), (AV.b false), (AV.s (⟨#[116, 119, 111]⟩ : ByteArray))])]⟩), (10, some ⟨9, 1, [(⟨#[108, 105, 98]⟩ : ByteArray)].map AV.s⟩), (9, some ⟨81, 2, [(⟨(⟨#[116, 119, 111]⟩ : ByteArray), (2 : Int)⟩ : DPool)].map DPool.av⟩), (8, some ⟨9, 1, [(⟨#[97, 46, 111]⟩ : ByteArray)].map AV.s⟩), (7, some ⟨9, 1, [(⟨#[98, 46, 99]⟩ : ByteArray)].map AV.s⟩), (6, some ⟨9, 1, [(⟨#[98, 46, 111]⟩ : ByteArray)].map AV.s⟩), (5, some ⟨9, 1, [(⟨#[97, 46, 104]⟩ : ByteArray)].map AV.s⟩), (4, some ⟨9, 1, [(⟨#[97, 46, 99]⟩ : ByteArray)].map AV.s⟩), (3, some ⟨9, 1, [(⟨#[97, 46, 111]⟩ : ByteArray), (⟨#[97, 46, 100]⟩ : ByteArray)].map AV.s⟩), (2, some ⟨9, 1, [(⟨#[97, 46, 111]⟩ : ByteArray), (⟨#[98, 46, 111]⟩ : ByteArray)].map AV.s⟩), (1, some ⟨9, 1, [(⟨#[108, 105, 98]⟩ : ByteArray)].map AV.s⟩), (0, some ⟨76, 7, [(AV.st [(AV.own 1 0 1), (AV.own 2 0 2), (AV.sl 1 true []), (AV.sl 1 true []), (AV.s (⟨#[97, 114]⟩ : ByteArray)), (AV.b false), (AV.s (⟨#[]⟩ : ByteArray))]), (AV.st [(AV.own 3 0 2), (AV.own 4 0 1), (AV.own 5 0 1), (AV.sl 1 true []), (AV.s (⟨#[99, 99, 32, 97]⟩ : ByteArray)), (AV.b true), (AV.s (⟨#[116, 119, 111]⟩ : ByteArray))]), (AV.st [(AV.own 6 0 1), (AV.own 7 0 1), (AV.sl 1 true []), (AV.own 8 0 1), (AV.s (⟨#[99, 99, 32, 98]⟩ : ByteArray)), (AV.b false), (AV.s (⟨#[116, 119, 111]⟩ : ByteArray))])]⟩)]⟩) kr le ?_
  refine AOps.sq (x := (AV.loc 22 2 0)) kr le ?_
  refine AOps.sq (x := (AV.loc 22 2 0)) kr le ?_
  refine AOps.st (x := AV.und) (h' := ⟨35, [(34, some ⟨9, 1, [(⟨#[108, 105, 98]⟩ : ByteArray)].map AV.s⟩), (33, some ⟨26, 3, [(AV.st [(AV.own 22 0 3), (AV.own 31 0 1), (AV.own 32 0 1)])]⟩), (32, some ⟨9, 1, [(⟨#[108, 105, 98]⟩ : ByteArray)].map AV.s⟩), (31, some ⟨81, 2, [(⟨(⟨#[116, 119, 111]⟩ : ByteArray), (2 : Int)⟩ : DPool)].map DPool.av⟩), (30, some ⟨9, 1, [(⟨#[97, 46, 111]⟩ : ByteArray)].map AV.s⟩), (29, some ⟨9, 1, [(⟨#[98, 46, 99]⟩ : ByteArray)].map AV.s⟩), (28, some ⟨9, 1, [(⟨#[98, 46, 111]⟩ : ByteArray)].map AV.s⟩), (27, some ⟨9, 1, [(⟨#[97, 46, 104]⟩ : ByteArray)].map AV.s⟩), (26, some ⟨9, 1, [(⟨#[97, 46, 99]⟩ : ByteArray)].map AV.s⟩), (25, some ⟨9, 1, [(⟨#[97, 46, 111]⟩ : ByteArray), (⟨#[97, 46, 100]⟩ : ByteArray)].map AV.s⟩), (24, some ⟨9, 1, [(⟨#[97, 46, 111]⟩ : ByteArray), (⟨#[98, 46, 111]⟩ : ByteArray)].map AV.s⟩), (23, some ⟨9, 1, [(⟨#[108, 105, 98]⟩ : ByteArray)].map AV.s⟩), (22, some ⟨76, 7, [(AV.st [(AV.own 23 0 1), (AV.own 24 0 2), (AV.sl 1 true []), (AV.sl 1 true []), (AV.s (⟨#[97, 114]⟩ : ByteArray)), (AV.b false), (AV.s (⟨#[]⟩ : ByteArray))]), (AV.st [(AV.own 25 0 2), (AV.own 26 0 1), (AV.own 27 0 1), (AV.sl 1 true []), (AV.s (⟨#[99, 99, 32, 97]⟩ : ByteArray)), (AV.b true), (AV.s (⟨#[116, 119, 111]⟩ : ByteArray))]), (AV.st [(AV.own 34 0 1), (AV.own 29 0 1), (AV.sl 1 true []), (AV.own 30 0 1), (AV.s (⟨#[99, 99, 32, 98]⟩ : ByteArray)), (AV.b false), (AV.s (⟨#[116, 119, 111]⟩ : ByteArray))])]⟩), (21, some ⟨9, 1, [(⟨#[108, 105, 98]⟩ : ByteArray)].map AV.s⟩), (20, some ⟨81, 2, [(⟨(⟨#[116, 119, 111]⟩ : ByteArray), (2 : Int)⟩ : DPool)].map DPool.av⟩), (19, some ⟨9, 1, [(⟨#[97, 46, 111]⟩ : ByteArray)].map AV.s⟩), (18, some ⟨9, 1, [(⟨#[98, 46, 99]⟩ : ByteArray)].map AV.s⟩), (17, some ⟨9, 1, [(⟨#[98, 46, 111]⟩ : ByteArray)].map AV.s⟩), (16, some ⟨9, 1, [(⟨#[97, 46, 104]⟩ : ByteArray)].map AV.s⟩), (15, some ⟨9, 1, [(⟨#[97, 46, 99]⟩ : ByteArray)].map AV.s⟩), (14, some ⟨9, 1, [(⟨#[97, 46, 111]⟩ : ByteArray), (⟨#[97, 46, 100]⟩ : ByteArray)].map AV.s⟩), (13, some ⟨9, 1, [(⟨#[97, 46, 111]⟩ : ByteArray), (⟨#[98, 46, 111]⟩ : ByteArray)].map AV.s⟩), (12, some ⟨9, 1, [(⟨#[108, 105, 98]⟩ : ByteArray)].map AV.s⟩), (11, some ⟨76, 7, [(AV.st [(AV.own 12 0 1), (AV.own 13 0 2), (AV.sl 1 true []), (AV.sl 1 true []), (AV.s (⟨#[97, 114]⟩ : ByteArray)), (AV.b false), (AV.s (⟨#[]⟩ : ByteArray))]), (AV.st [(AV.own 14 0 2), (AV.own 15 0 1), (AV.own 16 0 1), (AV.sl 1 true []), (AV.s (⟨#[99, 99, 32, 97]⟩ : ByteArray)), (AV.b true), (AV.s (⟨#[116, 119, 111]⟩ : ByteArray))]), (AV.st [(AV.own 17 0 1), (AV.own 18 0 1), (AV.sl 1 true []), (AV.own 19 0 1), (AV.s (⟨#[99, 99, 32, 98]⟩ : ByteArray)), (AV.b false), (AV.s (⟨#[116, 119, 111]⟩ : ByteArray))])]⟩), (10, some ⟨9, 1, [(⟨#[108, 105, 98]⟩ : ByteArray)].map AV.s⟩), (9, some ⟨81, 2, [(⟨(⟨#[116, 119, 111]⟩ : ByteArray), (2 : Int)⟩ : DPool)].map DPool.av⟩), (8, some ⟨9, 1, [(⟨#[97, 46, 111]⟩ : ByteArray)].map AV.s⟩), (7, some ⟨9, 1, [(⟨#[98, 46, 99]⟩ : ByteArray)].map AV.s⟩), (6, some ⟨9, 1, [(⟨#[98, 46, 111]⟩ : ByteArray)].map AV.s⟩), (5, some ⟨9, 1, [(⟨#[97, 46, 104]⟩ : ByteArray)].map AV.s⟩), (4, some ⟨9, 1, [(⟨#[97, 46, 99]⟩ : ByteArray)].map AV.s⟩), (3, some ⟨9, 1, [(⟨#[97, 46, 111]⟩ : ByteArray), (⟨#[97, 46, 100]⟩ : ByteArray)].map AV.s⟩), (2, some ⟨9, 1, [(⟨#[97, 46, 111]⟩ : ByteArray), (⟨#[98, 46, 111]⟩ : ByteArray)].map AV.s⟩), (1, some ⟨9, 1, [(⟨#[108, 105, 98]⟩ : ByteArray)].map AV.s⟩), (0, some ⟨76, 7, [(AV.st [(AV.own 1 0 1), (AV.own 2 0 2), (AV.sl 1 true []), (AV.sl 1 true []), (AV.s (⟨#[97, 114]⟩ : ByteArray)), (AV.b false), (AV.s (⟨#[]⟩ : ByteArray))]), (AV.st [(AV.own 3 0 2), (AV.own 4 0 1), (AV.own 5 0 1), (AV.sl 1 true []), (AV.s (⟨#[99, 99, 32, 97]⟩ : ByteArray)), (AV.b true), (AV.s (⟨#[116, 119, 111]⟩ : ByteArray))]), (AV.st [(AV.own 6 0 1), (AV.own 7 0 1), (AV.sl 1 true []), (AV.own 8 0 1), (AV.s (⟨#[99, 99, 32, 98]⟩ : ByteArray)), (AV.b false), (AV.s (⟨#[116, 119, 111]⟩ : ByteArray))])]⟩)]⟩) kr ?_
  refine AOps.done ?_
  refine Awp.seq ?_
  refine Awp.region tabS_ok ?_
  refine AOps.scD (x := (AV.st [(AV.own 35 0 3), (AV.own 44 0 1), (AV.own 45 0 1)])) (h' := ⟨46, [(45, some ⟨9, 1, [(⟨#[108, 105, 98]⟩ : ByteArray)].map AV.s⟩), (44, some ⟨81, 2, [(⟨(⟨#[116, 119, 111]⟩ : ByteArray), (2 : Int)⟩ : DPool)].map DPool.av⟩), (43, some ⟨9, 1, [(⟨#[97, 46, 111]⟩ : ByteArray)].map AV.s⟩), (42, some ⟨9, 1, [(⟨#[98, 46, 99]⟩ : ByteArray)].map AV.s⟩), (41, some ⟨9, 1, [(⟨#[98, 46, 111]⟩ : ByteArray)].map AV.s⟩), (40, some ⟨9, 1, [(⟨#[97, 46, 104]⟩ : ByteArray)].map AV.s⟩), (39, some ⟨9, 1, [(⟨#[97, 46, 99]⟩ : ByteArray)].map AV.s⟩), (38, some ⟨9, 1, [(⟨#[97, 46, 111]⟩ : ByteArray), (⟨#[97, 46, 100]⟩ : ByteArray)].map AV.s⟩), (37, some ⟨9, 1, [(⟨#[97, 46, 111]⟩ : ByteArray), (⟨#[98, 46, 111]⟩ : ByteArray)].map AV.s⟩), (36, some ⟨9, 1, [(⟨#[108, 105, 98]⟩ : ByteArray)].map AV.s⟩), (35, some ⟨76, 7, [(AV.st [(AV.own 36 0 1), (AV.own 37 0 2), (AV.sl 1 true []), (AV.sl 1 true []), (AV.s (⟨#[97, 114]⟩ : ByteArray)), (AV.b false), (AV.s (⟨#[]⟩ : ByteArray))]), (AV.st [(AV.own 38 0 2), (AV.own 39 0 1), (AV.own 40 0 1), (AV.sl 1 true []), (AV.s (⟨#[99, 99, 32, 97]⟩ : ByteArray)), (AV.b true), (AV.s (⟨#[116, 119, 111]⟩ : ByteArray))]), (AV.st [(AV.own 41 0 1), (AV.own 42 0 1), (AV.sl 1 true []), (AV.own 43 0 1), (AV.s (⟨#[99, 99, 32, 98]⟩ : ByteArray)), (AV.b false), (AV.s (⟨#[116, 119, 111]⟩ : ByteArray))])]⟩), (34, some ⟨9, 1, [(⟨#[108, 105, 98]⟩ : ByteArray)].map AV.s⟩), (33, some ⟨26, 3, [(AV.st [(AV.own 22 0 3), (AV.own 31 0 1), (AV.own 32 0 1)])]⟩), (32, some ⟨9, 1, [(⟨#[108, 105, 98]⟩ : ByteArray)].map AV.s⟩), (31, some ⟨81, 2, [(⟨(⟨#[116, 119, 111]⟩ : ByteArray), (2 : Int)⟩ : DPool)].map DPool.av⟩), (30, some ⟨9, 1, [(⟨#[97, 46, 111]⟩ : ByteArray)].map AV.s⟩), (29, some ⟨9, 1, [(⟨#[98, 46, 99]⟩ : ByteArray)].map AV.s⟩), (28, some ⟨9, 1, [(⟨#[98, 46, 111]⟩ : ByteArray)].map AV.s⟩), (27, some ⟨9, 1, [(⟨#[97, 46, 104]⟩ : ByteArray)].map AV.s⟩), (26, some ⟨9, 1, [(⟨#[97, 46, 99]⟩ : ByteArray)].map AV.s⟩), (25, some ⟨9, 1, [(⟨#[97, 46, 111]⟩ : ByteArray), (⟨#[97, 46, 100]⟩ : ByteArray)].map AV.s⟩), (24, some ⟨9, 1, [(⟨#[97, 46, 111]⟩ : ByteArray), (⟨#[98, 46, 111]⟩ : ByteArray)].map AV.s⟩), (23, some ⟨9, 1, [(⟨#[108, 105, 98]⟩ : ByteArray)].map AV.s⟩), (22, some ⟨76, 7, [(AV.st [(AV.own 23 0 1), (AV.own 24 0 2), (AV.sl 1 true []), (AV.sl 1 true []), (AV.s (⟨#[97, 114]⟩ : ByteArray)), (AV.b false), (AV.s (⟨#[]⟩ : ByteArray))]), (AV.st [(AV.own 25 0 2), (AV.own 26 0 1), (AV.own 27 0 1), (AV.sl 1 true []), (AV.s (⟨#[99, 99, 32, 97]⟩ : ByteArray)), (AV.b true), (AV.s (⟨#[116, 119, 111]⟩ : ByteArray))]), (AV.st [(AV.own 34 0 1), (AV.own 29 0 1), (AV.sl 1 true []), (AV.own 30 0 1), (AV.s (⟨#[99, 99, 32, 98]⟩ : ByteArray)), (AV.b false), (AV.s (⟨#[116, 119, 111]⟩ : ByteArray))])]⟩), (21, some ⟨9, 1, [(⟨#[108, 105, 98]⟩ : ByteArray)].map AV.s⟩), (20, some ⟨81, 2, [(⟨(⟨#[116, 119, 111]⟩ : ByteArray), (2 : Int)⟩ : DPool)].map DPool.av⟩), (19, some ⟨9, 1, [(⟨#[97, 46, 111]⟩ : ByteArray)].map AV.s⟩), (18, some ⟨9, 1, [(⟨#[98, 46, 99]⟩ : ByteArray)].map AV.s⟩), (17, some ⟨9, 1, [(⟨#[98, 46, 111]⟩ : ByteArray)].map AV.s⟩), (16, some ⟨9, 1, [(⟨#[97, 46, 104]⟩ : ByteArray)].map AV.s⟩), (15, some ⟨9, 1, [(⟨#[97, 46, 99]⟩ : ByteArray)].map AV.s⟩), (14, some ⟨9, 1, [(⟨#[97, 46, 111]⟩ : ByteArray), (⟨#[97, 46, 100]⟩ : ByteArray)].map AV.s⟩), (13, some ⟨9, 1, [(⟨#[97, 46, 111]⟩ : ByteArray), (⟨#[98, 46, 111]⟩ : ByteArray)].map AV.s⟩), (12, some ⟨9, 1, [(⟨#[108, 105, 98]⟩ : ByteArray)].map AV.s⟩), (11, some ⟨76, 7, [(AV.st [(AV.own 12 0 1), (AV.own 13 0 2), (AV.sl 1 true []), (AV.sl 1 true []), (AV.s (⟨#[97, 114]⟩ : ByteArray)), (AV.b false), (AV.s (⟨#[]⟩ : ByteArray))]), (AV.st [(AV.own 14 0 2), (AV.own 15 0 1), (AV.own 16 0 1), (AV.sl 1 true []), (AV.s (⟨#[99, 99, 32, 97]⟩ : ByteArray)), (AV.b true), (AV.s (⟨#[116, 119, 111]⟩ : ByteArray))]), (AV.st [(AV.own 17 0 1), (AV.own 18 0 1), (AV.sl 1 true []), (AV.own 19 0 1), (AV.s (⟨#[99, 99, 32, 98]⟩ : ByteArray)), (AV.b false), (AV.s (⟨#[116, 119, 111]⟩ : ByteArray))])]⟩), (10, some ⟨9, 1, [(⟨#[108, 105, 98]⟩ : ByteArray)].map AV.s⟩), (9, some ⟨81, 2, [(⟨(⟨#[116, 119, 111]⟩ : ByteArray), (2 : Int)⟩ : DPool)].map DPool.av⟩), (8, some ⟨9, 1, [(⟨#[97, 46, 111]⟩ : ByteArray)].map AV.s⟩), (7, some ⟨9, 1, [(⟨#[98, 46, 99]⟩ : ByteArray)].map AV.s⟩), (6, some ⟨9, 1, [(⟨#[98, 46, 111]⟩ : ByteArray)].map AV.s⟩), (5, some ⟨9, 1, [(⟨#[97, 46, 104]⟩ : ByteArray)].map AV.s⟩), (4, some ⟨9, 1, [(⟨#[97, 46, 99]⟩ : ByteArray)].map AV.s⟩), (3, some ⟨9, 1, [(⟨#[97, 46, 111]⟩ : ByteArray), (⟨#[97, 46, 100]⟩ : ByteArray)].map AV.s⟩), (2, some ⟨9, 1, [(⟨#[97, 46, 111]⟩ : ByteArray), (⟨#[98, 46, 111]⟩ : ByteArray)].map AV.s⟩), (1, some ⟨9, 1, [(⟨#[108, 105, 98]⟩ : ByteArray)].map AV.s⟩), (0, some ⟨76, 7, [(AV.st [(AV.own 1 0 1), (AV.own 2 0 2), (AV.sl 1 true []), (AV.sl 1 true []), (AV.s (⟨#[97, 114]⟩ : ByteArray)), (AV.b false), (AV.s (⟨#[]⟩ : ByteArray))]), (AV.st [(AV.own 3 0 2), (AV.own 4 0 1), (AV.own 5 0 1), (AV.sl 1 true []), (AV.s (⟨#[99, 99, 32, 97]⟩ : ByteArray)), (AV.b true), (AV.s (⟨#[116, 119, 111]⟩ : ByteArray))]), (AV.st [(AV.own 6 0 1), (AV.own 7 0 1), (AV.sl 1 true []), (AV.own 8 0 1), (AV.s (⟨#[99, 99, 32, 98]⟩ : ByteArray)), (AV.b false), (AV.s (⟨#[116, 119, 111]⟩ : ByteArray))])]⟩)]⟩) kr rfl (wd_law9_given W) kr kr le ?_
  refine AOps.sn (x := (AV.loc 46 0 0)) (h' := ⟨47, [(46, some ⟨26, 3, [(AV.st [(AV.sl 7 true []), (AV.sl 2 true []), (AV.sl 1 true [])])]⟩), (45, some ⟨9, 1, [(⟨#[108, 105, 98]⟩ : ByteArray)].map AV.s⟩), (44, some ⟨81, 2, [(⟨(⟨#[116, 119, 111]⟩ : ByteArray), (2 : Int)⟩ : DPool)].map DPool.av⟩), (43, some ⟨9, 1, [(⟨#[97, 46, 111]⟩ : ByteArray)].map AV.s⟩), (42, some ⟨9, 1, [(⟨#[98, 46, 99]⟩ : ByteArray)].map AV.s⟩), (41, some ⟨9, 1, [(⟨#[98, 46, 111]⟩ : ByteArray)].map AV.s⟩), (40, some ⟨9, 1, [(⟨#[97, 46, 104]⟩ : ByteArray)].map AV.s⟩), (39, some ⟨9, 1, [(⟨#[97, 46, 99]⟩ : ByteArray)].map AV.s⟩), (38, some ⟨9, 1, [(⟨#[97, 46, 111]⟩ : ByteArray), (⟨#[97, 46, 100]⟩ : ByteArray)].map AV.s⟩), (37, some ⟨9, 1, [(⟨#[97, 46, 111]⟩ : ByteArray), (⟨#[98, 46, 111]⟩ : ByteArray)].map AV.s⟩), (36, some ⟨9, 1, [(⟨#[108, 105, 98]⟩ : ByteArray)].map AV.s⟩), (35, some ⟨76, 7, [(AV.st [(AV.own 36 0 1), (AV.own 37 0 2), (AV.sl 1 true []), (AV.sl 1 true []), (AV.s (⟨#[97, 114]⟩ : ByteArray)), (AV.b false), (AV.s (⟨#[]⟩ : ByteArray))]), (AV.st [(AV.own 38 0 2), (AV.own 39 0 1), (AV.own 40 0 1), (AV.sl 1 true []), (AV.s (⟨#[99, 99, 32, 97]⟩ : ByteArray)), (AV.b true), (AV.s (⟨#[116, 119, 111]⟩ : ByteArray))]), (AV.st [(AV.own 41 0 1), (AV.own 42 0 1), (AV.sl 1 true []), (AV.own 43 0 1), (AV.s (⟨#[99, 99, 32, 98]⟩ : ByteArray)), (AV.b false), (AV.s (⟨#[116, 119, 111]⟩ : ByteArray))])]⟩), (34, some ⟨9, 1, [(⟨#[108, 105, 98]⟩ : ByteArray)].map AV.s⟩), (33, some ⟨26, 3, [(AV.st [(AV.own 22 0 3), (AV.own 31 0 1), (AV.own 32 0 1)])]⟩), (32, some ⟨9, 1, [(⟨#[108, 105, 98]⟩ : ByteArray)].map AV.s⟩), (31, some ⟨81, 2, [(⟨(⟨#[116, 119, 111]⟩ : ByteArray), (2 : Int)⟩ : DPool)].map DPool.av⟩), (30, some ⟨9, 1, [(⟨#[97, 46, 111]⟩ : ByteArray)].map AV.s⟩), (29, some ⟨9, 1, [(⟨#[98, 46, 99]⟩ : ByteArray)].map AV.s⟩), (28, some ⟨9, 1, [(⟨#[98, 46, 111]⟩ : ByteArray)].map AV.s⟩), (27, some ⟨9, 1, [(⟨#[97, 46, 104]⟩ : ByteArray)].map AV.s⟩), (26, some ⟨9, 1, [(⟨#[97, 46, 99]⟩ : ByteArray)].map AV.s⟩), (25, some ⟨9, 1, [(⟨#[97, 46, 111]⟩ : ByteArray), (⟨#[97, 46, 100]⟩ : ByteArray)].map AV.s⟩), (24, some ⟨9, 1, [(⟨#[97, 46, 111]⟩ : ByteArray), (⟨#[98, 46, 111]⟩ : ByteArray)].map AV.s⟩), (23, some ⟨9, 1, [(⟨#[108, 105, 98]⟩ : ByteArray)].map AV.s⟩), (22, some ⟨76, 7, [(AV.st [(AV.own 23 0 1), (AV.own 24 0 2), (AV.sl 1 true []), (AV.sl 1 true []), (AV.s (⟨#[97, 114]⟩ : ByteArray)), (AV.b false), (AV.s (⟨#[]⟩ : ByteArray))]), (AV.st [(AV.own 25 0 2), (AV.own 26 0 1), (AV.own 27 0 1), (AV.sl 1 true []), (AV.s (⟨#[99, 99, 32, 97]⟩ : ByteArray)), (AV.b true), (AV.s (⟨#[116, 119, 111]⟩ : ByteArray))]), (AV.st [(AV.own 34 0 1), (AV.own 29 0 1), (AV.sl 1 true []), (AV.own 30 0 1), (AV.s (⟨#[99, 99, 32, 98]⟩ : ByteArray)), (AV.b false), (AV.s (⟨#[116, 119, 111]⟩ : ByteArray))])]⟩), (21, some ⟨9, 1, [(⟨#[108, 105, 98]⟩ : ByteArray)].map AV.s⟩), (20, some ⟨81, 2, [(⟨(⟨#[116, 119, 111]⟩ : ByteArray), (2 : Int)⟩ : DPool)].map DPool.av⟩), (19, some ⟨9, 1, [(⟨#[97, 46, 111]⟩ : ByteArray)].map AV.s⟩), (18, some ⟨9, 1, [(⟨#[98, 46, 99]⟩ : ByteArray)].map AV.s⟩), (17, some ⟨9, 1, [(⟨#[98, 46, 111]⟩ : ByteArray)].map AV.s⟩), (16, some ⟨9, 1, [(⟨#[97, 46, 104]⟩ : ByteArray)].map AV.s⟩), (15, some ⟨9, 1, [(⟨#[97, 46, 99]⟩ : ByteArray)].map AV.s⟩), (14, some ⟨9, 1, [(⟨#[97, 46, 111]⟩ : ByteArray), (⟨#[97, 46, 100]⟩ : ByteArray)].map AV.s⟩), (13, some ⟨9, 1, [(⟨#[97, 46, 111]⟩ : ByteArray), (⟨#[98, 46, 111]⟩ : ByteArray)].map AV.s⟩), (12, some ⟨9, 1, [(⟨#[108, 105, 98]⟩ : ByteArray)].map AV.s⟩), (11, some ⟨76, 7, [(AV.st [(AV.own 12 0 1), (AV.own 13 0 2), (AV.sl 1 true []), (AV.sl 1 true []), (AV.s (⟨#[97, 114]⟩ : ByteArray)), (AV.b false), (AV.s (⟨#[]⟩ : ByteArray))]), (AV.st [(AV.own 14 0 2), (AV.own 15 0 1), (AV.own 16 0 1), (AV.sl 1 true []), (AV.s (⟨#[99, 99, 32, 97]⟩ : ByteArray)), (AV.b true), (AV.s (⟨#[116, 119, 111]⟩ : ByteArray))]), (AV.st [(AV.own 17 0 1), (AV.own 18 0 1), (AV.sl 1 true []), (AV.own 19 0 1), (AV.s (⟨#[99, 99, 32, 98]⟩ : ByteArray)), (AV.b false), (AV.s (⟨#[116, 119, 111]⟩ : ByteArray))])]⟩), (10, some ⟨9, 1, [(⟨#[108, 105, 98]⟩ : ByteArray)].map AV.s⟩), (9, some ⟨81, 2, [(⟨(⟨#[116, 119, 111]⟩ : ByteArray), (2 : Int)⟩ : DPool)].map DPool.av⟩), (8, some ⟨9, 1, [(⟨#[97, 46, 111]⟩ : ByteArray)].map AV.s⟩), (7, some ⟨9, 1, [(⟨#[98, 46, 99]⟩ : ByteArray)].map AV.s⟩), (6, some ⟨9, 1, [(⟨#[98, 46, 111]⟩ : ByteArray)].map AV.s⟩), (5, some ⟨9, 1, [(⟨#[97, 46, 104]⟩ : ByteArray)].map AV.s⟩), (4, some ⟨9, 1, [(⟨#[97, 46, 99]⟩ : ByteArray)].map AV.s⟩), (3, some ⟨9, 1, [(⟨#[97, 46, 111]⟩ : ByteArray), (⟨#[97, 46, 100]⟩ : ByteArray)].map AV.s⟩), (2, some ⟨9, 1, [(⟨#[97, 46, 111]⟩ : ByteArray), (⟨#[98, 46, 111]⟩ : ByteArray)].map AV.s⟩), (1, some ⟨9, 1, [(⟨#[108, 105, 98]⟩ : ByteArray)].map AV.s⟩), (0, some ⟨76, 7, [(AV.st [(AV.own 1 0 1), (AV.own 2 0 2), (AV.sl 1 true []), (AV.sl 1 true []), (AV.s (⟨#[97, 114]⟩ : ByteArray)), (AV.b false), (AV.s (⟨#[]⟩ : ByteArray))]), (AV.st [(AV.own 3 0 2), (AV.own 4 0 1), (AV.own 5 0 1), (AV.sl 1 true []), (AV.s (⟨#[99, 99, 32, 97]⟩ : ByteArray)), (AV.b true), (AV.s (⟨#[116, 119, 111]⟩ : ByteArray))]), (AV.st [(AV.own 6 0 1), (AV.own 7 0 1), (AV.sl 1 true []), (AV.own 8 0 1), (AV.s (⟨#[99, 99, 32, 98]⟩ : ByteArray)), (AV.b false), (AV.s (⟨#[116, 119, 111]⟩ : ByteArray))])]⟩)]⟩) kr le ?_
  refine AOps.st (x := AV.und) (h' := ⟨47, [(46, some ⟨26, 3, [(AV.st [(AV.own 35 0 3), (AV.own 44 0 1), (AV.own 45 0 1)])]⟩), (45, some ⟨9, 1, [(⟨#[108, 105, 98]⟩ : ByteArray)].map AV.s⟩), (44, some ⟨81, 2, [(⟨(⟨#[116, 119, 111]⟩ : ByteArray), (2 : Int)⟩ : DPool)].map DPool.av⟩), (43, some ⟨9, 1, [(⟨#[97, 46, 111]⟩ : ByteArray)].map AV.s⟩), (42, some ⟨9, 1, [(⟨#[98, 46, 99]⟩ : ByteArray)].map AV.s⟩), (41, some ⟨9, 1, [(⟨#[98, 46, 111]⟩ : ByteArray)].map AV.s⟩), (40, some ⟨9, 1, [(⟨#[97, 46, 104]⟩ : ByteArray)].map AV.s⟩), (39, some ⟨9, 1, [(⟨#[97, 46, 99]⟩ : ByteArray)].map AV.s⟩), (38, some ⟨9, 1, [(⟨#[97, 46, 111]⟩ : ByteArray), (⟨#[97, 46, 100]⟩ : ByteArray)].map AV.s⟩), (37, some ⟨9, 1, [(⟨#[97, 46, 111]⟩ : ByteArray), (⟨#[98, 46, 111]⟩ : ByteArray)].map AV.s⟩), (36, some ⟨9, 1, [(⟨#[108, 105, 98]⟩ : ByteArray)].map AV.s⟩), (35, some ⟨76, 7, [(AV.st [(AV.own 36 0 1), (AV.own 37 0 2), (AV.sl 1 true []), (AV.sl 1 true []), (AV.s (⟨#[97, 114]⟩ : ByteArray)), (AV.b false), (AV.s (⟨#[]⟩ : ByteArray))]), (AV.st [(AV.own 38 0 2), (AV.own 39 0 1), (AV.own 40 0 1), (AV.sl 1 true []), (AV.s (⟨#[99, 99, 32, 97]⟩ : ByteArray)), (AV.b true), (AV.s (⟨#[116, 119, 111]⟩ : ByteArray))]), (AV.st [(AV.own 41 0 1), (AV.own 42 0 1), (AV.sl 1 true []), (AV.own 43 0 1), (AV.s (⟨#[99, 99, 32, 98]⟩ : ByteArray)), (AV.b false), (AV.s (⟨#[116, 119, 111]⟩ : ByteArray))])]⟩), (34, some ⟨9, 1, [(⟨#[108, 105, 98]⟩ : ByteArray)].map AV.s⟩), (33, some ⟨26, 3, [(AV.st [(AV.own 22 0 3), (AV.own 31 0 1), (AV.own 32 0 1)])]⟩), (32, some ⟨9, 1, [(⟨#[108, 105, 98]⟩ : ByteArray)].map AV.s⟩), (31, some ⟨81, 2, [(⟨(⟨#[116, 119, 111]⟩ : ByteArray), (2 : Int)⟩ : DPool)].map DPool.av⟩), (30, some ⟨9, 1, [(⟨#[97, 46, 111]⟩ : ByteArray)].map AV.s⟩), (29, some ⟨9, 1, [(⟨#[98, 46, 99]⟩ : ByteArray)].map AV.s⟩), (28, some ⟨9, 1, [(⟨#[98, 46, 111]⟩ : ByteArray)].map AV.s⟩), (27, some ⟨9, 1, [(⟨#[97, 46, 104]⟩ : ByteArray)].map AV.s⟩), (26, some ⟨9, 1, [(⟨#[97, 46, 99]⟩ : ByteArray)].map AV.s⟩), (25, some ⟨9, 1, [(⟨#[97, 46, 111]⟩ : ByteArray), (⟨#[97, 46, 100]⟩ : ByteArray)].map AV.s⟩), (24, some ⟨9, 1, [(⟨#[97, 46, 111]⟩ : ByteArray), (⟨#[98, 46, 111]⟩ : ByteArray)].map AV.s⟩), (23, some ⟨9, 1, [(⟨#[108, 105, 98]⟩ : ByteArray)].map AV.s⟩), (22, some ⟨76, 7, [(AV.st [(AV.own 23 0 1), (AV.own 24 0 2), (AV.sl 1 true []), (AV.sl 1 true []), (AV.s (⟨#[97, 114]⟩ : ByteArray)), (AV.b false), (AV.s (⟨#[]⟩ : ByteArray))]), (AV.st [(AV.own 25 0 2), (AV.own 26 0 1), (AV.own 27 0 1), (AV.sl 1 true []), (AV.s (⟨#[99, 99, 32, 97]⟩ : ByteArray)), (AV.b true), (AV.s (⟨#[116, 119, 111]⟩ : ByteArray))]), (AV.st [(AV.own 34 0 1), (AV.own 29 0 1), (AV.sl 1 true []), (AV.own 30 0 1), (AV.s (⟨#[99, 99, 32, 98]⟩ : ByteArray)), (AV.b false), (AV.s (⟨#[116, 119, 111]⟩ : ByteArray))])]⟩), (21, some ⟨9, 1, [(⟨#[108, 105, 98]⟩ : ByteArray)].map AV.s⟩), (20, some ⟨81, 2, [(⟨(⟨#[116, 119, 111]⟩ : ByteArray), (2 : Int)⟩ : DPool)].map DPool.av⟩), (19, some ⟨9, 1, [(⟨#[97, 46, 111]⟩ : ByteArray)].map AV.s⟩), (18, some ⟨9, 1, [(⟨#[98, 46, 99]⟩ : ByteArray)].map AV.s⟩), (17, some ⟨9, 1, [(⟨#[98, 46, 111]⟩ : ByteArray)].map AV.s⟩), (16, some ⟨9, 1, [(⟨#[97, 46, 104]⟩ : ByteArray)].map AV.s⟩), (15, some ⟨9, 1, [(⟨#[97, 46, 99]⟩ : ByteArray)].map AV.s⟩), (14, some ⟨9, 1, [(⟨#[97, 46, 111]⟩ : ByteArray), (⟨#[97, 46, 100]⟩ : ByteArray)].map AV.s⟩), (13, some ⟨9, 1, [(⟨#[97, 46, 111]⟩ : ByteArray), (⟨#[98, 46, 111]⟩ : ByteArray)].map AV.s⟩), (12, some ⟨9, 1, [(⟨#[108, 105, 98]⟩ : ByteArray)].map AV.s⟩), (11, some ⟨76, 7, [(AV.st [(AV.own 12 0 1), (AV.own 13 0 2), (AV.sl 1 true []), (AV.sl 1 true []), (AV.s (⟨#[97, 114]⟩ : ByteArray)), (AV.b false), (AV.s (⟨#[]⟩ : ByteArray))]), (AV.st [(AV.own 14 0 2), (AV.own 15 0 1), (AV.own 16 0 1), (AV.sl 1 true []), (AV.s (⟨#[99, 99, 32, 97]⟩ : ByteArray)), (AV.b true), (AV.s (⟨#[116, 119, 111]⟩ : ByteArray))]), (AV.st [(AV.own 17 0 1), (AV.own 18 0 1), (AV.sl 1 true []), (AV.own 19 0 1), (AV.s (⟨#[99, 99, 32, 98]⟩ : ByteArray)), (AV.b false), (AV.s (⟨#[116, 119, 111]⟩ : ByteArray))])]⟩), (10, some ⟨9, 1, [(⟨#[108, 105, 98]⟩ : ByteArray)].map AV.s⟩), (9, some ⟨81, 2, [(⟨(⟨#[116, 119, 111]⟩ : ByteArray), (2 : Int)⟩ : DPool)].map DPool.av⟩), (8, some ⟨9, 1, [(⟨#[97, 46, 111]⟩ : ByteArray)].map AV.s⟩), (7, some ⟨9, 1, [(⟨#[98, 46, 99]⟩ : ByteArray)].map AV.s⟩), (6, some ⟨9, 1, [(⟨#[98, 46, 111]⟩ : ByteArray)].map AV.s⟩), (5, some ⟨9, 1, [(⟨#[97, 46, 104]⟩ : ByteArray)].map AV.s⟩), (4, some ⟨9, 1, [(⟨#[97, 46, 99]⟩ : ByteArray)].map AV.s⟩), (3, some ⟨9, 1, [(⟨#[97, 46, 111]⟩ : ByteArray), (⟨#[97, 46, 100]⟩ : ByteArray)].map AV.s⟩), (2, some ⟨9, 1, [(⟨#[97, 46, 111]⟩ : ByteArray), (⟨#[98, 46, 111]⟩ : ByteArray)].map AV.s⟩), (1, some ⟨9, 1, [(⟨#[108, 105, 98]⟩ : ByteArray)].map AV.s⟩), (0, some ⟨76, 7, [(AV.st [(AV.own 1 0 1), (AV.own 2 0 2), (AV.sl 1 true []), (AV.sl 1 true []), (AV.s (⟨#[97, 114]⟩ : ByteArray)), (AV.b false), (AV.s (⟨#[]⟩ : ByteArray))]), (AV.st [(AV.own 3 0 2), (AV.own 4 0 1), (AV.own 5 0 1), (AV.sl 1 true []), (AV.s (⟨#[99, 99, 32, 97]⟩ : ByteArray)), (AV.b true), (AV.s (⟨#[116, 119, 111]⟩ : ByteArray))]), (AV.st [(AV.own 6 0 1), (AV.own 7 0 1), (AV.sl 1 true []), (AV.own 8 0 1), (AV.s (⟨#[99, 99, 32, 98]⟩ : ByteArray)), (AV.b false), (AV.s (⟨#[116, 119, 111]⟩ : ByteArray))])]⟩)]⟩) kr ?_
  refine AOps.done ?_
  refine Awp.seq ?_
  refine Awp.region tabS_ok ?_
  refine AOps.sq (x := (AV.loc 46 0 0)) kr le ?_
  refine AOps.sq (x := (AV.own 35 0 3)) kr le ?_
  refine AOps.sq (x := (AV.loc 35 2 0)) kr le ?_
  refine AOps.sq (x := (AV.loc 35 2 6)) kr le ?_
  refine AOps.st (x := AV.und) (h' := ⟨47, [(46, some ⟨26, 3, [(AV.st [(AV.own 35 0 3), (AV.own 44 0 1), (AV.own 45 0 1)])]⟩), (45, some ⟨9, 1, [(⟨#[108, 105, 98]⟩ : ByteArray)].map AV.s⟩), (44, some ⟨81, 2, [(⟨(⟨#[116, 119, 111]⟩ : ByteArray), (2 : Int)⟩ : DPool)].map DPool.av⟩), (43, some ⟨9, 1, [(⟨#[97, 46, 111]⟩ : ByteArray)].map AV.s⟩), (42, some ⟨9, 1, [(⟨#[98, 46, 99]⟩ : ByteArray)].map AV.s⟩), (41, some ⟨9, 1, [(⟨#[98, 46, 111]⟩ : ByteArray)].map AV.s⟩), (40, some ⟨9, 1, [(⟨#[97, 46, 104]⟩ : ByteArray)].map AV.s⟩), (39, some ⟨9, 1, [(⟨#[97, 46, 99]⟩ : ByteArray)].map AV.s⟩), (38, some ⟨9, 1, [(⟨#[97, 46, 111]⟩ : ByteArray), (⟨#[97, 46, 100]⟩ : ByteArray)].map AV.s⟩), (37, some ⟨9, 1, [(⟨#[97, 46, 111]⟩ : ByteArray), (⟨#[98, 46, 111]⟩ : ByteArray)].map AV.s⟩), (36, some ⟨9, 1, [(⟨#[108, 105, 98]⟩ : ByteArray)].map AV.s⟩), (35, some ⟨76, 7, [(AV.st [(AV.own 36 0 1), (AV.own 37 0 2), (AV.sl 1 true []), (AV.sl 1 true []), (AV.s (⟨#[97, 114]⟩ : ByteArray)), (AV.b false), (AV.s (⟨#[]⟩ : ByteArray))]), (AV.st [(AV.own 38 0 2), (AV.own 39 0 1), (AV.own 40 0 1), (AV.sl 1 true []), (AV.s (⟨#[99, 99, 32, 97]⟩ : ByteArray)), (AV.b true), (AV.s (⟨#[116, 119, 111]⟩ : ByteArray))]), (AV.st [(AV.own 41 0 1), (AV.own 42 0 1), (AV.sl 1 true []), (AV.own 43 0 1), (AV.s (⟨#[99, 99, 32, 98]⟩ : ByteArray)), (AV.b false), (AV.s (⟨#[111, 110, 101]⟩ : ByteArray))])]⟩), (34, some ⟨9, 1, [(⟨#[108, 105, 98]⟩ : ByteArray)].map AV.s⟩), (33, some ⟨26, 3, [(AV.st [(AV.own 22 0 3), (AV.own 31 0 1), (AV.own 32 0 1)])]⟩), (32, some ⟨9, 1, [(⟨#[108, 105, 98]⟩ : ByteArray)].map AV.s⟩), (31, some ⟨81, 2, [(⟨(⟨#[116, 119, 111]⟩ : ByteArray), (2 : Int)⟩ : DPool)].map DPool.av⟩), (30, some ⟨9, 1, [(⟨#[97, 46, 111]⟩ : ByteArray)].map AV.s⟩), (29, some ⟨9, 1, [(⟨#[98, 46, 99]⟩ : ByteArray)].map AV.s⟩), (28, some ⟨9, 1, [(⟨#[98, 46, 111]⟩ : ByteArray)].map AV.s⟩), (27, some ⟨9, 1, [(⟨#[97, 46, 104]⟩ : ByteArray)].map AV.s⟩), (26, some ⟨9, 1, [(⟨#[97, 46, 99]⟩ : ByteArray)].map AV.s⟩), (25, some ⟨9, 1, [(⟨#[97, 46, 111]⟩ : ByteArray), (⟨#[97, 46, 100]⟩ : ByteArray)].map AV.s⟩), (24, some ⟨9, 1, [(⟨#[97, 46, 111]⟩ : ByteArray), (⟨#[98, 46, 111]⟩ : ByteArray)].map AV.s⟩), (23, some ⟨9, 1, [(⟨#[108, 105, 98]⟩ : ByteArray)].map AV.s⟩), (22, some ⟨76, 7, [(AV.st [(AV.own 23 0 1), (AV.own 24 0 2), (AV.sl 1 true []), (AV.sl 1 true []), (AV.s (⟨#[97, 114]⟩ : ByteArray)), (AV.b false), (AV.s (⟨#[]⟩ : ByteArray))]), (AV.st [(AV.own 25 0 2), (AV.own 26 0 1), (AV.own 27 0 1), (AV.sl 1 true []), (AV.s (⟨#[99, 99, 32, 97]⟩ : ByteArray)), (AV.b true), (AV.s (⟨#[116, 119, 111]⟩ : ByteArray))]), (AV.st [(AV.own 34 0 1), (AV.own 29 0 1), (AV.sl 1 true []), (AV.own 30 0 1), (AV.s (⟨#[99, 99, 32, 98]⟩ : ByteArray)), (AV.b false), (AV.s (⟨#[116, 119, 111]⟩ : ByteArray))])]⟩), (21, some ⟨9, 1, [(⟨#[108, 105, 98]⟩ : ByteArray)].map AV.s⟩), (20, some ⟨81, 2, [(⟨(⟨#[116, 119, 111]⟩ : ByteArray), (2 : Int)⟩ : DPool)].map DPool.av⟩), (19, some ⟨9, 1, [(⟨#[97, 46, 111]⟩ : ByteArray)].map AV.s⟩), (18, some ⟨9, 1, [(⟨#[98, 46, 99]⟩ : ByteArray)].map AV.s⟩), (17, some ⟨9, 1, [(⟨#[98, 46, 111]⟩ : ByteArray)].map AV.s⟩), (16, some ⟨9, 1, [(⟨#[97, 46, 104]⟩ : ByteArray)].map AV.s⟩), (15, some ⟨9, 1, [(⟨#[97, 46, 99]⟩ : ByteArray)].map AV.s⟩), (14, some ⟨9, 1, [(⟨#[97, 46, 111]⟩ : ByteArray), (⟨#[97, 46, 100]⟩ : ByteArray)].map AV.s⟩), (13, some ⟨9, 1, [(⟨#[97, 46, 111]⟩ : ByteArray), (⟨#[98, 46, 111]⟩ : ByteArray)].map AV.s⟩), (12, some ⟨9, 1, [(⟨#[108, 105, 98]⟩ : ByteArray)].map AV.s⟩), (11, some ⟨76, 7, [(AV.st [(AV.own 12 0 1), (AV.own 13 0 2), (AV.sl 1 true []), (AV.sl 1 true []), (AV.s (⟨#[97, 114]⟩ : ByteArray)), (AV.b false), (AV.s (⟨#[]⟩ : ByteArray))]), (AV.st [(AV.own 14 0 2), (AV.own 15 0 1), (AV.own 16 0 1), (AV.sl 1 true []), (AV.s (⟨#[99, 99, 32, 97]⟩ : ByteArray)), (AV.b true), (AV.s (⟨#[116, 119, 111]⟩ : ByteArray))]), (AV.st [(AV.own 17 0 1), (AV.own 18 0 1), (AV.sl 1 true []), (AV.own 19 0 1), (AV.s (⟨#[99, 99, 32, 98]⟩ : ByteArray)), (AV.b false), (AV.s (⟨#[116, 119, 111]⟩ : ByteArray))])]⟩), (10, some ⟨9, 1, [(⟨#[108, 105, 98]⟩ : ByteArray)].map AV.s⟩), (9, some ⟨81, 2, [(⟨(⟨#[116, 119, 111]⟩ : ByteArray), (2 : Int)⟩ : DPool)].map DPool.av⟩), (8, some ⟨9, 1, [(⟨#[97, 46, 111]⟩ : ByteArray)].map AV.s⟩), (7, some ⟨9, 1, [(⟨#[98, 46, 99]⟩ : ByteArray)].map AV.s⟩), (6, some ⟨9, 1, [(⟨#[98, 46, 111]⟩ : ByteArray)].map AV.s⟩), (5, some ⟨9, 1, [(⟨#[97, 46, 104]⟩ : ByteArray)].map AV.s⟩), (4, some ⟨9, 1, [(⟨#[97, 46, 99]⟩ : ByteArray)].map AV.s⟩), (3, some ⟨9, 1, [(⟨#[97, 46, 111]⟩ : ByteArray), (⟨#[97, 46, 100]⟩ : ByteArray)].map AV.s⟩), (2, some ⟨9, 1, [(⟨#[97, 46, 111]⟩ : ByteArray), (⟨#[98, 46, 111]⟩ : ByteArray)].map AV.s⟩), (1, some ⟨9, 1, [(⟨#[108, 105, 98]⟩ : ByteArray)].map AV.s⟩), (0, some ⟨76, 7, [(AV.st [(AV.own 1 0 1), (AV.own 2 0 2), (AV.sl 1 true []), (AV.sl 1 true []), (AV.s (⟨#[97, 114]⟩ : ByteArray)), (AV.b false), (AV.s (⟨#[]⟩ : ByteArray))]), (AV.st [(AV.own 3 0 2), (AV.own 4 0 1), (AV.own 5 0 1), (AV.sl 1 true []), (AV.s (⟨#[99, 99, 32, 97]⟩ : ByteArray)), (AV.b true), (AV.s (⟨#[116, 119, 111]⟩ : ByteArray))]), (AV.st [(AV.own 6 0 1), (AV.own 7 0 1), (AV.sl 1 true []), (AV.own 8 0 1), (AV.s (⟨#[99, 99, 32, 98]⟩ : ByteArray)), (AV.b false), (AV.s (⟨#[116, 119, 111]⟩ : ByteArray))])]⟩)]⟩) kr ?_
  refine AOps.done ?_
  refine Awp.seq ?_
  refine Awp.region tabS_ok ?_
  refine AOps.sq (x := (AV.i .i64 ((m_graph_Maker lit13 (⟨#[97, 46, 100]⟩ : ByteArray)).1))) kr le ?_
  refine AOps.sq (x := (AV.b (decide ((m_graph_Maker lit13 (⟨#[97, 46, 100]⟩ : ByteArray)).1 = (1 : Int))))) kr le ?_
  refine AOps.sq (x := (AV.b (decide ((m_graph_Maker lit13 (⟨#[97, 46, 100]⟩ : ByteArray)).1 = (1 : Int))))) kr le ?_
  cases c_1 : decide ((m_graph_Maker lit13 (⟨#[97, 46, 100]⟩ : ByteArray)).1 = (1 : Int))
  · have k_1 : ¬ ((m_graph_Maker lit13 (⟨#[97, 46, 100]⟩ : ByteArray)).1 = (1 : Int)) := of_decide_eq_false c_1
    refine AOps.sgn rfl rfl kr rfl le ?_
    refine AOps.sq (x := (AV.b false)) kr le ?_
    refine AOps.sq (x := (AV.b false)) kr le ?_
    refine AOps.sgn rfl rfl kr rfl le ?_
    refine AOps.sgn rfl rfl kr rfl le ?_
    refine AOps.sgn rfl rfl kr rfl le ?_
    refine AOps.sq (x := (AV.b false)) kr le ?_
    refine AOps.sq (x := (AV.b false)) kr le ?_
    refine AOps.sgn rfl rfl kr rfl le ?_
    refine AOps.sgn rfl rfl kr rfl le ?_
    refine AOps.sq (x := (AV.b false)) kr le ?_
    refine AOps.sq (x := (AV.b false)) kr le ?_
    refine AOps.sgn rfl rfl kr rfl le ?_
    refine AOps.sgn rfl rfl kr rfl le ?_
    refine AOps.sgn rfl rfl kr rfl le ?_
    refine AOps.sq (x := (AV.b false)) kr le ?_
    refine AOps.sq (x := (AV.b false)) kr le ?_
    refine AOps.sgn rfl rfl kr rfl le ?_
    refine AOps.sgn rfl rfl kr rfl le ?_
    refine AOps.sgn rfl rfl kr rfl le ?_
    refine AOps.sgn rfl rfl kr rfl le ?_
    refine AOps.sq (x := (AV.b false)) kr le ?_
    refine AOps.sq (x := (AV.b false)) kr le ?_
    refine AOps.sgn rfl rfl kr rfl le ?_
    refine AOps.sgn rfl rfl kr rfl le ?_
    refine AOps.sgn rfl rfl kr rfl le ?_
    refine AOps.sgn rfl rfl kr rfl le ?_
    refine AOps.sq (x := (AV.b false)) kr le ?_
    refine AOps.sq (x := (AV.b false)) kr le ?_
    refine AOps.sgn rfl rfl kr rfl le ?_
    refine AOps.sgn rfl rfl kr rfl le ?_
    refine AOps.sgn rfl rfl kr rfl le ?_
    refine AOps.sgn rfl rfl kr rfl le ?_
    refine AOps.sq (x := (AV.b false)) kr le ?_
    refine AOps.sq (x := (AV.b false)) kr le ?_
    refine AOps.sgn rfl rfl kr rfl le ?_
    refine AOps.sgn rfl rfl kr rfl le ?_
    refine AOps.sq (x := (AV.b false)) kr le ?_
    refine AOps.sq (x := (AV.b false)) kr le ?_
    refine AOps.sgn rfl rfl kr rfl le ?_
    refine AOps.sgn rfl rfl kr rfl le ?_
    refine AOps.sgn rfl rfl kr rfl le ?_
    refine AOps.sq (x := (AV.b false)) kr le ?_
    refine AOps.sq (x := (AV.b false)) kr le ?_
    refine AOps.done ?_
    refine Awp.ret ?_
    have hM : m_law9_awake = false := by simp only [m_law9_awake, c_1, sbt]
    refine ⟨Or.inr rfl, ?_⟩
    rw [hM]
    exact Ent.cast (x' := (AV.b false)) (y' := (AV.b false)) kr kr (Ent.c kr kr)
  · have k_1 : ((m_graph_Maker lit13 (⟨#[97, 46, 100]⟩ : ByteArray)).1 = (1 : Int)) := of_decide_eq_true c_1
    refine AOps.sgy rfl rfl kr rfl ?_
    refine AOps.sq (x := (AV.b ((m_graph_Maker lit13 (⟨#[97, 46, 100]⟩ : ByteArray)).2.1))) kr le ?_
    refine AOps.sq (x := (AV.b ((m_graph_Maker lit13 (⟨#[97, 46, 100]⟩ : ByteArray)).2.1))) kr le ?_
    refine AOps.sq (x := (AV.b ((m_graph_Maker lit13 (⟨#[97, 46, 100]⟩ : ByteArray)).2.1))) kr le ?_
    cases c_2 : (m_graph_Maker lit13 (⟨#[97, 46, 100]⟩ : ByteArray)).2.1
    · refine AOps.sgn rfl rfl kr rfl le ?_
      refine AOps.sgn rfl rfl kr rfl le ?_
      refine AOps.sgn rfl rfl kr rfl le ?_
      refine AOps.sq (x := (AV.b false)) kr le ?_
      refine AOps.sq (x := (AV.b false)) kr le ?_
      refine AOps.sgn rfl rfl kr rfl le ?_
      refine AOps.sgn rfl rfl kr rfl le ?_
      refine AOps.sq (x := (AV.b false)) kr le ?_
      refine AOps.sq (x := (AV.b false)) kr le ?_
      refine AOps.sgn rfl rfl kr rfl le ?_
      refine AOps.sgn rfl rfl kr rfl le ?_
      refine AOps.sgn rfl rfl kr rfl le ?_
      refine AOps.sq (x := (AV.b false)) kr le ?_
      refine AOps.sq (x := (AV.b false)) kr le ?_
      refine AOps.sgn rfl rfl kr rfl le ?_
      refine AOps.sgn rfl rfl kr rfl le ?_
      refine AOps.sgn rfl rfl kr rfl le ?_
      refine AOps.sgn rfl rfl kr rfl le ?_
      refine AOps.sq (x := (AV.b false)) kr le ?_
      refine AOps.sq (x := (AV.b false)) kr le ?_
      refine AOps.sgn rfl rfl kr rfl le ?_
      refine AOps.sgn rfl rfl kr rfl le ?_
      refine AOps.sgn rfl rfl kr rfl le ?_
      refine AOps.sgn rfl rfl kr rfl le ?_
      refine AOps.sq (x := (AV.b false)) kr le ?_
      refine AOps.sq (x := (AV.b false)) kr le ?_
      refine AOps.sgn rfl rfl kr rfl le ?_
      refine AOps.sgn rfl rfl kr rfl le ?_
      refine AOps.sgn rfl rfl kr rfl le ?_
      refine AOps.sgn rfl rfl kr rfl le ?_
      refine AOps.sq (x := (AV.b false)) kr le ?_
      refine AOps.sq (x := (AV.b false)) kr le ?_
      refine AOps.sgn rfl rfl kr rfl le ?_
      refine AOps.sgn rfl rfl kr rfl le ?_
      refine AOps.sq (x := (AV.b false)) kr le ?_
      refine AOps.sq (x := (AV.b false)) kr le ?_
      refine AOps.sgn rfl rfl kr rfl le ?_
      refine AOps.sgn rfl rfl kr rfl le ?_
      refine AOps.sgn rfl rfl kr rfl le ?_
      refine AOps.sq (x := (AV.b false)) kr le ?_
      refine AOps.sq (x := (AV.b false)) kr le ?_
      refine AOps.done ?_
      refine Awp.ret ?_
      have hM : m_law9_awake = false := by simp only [m_law9_awake, c_1, c_2, sbt]
      refine ⟨Or.inr rfl, ?_⟩
      rw [hM]
      exact Ent.cast (x' := (AV.b false)) (y' := (AV.b false)) kr kr (Ent.c kr kr)
    · refine AOps.sgy rfl rfl kr rfl ?_
      refine AOps.sq (x := (AV.i .i64 ((m_graph_Maker lit13 (⟨#[97, 46, 100]⟩ : ByteArray)).2.2))) kr le ?_
      refine AOps.sgy rfl rfl kr rfl ?_
      refine AOps.sc0 (vs := [(AV.i .i64 ((m_graph_Maker lit13 (⟨#[97, 46, 100]⟩ : ByteArray)).2.2))]) (r0 := (AV.i .i64 (m_law0_Num ((m_graph_Maker lit13 (⟨#[97, 46, 100]⟩ : ByteArray)).2.2)))) kr kr (w_law0_Num W ((m_graph_Maker lit13 (⟨#[97, 46, 100]⟩ : ByteArray)).2.2)) kr le ?_
      refine AOps.sgy rfl rfl kr rfl ?_
      refine AOps.sq (x := (AV.b (decide ((m_law0_Num ((m_graph_Maker lit13 (⟨#[97, 46, 100]⟩ : ByteArray)).2.2)) = (0 : Int))))) kr le ?_
      refine AOps.sq (x := (AV.b (decide ((m_law0_Num ((m_graph_Maker lit13 (⟨#[97, 46, 100]⟩ : ByteArray)).2.2)) = (0 : Int))))) kr le ?_
      refine AOps.sq (x := (AV.b (decide ((m_law0_Num ((m_graph_Maker lit13 (⟨#[97, 46, 100]⟩ : ByteArray)).2.2)) = (0 : Int))))) kr le ?_
      cases c_3 : decide ((m_law0_Num ((m_graph_Maker lit13 (⟨#[97, 46, 100]⟩ : ByteArray)).2.2)) = (0 : Int))
      · have k_3 : ¬ ((m_law0_Num ((m_graph_Maker lit13 (⟨#[97, 46, 100]⟩ : ByteArray)).2.2)) = (0 : Int)) := of_decide_eq_false c_3
        refine AOps.sgn rfl rfl kr rfl le ?_
        refine AOps.sgn rfl rfl kr rfl le ?_
        refine AOps.sq (x := (AV.b false)) kr le ?_
        refine AOps.sq (x := (AV.b false)) kr le ?_
        refine AOps.sgn rfl rfl kr rfl le ?_
        refine AOps.sgn rfl rfl kr rfl le ?_
        refine AOps.sgn rfl rfl kr rfl le ?_
        refine AOps.sq (x := (AV.b false)) kr le ?_
        refine AOps.sq (x := (AV.b false)) kr le ?_
        refine AOps.sgn rfl rfl kr rfl le ?_
        refine AOps.sgn rfl rfl kr rfl le ?_
        refine AOps.sgn rfl rfl kr rfl le ?_
        refine AOps.sgn rfl rfl kr rfl le ?_
        refine AOps.sq (x := (AV.b false)) kr le ?_
        refine AOps.sq (x := (AV.b false)) kr le ?_
        refine AOps.sgn rfl rfl kr rfl le ?_
        refine AOps.sgn rfl rfl kr rfl le ?_
        refine AOps.sgn rfl rfl kr rfl le ?_
        refine AOps.sgn rfl rfl kr rfl le ?_
        refine AOps.sq (x := (AV.b false)) kr le ?_
        refine AOps.sq (x := (AV.b false)) kr le ?_
        refine AOps.sgn rfl rfl kr rfl le ?_
        refine AOps.sgn rfl rfl kr rfl le ?_
        refine AOps.sgn rfl rfl kr rfl le ?_
        refine AOps.sgn rfl rfl kr rfl le ?_
        refine AOps.sq (x := (AV.b false)) kr le ?_
        refine AOps.sq (x := (AV.b false)) kr le ?_
        refine AOps.sgn rfl rfl kr rfl le ?_
        refine AOps.sgn rfl rfl kr rfl le ?_
        refine AOps.sq (x := (AV.b false)) kr le ?_
        refine AOps.sq (x := (AV.b false)) kr le ?_
        refine AOps.sgn rfl rfl kr rfl le ?_
        refine AOps.sgn rfl rfl kr rfl le ?_
        refine AOps.sgn rfl rfl kr rfl le ?_
        refine AOps.sq (x := (AV.b false)) kr le ?_
        refine AOps.sq (x := (AV.b false)) kr le ?_
        refine AOps.done ?_
        refine Awp.ret ?_
        have hM : m_law9_awake = false := by simp only [m_law9_awake, c_1, c_2, c_3, sbt]
        refine ⟨Or.inr rfl, ?_⟩
        rw [hM]
        exact Ent.cast (x' := (AV.b false)) (y' := (AV.b false)) kr kr (Ent.c kr kr)
      · have k_3 : ((m_law0_Num ((m_graph_Maker lit13 (⟨#[97, 46, 100]⟩ : ByteArray)).2.2)) = (0 : Int)) := of_decide_eq_true c_3
        refine AOps.sgy rfl rfl kr rfl ?_
        refine AOps.sq (x := (AV.b ((m_graph_Maker lit13 (⟨#[97, 46, 99]⟩ : ByteArray)).2.1))) kr le ?_
        refine AOps.sgy rfl rfl kr rfl ?_
        refine AOps.sq (x := (AV.b (!(m_graph_Maker lit13 (⟨#[97, 46, 99]⟩ : ByteArray)).2.1))) kr le ?_
        refine AOps.sq (x := (AV.b (!(m_graph_Maker lit13 (⟨#[97, 46, 99]⟩ : ByteArray)).2.1))) kr le ?_
        refine AOps.sq (x := (AV.b (!(m_graph_Maker lit13 (⟨#[97, 46, 99]⟩ : ByteArray)).2.1))) kr le ?_
        cases c_4 : (!(m_graph_Maker lit13 (⟨#[97, 46, 99]⟩ : ByteArray)).2.1)
        · refine AOps.sgn rfl rfl kr rfl le ?_
          refine AOps.sgn rfl rfl kr rfl le ?_
          refine AOps.sgn rfl rfl kr rfl le ?_
          refine AOps.sq (x := (AV.b false)) kr le ?_
          refine AOps.sq (x := (AV.b false)) kr le ?_
          refine AOps.sgn rfl rfl kr rfl le ?_
          refine AOps.sgn rfl rfl kr rfl le ?_
          refine AOps.sgn rfl rfl kr rfl le ?_
          refine AOps.sgn rfl rfl kr rfl le ?_
          refine AOps.sq (x := (AV.b false)) kr le ?_
          refine AOps.sq (x := (AV.b false)) kr le ?_
          refine AOps.sgn rfl rfl kr rfl le ?_
          refine AOps.sgn rfl rfl kr rfl le ?_
          refine AOps.sgn rfl rfl kr rfl le ?_
          refine AOps.sgn rfl rfl kr rfl le ?_
          refine AOps.sq (x := (AV.b false)) kr le ?_
          refine AOps.sq (x := (AV.b false)) kr le ?_
          refine AOps.sgn rfl rfl kr rfl le ?_
          refine AOps.sgn rfl rfl kr rfl le ?_
          refine AOps.sgn rfl rfl kr rfl le ?_
          refine AOps.sgn rfl rfl kr rfl le ?_
          refine AOps.sq (x := (AV.b false)) kr le ?_
          refine AOps.sq (x := (AV.b false)) kr le ?_
          refine AOps.sgn rfl rfl kr rfl le ?_
          refine AOps.sgn rfl rfl kr rfl le ?_
          refine AOps.sq (x := (AV.b false)) kr le ?_
          refine AOps.sq (x := (AV.b false)) kr le ?_
          refine AOps.sgn rfl rfl kr rfl le ?_
          refine AOps.sgn rfl rfl kr rfl le ?_
          refine AOps.sgn rfl rfl kr rfl le ?_
          refine AOps.sq (x := (AV.b false)) kr le ?_
          refine AOps.sq (x := (AV.b false)) kr le ?_
          refine AOps.done ?_
          refine Awp.ret ?_
          have hM : m_law9_awake = false := by simp only [m_law9_awake, c_1, c_2, c_3, c_4, sbt]
          refine ⟨Or.inr rfl, ?_⟩
          rw [hM]
          exact Ent.cast (x' := (AV.b false)) (y' := (AV.b false)) kr kr (Ent.c kr kr)
        · refine AOps.sgy rfl rfl kr rfl ?_
          refine AOps.sq (x := (AV.i .i64 ((m_graph_Maker lit13 (⟨#[97, 46, 99]⟩ : ByteArray)).2.2))) kr le ?_
          refine AOps.sgy rfl rfl kr rfl ?_
          refine AOps.sc0 (vs := [(AV.i .i64 ((m_graph_Maker lit13 (⟨#[97, 46, 99]⟩ : ByteArray)).2.2))]) (r0 := (AV.i .i64 (m_law0_Num ((m_graph_Maker lit13 (⟨#[97, 46, 99]⟩ : ByteArray)).2.2)))) kr kr (w_law0_Num W ((m_graph_Maker lit13 (⟨#[97, 46, 99]⟩ : ByteArray)).2.2)) kr le ?_
          refine AOps.sgy rfl rfl kr rfl ?_
          refine AOps.sq (x := (AV.b (decide ((m_law0_Num ((m_graph_Maker lit13 (⟨#[97, 46, 99]⟩ : ByteArray)).2.2)) = (0 : Int))))) kr le ?_
          refine AOps.sq (x := (AV.b (decide ((m_law0_Num ((m_graph_Maker lit13 (⟨#[97, 46, 99]⟩ : ByteArray)).2.2)) = (0 : Int))))) kr le ?_
          refine AOps.sq (x := (AV.b (decide ((m_law0_Num ((m_graph_Maker lit13 (⟨#[97, 46, 99]⟩ : ByteArray)).2.2)) = (0 : Int))))) kr le ?_
          cases c_5 : decide ((m_law0_Num ((m_graph_Maker lit13 (⟨#[97, 46, 99]⟩ : ByteArray)).2.2)) = (0 : Int))
          · have k_5 : ¬ ((m_law0_Num ((m_graph_Maker lit13 (⟨#[97, 46, 99]⟩ : ByteArray)).2.2)) = (0 : Int)) := of_decide_eq_false c_5
            refine AOps.sgn rfl rfl kr rfl le ?_
            refine AOps.sgn rfl rfl kr rfl le ?_
            refine AOps.sgn rfl rfl kr rfl le ?_
            refine AOps.sgn rfl rfl kr rfl le ?_
            refine AOps.sq (x := (AV.b false)) kr le ?_
            refine AOps.sq (x := (AV.b false)) kr le ?_
            refine AOps.sgn rfl rfl kr rfl le ?_
            refine AOps.sgn rfl rfl kr rfl le ?_
            refine AOps.sgn rfl rfl kr rfl le ?_
            refine AOps.sgn rfl rfl kr rfl le ?_
            refine AOps.sq (x := (AV.b false)) kr le ?_
            refine AOps.sq (x := (AV.b false)) kr le ?_
            refine AOps.sgn rfl rfl kr rfl le ?_
            refine AOps.sgn rfl rfl kr rfl le ?_
            refine AOps.sgn rfl rfl kr rfl le ?_
            refine AOps.sgn rfl rfl kr rfl le ?_
            refine AOps.sq (x := (AV.b false)) kr le ?_
            refine AOps.sq (x := (AV.b false)) kr le ?_
            refine AOps.sgn rfl rfl kr rfl le ?_
            refine AOps.sgn rfl rfl kr rfl le ?_
            refine AOps.sq (x := (AV.b false)) kr le ?_
            refine AOps.sq (x := (AV.b false)) kr le ?_
            refine AOps.sgn rfl rfl kr rfl le ?_
            refine AOps.sgn rfl rfl kr rfl le ?_
            refine AOps.sgn rfl rfl kr rfl le ?_
            refine AOps.sq (x := (AV.b false)) kr le ?_
            refine AOps.sq (x := (AV.b false)) kr le ?_
            refine AOps.done ?_
            refine Awp.ret ?_
            have hM : m_law9_awake = false := by simp only [m_law9_awake, c_1, c_2, c_3, c_4, c_5, sbt]
            refine ⟨Or.inr rfl, ?_⟩
            rw [hM]
            exact Ent.cast (x' := (AV.b false)) (y' := (AV.b false)) kr kr (Ent.c kr kr)
          · have k_5 : ((m_law0_Num ((m_graph_Maker lit13 (⟨#[97, 46, 99]⟩ : ByteArray)).2.2)) = (0 : Int)) := of_decide_eq_true c_5
            refine AOps.sgy rfl rfl kr rfl ?_
            refine AOps.scD (x := (AV.st [(AV.own 47 0 3), (AV.own 56 0 1), (AV.own 57 0 1)])) (h' := ⟨58, [(57, some ⟨9, 1, [(⟨#[108, 105, 98]⟩ : ByteArray)].map AV.s⟩), (56, some ⟨81, 2, [(⟨(⟨#[116, 119, 111]⟩ : ByteArray), (2 : Int)⟩ : DPool)].map DPool.av⟩), (55, some ⟨9, 1, [(⟨#[97, 46, 111]⟩ : ByteArray)].map AV.s⟩), (54, some ⟨9, 1, [(⟨#[98, 46, 99]⟩ : ByteArray)].map AV.s⟩), (53, some ⟨9, 1, [(⟨#[98, 46, 111]⟩ : ByteArray)].map AV.s⟩), (52, some ⟨9, 1, [(⟨#[97, 46, 104]⟩ : ByteArray)].map AV.s⟩), (51, some ⟨9, 1, [(⟨#[97, 46, 99]⟩ : ByteArray)].map AV.s⟩), (50, some ⟨9, 1, [(⟨#[97, 46, 111]⟩ : ByteArray), (⟨#[97, 46, 100]⟩ : ByteArray)].map AV.s⟩), (49, some ⟨9, 1, [(⟨#[97, 46, 111]⟩ : ByteArray), (⟨#[98, 46, 111]⟩ : ByteArray)].map AV.s⟩), (48, some ⟨9, 1, [(⟨#[108, 105, 98]⟩ : ByteArray)].map AV.s⟩), (47, some ⟨76, 7, [(AV.st [(AV.own 48 0 1), (AV.own 49 0 2), (AV.sl 1 true []), (AV.sl 1 true []), (AV.s (⟨#[97, 114]⟩ : ByteArray)), (AV.b false), (AV.s (⟨#[]⟩ : ByteArray))]), (AV.st [(AV.own 50 0 2), (AV.own 51 0 1), (AV.own 52 0 1), (AV.sl 1 true []), (AV.s (⟨#[99, 99, 32, 97]⟩ : ByteArray)), (AV.b true), (AV.s (⟨#[116, 119, 111]⟩ : ByteArray))]), (AV.st [(AV.own 53 0 1), (AV.own 54 0 1), (AV.sl 1 true []), (AV.own 55 0 1), (AV.s (⟨#[99, 99, 32, 98]⟩ : ByteArray)), (AV.b false), (AV.s (⟨#[116, 119, 111]⟩ : ByteArray))])]⟩), (46, some ⟨26, 3, [(AV.st [(AV.own 35 0 3), (AV.own 44 0 1), (AV.own 45 0 1)])]⟩), (45, some ⟨9, 1, [(⟨#[108, 105, 98]⟩ : ByteArray)].map AV.s⟩), (44, some ⟨81, 2, [(⟨(⟨#[116, 119, 111]⟩ : ByteArray), (2 : Int)⟩ : DPool)].map DPool.av⟩), (43, some ⟨9, 1, [(⟨#[97, 46, 111]⟩ : ByteArray)].map AV.s⟩), (42, some ⟨9, 1, [(⟨#[98, 46, 99]⟩ : ByteArray)].map AV.s⟩), (41, some ⟨9, 1, [(⟨#[98, 46, 111]⟩ : ByteArray)].map AV.s⟩), (40, some ⟨9, 1, [(⟨#[97, 46, 104]⟩ : ByteArray)].map AV.s⟩), (39, some ⟨9, 1, [(⟨#[97, 46, 99]⟩ : ByteArray)].map AV.s⟩), (38, some ⟨9, 1, [(⟨#[97, 46, 111]⟩ : ByteArray), (⟨#[97, 46, 100]⟩ : ByteArray)].map AV.s⟩), (37, some ⟨9, 1, [(⟨#[97, 46, 111]⟩ : ByteArray), (⟨#[98, 46, 111]⟩ : ByteArray)].map AV.s⟩), (36, some ⟨9, 1, [(⟨#[108, 105, 98]⟩ : ByteArray)].map AV.s⟩), (35, some ⟨76, 7, [(AV.st [(AV.own 36 0 1), (AV.own 37 0 2), (AV.sl 1 true []), (AV.sl 1 true []), (AV.s (⟨#[97, 114]⟩ : ByteArray)), (AV.b false), (AV.s (⟨#[]⟩ : ByteArray))]), (AV.st [(AV.own 38 0 2), (AV.own 39 0 1), (AV.own 40 0 1), (AV.sl 1 true []), (AV.s (⟨#[99, 99, 32, 97]⟩ : ByteArray)), (AV.b true), (AV.s (⟨#[116, 119, 111]⟩ : ByteArray))]), (AV.st [(AV.own 41 0 1), (AV.own 42 0 1), (AV.sl 1 true []), (AV.own 43 0 1), (AV.s (⟨#[99, 99, 32, 98]⟩ : ByteArray)), (AV.b false), (AV.s (⟨#[111, 110, 101]⟩ : ByteArray))])]⟩), (34, some ⟨9, 1, [(⟨#[108, 105, 98]⟩ : ByteArray)].map AV.s⟩), (33, some ⟨26, 3, [(AV.st [(AV.own 22 0 3), (AV.own 31 0 1), (AV.own 32 0 1)])]⟩), (32, some ⟨9, 1, [(⟨#[108, 105, 98]⟩ : ByteArray)].map AV.s⟩), (31, some ⟨81, 2, [(⟨(⟨#[116, 119, 111]⟩ : ByteArray), (2 : Int)⟩ : DPool)].map DPool.av⟩), (30, some ⟨9, 1, [(⟨#[97, 46, 111]⟩ : ByteArray)].map AV.s⟩), (29, some ⟨9, 1, [(⟨#[98, 46, 99]⟩ : ByteArray)].map AV.s⟩), (28, some ⟨9, 1, [(⟨#[98, 46, 111]⟩ : ByteArray)].map AV.s⟩), (27, some ⟨9, 1, [(⟨#[97, 46, 104]⟩ : ByteArray)].map AV.s⟩), (26, some ⟨9, 1, [(⟨#[97, 46, 99]⟩ : ByteArray)].map AV.s⟩), (25, some ⟨9, 1, [(⟨#[97, 46, 111]⟩ : ByteArray), (⟨#[97, 46, 100]⟩ : ByteArray)].map AV.s⟩), (24, some ⟨9, 1, [(⟨#[97, 46, 111]⟩ : ByteArray), (⟨#[98, 46, 111]⟩ : ByteArray)].map AV.s⟩), (23, some ⟨9, 1, [(⟨#[108, 105, 98]⟩ : ByteArray)].map AV.s⟩), (22, some ⟨76, 7, [(AV.st [(AV.own 23 0 1), (AV.own 24 0 2), (AV.sl 1 true []), (AV.sl 1 true []), (AV.s (⟨#[97, 114]⟩ : ByteArray)), (AV.b false), (AV.s (⟨#[]⟩ : ByteArray))]), (AV.st [(AV.own 25 0 2), (AV.own 26 0 1), (AV.own 27 0 1), (AV.sl 1 true []), (AV.s (⟨#[99, 99, 32, 97]⟩ : ByteArray)), (AV.b true), (AV.s (⟨#[116, 119, 111]⟩ : ByteArray))]), (AV.st [(AV.own 34 0 1), (AV.own 29 0 1), (AV.sl 1 true []), (AV.own 30 0 1), (AV.s (⟨#[99, 99, 32, 98]⟩ : ByteArray)), (AV.b false), (AV.s (⟨#[116, 119, 111]⟩ : ByteArray))])]⟩), (21, some ⟨9, 1, [(⟨#[108, 105, 98]⟩ : ByteArray)].map AV.s⟩), (20, some ⟨81, 2, [(⟨(⟨#[116, 119, 111]⟩ : ByteArray), (2 : Int)⟩ : DPool)].map DPool.av⟩), (19, some ⟨9, 1, [(⟨#[97, 46, 111]⟩ : ByteArray)].map AV.s⟩), (18, some ⟨9, 1, [(⟨#[98, 46, 99]⟩ : ByteArray)].map AV.s⟩), (17, some ⟨9, 1, [(⟨#[98, 46, 111]⟩ : ByteArray)].map AV.s⟩), (16, some ⟨9, 1, [(⟨#[97, 46, 104]⟩ : ByteArray)].map AV.s⟩), (15, some ⟨9, 1, [(⟨#[97, 46, 99]⟩ : ByteArray)].map AV.s⟩), (14, some ⟨9, 1, [(⟨#[97, 46, 111]⟩ : ByteArray), (⟨#[97, 46, 100]⟩ : ByteArray)].map AV.s⟩), (13, some ⟨9, 1, [(⟨#[97, 46, 111]⟩ : ByteArray), (⟨#[98, 46, 111]⟩ : ByteArray)].map AV.s⟩), (12, some ⟨9, 1, [(⟨#[108, 105, 98]⟩ : ByteArray)].map AV.s⟩), (11, some ⟨76, 7, [(AV.st [(AV.own 12 0 1), (AV.own 13 0 2), (AV.sl 1 true []), (AV.sl 1 true []), (AV.s (⟨#[97, 114]⟩ : ByteArray)), (AV.b false), (AV.s (⟨#[]⟩ : ByteArray))]), (AV.st [(AV.own 14 0 2), (AV.own 15 0 1), (AV.own 16 0 1), (AV.sl 1 true []), (AV.s (⟨#[99, 99, 32, 97]⟩ : ByteArray)), (AV.b true), (AV.s (⟨#[116, 119, 111]⟩ : ByteArray))]), (AV.st [(AV.own 17 0 1), (AV.own 18 0 1), (AV.sl 1 true []), (AV.own 19 0 1), (AV.s (⟨#[99, 99, 32, 98]⟩ : ByteArray)), (AV.b false), (AV.s (⟨#[116, 119, 111]⟩ : ByteArray))])]⟩), (10, some ⟨9, 1, [(⟨#[108, 105, 98]⟩ : ByteArray)].map AV.s⟩), (9, some ⟨81, 2, [(⟨(⟨#[116, 119, 111]⟩ : ByteArray), (2 : Int)⟩ : DPool)].map DPool.av⟩), (8, some ⟨9, 1, [(⟨#[97, 46, 111]⟩ : ByteArray)].map AV.s⟩), (7, some ⟨9, 1, [(⟨#[98, 46, 99]⟩ : ByteArray)].map AV.s⟩), (6, some ⟨9, 1, [(⟨#[98, 46, 111]⟩ : ByteArray)].map AV.s⟩), (5, some ⟨9, 1, [(⟨#[97, 46, 104]⟩ : ByteArray)].map AV.s⟩), (4, some ⟨9, 1, [(⟨#[97, 46, 99]⟩ : ByteArray)].map AV.s⟩), (3, some ⟨9, 1, [(⟨#[97, 46, 111]⟩ : ByteArray), (⟨#[97, 46, 100]⟩ : ByteArray)].map AV.s⟩), (2, some ⟨9, 1, [(⟨#[97, 46, 111]⟩ : ByteArray), (⟨#[98, 46, 111]⟩ : ByteArray)].map AV.s⟩), (1, some ⟨9, 1, [(⟨#[108, 105, 98]⟩ : ByteArray)].map AV.s⟩), (0, some ⟨76, 7, [(AV.st [(AV.own 1 0 1), (AV.own 2 0 2), (AV.sl 1 true []), (AV.sl 1 true []), (AV.s (⟨#[97, 114]⟩ : ByteArray)), (AV.b false), (AV.s (⟨#[]⟩ : ByteArray))]), (AV.st [(AV.own 3 0 2), (AV.own 4 0 1), (AV.own 5 0 1), (AV.sl 1 true []), (AV.s (⟨#[99, 99, 32, 97]⟩ : ByteArray)), (AV.b true), (AV.s (⟨#[116, 119, 111]⟩ : ByteArray))]), (AV.st [(AV.own 6 0 1), (AV.own 7 0 1), (AV.sl 1 true []), (AV.own 8 0 1), (AV.s (⟨#[99, 99, 32, 98]⟩ : ByteArray)), (AV.b false), (AV.s (⟨#[116, 119, 111]⟩ : ByteArray))])]⟩)]⟩) kr rfl (wd_law9_given W) kr kr le ?_
            refine AOps.sgy rfl rfl kr rfl ?_
            refine AOps.sfw (vs := [(AV.st [(AV.own 47 0 3), (AV.own 56 0 1), (AV.own 57 0 1)])]) (ss := [(DGraph.av lit13)]) (r0 := (AV.i .i64 (m_graph_Check lit13))) kr (show SnapW _ _ _ from ⟨(EntK.w (EntK.cast (x' := (AV.st [(AV.own 47 0 3), (AV.own 56 0 1), (AV.own 57 0 1)])) kr kr (EntK.st (EntKs.cons (EntK.own (id := 47) (len := 3) (e := 76) (k := 7) (els := [(AV.st [(AV.own 48 0 1), (AV.own 49 0 2), (AV.sl 1 true []), (AV.sl 1 true []), (AV.s (⟨#[97, 114]⟩ : ByteArray)), (AV.b false), (AV.s (⟨#[]⟩ : ByteArray))]), (AV.st [(AV.own 50 0 2), (AV.own 51 0 1), (AV.own 52 0 1), (AV.sl 1 true []), (AV.s (⟨#[99, 99, 32, 97]⟩ : ByteArray)), (AV.b true), (AV.s (⟨#[116, 119, 111]⟩ : ByteArray))]), (AV.st [(AV.own 53 0 1), (AV.own 54 0 1), (AV.sl 1 true []), (AV.own 55 0 1), (AV.s (⟨#[99, 99, 32, 98]⟩ : ByteArray)), (AV.b false), (AV.s (⟨#[116, 119, 111]⟩ : ByteArray))])]) rfl rfl rfl sd (EntKEs.cons (EntKE.st (EntKs.cons (EntK.row (fun _ => rfl) (A := AV.s) (id := 48) (e := 9) (k := 1) (xs := [(⟨#[108, 105, 98]⟩ : ByteArray)]) rfl rfl sd sd) (EntKs.cons (EntK.row (fun _ => rfl) (A := AV.s) (id := 49) (e := 9) (k := 1) (xs := [(⟨#[97, 46, 111]⟩ : ByteArray), (⟨#[98, 46, 111]⟩ : ByteArray)]) rfl rfl sd sd) (EntKs.cons (EntK.c rfl (WeakC.nil 1)) (EntKs.cons (EntK.c rfl (WeakC.nil 1)) (EntKs.cons (EntK.cr (x := (AV.s (⟨#[97, 114]⟩ : ByteArray))) kr) (EntKs.cons (EntK.cr (x := (AV.b false)) kr) (EntKs.cons (EntK.cr (x := (AV.s (⟨#[]⟩ : ByteArray))) kr) EntKs.nil)))))))) (EntKEs.cons (EntKE.st (EntKs.cons (EntK.row (fun _ => rfl) (A := AV.s) (id := 50) (e := 9) (k := 1) (xs := [(⟨#[97, 46, 111]⟩ : ByteArray), (⟨#[97, 46, 100]⟩ : ByteArray)]) rfl rfl sd sd) (EntKs.cons (EntK.row (fun _ => rfl) (A := AV.s) (id := 51) (e := 9) (k := 1) (xs := [(⟨#[97, 46, 99]⟩ : ByteArray)]) rfl rfl sd sd) (EntKs.cons (EntK.row (fun _ => rfl) (A := AV.s) (id := 52) (e := 9) (k := 1) (xs := [(⟨#[97, 46, 104]⟩ : ByteArray)]) rfl rfl sd sd) (EntKs.cons (EntK.c rfl (WeakC.nil 1)) (EntKs.cons (EntK.cr (x := (AV.s (⟨#[99, 99, 32, 97]⟩ : ByteArray))) kr) (EntKs.cons (EntK.cr (x := (AV.b true)) kr) (EntKs.cons (EntK.cr (x := (AV.s (⟨#[116, 119, 111]⟩ : ByteArray))) kr) EntKs.nil)))))))) (EntKEs.cons (EntKE.st (EntKs.cons (EntK.row (fun _ => rfl) (A := AV.s) (id := 53) (e := 9) (k := 1) (xs := [(⟨#[98, 46, 111]⟩ : ByteArray)]) rfl rfl sd sd) (EntKs.cons (EntK.row (fun _ => rfl) (A := AV.s) (id := 54) (e := 9) (k := 1) (xs := [(⟨#[98, 46, 99]⟩ : ByteArray)]) rfl rfl sd sd) (EntKs.cons (EntK.c rfl (WeakC.nil 1)) (EntKs.cons (EntK.row (fun _ => rfl) (A := AV.s) (id := 55) (e := 9) (k := 1) (xs := [(⟨#[97, 46, 111]⟩ : ByteArray)]) rfl rfl sd sd) (EntKs.cons (EntK.cr (x := (AV.s (⟨#[99, 99, 32, 98]⟩ : ByteArray))) kr) (EntKs.cons (EntK.cr (x := (AV.b false)) kr) (EntKs.cons (EntK.cr (x := (AV.s (⟨#[116, 119, 111]⟩ : ByteArray))) kr) EntKs.nil)))))))) EntKEs.nil)))) (EntKs.cons (EntK.row (fun _ => rfl) (A := DPool.av) (id := 56) (e := 81) (k := 2) (xs := [(⟨(⟨#[116, 119, 111]⟩ : ByteArray), (2 : Int)⟩ : DPool)]) rfl rfl sd sd) (EntKs.cons (EntK.row (fun _ => rfl) (A := AV.s) (id := 57) (e := 9) (k := 1) (xs := [(⟨#[108, 105, 98]⟩ : ByteArray)]) rfl rfl sd sd) EntKs.nil)))))), trivial⟩) (w_graph_Check W hW lit13) rfl kr le ?_
            refine AOps.sgy rfl rfl kr rfl ?_
            refine AOps.sc0 (vs := [(AV.i .i64 (m_graph_Check lit13))]) (r0 := (AV.i .i64 (m_law0_Num (m_graph_Check lit13)))) kr kr (w_law0_Num W (m_graph_Check lit13)) kr le ?_
            refine AOps.sgy rfl rfl kr rfl ?_
            refine AOps.sq (x := (AV.b (decide ((m_law0_Num (m_graph_Check lit13)) = (0 : Int))))) kr le ?_
            refine AOps.sq (x := (AV.b (decide ((m_law0_Num (m_graph_Check lit13)) = (0 : Int))))) kr le ?_
            refine AOps.sq (x := (AV.b (decide ((m_law0_Num (m_graph_Check lit13)) = (0 : Int))))) kr le ?_
            cases c_6 : decide ((m_law0_Num (m_graph_Check lit13)) = (0 : Int))
            · have k_6 : ¬ ((m_law0_Num (m_graph_Check lit13)) = (0 : Int)) := of_decide_eq_false c_6
              refine AOps.sgn rfl rfl kr rfl le ?_
              refine AOps.sgn rfl rfl kr rfl le ?_
              refine AOps.sgn rfl rfl kr rfl le ?_
              refine AOps.sgn rfl rfl kr rfl le ?_
              refine AOps.sq (x := (AV.b false)) kr le ?_
              refine AOps.sq (x := (AV.b false)) kr le ?_
              refine AOps.sgn rfl rfl kr rfl le ?_
              refine AOps.sgn rfl rfl kr rfl le ?_
              refine AOps.sgn rfl rfl kr rfl le ?_
              refine AOps.sgn rfl rfl kr rfl le ?_
              refine AOps.sq (x := (AV.b false)) kr le ?_
              refine AOps.sq (x := (AV.b false)) kr le ?_
              refine AOps.sgn rfl rfl kr rfl le ?_
              refine AOps.sgn rfl rfl kr rfl le ?_
              refine AOps.sq (x := (AV.b false)) kr le ?_
              refine AOps.sq (x := (AV.b false)) kr le ?_
              refine AOps.sgn rfl rfl kr rfl le ?_
              refine AOps.sgn rfl rfl kr rfl le ?_
              refine AOps.sgn rfl rfl kr rfl le ?_
              refine AOps.sq (x := (AV.b false)) kr le ?_
              refine AOps.sq (x := (AV.b false)) kr le ?_
              refine AOps.done ?_
              refine Awp.ret ?_
              have hM : m_law9_awake = false := by simp only [m_law9_awake, c_1, c_2, c_3, c_4, c_5, c_6, sbt]
              refine ⟨Or.inr rfl, ?_⟩
              rw [hM]
              exact Ent.cast (x' := (AV.b false)) (y' := (AV.b false)) kr kr (Ent.c kr kr)
            · have k_6 : ((m_law0_Num (m_graph_Check lit13)) = (0 : Int)) := of_decide_eq_true c_6
              refine AOps.sgy rfl rfl kr rfl ?_
              refine AOps.sq (x := (AV.st [(AV.own 22 0 3), (AV.own 31 0 1), (AV.own 32 0 1)])) kr le ?_
              refine AOps.sgy rfl rfl kr rfl ?_
              refine AOps.sfw (vs := [(AV.st [(AV.own 22 0 3), (AV.own 31 0 1), (AV.own 32 0 1)])]) (ss := [(DGraph.av lit15)]) (r0 := (AV.i .i64 (m_graph_Check lit15))) kr (show SnapW _ _ _ from ⟨(EntK.w (EntK.cast (x' := (AV.st [(AV.own 22 0 3), (AV.own 31 0 1), (AV.own 32 0 1)])) kr kr (EntK.st (EntKs.cons (EntK.own (id := 22) (len := 3) (e := 76) (k := 7) (els := [(AV.st [(AV.own 23 0 1), (AV.own 24 0 2), (AV.sl 1 true []), (AV.sl 1 true []), (AV.s (⟨#[97, 114]⟩ : ByteArray)), (AV.b false), (AV.s (⟨#[]⟩ : ByteArray))]), (AV.st [(AV.own 25 0 2), (AV.own 26 0 1), (AV.own 27 0 1), (AV.sl 1 true []), (AV.s (⟨#[99, 99, 32, 97]⟩ : ByteArray)), (AV.b true), (AV.s (⟨#[116, 119, 111]⟩ : ByteArray))]), (AV.st [(AV.own 34 0 1), (AV.own 29 0 1), (AV.sl 1 true []), (AV.own 30 0 1), (AV.s (⟨#[99, 99, 32, 98]⟩ : ByteArray)), (AV.b false), (AV.s (⟨#[116, 119, 111]⟩ : ByteArray))])]) rfl rfl rfl sd (EntKEs.cons (EntKE.st (EntKs.cons (EntK.row (fun _ => rfl) (A := AV.s) (id := 23) (e := 9) (k := 1) (xs := [(⟨#[108, 105, 98]⟩ : ByteArray)]) rfl rfl sd sd) (EntKs.cons (EntK.row (fun _ => rfl) (A := AV.s) (id := 24) (e := 9) (k := 1) (xs := [(⟨#[97, 46, 111]⟩ : ByteArray), (⟨#[98, 46, 111]⟩ : ByteArray)]) rfl rfl sd sd) (EntKs.cons (EntK.c rfl (WeakC.nil 1)) (EntKs.cons (EntK.c rfl (WeakC.nil 1)) (EntKs.cons (EntK.cr (x := (AV.s (⟨#[97, 114]⟩ : ByteArray))) kr) (EntKs.cons (EntK.cr (x := (AV.b false)) kr) (EntKs.cons (EntK.cr (x := (AV.s (⟨#[]⟩ : ByteArray))) kr) EntKs.nil)))))))) (EntKEs.cons (EntKE.st (EntKs.cons (EntK.row (fun _ => rfl) (A := AV.s) (id := 25) (e := 9) (k := 1) (xs := [(⟨#[97, 46, 111]⟩ : ByteArray), (⟨#[97, 46, 100]⟩ : ByteArray)]) rfl rfl sd sd) (EntKs.cons (EntK.row (fun _ => rfl) (A := AV.s) (id := 26) (e := 9) (k := 1) (xs := [(⟨#[97, 46, 99]⟩ : ByteArray)]) rfl rfl sd sd) (EntKs.cons (EntK.row (fun _ => rfl) (A := AV.s) (id := 27) (e := 9) (k := 1) (xs := [(⟨#[97, 46, 104]⟩ : ByteArray)]) rfl rfl sd sd) (EntKs.cons (EntK.c rfl (WeakC.nil 1)) (EntKs.cons (EntK.cr (x := (AV.s (⟨#[99, 99, 32, 97]⟩ : ByteArray))) kr) (EntKs.cons (EntK.cr (x := (AV.b true)) kr) (EntKs.cons (EntK.cr (x := (AV.s (⟨#[116, 119, 111]⟩ : ByteArray))) kr) EntKs.nil)))))))) (EntKEs.cons (EntKE.st (EntKs.cons (EntK.row (fun _ => rfl) (A := AV.s) (id := 34) (e := 9) (k := 1) (xs := [(⟨#[108, 105, 98]⟩ : ByteArray)]) rfl rfl sd sd) (EntKs.cons (EntK.row (fun _ => rfl) (A := AV.s) (id := 29) (e := 9) (k := 1) (xs := [(⟨#[98, 46, 99]⟩ : ByteArray)]) rfl rfl sd sd) (EntKs.cons (EntK.c rfl (WeakC.nil 1)) (EntKs.cons (EntK.row (fun _ => rfl) (A := AV.s) (id := 30) (e := 9) (k := 1) (xs := [(⟨#[97, 46, 111]⟩ : ByteArray)]) rfl rfl sd sd) (EntKs.cons (EntK.cr (x := (AV.s (⟨#[99, 99, 32, 98]⟩ : ByteArray))) kr) (EntKs.cons (EntK.cr (x := (AV.b false)) kr) (EntKs.cons (EntK.cr (x := (AV.s (⟨#[116, 119, 111]⟩ : ByteArray))) kr) EntKs.nil)))))))) EntKEs.nil)))) (EntKs.cons (EntK.row (fun _ => rfl) (A := DPool.av) (id := 31) (e := 81) (k := 2) (xs := [(⟨(⟨#[116, 119, 111]⟩ : ByteArray), (2 : Int)⟩ : DPool)]) rfl rfl sd sd) (EntKs.cons (EntK.row (fun _ => rfl) (A := AV.s) (id := 32) (e := 9) (k := 1) (xs := [(⟨#[108, 105, 98]⟩ : ByteArray)]) rfl rfl sd sd) EntKs.nil)))))), trivial⟩) (w_graph_Check W hW lit15) rfl kr le ?_
              refine AOps.sgy rfl rfl kr rfl ?_
              refine AOps.sc0 (vs := [(AV.i .i64 (m_graph_Check lit15))]) (r0 := (AV.i .i64 (m_law0_Num (m_graph_Check lit15)))) kr kr (w_law0_Num W (m_graph_Check lit15)) kr le ?_
              refine AOps.sgy rfl rfl kr rfl ?_
              refine AOps.sq (x := (AV.b (decide ((m_law0_Num (m_graph_Check lit15)) = (901 : Int))))) kr le ?_
              refine AOps.sq (x := (AV.b (decide ((m_law0_Num (m_graph_Check lit15)) = (901 : Int))))) kr le ?_
              refine AOps.sq (x := (AV.b (decide ((m_law0_Num (m_graph_Check lit15)) = (901 : Int))))) kr le ?_
              cases c_7 : decide ((m_law0_Num (m_graph_Check lit15)) = (901 : Int))
              · have k_7 : ¬ ((m_law0_Num (m_graph_Check lit15)) = (901 : Int)) := of_decide_eq_false c_7
                refine AOps.sgn rfl rfl kr rfl le ?_
                refine AOps.sgn rfl rfl kr rfl le ?_
                refine AOps.sgn rfl rfl kr rfl le ?_
                refine AOps.sgn rfl rfl kr rfl le ?_
                refine AOps.sq (x := (AV.b false)) kr le ?_
                refine AOps.sq (x := (AV.b false)) kr le ?_
                refine AOps.sgn rfl rfl kr rfl le ?_
                refine AOps.sgn rfl rfl kr rfl le ?_
                refine AOps.sq (x := (AV.b false)) kr le ?_
                refine AOps.sq (x := (AV.b false)) kr le ?_
                refine AOps.sgn rfl rfl kr rfl le ?_
                refine AOps.sgn rfl rfl kr rfl le ?_
                refine AOps.sgn rfl rfl kr rfl le ?_
                refine AOps.sq (x := (AV.b false)) kr le ?_
                refine AOps.sq (x := (AV.b false)) kr le ?_
                refine AOps.done ?_
                refine Awp.ret ?_
                have hM : m_law9_awake = false := by simp only [m_law9_awake, c_1, c_2, c_3, c_4, c_5, c_6, c_7, sbt]
                refine ⟨Or.inr rfl, ?_⟩
                rw [hM]
                exact Ent.cast (x' := (AV.b false)) (y' := (AV.b false)) kr kr (Ent.c kr kr)
              · have k_7 : ((m_law0_Num (m_graph_Check lit15)) = (901 : Int)) := of_decide_eq_true c_7
                refine AOps.sgy rfl rfl kr rfl ?_
                refine AOps.sq (x := (AV.st [(AV.own 35 0 3), (AV.own 44 0 1), (AV.own 45 0 1)])) kr le ?_
                refine AOps.sgy rfl rfl kr rfl ?_
                refine AOps.sfw (vs := [(AV.st [(AV.own 35 0 3), (AV.own 44 0 1), (AV.own 45 0 1)])]) (ss := [(DGraph.av lit14)]) (r0 := (AV.i .i64 (m_graph_Check lit14))) kr (show SnapW _ _ _ from ⟨(EntK.w (EntK.cast (x' := (AV.st [(AV.own 35 0 3), (AV.own 44 0 1), (AV.own 45 0 1)])) kr kr (EntK.st (EntKs.cons (EntK.own (id := 35) (len := 3) (e := 76) (k := 7) (els := [(AV.st [(AV.own 36 0 1), (AV.own 37 0 2), (AV.sl 1 true []), (AV.sl 1 true []), (AV.s (⟨#[97, 114]⟩ : ByteArray)), (AV.b false), (AV.s (⟨#[]⟩ : ByteArray))]), (AV.st [(AV.own 38 0 2), (AV.own 39 0 1), (AV.own 40 0 1), (AV.sl 1 true []), (AV.s (⟨#[99, 99, 32, 97]⟩ : ByteArray)), (AV.b true), (AV.s (⟨#[116, 119, 111]⟩ : ByteArray))]), (AV.st [(AV.own 41 0 1), (AV.own 42 0 1), (AV.sl 1 true []), (AV.own 43 0 1), (AV.s (⟨#[99, 99, 32, 98]⟩ : ByteArray)), (AV.b false), (AV.s (⟨#[111, 110, 101]⟩ : ByteArray))])]) rfl rfl rfl sd (EntKEs.cons (EntKE.st (EntKs.cons (EntK.row (fun _ => rfl) (A := AV.s) (id := 36) (e := 9) (k := 1) (xs := [(⟨#[108, 105, 98]⟩ : ByteArray)]) rfl rfl sd sd) (EntKs.cons (EntK.row (fun _ => rfl) (A := AV.s) (id := 37) (e := 9) (k := 1) (xs := [(⟨#[97, 46, 111]⟩ : ByteArray), (⟨#[98, 46, 111]⟩ : ByteArray)]) rfl rfl sd sd) (EntKs.cons (EntK.c rfl (WeakC.nil 1)) (EntKs.cons (EntK.c rfl (WeakC.nil 1)) (EntKs.cons (EntK.cr (x := (AV.s (⟨#[97, 114]⟩ : ByteArray))) kr) (EntKs.cons (EntK.cr (x := (AV.b false)) kr) (EntKs.cons (EntK.cr (x := (AV.s (⟨#[]⟩ : ByteArray))) kr) EntKs.nil)))))))) (EntKEs.cons (EntKE.st (EntKs.cons (EntK.row (fun _ => rfl) (A := AV.s) (id := 38) (e := 9) (k := 1) (xs := [(⟨#[97, 46, 111]⟩ : ByteArray), (⟨#[97, 46, 100]⟩ : ByteArray)]) rfl rfl sd sd) (EntKs.cons (EntK.row (fun _ => rfl) (A := AV.s) (id := 39) (e := 9) (k := 1) (xs := [(⟨#[97, 46, 99]⟩ : ByteArray)]) rfl rfl sd sd) (EntKs.cons (EntK.row (fun _ => rfl) (A := AV.s) (id := 40) (e := 9) (k := 1) (xs := [(⟨#[97, 46, 104]⟩ : ByteArray)]) rfl rfl sd sd) (EntKs.cons (EntK.c rfl (WeakC.nil 1)) (EntKs.cons (EntK.cr (x := (AV.s (⟨#[99, 99, 32, 97]⟩ : ByteArray))) kr) (EntKs.cons (EntK.cr (x := (AV.b true)) kr) (EntKs.cons (EntK.cr (x := (AV.s (⟨#[116, 119, 111]⟩ : ByteArray))) kr) EntKs.nil)))))))) (EntKEs.cons (EntKE.st (EntKs.cons (EntK.row (fun _ => rfl) (A := AV.s) (id := 41) (e := 9) (k := 1) (xs := [(⟨#[98, 46, 111]⟩ : ByteArray)]) rfl rfl sd sd) (EntKs.cons (EntK.row (fun _ => rfl) (A := AV.s) (id := 42) (e := 9) (k := 1) (xs := [(⟨#[98, 46, 99]⟩ : ByteArray)]) rfl rfl sd sd) (EntKs.cons (EntK.c rfl (WeakC.nil 1)) (EntKs.cons (EntK.row (fun _ => rfl) (A := AV.s) (id := 43) (e := 9) (k := 1) (xs := [(⟨#[97, 46, 111]⟩ : ByteArray)]) rfl rfl sd sd) (EntKs.cons (EntK.cr (x := (AV.s (⟨#[99, 99, 32, 98]⟩ : ByteArray))) kr) (EntKs.cons (EntK.cr (x := (AV.b false)) kr) (EntKs.cons (EntK.cr (x := (AV.s (⟨#[111, 110, 101]⟩ : ByteArray))) kr) EntKs.nil)))))))) EntKEs.nil)))) (EntKs.cons (EntK.row (fun _ => rfl) (A := DPool.av) (id := 44) (e := 81) (k := 2) (xs := [(⟨(⟨#[116, 119, 111]⟩ : ByteArray), (2 : Int)⟩ : DPool)]) rfl rfl sd sd) (EntKs.cons (EntK.row (fun _ => rfl) (A := AV.s) (id := 45) (e := 9) (k := 1) (xs := [(⟨#[108, 105, 98]⟩ : ByteArray)]) rfl rfl sd sd) EntKs.nil)))))), trivial⟩) (w_graph_Check W hW lit14) rfl kr le ?_
                refine AOps.sgy rfl rfl kr rfl ?_
                refine AOps.sc0 (vs := [(AV.i .i64 (m_graph_Check lit14))]) (r0 := (AV.i .i64 (m_law0_Num (m_graph_Check lit14)))) kr kr (w_law0_Num W (m_graph_Check lit14)) kr le ?_
                refine AOps.sgy rfl rfl kr rfl ?_
                refine AOps.sq (x := (AV.b (decide ((m_law0_Num (m_graph_Check lit14)) = (900 : Int))))) kr le ?_
                refine AOps.sq (x := (AV.b (decide ((m_law0_Num (m_graph_Check lit14)) = (900 : Int))))) kr le ?_
                refine AOps.sq (x := (AV.b (decide ((m_law0_Num (m_graph_Check lit14)) = (900 : Int))))) kr le ?_
                cases c_8 : decide ((m_law0_Num (m_graph_Check lit14)) = (900 : Int))
                · have k_8 : ¬ ((m_law0_Num (m_graph_Check lit14)) = (900 : Int)) := of_decide_eq_false c_8
                  refine AOps.sgn rfl rfl kr rfl le ?_
                  refine AOps.sgn rfl rfl kr rfl le ?_
                  refine AOps.sq (x := (AV.b false)) kr le ?_
                  refine AOps.sq (x := (AV.b false)) kr le ?_
                  refine AOps.sgn rfl rfl kr rfl le ?_
                  refine AOps.sgn rfl rfl kr rfl le ?_
                  refine AOps.sgn rfl rfl kr rfl le ?_
                  refine AOps.sq (x := (AV.b false)) kr le ?_
                  refine AOps.sq (x := (AV.b false)) kr le ?_
                  refine AOps.done ?_
                  refine Awp.ret ?_
                  have hM : m_law9_awake = false := by simp only [m_law9_awake, c_1, c_2, c_3, c_4, c_5, c_6, c_7, c_8, sbt]
                  refine ⟨Or.inr rfl, ?_⟩
                  rw [hM]
                  exact Ent.cast (x' := (AV.b false)) (y' := (AV.b false)) kr kr (Ent.c kr kr)
                · have k_8 : ((m_law0_Num (m_graph_Check lit14)) = (900 : Int)) := of_decide_eq_true c_8
                  refine AOps.sgy rfl rfl kr rfl ?_
                  refine AOps.sq (x := (AV.st [(AV.own 22 0 3), (AV.own 31 0 1), (AV.own 32 0 1)])) kr le ?_
                  refine AOps.sgy rfl rfl kr rfl ?_
                  refine AOps.sfw (vs := [(AV.st [(AV.own 22 0 3), (AV.own 31 0 1), (AV.own 32 0 1)])]) (ss := [(DGraph.av lit15)]) (r0 := (AV.b (m_graph_May lit15))) kr (show SnapW _ _ _ from ⟨(EntK.w (EntK.cast (x' := (AV.st [(AV.own 22 0 3), (AV.own 31 0 1), (AV.own 32 0 1)])) kr kr (EntK.st (EntKs.cons (EntK.own (id := 22) (len := 3) (e := 76) (k := 7) (els := [(AV.st [(AV.own 23 0 1), (AV.own 24 0 2), (AV.sl 1 true []), (AV.sl 1 true []), (AV.s (⟨#[97, 114]⟩ : ByteArray)), (AV.b false), (AV.s (⟨#[]⟩ : ByteArray))]), (AV.st [(AV.own 25 0 2), (AV.own 26 0 1), (AV.own 27 0 1), (AV.sl 1 true []), (AV.s (⟨#[99, 99, 32, 97]⟩ : ByteArray)), (AV.b true), (AV.s (⟨#[116, 119, 111]⟩ : ByteArray))]), (AV.st [(AV.own 34 0 1), (AV.own 29 0 1), (AV.sl 1 true []), (AV.own 30 0 1), (AV.s (⟨#[99, 99, 32, 98]⟩ : ByteArray)), (AV.b false), (AV.s (⟨#[116, 119, 111]⟩ : ByteArray))])]) rfl rfl rfl sd (EntKEs.cons (EntKE.st (EntKs.cons (EntK.row (fun _ => rfl) (A := AV.s) (id := 23) (e := 9) (k := 1) (xs := [(⟨#[108, 105, 98]⟩ : ByteArray)]) rfl rfl sd sd) (EntKs.cons (EntK.row (fun _ => rfl) (A := AV.s) (id := 24) (e := 9) (k := 1) (xs := [(⟨#[97, 46, 111]⟩ : ByteArray), (⟨#[98, 46, 111]⟩ : ByteArray)]) rfl rfl sd sd) (EntKs.cons (EntK.c rfl (WeakC.nil 1)) (EntKs.cons (EntK.c rfl (WeakC.nil 1)) (EntKs.cons (EntK.cr (x := (AV.s (⟨#[97, 114]⟩ : ByteArray))) kr) (EntKs.cons (EntK.cr (x := (AV.b false)) kr) (EntKs.cons (EntK.cr (x := (AV.s (⟨#[]⟩ : ByteArray))) kr) EntKs.nil)))))))) (EntKEs.cons (EntKE.st (EntKs.cons (EntK.row (fun _ => rfl) (A := AV.s) (id := 25) (e := 9) (k := 1) (xs := [(⟨#[97, 46, 111]⟩ : ByteArray), (⟨#[97, 46, 100]⟩ : ByteArray)]) rfl rfl sd sd) (EntKs.cons (EntK.row (fun _ => rfl) (A := AV.s) (id := 26) (e := 9) (k := 1) (xs := [(⟨#[97, 46, 99]⟩ : ByteArray)]) rfl rfl sd sd) (EntKs.cons (EntK.row (fun _ => rfl) (A := AV.s) (id := 27) (e := 9) (k := 1) (xs := [(⟨#[97, 46, 104]⟩ : ByteArray)]) rfl rfl sd sd) (EntKs.cons (EntK.c rfl (WeakC.nil 1)) (EntKs.cons (EntK.cr (x := (AV.s (⟨#[99, 99, 32, 97]⟩ : ByteArray))) kr) (EntKs.cons (EntK.cr (x := (AV.b true)) kr) (EntKs.cons (EntK.cr (x := (AV.s (⟨#[116, 119, 111]⟩ : ByteArray))) kr) EntKs.nil)))))))) (EntKEs.cons (EntKE.st (EntKs.cons (EntK.row (fun _ => rfl) (A := AV.s) (id := 34) (e := 9) (k := 1) (xs := [(⟨#[108, 105, 98]⟩ : ByteArray)]) rfl rfl sd sd) (EntKs.cons (EntK.row (fun _ => rfl) (A := AV.s) (id := 29) (e := 9) (k := 1) (xs := [(⟨#[98, 46, 99]⟩ : ByteArray)]) rfl rfl sd sd) (EntKs.cons (EntK.c rfl (WeakC.nil 1)) (EntKs.cons (EntK.row (fun _ => rfl) (A := AV.s) (id := 30) (e := 9) (k := 1) (xs := [(⟨#[97, 46, 111]⟩ : ByteArray)]) rfl rfl sd sd) (EntKs.cons (EntK.cr (x := (AV.s (⟨#[99, 99, 32, 98]⟩ : ByteArray))) kr) (EntKs.cons (EntK.cr (x := (AV.b false)) kr) (EntKs.cons (EntK.cr (x := (AV.s (⟨#[116, 119, 111]⟩ : ByteArray))) kr) EntKs.nil)))))))) EntKEs.nil)))) (EntKs.cons (EntK.row (fun _ => rfl) (A := DPool.av) (id := 31) (e := 81) (k := 2) (xs := [(⟨(⟨#[116, 119, 111]⟩ : ByteArray), (2 : Int)⟩ : DPool)]) rfl rfl sd sd) (EntKs.cons (EntK.row (fun _ => rfl) (A := AV.s) (id := 32) (e := 9) (k := 1) (xs := [(⟨#[108, 105, 98]⟩ : ByteArray)]) rfl rfl sd sd) EntKs.nil)))))), trivial⟩) (w_graph_May W hW lit15) rfl kr le ?_
                  refine AOps.sq (x := (AV.b (m_graph_May lit15))) kr le ?_
                  refine AOps.sq (x := (AV.b (m_graph_May lit15))) kr le ?_
                  cases c_9 : (m_graph_May lit15)
                  · refine AOps.sgn rfl rfl kr rfl le ?_
                    refine AOps.sgn rfl rfl kr rfl le ?_
                    refine AOps.sgn rfl rfl kr rfl le ?_
                    refine AOps.sq (x := (AV.b false)) kr le ?_
                    refine AOps.sq (x := (AV.b false)) kr le ?_
                    refine AOps.done ?_
                    refine Awp.ret ?_
                    have hM : m_law9_awake = false := by simp only [m_law9_awake, c_1, c_2, c_3, c_4, c_5, c_6, c_7, c_8, c_9, sbt]
                    refine ⟨Or.inr rfl, ?_⟩
                    rw [hM]
                    exact Ent.cast (x' := (AV.b false)) (y' := (AV.b false)) kr kr (Ent.c kr kr)
                  · refine AOps.sgy rfl rfl kr rfl ?_
                    refine AOps.sq (x := (AV.st [(AV.own 35 0 3), (AV.own 44 0 1), (AV.own 45 0 1)])) kr le ?_
                    refine AOps.sgy rfl rfl kr rfl ?_
                    refine AOps.sfw (vs := [(AV.st [(AV.own 35 0 3), (AV.own 44 0 1), (AV.own 45 0 1)])]) (ss := [(DGraph.av lit14)]) (r0 := (AV.b (m_graph_May lit14))) kr (show SnapW _ _ _ from ⟨(EntK.w (EntK.cast (x' := (AV.st [(AV.own 35 0 3), (AV.own 44 0 1), (AV.own 45 0 1)])) kr kr (EntK.st (EntKs.cons (EntK.own (id := 35) (len := 3) (e := 76) (k := 7) (els := [(AV.st [(AV.own 36 0 1), (AV.own 37 0 2), (AV.sl 1 true []), (AV.sl 1 true []), (AV.s (⟨#[97, 114]⟩ : ByteArray)), (AV.b false), (AV.s (⟨#[]⟩ : ByteArray))]), (AV.st [(AV.own 38 0 2), (AV.own 39 0 1), (AV.own 40 0 1), (AV.sl 1 true []), (AV.s (⟨#[99, 99, 32, 97]⟩ : ByteArray)), (AV.b true), (AV.s (⟨#[116, 119, 111]⟩ : ByteArray))]), (AV.st [(AV.own 41 0 1), (AV.own 42 0 1), (AV.sl 1 true []), (AV.own 43 0 1), (AV.s (⟨#[99, 99, 32, 98]⟩ : ByteArray)), (AV.b false), (AV.s (⟨#[111, 110, 101]⟩ : ByteArray))])]) rfl rfl rfl sd (EntKEs.cons (EntKE.st (EntKs.cons (EntK.row (fun _ => rfl) (A := AV.s) (id := 36) (e := 9) (k := 1) (xs := [(⟨#[108, 105, 98]⟩ : ByteArray)]) rfl rfl sd sd) (EntKs.cons (EntK.row (fun _ => rfl) (A := AV.s) (id := 37) (e := 9) (k := 1) (xs := [(⟨#[97, 46, 111]⟩ : ByteArray), (⟨#[98, 46, 111]⟩ : ByteArray)]) rfl rfl sd sd) (EntKs.cons (EntK.c rfl (WeakC.nil 1)) (EntKs.cons (EntK.c rfl (WeakC.nil 1)) (EntKs.cons (EntK.cr (x := (AV.s (⟨#[97, 114]⟩ : ByteArray))) kr) (EntKs.cons (EntK.cr (x := (AV.b false)) kr) (EntKs.cons (EntK.cr (x := (AV.s (⟨#[]⟩ : ByteArray))) kr) EntKs.nil)))))))) (EntKEs.cons (EntKE.st (EntKs.cons (EntK.row (fun _ => rfl) (A := AV.s) (id := 38) (e := 9) (k := 1) (xs := [(⟨#[97, 46, 111]⟩ : ByteArray), (⟨#[97, 46, 100]⟩ : ByteArray)]) rfl rfl sd sd) (EntKs.cons (EntK.row (fun _ => rfl) (A := AV.s) (id := 39) (e := 9) (k := 1) (xs := [(⟨#[97, 46, 99]⟩ : ByteArray)]) rfl rfl sd sd) (EntKs.cons (EntK.row (fun _ => rfl) (A := AV.s) (id := 40) (e := 9) (k := 1) (xs := [(⟨#[97, 46, 104]⟩ : ByteArray)]) rfl rfl sd sd) (EntKs.cons (EntK.c rfl (WeakC.nil 1)) (EntKs.cons (EntK.cr (x := (AV.s (⟨#[99, 99, 32, 97]⟩ : ByteArray))) kr) (EntKs.cons (EntK.cr (x := (AV.b true)) kr) (EntKs.cons (EntK.cr (x := (AV.s (⟨#[116, 119, 111]⟩ : ByteArray))) kr) EntKs.nil)))))))) (EntKEs.cons (EntKE.st (EntKs.cons (EntK.row (fun _ => rfl) (A := AV.s) (id := 41) (e := 9) (k := 1) (xs := [(⟨#[98, 46, 111]⟩ : ByteArray)]) rfl rfl sd sd) (EntKs.cons (EntK.row (fun _ => rfl) (A := AV.s) (id := 42) (e := 9) (k := 1) (xs := [(⟨#[98, 46, 99]⟩ : ByteArray)]) rfl rfl sd sd) (EntKs.cons (EntK.c rfl (WeakC.nil 1)) (EntKs.cons (EntK.row (fun _ => rfl) (A := AV.s) (id := 43) (e := 9) (k := 1) (xs := [(⟨#[97, 46, 111]⟩ : ByteArray)]) rfl rfl sd sd) (EntKs.cons (EntK.cr (x := (AV.s (⟨#[99, 99, 32, 98]⟩ : ByteArray))) kr) (EntKs.cons (EntK.cr (x := (AV.b false)) kr) (EntKs.cons (EntK.cr (x := (AV.s (⟨#[111, 110, 101]⟩ : ByteArray))) kr) EntKs.nil)))))))) EntKEs.nil)))) (EntKs.cons (EntK.row (fun _ => rfl) (A := DPool.av) (id := 44) (e := 81) (k := 2) (xs := [(⟨(⟨#[116, 119, 111]⟩ : ByteArray), (2 : Int)⟩ : DPool)]) rfl rfl sd sd) (EntKs.cons (EntK.row (fun _ => rfl) (A := AV.s) (id := 45) (e := 9) (k := 1) (xs := [(⟨#[108, 105, 98]⟩ : ByteArray)]) rfl rfl sd sd) EntKs.nil)))))), trivial⟩) (w_graph_May W hW lit14) rfl kr le ?_
                    refine AOps.sgy rfl rfl kr rfl ?_
                    refine AOps.sq (x := (AV.b (!(m_graph_May lit14)))) kr le ?_
                    refine AOps.sq (x := (AV.b (!(m_graph_May lit14)))) kr le ?_
                    refine AOps.sq (x := (AV.b (!(m_graph_May lit14)))) kr le ?_
                    refine AOps.done ?_
                    refine Awp.ret ?_
                    have hM : m_law9_awake = (!(m_graph_May lit14)) := by simp only [m_law9_awake, c_1, c_2, c_3, c_4, c_5, c_6, c_7, c_8, c_9, sbt]
                    refine ⟨Or.inr rfl, ?_⟩
                    rw [hM]
                    exact Ent.cast (x' := (AV.b (!(m_graph_May lit14)))) (y' := (AV.b (!(m_graph_May lit14)))) kr kr (Ent.c kr kr)

theorem w_law9_Graphs (W : World) {m0 : Int} (hW : W.cell? ⟨0, 0, none⟩ = some (.int .i64 m0)) (g : DGraph) (name : ByteArray) (hz0 : g.sz ≤ 1048576) : PureAt Go.Proofs.Tryz.prog W 3 [(DGraph.av g), (AV.s name)] (AV.b (m_law9_Graphs g name)) [] := by
  have hz : ∀ i, needsN g i ≤ 1048576 := fun i => Nat.le_trans (needsN_sz g i) hz0
  have hzo : outsN g.edges ≤ 1048576 := Nat.le_trans (outsN_sz g) hz0
  refine pure_of_bodyC (fn := Go.Proofs.Tryz.f3) Go.Proofs.Tryz.func3 rfl (en3 W) (ts := [4]) rfl le ?_
  refine Awp.seq ?_
  refine Awp.region tabS_ok ?_
  refine AOps.sn (x := (AV.loc 0 0 0)) (h' := ⟨1, [(0, some ⟨26, 3, [(DGraph.av g)]⟩)]⟩) kr le ?_
  refine AOps.sq (x := (AV.b false)) kr le ?_
  refine AOps.done ?_
  refine Awp.seq ?_
  refine Awp.region tabS_ok ?_
  refine AOps.sq (x := (DGraph.av g)) kr le ?_
  refine AOps.sc0 (vs := [(DGraph.av g)]) (r0 := (DGraph.av (m_law0_CopyGraph g))) kr kr (w_law0_CopyGraph W g sd) kr le ?_
  refine AOps.sn (x := (AV.loc 1 0 0)) (h' := ⟨2, [(1, some ⟨26, 3, [(AV.st [(AV.sl 7 true []), (AV.sl 2 true []), (AV.sl 1 true [])])]⟩), (0, some ⟨26, 3, [(DGraph.av g)]⟩)]⟩) kr le ?_
  refine AOps.st (x := AV.und) (h' := ⟨2, [(1, some ⟨26, 3, [(AV.st [((slA 7 DEdge.av) ((m_law0_CopyGraph g).edges)), ((slA 2 DPool.av) ((m_law0_CopyGraph g).pools)), ((slA 1 AV.s) ((m_law0_CopyGraph g).defaults))])]⟩), (0, some ⟨26, 3, [(DGraph.av g)]⟩)]⟩) kr ?_
  refine AOps.done ?_
  refine Awp.seq ?_
  refine Awp.region tabS_ok ?_
  refine AOps.sq (x := (AV.st [((slA 7 DEdge.av) ((m_law0_CopyGraph g).edges)), ((slA 2 DPool.av) ((m_law0_CopyGraph g).pools)), ((slA 1 AV.s) ((m_law0_CopyGraph g).defaults))])) kr le ?_
  refine AOps.sq (x := (AV.s name)) kr le ?_
  refine AOps.sc0 (vs := [(AV.st [((slA 7 DEdge.av) ((m_law0_CopyGraph g).edges)), ((slA 2 DPool.av) ((m_law0_CopyGraph g).pools)), ((slA 1 AV.s) ((m_law0_CopyGraph g).defaults))]), (AV.s name)]) (r0 := (AV.tup [(AV.i .i64 ((m_graph_Maker (⟨(m_law0_CopyGraph g).edges, (m_law0_CopyGraph g).pools, (m_law0_CopyGraph g).defaults⟩ : DGraph) name).1)), (AV.b ((m_graph_Maker (⟨(m_law0_CopyGraph g).edges, (m_law0_CopyGraph g).pools, (m_law0_CopyGraph g).defaults⟩ : DGraph) name).2.1)), (AV.i .i64 ((m_graph_Maker (⟨(m_law0_CopyGraph g).edges, (m_law0_CopyGraph g).pools, (m_law0_CopyGraph g).defaults⟩ : DGraph) name).2.2))])) kr kr (w_graph_Maker W hW (⟨(m_law0_CopyGraph g).edges, (m_law0_CopyGraph g).pools, (m_law0_CopyGraph g).defaults⟩ : DGraph) name) kr le ?_
  refine AOps.sq (x := (AV.tup [(AV.i .i64 ((m_graph_Maker (⟨(m_law0_CopyGraph g).edges, (m_law0_CopyGraph g).pools, (m_law0_CopyGraph g).defaults⟩ : DGraph) name).1)), (AV.b ((m_graph_Maker (⟨(m_law0_CopyGraph g).edges, (m_law0_CopyGraph g).pools, (m_law0_CopyGraph g).defaults⟩ : DGraph) name).2.1)), (AV.i .i64 ((m_graph_Maker (⟨(m_law0_CopyGraph g).edges, (m_law0_CopyGraph g).pools, (m_law0_CopyGraph g).defaults⟩ : DGraph) name).2.2))])) kr le ?_
  refine AOps.sq (x := (AV.i .i64 ((m_graph_Maker (⟨(m_law0_CopyGraph g).edges, (m_law0_CopyGraph g).pools, (m_law0_CopyGraph g).defaults⟩ : DGraph) name).1))) kr le ?_
  refine AOps.sq (x := (AV.b ((m_graph_Maker (⟨(m_law0_CopyGraph g).edges, (m_law0_CopyGraph g).pools, (m_law0_CopyGraph g).defaults⟩ : DGraph) name).2.1))) kr le ?_
  refine AOps.sq (x := (AV.i .i64 ((m_graph_Maker (⟨(m_law0_CopyGraph g).edges, (m_law0_CopyGraph g).pools, (m_law0_CopyGraph g).defaults⟩ : DGraph) name).2.2))) kr le ?_
  refine AOps.sq (x := (AV.i .i64 ((m_graph_Maker (⟨(m_law0_CopyGraph g).edges, (m_law0_CopyGraph g).pools, (m_law0_CopyGraph g).defaults⟩ : DGraph) name).1))) kr le ?_
  refine AOps.sq (x := (AV.b ((m_graph_Maker (⟨(m_law0_CopyGraph g).edges, (m_law0_CopyGraph g).pools, (m_law0_CopyGraph g).defaults⟩ : DGraph) name).2.1))) kr le ?_
  refine AOps.sq (x := (AV.i .i64 ((m_graph_Maker (⟨(m_law0_CopyGraph g).edges, (m_law0_CopyGraph g).pools, (m_law0_CopyGraph g).defaults⟩ : DGraph) name).2.2))) kr le ?_
  refine AOps.done ?_
  refine Awp.seq ?_
  refine Awp.region tabS_ok ?_
  refine AOps.sq (x := (DGraph.av g)) kr le ?_
  refine AOps.sq (x := (AV.s name)) kr le ?_
  refine AOps.sc0 (vs := [(DGraph.av g), (AV.s name)]) (r0 := (AV.tup [(AV.i .i64 ((m_ref1_Maker g name).1)), (AV.b ((m_ref1_Maker g name).2.1)), (AV.i .i64 ((m_ref1_Maker g name).2.2))])) kr kr (w_ref1_Maker W g name sd) kr le ?_
  refine AOps.sq (x := (AV.tup [(AV.i .i64 ((m_ref1_Maker g name).1)), (AV.b ((m_ref1_Maker g name).2.1)), (AV.i .i64 ((m_ref1_Maker g name).2.2))])) kr le ?_
  refine AOps.sq (x := (AV.i .i64 ((m_ref1_Maker g name).1))) kr le ?_
  refine AOps.sq (x := (AV.b ((m_ref1_Maker g name).2.1))) kr le ?_
  refine AOps.sq (x := (AV.i .i64 ((m_ref1_Maker g name).2.2))) kr le ?_
  refine AOps.sq (x := (AV.i .i64 ((m_ref1_Maker g name).1))) kr le ?_
  refine AOps.sq (x := (AV.b ((m_ref1_Maker g name).2.1))) kr le ?_
  refine AOps.sq (x := (AV.i .i64 ((m_ref1_Maker g name).2.2))) kr le ?_
  refine AOps.done ?_
  refine Awp.seq ?_
  refine Awp.drawn tabS_ok mixed 32 kr le ?_
  refine AOpsD.sq (x := (AV.i .i64 ((m_graph_Maker (⟨(m_law0_CopyGraph g).edges, (m_law0_CopyGraph g).pools, (m_law0_CopyGraph g).defaults⟩ : DGraph) name).1))) kr le ?_
  refine AOpsD.sq (x := (AV.i .i64 ((m_ref1_Maker g name).1))) kr le ?_
  refine AOpsD.sq (x := (AV.b (decide ((m_graph_Maker (⟨(m_law0_CopyGraph g).edges, (m_law0_CopyGraph g).pools, (m_law0_CopyGraph g).defaults⟩ : DGraph) name).1 = (m_ref1_Maker g name).1)))) kr le ?_
  refine AOpsD.sq (x := (AV.b (decide ((m_graph_Maker (⟨(m_law0_CopyGraph g).edges, (m_law0_CopyGraph g).pools, (m_law0_CopyGraph g).defaults⟩ : DGraph) name).1 = (m_ref1_Maker g name).1)))) kr le ?_
  cases c_1 : decide ((m_graph_Maker (⟨(m_law0_CopyGraph g).edges, (m_law0_CopyGraph g).pools, (m_law0_CopyGraph g).defaults⟩ : DGraph) name).1 = (m_ref1_Maker g name).1)
  · have k_1 : ¬ ((m_graph_Maker (⟨(m_law0_CopyGraph g).edges, (m_law0_CopyGraph g).pools, (m_law0_CopyGraph g).defaults⟩ : DGraph) name).1 = (m_ref1_Maker g name).1) := of_decide_eq_false c_1
    refine AOpsD.sgn rfl rfl kr rfl le ?_
    refine AOpsD.sgn rfl rfl kr rfl le ?_
    refine AOpsD.sgn rfl rfl kr rfl le ?_
    refine AOpsD.sq (x := (AV.b false)) kr le ?_
    refine AOpsD.sq (x := (AV.b false)) kr le ?_
    refine AOpsD.sgn rfl rfl kr rfl le ?_
    refine AOpsD.sgn rfl rfl kr rfl le ?_
    refine AOpsD.sgn rfl rfl kr rfl le ?_
    refine AOpsD.sgn rfl rfl kr rfl le ?_
    refine AOpsD.sq (x := (AV.b false)) kr le ?_
    refine AOpsD.sq (x := (AV.b false)) kr le ?_
    refine AOpsD.sgn rfl rfl kr rfl le ?_
    refine AOpsD.sgn rfl rfl kr rfl le ?_
    refine AOpsD.sgn rfl rfl kr rfl le ?_
    refine AOpsD.sgn rfl rfl kr rfl le ?_
    refine AOpsD.sgn rfl rfl kr rfl le ?_
    refine AOpsD.sgn rfl rfl kr rfl le ?_
    refine AOpsD.sq (x := (AV.b false)) kr le ?_
    refine AOpsD.sq (x := (AV.b false)) kr le ?_
    refine AOpsD.sgn rfl rfl kr rfl le ?_
    refine AOpsD.sgn rfl rfl kr rfl le ?_
    refine AOpsD.sgn rfl rfl kr rfl le ?_
    refine AOpsD.sgn rfl rfl kr rfl le ?_
    refine AOpsD.sgn rfl rfl kr rfl le ?_
    refine AOpsD.sq (x := (AV.b false)) kr le ?_
    refine AOpsD.sq (x := (AV.b false)) kr le ?_
    refine AOpsD.sgn rfl rfl kr rfl le ?_
    refine AOpsD.sgn rfl rfl kr rfl le ?_
    refine AOpsD.sgn rfl rfl kr rfl le ?_
    refine AOpsD.sq (x := (AV.b false)) kr le ?_
    refine AOpsD.sq (x := (AV.b false)) kr le ?_
    refine AOpsD.sgn rfl rfl kr rfl le ?_
    refine AOpsD.sq (x := (AV.b false)) kr le ?_
    refine AOpsD.sq (x := (AV.b false)) kr le ?_
    refine AOpsD.fin ?_
    refine Awp.ret ?_
    have hM : m_law9_Graphs g name = false := by simp only [m_law9_Graphs, c_1, sbt]
    refine ⟨Or.inr rfl, ?_⟩
    rw [hM]
    exact Ent.cast (x' := (AV.b false)) (y' := (AV.b false)) kr kr (Ent.c kr kr)
  · have k_1 : ((m_graph_Maker (⟨(m_law0_CopyGraph g).edges, (m_law0_CopyGraph g).pools, (m_law0_CopyGraph g).defaults⟩ : DGraph) name).1 = (m_ref1_Maker g name).1) := of_decide_eq_true c_1
    refine AOpsD.sgy rfl rfl kr rfl ?_
    refine AOpsD.sq (x := (AV.b ((m_graph_Maker (⟨(m_law0_CopyGraph g).edges, (m_law0_CopyGraph g).pools, (m_law0_CopyGraph g).defaults⟩ : DGraph) name).2.1))) kr le ?_
    refine AOpsD.sgy rfl rfl kr rfl ?_
    refine AOpsD.sq (x := (AV.b ((m_ref1_Maker g name).2.1))) kr le ?_
    refine AOpsD.sgy rfl rfl kr rfl ?_
    refine AOpsD.sq (x := (AV.b ((m_graph_Maker (⟨(m_law0_CopyGraph g).edges, (m_law0_CopyGraph g).pools, (m_law0_CopyGraph g).defaults⟩ : DGraph) name).2.1 == (m_ref1_Maker g name).2.1))) kr le ?_
    refine AOpsD.sq (x := (AV.b ((m_graph_Maker (⟨(m_law0_CopyGraph g).edges, (m_law0_CopyGraph g).pools, (m_law0_CopyGraph g).defaults⟩ : DGraph) name).2.1 == (m_ref1_Maker g name).2.1))) kr le ?_
    refine AOpsD.sq (x := (AV.b ((m_graph_Maker (⟨(m_law0_CopyGraph g).edges, (m_law0_CopyGraph g).pools, (m_law0_CopyGraph g).defaults⟩ : DGraph) name).2.1 == (m_ref1_Maker g name).2.1))) kr le ?_
    cases c_2 : ((m_graph_Maker (⟨(m_law0_CopyGraph g).edges, (m_law0_CopyGraph g).pools, (m_law0_CopyGraph g).defaults⟩ : DGraph) name).2.1 == (m_ref1_Maker g name).2.1)
    · refine AOpsD.sgn rfl rfl kr rfl le ?_
      refine AOpsD.sgn rfl rfl kr rfl le ?_
      refine AOpsD.sgn rfl rfl kr rfl le ?_
      refine AOpsD.sgn rfl rfl kr rfl le ?_
      refine AOpsD.sq (x := (AV.b false)) kr le ?_
      refine AOpsD.sq (x := (AV.b false)) kr le ?_
      refine AOpsD.sgn rfl rfl kr rfl le ?_
      refine AOpsD.sgn rfl rfl kr rfl le ?_
      refine AOpsD.sgn rfl rfl kr rfl le ?_
      refine AOpsD.sgn rfl rfl kr rfl le ?_
      refine AOpsD.sgn rfl rfl kr rfl le ?_
      refine AOpsD.sgn rfl rfl kr rfl le ?_
      refine AOpsD.sq (x := (AV.b false)) kr le ?_
      refine AOpsD.sq (x := (AV.b false)) kr le ?_
      refine AOpsD.sgn rfl rfl kr rfl le ?_
      refine AOpsD.sgn rfl rfl kr rfl le ?_
      refine AOpsD.sgn rfl rfl kr rfl le ?_
      refine AOpsD.sgn rfl rfl kr rfl le ?_
      refine AOpsD.sgn rfl rfl kr rfl le ?_
      refine AOpsD.sq (x := (AV.b false)) kr le ?_
      refine AOpsD.sq (x := (AV.b false)) kr le ?_
      refine AOpsD.sgn rfl rfl kr rfl le ?_
      refine AOpsD.sgn rfl rfl kr rfl le ?_
      refine AOpsD.sgn rfl rfl kr rfl le ?_
      refine AOpsD.sq (x := (AV.b false)) kr le ?_
      refine AOpsD.sq (x := (AV.b false)) kr le ?_
      refine AOpsD.sgn rfl rfl kr rfl le ?_
      refine AOpsD.sq (x := (AV.b false)) kr le ?_
      refine AOpsD.sq (x := (AV.b false)) kr le ?_
      refine AOpsD.fin ?_
      refine Awp.ret ?_
      have hM : m_law9_Graphs g name = false := by simp only [m_law9_Graphs, c_1, c_2, sbt]
      refine ⟨Or.inr rfl, ?_⟩
      rw [hM]
      exact Ent.cast (x' := (AV.b false)) (y' := (AV.b false)) kr kr (Ent.c kr kr)
    · refine AOpsD.sgy rfl rfl kr rfl ?_
      refine AOpsD.sq (x := (AV.i .i64 ((m_graph_Maker (⟨(m_law0_CopyGraph g).edges, (m_law0_CopyGraph g).pools, (m_law0_CopyGraph g).defaults⟩ : DGraph) name).2.2))) kr le ?_
      refine AOpsD.sgy rfl rfl kr rfl ?_
      refine AOpsD.sc0 (vs := [(AV.i .i64 ((m_graph_Maker (⟨(m_law0_CopyGraph g).edges, (m_law0_CopyGraph g).pools, (m_law0_CopyGraph g).defaults⟩ : DGraph) name).2.2))]) (r0 := (AV.i .i64 (m_law0_Num ((m_graph_Maker (⟨(m_law0_CopyGraph g).edges, (m_law0_CopyGraph g).pools, (m_law0_CopyGraph g).defaults⟩ : DGraph) name).2.2)))) kr kr (w_law0_Num W ((m_graph_Maker (⟨(m_law0_CopyGraph g).edges, (m_law0_CopyGraph g).pools, (m_law0_CopyGraph g).defaults⟩ : DGraph) name).2.2)) kr le ?_
      refine AOpsD.sgy rfl rfl kr rfl ?_
      refine AOpsD.sq (x := (AV.i .i64 ((m_ref1_Maker g name).2.2))) kr le ?_
      refine AOpsD.sgy rfl rfl kr rfl ?_
      refine AOpsD.sq (x := (AV.b (decide ((m_law0_Num ((m_graph_Maker (⟨(m_law0_CopyGraph g).edges, (m_law0_CopyGraph g).pools, (m_law0_CopyGraph g).defaults⟩ : DGraph) name).2.2)) = (m_ref1_Maker g name).2.2)))) kr le ?_
      refine AOpsD.sq (x := (AV.b (decide ((m_law0_Num ((m_graph_Maker (⟨(m_law0_CopyGraph g).edges, (m_law0_CopyGraph g).pools, (m_law0_CopyGraph g).defaults⟩ : DGraph) name).2.2)) = (m_ref1_Maker g name).2.2)))) kr le ?_
      refine AOpsD.sq (x := (AV.b (decide ((m_law0_Num ((m_graph_Maker (⟨(m_law0_CopyGraph g).edges, (m_law0_CopyGraph g).pools, (m_law0_CopyGraph g).defaults⟩ : DGraph) name).2.2)) = (m_ref1_Maker g name).2.2)))) kr le ?_
      cases c_3 : decide ((m_law0_Num ((m_graph_Maker (⟨(m_law0_CopyGraph g).edges, (m_law0_CopyGraph g).pools, (m_law0_CopyGraph g).defaults⟩ : DGraph) name).2.2)) = (m_ref1_Maker g name).2.2)
      · have k_3 : ¬ ((m_law0_Num ((m_graph_Maker (⟨(m_law0_CopyGraph g).edges, (m_law0_CopyGraph g).pools, (m_law0_CopyGraph g).defaults⟩ : DGraph) name).2.2)) = (m_ref1_Maker g name).2.2) := of_decide_eq_false c_3
        refine AOpsD.sgn rfl rfl kr rfl le ?_
        refine AOpsD.sgn rfl rfl kr rfl le ?_
        refine AOpsD.sgn rfl rfl kr rfl le ?_
        refine AOpsD.sgn rfl rfl kr rfl le ?_
        refine AOpsD.sgn rfl rfl kr rfl le ?_
        refine AOpsD.sgn rfl rfl kr rfl le ?_
        refine AOpsD.sq (x := (AV.b false)) kr le ?_
        refine AOpsD.sq (x := (AV.b false)) kr le ?_
        refine AOpsD.sgn rfl rfl kr rfl le ?_
        refine AOpsD.sgn rfl rfl kr rfl le ?_
        refine AOpsD.sgn rfl rfl kr rfl le ?_
        refine AOpsD.sgn rfl rfl kr rfl le ?_
        refine AOpsD.sgn rfl rfl kr rfl le ?_
        refine AOpsD.sq (x := (AV.b false)) kr le ?_
        refine AOpsD.sq (x := (AV.b false)) kr le ?_
        refine AOpsD.sgn rfl rfl kr rfl le ?_
        refine AOpsD.sgn rfl rfl kr rfl le ?_
        refine AOpsD.sgn rfl rfl kr rfl le ?_
        refine AOpsD.sq (x := (AV.b false)) kr le ?_
        refine AOpsD.sq (x := (AV.b false)) kr le ?_
        refine AOpsD.sgn rfl rfl kr rfl le ?_
        refine AOpsD.sq (x := (AV.b false)) kr le ?_
        refine AOpsD.sq (x := (AV.b false)) kr le ?_
        refine AOpsD.fin ?_
        refine Awp.ret ?_
        have hM : m_law9_Graphs g name = false := by simp only [m_law9_Graphs, c_1, c_2, c_3, sbt]
        refine ⟨Or.inr rfl, ?_⟩
        rw [hM]
        exact Ent.cast (x' := (AV.b false)) (y' := (AV.b false)) kr kr (Ent.c kr kr)
      · have k_3 : ((m_law0_Num ((m_graph_Maker (⟨(m_law0_CopyGraph g).edges, (m_law0_CopyGraph g).pools, (m_law0_CopyGraph g).defaults⟩ : DGraph) name).2.2)) = (m_ref1_Maker g name).2.2) := of_decide_eq_true c_3
        refine AOpsD.sgy rfl rfl kr rfl ?_
        refine AOpsD.sq (x := (AV.st [((slA 7 DEdge.av) ((m_law0_CopyGraph g).edges)), ((slA 2 DPool.av) ((m_law0_CopyGraph g).pools)), ((slA 1 AV.s) ((m_law0_CopyGraph g).defaults))])) kr le ?_
        refine AOpsD.sgy rfl rfl kr rfl ?_
        refine AOpsD.sc0 (vs := [(AV.st [((slA 7 DEdge.av) ((m_law0_CopyGraph g).edges)), ((slA 2 DPool.av) ((m_law0_CopyGraph g).pools)), ((slA 1 AV.s) ((m_law0_CopyGraph g).defaults))])]) (r0 := (AV.i .i64 (m_graph_Check (⟨(m_law0_CopyGraph g).edges, (m_law0_CopyGraph g).pools, (m_law0_CopyGraph g).defaults⟩ : DGraph)))) kr kr (w_graph_Check W hW (⟨(m_law0_CopyGraph g).edges, (m_law0_CopyGraph g).pools, (m_law0_CopyGraph g).defaults⟩ : DGraph)) kr le ?_
        refine AOpsD.sgy rfl rfl kr rfl ?_
        refine AOpsD.sc0 (vs := [(AV.i .i64 (m_graph_Check (⟨(m_law0_CopyGraph g).edges, (m_law0_CopyGraph g).pools, (m_law0_CopyGraph g).defaults⟩ : DGraph)))]) (r0 := (AV.i .i64 (m_law0_Num (m_graph_Check (⟨(m_law0_CopyGraph g).edges, (m_law0_CopyGraph g).pools, (m_law0_CopyGraph g).defaults⟩ : DGraph))))) kr kr (w_law0_Num W (m_graph_Check (⟨(m_law0_CopyGraph g).edges, (m_law0_CopyGraph g).pools, (m_law0_CopyGraph g).defaults⟩ : DGraph))) kr le ?_
        refine AOpsD.sgy rfl rfl kr rfl ?_
        refine AOpsD.sq (x := (DGraph.av g)) kr le ?_
        refine AOpsD.sgy rfl rfl kr rfl ?_
        refine AOpsD.sc0 (vs := [(DGraph.av g)]) (r0 := (AV.i .i64 (m_ref1_Check g))) kr kr (w_ref1_Check W g sd) kr le ?_
        refine AOpsD.sgy rfl rfl kr rfl ?_
        refine AOpsD.sq (x := (AV.b (decide ((m_law0_Num (m_graph_Check (⟨(m_law0_CopyGraph g).edges, (m_law0_CopyGraph g).pools, (m_law0_CopyGraph g).defaults⟩ : DGraph))) = (m_ref1_Check g))))) kr le ?_
        refine AOpsD.sq (x := (AV.b (decide ((m_law0_Num (m_graph_Check (⟨(m_law0_CopyGraph g).edges, (m_law0_CopyGraph g).pools, (m_law0_CopyGraph g).defaults⟩ : DGraph))) = (m_ref1_Check g))))) kr le ?_
        refine AOpsD.sq (x := (AV.b (decide ((m_law0_Num (m_graph_Check (⟨(m_law0_CopyGraph g).edges, (m_law0_CopyGraph g).pools, (m_law0_CopyGraph g).defaults⟩ : DGraph))) = (m_ref1_Check g))))) kr le ?_
        cases c_4 : decide ((m_law0_Num (m_graph_Check (⟨(m_law0_CopyGraph g).edges, (m_law0_CopyGraph g).pools, (m_law0_CopyGraph g).defaults⟩ : DGraph))) = (m_ref1_Check g))
        · have k_4 : ¬ ((m_law0_Num (m_graph_Check (⟨(m_law0_CopyGraph g).edges, (m_law0_CopyGraph g).pools, (m_law0_CopyGraph g).defaults⟩ : DGraph))) = (m_ref1_Check g)) := of_decide_eq_false c_4
          refine AOpsD.sgn rfl rfl kr rfl le ?_
          refine AOpsD.sgn rfl rfl kr rfl le ?_
          refine AOpsD.sgn rfl rfl kr rfl le ?_
          refine AOpsD.sgn rfl rfl kr rfl le ?_
          refine AOpsD.sgn rfl rfl kr rfl le ?_
          refine AOpsD.sq (x := (AV.b false)) kr le ?_
          refine AOpsD.sq (x := (AV.b false)) kr le ?_
          refine AOpsD.sgn rfl rfl kr rfl le ?_
          refine AOpsD.sgn rfl rfl kr rfl le ?_
          refine AOpsD.sgn rfl rfl kr rfl le ?_
          refine AOpsD.sq (x := (AV.b false)) kr le ?_
          refine AOpsD.sq (x := (AV.b false)) kr le ?_
          refine AOpsD.sgn rfl rfl kr rfl le ?_
          refine AOpsD.sq (x := (AV.b false)) kr le ?_
          refine AOpsD.sq (x := (AV.b false)) kr le ?_
          refine AOpsD.fin ?_
          refine Awp.ret ?_
          have hM : m_law9_Graphs g name = false := by simp only [m_law9_Graphs, c_1, c_2, c_3, c_4, sbt]
          refine ⟨Or.inr rfl, ?_⟩
          rw [hM]
          exact Ent.cast (x' := (AV.b false)) (y' := (AV.b false)) kr kr (Ent.c kr kr)
        · have k_4 : ((m_law0_Num (m_graph_Check (⟨(m_law0_CopyGraph g).edges, (m_law0_CopyGraph g).pools, (m_law0_CopyGraph g).defaults⟩ : DGraph))) = (m_ref1_Check g)) := of_decide_eq_true c_4
          refine AOpsD.sgy rfl rfl kr rfl ?_
          refine AOpsD.sq (x := (AV.st [((slA 7 DEdge.av) ((m_law0_CopyGraph g).edges)), ((slA 2 DPool.av) ((m_law0_CopyGraph g).pools)), ((slA 1 AV.s) ((m_law0_CopyGraph g).defaults))])) kr le ?_
          refine AOpsD.sgy rfl rfl kr rfl ?_
          refine AOpsD.sc0 (vs := [(AV.st [((slA 7 DEdge.av) ((m_law0_CopyGraph g).edges)), ((slA 2 DPool.av) ((m_law0_CopyGraph g).pools)), ((slA 1 AV.s) ((m_law0_CopyGraph g).defaults))])]) (r0 := (AV.b (m_graph_May (⟨(m_law0_CopyGraph g).edges, (m_law0_CopyGraph g).pools, (m_law0_CopyGraph g).defaults⟩ : DGraph)))) kr kr (w_graph_May W hW (⟨(m_law0_CopyGraph g).edges, (m_law0_CopyGraph g).pools, (m_law0_CopyGraph g).defaults⟩ : DGraph)) kr le ?_
          refine AOpsD.sgy rfl rfl kr rfl ?_
          refine AOpsD.sq (x := (DGraph.av g)) kr le ?_
          refine AOpsD.sgy rfl rfl kr rfl ?_
          refine AOpsD.sc0 (vs := [(DGraph.av g)]) (r0 := (AV.b (m_ref1_GraphMay g))) kr kr (w_ref1_GraphMay W g) kr le ?_
          refine AOpsD.sgy rfl rfl kr rfl ?_
          refine AOpsD.sq (x := (AV.b ((m_graph_May (⟨(m_law0_CopyGraph g).edges, (m_law0_CopyGraph g).pools, (m_law0_CopyGraph g).defaults⟩ : DGraph)) == (m_ref1_GraphMay g)))) kr le ?_
          refine AOpsD.sq (x := (AV.b ((m_graph_May (⟨(m_law0_CopyGraph g).edges, (m_law0_CopyGraph g).pools, (m_law0_CopyGraph g).defaults⟩ : DGraph)) == (m_ref1_GraphMay g)))) kr le ?_
          refine AOpsD.sq (x := (AV.b ((m_graph_May (⟨(m_law0_CopyGraph g).edges, (m_law0_CopyGraph g).pools, (m_law0_CopyGraph g).defaults⟩ : DGraph)) == (m_ref1_GraphMay g)))) kr le ?_
          cases c_5 : ((m_graph_May (⟨(m_law0_CopyGraph g).edges, (m_law0_CopyGraph g).pools, (m_law0_CopyGraph g).defaults⟩ : DGraph)) == (m_ref1_GraphMay g))
          · refine AOpsD.sgn rfl rfl kr rfl le ?_
            refine AOpsD.sgn rfl rfl kr rfl le ?_
            refine AOpsD.sgn rfl rfl kr rfl le ?_
            refine AOpsD.sq (x := (AV.b false)) kr le ?_
            refine AOpsD.sq (x := (AV.b false)) kr le ?_
            refine AOpsD.sgn rfl rfl kr rfl le ?_
            refine AOpsD.sq (x := (AV.b false)) kr le ?_
            refine AOpsD.sq (x := (AV.b false)) kr le ?_
            refine AOpsD.fin ?_
            refine Awp.ret ?_
            have hM : m_law9_Graphs g name = false := by simp only [m_law9_Graphs, c_1, c_2, c_3, c_4, c_5, sbt]
            refine ⟨Or.inr rfl, ?_⟩
            rw [hM]
            exact Ent.cast (x' := (AV.b false)) (y' := (AV.b false)) kr kr (Ent.c kr kr)
          · refine AOpsD.sgy rfl rfl kr rfl ?_
            refine AOpsD.sq (x := (AV.st [((slA 7 DEdge.av) ((m_law0_CopyGraph g).edges)), ((slA 2 DPool.av) ((m_law0_CopyGraph g).pools)), ((slA 1 AV.s) ((m_law0_CopyGraph g).defaults))])) kr le ?_
            refine AOpsD.sgy rfl rfl kr rfl ?_
            refine AOpsD.sq (x := (DGraph.av g)) kr le ?_
            refine AOpsD.sgy rfl rfl kr rfl ?_
            refine AOpsD.sc0 (vs := [(AV.st [((slA 7 DEdge.av) ((m_law0_CopyGraph g).edges)), ((slA 2 DPool.av) ((m_law0_CopyGraph g).pools)), ((slA 1 AV.s) ((m_law0_CopyGraph g).defaults))]), (DGraph.av g)]) (r0 := (AV.b (m_law0_SameGraph (⟨(m_law0_CopyGraph g).edges, (m_law0_CopyGraph g).pools, (m_law0_CopyGraph g).defaults⟩ : DGraph) g))) kr kr (w_law0_SameGraph W (⟨(m_law0_CopyGraph g).edges, (m_law0_CopyGraph g).pools, (m_law0_CopyGraph g).defaults⟩ : DGraph) g) kr le ?_
            refine AOpsD.sq (x := (AV.b (m_law0_SameGraph (⟨(m_law0_CopyGraph g).edges, (m_law0_CopyGraph g).pools, (m_law0_CopyGraph g).defaults⟩ : DGraph) g))) kr le ?_
            refine AOpsD.sq (x := (AV.b (m_law0_SameGraph (⟨(m_law0_CopyGraph g).edges, (m_law0_CopyGraph g).pools, (m_law0_CopyGraph g).defaults⟩ : DGraph) g))) kr le ?_
            cases c_6 : (m_law0_SameGraph (⟨(m_law0_CopyGraph g).edges, (m_law0_CopyGraph g).pools, (m_law0_CopyGraph g).defaults⟩ : DGraph) g)
            · refine AOpsD.sgn rfl rfl kr rfl le ?_
              refine AOpsD.sq (x := (AV.b false)) kr le ?_
              refine AOpsD.sq (x := (AV.b false)) kr le ?_
              refine AOpsD.fin ?_
              refine Awp.ret ?_
              have hM : m_law9_Graphs g name = false := by simp only [m_law9_Graphs, c_1, c_2, c_3, c_4, c_5, c_6, sbt]
              refine ⟨Or.inr rfl, ?_⟩
              rw [hM]
              exact Ent.cast (x' := (AV.b false)) (y' := (AV.b false)) kr kr (Ent.c kr kr)
            · refine AOpsD.sgy rfl rfl kr rfl ?_
              refine AOpsD.sc0 (vs := []) (r0 := (AV.b m_law9_awake)) kr kr (w_law9_awake W hW ) kr le ?_
              refine AOpsD.sq (x := (AV.b m_law9_awake)) kr le ?_
              refine AOpsD.sq (x := (AV.b m_law9_awake)) kr le ?_
              refine AOpsD.fin ?_
              refine Awp.ret ?_
              have hM : m_law9_Graphs g name = m_law9_awake := by simp only [m_law9_Graphs, c_1, c_2, c_3, c_4, c_5, c_6, sbt]
              refine ⟨Or.inr rfl, ?_⟩
              rw [hM]
              exact Ent.cast (x' := (AV.b m_law9_awake)) (y' := (AV.b m_law9_awake)) kr kr (Ent.c kr kr)

end
end Go.Lift
