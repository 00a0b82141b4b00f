/-
  Lemmas of this claim: a layer over the kit's calls, contracts of the functions that the law reaches, and the law's row. No condition of its own.
-/
import Derived.Test.YtjbfjochilgnbaaDoorW1
namespace Go.Lift
noncomputable section
open Go Go.RowKit
set_option linter.unusedSimpArgs false
set_option linter.unusedVariables false
set_option linter.unusedSectionVars false
set_option maxRecDepth 20000
theorem w_law10_awake (W : World) {m0 : Int} (hW : W.cell? ⟨0, 0, none⟩ = some (.int .i64 m0)) : PureAt Go.Proofs.Tryd.prog W 23 [] (AV.b m_law10_awake) [] := by
  refine pure_of_bodyC (fn := Go.Proofs.Tryd.f23) Go.Proofs.Tryd.func23 rfl (en23 W) (ts := [0]) rfl le ?_
  refine Awp.seq ?_
  refine Awp.region tabS_ok ?_
  refine AOps.sq (x := (AV.b false)) kr le ?_
  refine AOps.done ?_
  refine Awp.seq ?_
  refine Awp.regionR ?_
  refine ROps.run tabS_ok 1 le ?_
  refine AOps.scD (x := (AV.st [(AV.own 0 0 3), (AV.own 9 0 1), (AV.own 10 0 1)])) (h' := ⟨11, [(10, some ⟨9, 1, [(⟨#[108, 105, 98]⟩ : ByteArray)].map AV.s⟩), (9, some ⟨34, 2, [(⟨(⟨#[116, 119, 111]⟩ : ByteArray), (2 : Int)⟩ : DPool)].map DPool.av⟩), (8, some ⟨9, 1, [(⟨#[97, 46, 111]⟩ : ByteArray)].map AV.s⟩), (7, some ⟨9, 1, [(⟨#[98, 46, 99]⟩ : ByteArray)].map AV.s⟩), (6, some ⟨9, 1, [(⟨#[98, 46, 111]⟩ : ByteArray)].map AV.s⟩), (5, some ⟨9, 1, [(⟨#[97, 46, 104]⟩ : ByteArray)].map AV.s⟩), (4, some ⟨9, 1, [(⟨#[97, 46, 99]⟩ : ByteArray)].map AV.s⟩), (3, some ⟨9, 1, [(⟨#[97, 46, 111]⟩ : ByteArray), (⟨#[97, 46, 100]⟩ : ByteArray)].map AV.s⟩), (2, some ⟨9, 1, [(⟨#[97, 46, 111]⟩ : ByteArray), (⟨#[98, 46, 111]⟩ : ByteArray)].map AV.s⟩), (1, some ⟨9, 1, [(⟨#[108, 105, 98]⟩ : ByteArray)].map AV.s⟩), (0, some ⟨31, 7, [(AV.st [(AV.own 1 0 1), (AV.own 2 0 2), (AV.sl 1 true []), (AV.sl 1 true []), (AV.s (⟨#[97, 114]⟩ : ByteArray)), (AV.b false), (AV.s (⟨#[]⟩ : ByteArray))]), (AV.st [(AV.own 3 0 2), (AV.own 4 0 1), (AV.own 5 0 1), (AV.sl 1 true []), (AV.s (⟨#[99, 99, 32, 97]⟩ : ByteArray)), (AV.b true), (AV.s (⟨#[116, 119, 111]⟩ : ByteArray))]), (AV.st [(AV.own 6 0 1), (AV.own 7 0 1), (AV.sl 1 true []), (AV.own 8 0 1), (AV.s (⟨#[99, 99, 32, 98]⟩ : ByteArray)), (AV.b false), (AV.s (⟨#[116, 119, 111]⟩ : ByteArray))])]⟩)]⟩) kr rfl (wd_law10_given W) kr kr le ?_
  refine AOps.done ?_
  refine ROps.over (Over.fits [] (env1 := [(9, (DGraph.av (⟨[(⟨[(⟨#[108, 105, 98]⟩ : ByteArray)], [(⟨#[97, 46, 111]⟩ : ByteArray), (⟨#[98, 46, 111]⟩ : ByteArray)], [], [], (⟨#[97, 114]⟩ : ByteArray), false, (⟨#[]⟩ : ByteArray)⟩ : DEdge), (⟨[(⟨#[97, 46, 111]⟩ : ByteArray), (⟨#[97, 46, 100]⟩ : ByteArray)], [(⟨#[97, 46, 99]⟩ : ByteArray)], [(⟨#[97, 46, 104]⟩ : ByteArray)], [], (⟨#[99, 99, 32, 97]⟩ : ByteArray), true, (⟨#[116, 119, 111]⟩ : ByteArray)⟩ : DEdge), (⟨[(⟨#[98, 46, 111]⟩ : ByteArray)], [(⟨#[98, 46, 99]⟩ : ByteArray)], [], [(⟨#[97, 46, 111]⟩ : ByteArray)], (⟨#[99, 99, 32, 98]⟩ : ByteArray), false, (⟨#[116, 119, 111]⟩ : ByteArray)⟩ : DEdge)], [(⟨(⟨#[116, 119, 111]⟩ : ByteArray), (2 : Int)⟩ : DPool)], [(⟨#[108, 105, 98]⟩ : ByteArray)]⟩ : DGraph)))]) (h1 := ⟨0, []⟩) ⟨by decide, rfl, FitsObjs.nil, (EntE.cons (Ent.st ⟨(EntD.kk (x' := (AV.own 0 0 3)) kr kr rfl (EntK.own (id := 0) (len := 3) (e := 31) (k := 7) (els := [(AV.st [(AV.own 1 0 1), (AV.own 2 0 2), (AV.sl 1 true []), (AV.sl 1 true []), (AV.s (⟨#[97, 114]⟩ : ByteArray)), (AV.b false), (AV.s (⟨#[]⟩ : ByteArray))]), (AV.st [(AV.own 3 0 2), (AV.own 4 0 1), (AV.own 5 0 1), (AV.sl 1 true []), (AV.s (⟨#[99, 99, 32, 97]⟩ : ByteArray)), (AV.b true), (AV.s (⟨#[116, 119, 111]⟩ : ByteArray))]), (AV.st [(AV.own 6 0 1), (AV.own 7 0 1), (AV.sl 1 true []), (AV.own 8 0 1), (AV.s (⟨#[99, 99, 32, 98]⟩ : ByteArray)), (AV.b false), (AV.s (⟨#[116, 119, 111]⟩ : ByteArray))])]) rfl rfl rfl sd (EntKEs.cons (EntKE.st (EntKs.cons (EntK.row (fun _ => rfl) (A := AV.s) (id := 1) (e := 9) (k := 1) (xs := [(⟨#[108, 105, 98]⟩ : ByteArray)]) rfl rfl sd sd) (EntKs.cons (EntK.row (fun _ => rfl) (A := AV.s) (id := 2) (e := 9) (k := 1) (xs := [(⟨#[97, 46, 111]⟩ : ByteArray), (⟨#[98, 46, 111]⟩ : ByteArray)]) rfl rfl sd sd) (EntKs.cons (EntK.c rfl (WeakC.nil 1)) (EntKs.cons (EntK.c rfl (WeakC.nil 1)) (EntKs.cons (EntK.cr (x := (AV.s (⟨#[97, 114]⟩ : ByteArray))) kr) (EntKs.cons (EntK.cr (x := (AV.b false)) kr) (EntKs.cons (EntK.cr (x := (AV.s (⟨#[]⟩ : ByteArray))) kr) EntKs.nil)))))))) (EntKEs.cons (EntKE.st (EntKs.cons (EntK.row (fun _ => rfl) (A := AV.s) (id := 3) (e := 9) (k := 1) (xs := [(⟨#[97, 46, 111]⟩ : ByteArray), (⟨#[97, 46, 100]⟩ : ByteArray)]) rfl rfl sd sd) (EntKs.cons (EntK.row (fun _ => rfl) (A := AV.s) (id := 4) (e := 9) (k := 1) (xs := [(⟨#[97, 46, 99]⟩ : ByteArray)]) rfl rfl sd sd) (EntKs.cons (EntK.row (fun _ => rfl) (A := AV.s) (id := 5) (e := 9) (k := 1) (xs := [(⟨#[97, 46, 104]⟩ : ByteArray)]) rfl rfl sd sd) (EntKs.cons (EntK.c rfl (WeakC.nil 1)) (EntKs.cons (EntK.cr (x := (AV.s (⟨#[99, 99, 32, 97]⟩ : ByteArray))) kr) (EntKs.cons (EntK.cr (x := (AV.b true)) kr) (EntKs.cons (EntK.cr (x := (AV.s (⟨#[116, 119, 111]⟩ : ByteArray))) kr) EntKs.nil)))))))) (EntKEs.cons (EntKE.st (EntKs.cons (EntK.row (fun _ => rfl) (A := AV.s) (id := 6) (e := 9) (k := 1) (xs := [(⟨#[98, 46, 111]⟩ : ByteArray)]) rfl rfl sd sd) (EntKs.cons (EntK.row (fun _ => rfl) (A := AV.s) (id := 7) (e := 9) (k := 1) (xs := [(⟨#[98, 46, 99]⟩ : ByteArray)]) rfl rfl sd sd) (EntKs.cons (EntK.c rfl (WeakC.nil 1)) (EntKs.cons (EntK.row (fun _ => rfl) (A := AV.s) (id := 8) (e := 9) (k := 1) (xs := [(⟨#[97, 46, 111]⟩ : ByteArray)]) rfl rfl sd sd) (EntKs.cons (EntK.cr (x := (AV.s (⟨#[99, 99, 32, 98]⟩ : ByteArray))) kr) (EntKs.cons (EntK.cr (x := (AV.b false)) kr) (EntKs.cons (EntK.cr (x := (AV.s (⟨#[116, 119, 111]⟩ : ByteArray))) kr) EntKs.nil)))))))) EntKEs.nil))))), ⟨(EntD.kk (x' := (AV.own 9 0 1)) kr kr rfl (EntK.row (fun _ => rfl) (A := DPool.av) (id := 9) (e := 34) (k := 2) (xs := [(⟨(⟨#[116, 119, 111]⟩ : ByteArray), (2 : Int)⟩ : DPool)]) rfl rfl sd sd)), ⟨(EntD.kk (x' := (AV.own 10 0 1)) kr kr rfl (EntK.row (fun _ => rfl) (A := AV.s) (id := 10) (e := 9) (k := 1) (xs := [(⟨#[108, 105, 98]⟩ : ByteArray)]) rfl rfl sd sd)), trivial⟩⟩⟩ kr) EntE.nil)⟩ keep0) ?_
  refine ROps.run tabS_ok 6 le ?_
  refine AOps.sc0 (vs := [(DGraph.av (⟨[(⟨[(⟨#[108, 105, 98]⟩ : ByteArray)], [(⟨#[97, 46, 111]⟩ : ByteArray), (⟨#[98, 46, 111]⟩ : ByteArray)], [], [], (⟨#[97, 114]⟩ : ByteArray), false, (⟨#[]⟩ : ByteArray)⟩ : DEdge), (⟨[(⟨#[97, 46, 111]⟩ : ByteArray), (⟨#[97, 46, 100]⟩ : ByteArray)], [(⟨#[97, 46, 99]⟩ : ByteArray)], [(⟨#[97, 46, 104]⟩ : ByteArray)], [], (⟨#[99, 99, 32, 97]⟩ : ByteArray), true, (⟨#[116, 119, 111]⟩ : ByteArray)⟩ : DEdge), (⟨[(⟨#[98, 46, 111]⟩ : ByteArray)], [(⟨#[98, 46, 99]⟩ : ByteArray)], [], [(⟨#[97, 46, 111]⟩ : ByteArray)], (⟨#[99, 99, 32, 98]⟩ : ByteArray), false, (⟨#[116, 119, 111]⟩ : ByteArray)⟩ : DEdge)], [(⟨(⟨#[116, 119, 111]⟩ : ByteArray), (2 : Int)⟩ : DPool)], [(⟨#[108, 105, 98]⟩ : ByteArray)]⟩ : DGraph))]) (r0 := (AV.tup [((slA 1 (AV.i .i64)) ((m_order_Of (⟨[(⟨[(⟨#[108, 105, 98]⟩ : ByteArray)], [(⟨#[97, 46, 111]⟩ : ByteArray), (⟨#[98, 46, 111]⟩ : ByteArray)], [], [], (⟨#[97, 114]⟩ : ByteArray), false, (⟨#[]⟩ : ByteArray)⟩ : DEdge), (⟨[(⟨#[97, 46, 111]⟩ : ByteArray), (⟨#[97, 46, 100]⟩ : ByteArray)], [(⟨#[97, 46, 99]⟩ : ByteArray)], [(⟨#[97, 46, 104]⟩ : ByteArray)], [], (⟨#[99, 99, 32, 97]⟩ : ByteArray), true, (⟨#[116, 119, 111]⟩ : ByteArray)⟩ : DEdge), (⟨[(⟨#[98, 46, 111]⟩ : ByteArray)], [(⟨#[98, 46, 99]⟩ : ByteArray)], [], [(⟨#[97, 46, 111]⟩ : ByteArray)], (⟨#[99, 99, 32, 98]⟩ : ByteArray), false, (⟨#[116, 119, 111]⟩ : ByteArray)⟩ : DEdge)], [(⟨(⟨#[116, 119, 111]⟩ : ByteArray), (2 : Int)⟩ : DPool)], [(⟨#[108, 105, 98]⟩ : ByteArray)]⟩ : DGraph)).1)), (AV.i .i64 ((m_order_Of (⟨[(⟨[(⟨#[108, 105, 98]⟩ : ByteArray)], [(⟨#[97, 46, 111]⟩ : ByteArray), (⟨#[98, 46, 111]⟩ : ByteArray)], [], [], (⟨#[97, 114]⟩ : ByteArray), false, (⟨#[]⟩ : ByteArray)⟩ : DEdge), (⟨[(⟨#[97, 46, 111]⟩ : ByteArray), (⟨#[97, 46, 100]⟩ : ByteArray)], [(⟨#[97, 46, 99]⟩ : ByteArray)], [(⟨#[97, 46, 104]⟩ : ByteArray)], [], (⟨#[99, 99, 32, 97]⟩ : ByteArray), true, (⟨#[116, 119, 111]⟩ : ByteArray)⟩ : DEdge), (⟨[(⟨#[98, 46, 111]⟩ : ByteArray)], [(⟨#[98, 46, 99]⟩ : ByteArray)], [], [(⟨#[97, 46, 111]⟩ : ByteArray)], (⟨#[99, 99, 32, 98]⟩ : ByteArray), false, (⟨#[116, 119, 111]⟩ : ByteArray)⟩ : DEdge)], [(⟨(⟨#[116, 119, 111]⟩ : ByteArray), (2 : Int)⟩ : DPool)], [(⟨#[108, 105, 98]⟩ : ByteArray)]⟩ : DGraph)).2))])) kr kr (w_order_Of W hW (⟨[(⟨[(⟨#[108, 105, 98]⟩ : ByteArray)], [(⟨#[97, 46, 111]⟩ : ByteArray), (⟨#[98, 46, 111]⟩ : ByteArray)], [], [], (⟨#[97, 114]⟩ : ByteArray), false, (⟨#[]⟩ : ByteArray)⟩ : DEdge), (⟨[(⟨#[97, 46, 111]⟩ : ByteArray), (⟨#[97, 46, 100]⟩ : ByteArray)], [(⟨#[97, 46, 99]⟩ : ByteArray)], [(⟨#[97, 46, 104]⟩ : ByteArray)], [], (⟨#[99, 99, 32, 97]⟩ : ByteArray), true, (⟨#[116, 119, 111]⟩ : ByteArray)⟩ : DEdge), (⟨[(⟨#[98, 46, 111]⟩ : ByteArray)], [(⟨#[98, 46, 99]⟩ : ByteArray)], [], [(⟨#[97, 46, 111]⟩ : ByteArray)], (⟨#[99, 99, 32, 98]⟩ : ByteArray), false, (⟨#[116, 119, 111]⟩ : ByteArray)⟩ : DEdge)], [(⟨(⟨#[116, 119, 111]⟩ : ByteArray), (2 : Int)⟩ : DPool)], [(⟨#[108, 105, 98]⟩ : ByteArray)]⟩ : DGraph) sd) kr le ?_
  refine AOps.sq (x := (AV.tup [((slA 1 (AV.i .i64)) ((m_order_Of (⟨[(⟨[(⟨#[108, 105, 98]⟩ : ByteArray)], [(⟨#[97, 46, 111]⟩ : ByteArray), (⟨#[98, 46, 111]⟩ : ByteArray)], [], [], (⟨#[97, 114]⟩ : ByteArray), false, (⟨#[]⟩ : ByteArray)⟩ : DEdge), (⟨[(⟨#[97, 46, 111]⟩ : ByteArray), (⟨#[97, 46, 100]⟩ : ByteArray)], [(⟨#[97, 46, 99]⟩ : ByteArray)], [(⟨#[97, 46, 104]⟩ : ByteArray)], [], (⟨#[99, 99, 32, 97]⟩ : ByteArray), true, (⟨#[116, 119, 111]⟩ : ByteArray)⟩ : DEdge), (⟨[(⟨#[98, 46, 111]⟩ : ByteArray)], [(⟨#[98, 46, 99]⟩ : ByteArray)], [], [(⟨#[97, 46, 111]⟩ : ByteArray)], (⟨#[99, 99, 32, 98]⟩ : ByteArray), false, (⟨#[116, 119, 111]⟩ : ByteArray)⟩ : DEdge)], [(⟨(⟨#[116, 119, 111]⟩ : ByteArray), (2 : Int)⟩ : DPool)], [(⟨#[108, 105, 98]⟩ : ByteArray)]⟩ : DGraph)).1)), (AV.i .i64 ((m_order_Of (⟨[(⟨[(⟨#[108, 105, 98]⟩ : ByteArray)], [(⟨#[97, 46, 111]⟩ : ByteArray), (⟨#[98, 46, 111]⟩ : ByteArray)], [], [], (⟨#[97, 114]⟩ : ByteArray), false, (⟨#[]⟩ : ByteArray)⟩ : DEdge), (⟨[(⟨#[97, 46, 111]⟩ : ByteArray), (⟨#[97, 46, 100]⟩ : ByteArray)], [(⟨#[97, 46, 99]⟩ : ByteArray)], [(⟨#[97, 46, 104]⟩ : ByteArray)], [], (⟨#[99, 99, 32, 97]⟩ : ByteArray), true, (⟨#[116, 119, 111]⟩ : ByteArray)⟩ : DEdge), (⟨[(⟨#[98, 46, 111]⟩ : ByteArray)], [(⟨#[98, 46, 99]⟩ : ByteArray)], [], [(⟨#[97, 46, 111]⟩ : ByteArray)], (⟨#[99, 99, 32, 98]⟩ : ByteArray), false, (⟨#[116, 119, 111]⟩ : ByteArray)⟩ : DEdge)], [(⟨(⟨#[116, 119, 111]⟩ : ByteArray), (2 : Int)⟩ : DPool)], [(⟨#[108, 105, 98]⟩ : ByteArray)]⟩ : DGraph)).2))])) kr le ?_
  refine AOps.sq (x := ((slA 1 (AV.i .i64)) ((m_order_Of (⟨[(⟨[(⟨#[108, 105, 98]⟩ : ByteArray)], [(⟨#[97, 46, 111]⟩ : ByteArray), (⟨#[98, 46, 111]⟩ : ByteArray)], [], [], (⟨#[97, 114]⟩ : ByteArray), false, (⟨#[]⟩ : ByteArray)⟩ : DEdge), (⟨[(⟨#[97, 46, 111]⟩ : ByteArray), (⟨#[97, 46, 100]⟩ : ByteArray)], [(⟨#[97, 46, 99]⟩ : ByteArray)], [(⟨#[97, 46, 104]⟩ : ByteArray)], [], (⟨#[99, 99, 32, 97]⟩ : ByteArray), true, (⟨#[116, 119, 111]⟩ : ByteArray)⟩ : DEdge), (⟨[(⟨#[98, 46, 111]⟩ : ByteArray)], [(⟨#[98, 46, 99]⟩ : ByteArray)], [], [(⟨#[97, 46, 111]⟩ : ByteArray)], (⟨#[99, 99, 32, 98]⟩ : ByteArray), false, (⟨#[116, 119, 111]⟩ : ByteArray)⟩ : DEdge)], [(⟨(⟨#[116, 119, 111]⟩ : ByteArray), (2 : Int)⟩ : DPool)], [(⟨#[108, 105, 98]⟩ : ByteArray)]⟩ : DGraph)).1))) kr le ?_
  refine AOps.sq (x := (AV.i .i64 ((m_order_Of (⟨[(⟨[(⟨#[108, 105, 98]⟩ : ByteArray)], [(⟨#[97, 46, 111]⟩ : ByteArray), (⟨#[98, 46, 111]⟩ : ByteArray)], [], [], (⟨#[97, 114]⟩ : ByteArray), false, (⟨#[]⟩ : ByteArray)⟩ : DEdge), (⟨[(⟨#[97, 46, 111]⟩ : ByteArray), (⟨#[97, 46, 100]⟩ : ByteArray)], [(⟨#[97, 46, 99]⟩ : ByteArray)], [(⟨#[97, 46, 104]⟩ : ByteArray)], [], (⟨#[99, 99, 32, 97]⟩ : ByteArray), true, (⟨#[116, 119, 111]⟩ : ByteArray)⟩ : DEdge), (⟨[(⟨#[98, 46, 111]⟩ : ByteArray)], [(⟨#[98, 46, 99]⟩ : ByteArray)], [], [(⟨#[97, 46, 111]⟩ : ByteArray)], (⟨#[99, 99, 32, 98]⟩ : ByteArray), false, (⟨#[116, 119, 111]⟩ : ByteArray)⟩ : DEdge)], [(⟨(⟨#[116, 119, 111]⟩ : ByteArray), (2 : Int)⟩ : DPool)], [(⟨#[108, 105, 98]⟩ : ByteArray)]⟩ : DGraph)).2))) kr le ?_
  refine AOps.sq (x := ((slA 1 (AV.i .i64)) ((m_order_Of (⟨[(⟨[(⟨#[108, 105, 98]⟩ : ByteArray)], [(⟨#[97, 46, 111]⟩ : ByteArray), (⟨#[98, 46, 111]⟩ : ByteArray)], [], [], (⟨#[97, 114]⟩ : ByteArray), false, (⟨#[]⟩ : ByteArray)⟩ : DEdge), (⟨[(⟨#[97, 46, 111]⟩ : ByteArray), (⟨#[97, 46, 100]⟩ : ByteArray)], [(⟨#[97, 46, 99]⟩ : ByteArray)], [(⟨#[97, 46, 104]⟩ : ByteArray)], [], (⟨#[99, 99, 32, 97]⟩ : ByteArray), true, (⟨#[116, 119, 111]⟩ : ByteArray)⟩ : DEdge), (⟨[(⟨#[98, 46, 111]⟩ : ByteArray)], [(⟨#[98, 46, 99]⟩ : ByteArray)], [], [(⟨#[97, 46, 111]⟩ : ByteArray)], (⟨#[99, 99, 32, 98]⟩ : ByteArray), false, (⟨#[116, 119, 111]⟩ : ByteArray)⟩ : DEdge)], [(⟨(⟨#[116, 119, 111]⟩ : ByteArray), (2 : Int)⟩ : DPool)], [(⟨#[108, 105, 98]⟩ : ByteArray)]⟩ : DGraph)).1))) kr le ?_
  refine AOps.sq (x := (AV.i .i64 ((m_order_Of (⟨[(⟨[(⟨#[108, 105, 98]⟩ : ByteArray)], [(⟨#[97, 46, 111]⟩ : ByteArray), (⟨#[98, 46, 111]⟩ : ByteArray)], [], [], (⟨#[97, 114]⟩ : ByteArray), false, (⟨#[]⟩ : ByteArray)⟩ : DEdge), (⟨[(⟨#[97, 46, 111]⟩ : ByteArray), (⟨#[97, 46, 100]⟩ : ByteArray)], [(⟨#[97, 46, 99]⟩ : ByteArray)], [(⟨#[97, 46, 104]⟩ : ByteArray)], [], (⟨#[99, 99, 32, 97]⟩ : ByteArray), true, (⟨#[116, 119, 111]⟩ : ByteArray)⟩ : DEdge), (⟨[(⟨#[98, 46, 111]⟩ : ByteArray)], [(⟨#[98, 46, 99]⟩ : ByteArray)], [], [(⟨#[97, 46, 111]⟩ : ByteArray)], (⟨#[99, 99, 32, 98]⟩ : ByteArray), false, (⟨#[116, 119, 111]⟩ : ByteArray)⟩ : DEdge)], [(⟨(⟨#[116, 119, 111]⟩ : ByteArray), (2 : Int)⟩ : DPool)], [(⟨#[108, 105, 98]⟩ : ByteArray)]⟩ : DGraph)).2))) kr le ?_
  refine AOps.done ?_
  refine ROps.fin rfl ?_
  refine Awp.seq ?_
  refine Awp.region tabS_ok ?_
  refine AOps.scD (x := (AV.st [(AV.own 0 0 3), (AV.own 9 0 1), (AV.own 10 0 1)])) (h' := ⟨11, [(10, some ⟨9, 1, [(⟨#[108, 105, 98]⟩ : ByteArray)].map AV.s⟩), (9, some ⟨34, 2, [(⟨(⟨#[116, 119, 111]⟩ : ByteArray), (2 : Int)⟩ : DPool)].map DPool.av⟩), (8, some ⟨9, 1, [(⟨#[97, 46, 111]⟩ : ByteArray)].map AV.s⟩), (7, some ⟨9, 1, [(⟨#[98, 46, 99]⟩ : ByteArray)].map AV.s⟩), (6, some ⟨9, 1, [(⟨#[98, 46, 111]⟩ : ByteArray)].map AV.s⟩), (5, some ⟨9, 1, [(⟨#[97, 46, 104]⟩ : ByteArray)].map AV.s⟩), (4, some ⟨9, 1, [(⟨#[97, 46, 99]⟩ : ByteArray)].map AV.s⟩), (3, some ⟨9, 1, [(⟨#[97, 46, 111]⟩ : ByteArray), (⟨#[97, 46, 100]⟩ : ByteArray)].map AV.s⟩), (2, some ⟨9, 1, [(⟨#[97, 46, 111]⟩ : ByteArray), (⟨#[98, 46, 111]⟩ : ByteArray)].map AV.s⟩), (1, some ⟨9, 1, [(⟨#[108, 105, 98]⟩ : ByteArray)].map AV.s⟩), (0, some ⟨31, 7, [(AV.st [(AV.own 1 0 1), (AV.own 2 0 2), (AV.sl 1 true []), (AV.sl 1 true []), (AV.s (⟨#[97, 114]⟩ : ByteArray)), (AV.b false), (AV.s (⟨#[]⟩ : ByteArray))]), (AV.st [(AV.own 3 0 2), (AV.own 4 0 1), (AV.own 5 0 1), (AV.sl 1 true []), (AV.s (⟨#[99, 99, 32, 97]⟩ : ByteArray)), (AV.b true), (AV.s (⟨#[116, 119, 111]⟩ : ByteArray))]), (AV.st [(AV.own 6 0 1), (AV.own 7 0 1), (AV.sl 1 true []), (AV.own 8 0 1), (AV.s (⟨#[99, 99, 32, 98]⟩ : ByteArray)), (AV.b false), (AV.s (⟨#[116, 119, 111]⟩ : ByteArray))])]⟩)]⟩) kr rfl (wd_law10_given W) kr kr le ?_
  refine AOps.sn (x := (AV.loc 11 0 0)) (h' := ⟨12, [(11, some ⟨27, 3, [(AV.st [(AV.sl 7 true []), (AV.sl 2 true []), (AV.sl 1 true [])])]⟩), (10, some ⟨9, 1, [(⟨#[108, 105, 98]⟩ : ByteArray)].map AV.s⟩), (9, some ⟨34, 2, [(⟨(⟨#[116, 119, 111]⟩ : ByteArray), (2 : Int)⟩ : DPool)].map DPool.av⟩), (8, some ⟨9, 1, [(⟨#[97, 46, 111]⟩ : ByteArray)].map AV.s⟩), (7, some ⟨9, 1, [(⟨#[98, 46, 99]⟩ : ByteArray)].map AV.s⟩), (6, some ⟨9, 1, [(⟨#[98, 46, 111]⟩ : ByteArray)].map AV.s⟩), (5, some ⟨9, 1, [(⟨#[97, 46, 104]⟩ : ByteArray)].map AV.s⟩), (4, some ⟨9, 1, [(⟨#[97, 46, 99]⟩ : ByteArray)].map AV.s⟩), (3, some ⟨9, 1, [(⟨#[97, 46, 111]⟩ : ByteArray), (⟨#[97, 46, 100]⟩ : ByteArray)].map AV.s⟩), (2, some ⟨9, 1, [(⟨#[97, 46, 111]⟩ : ByteArray), (⟨#[98, 46, 111]⟩ : ByteArray)].map AV.s⟩), (1, some ⟨9, 1, [(⟨#[108, 105, 98]⟩ : ByteArray)].map AV.s⟩), (0, some ⟨31, 7, [(AV.st [(AV.own 1 0 1), (AV.own 2 0 2), (AV.sl 1 true []), (AV.sl 1 true []), (AV.s (⟨#[97, 114]⟩ : ByteArray)), (AV.b false), (AV.s (⟨#[]⟩ : ByteArray))]), (AV.st [(AV.own 3 0 2), (AV.own 4 0 1), (AV.own 5 0 1), (AV.sl 1 true []), (AV.s (⟨#[99, 99, 32, 97]⟩ : ByteArray)), (AV.b true), (AV.s (⟨#[116, 119, 111]⟩ : ByteArray))]), (AV.st [(AV.own 6 0 1), (AV.own 7 0 1), (AV.sl 1 true []), (AV.own 8 0 1), (AV.s (⟨#[99, 99, 32, 98]⟩ : ByteArray)), (AV.b false), (AV.s (⟨#[116, 119, 111]⟩ : ByteArray))])]⟩)]⟩) kr le ?_
  refine AOps.st (x := AV.und) (h' := ⟨12, [(11, some ⟨27, 3, [(AV.st [(AV.own 0 0 3), (AV.own 9 0 1), (AV.own 10 0 1)])]⟩), (10, some ⟨9, 1, [(⟨#[108, 105, 98]⟩ : ByteArray)].map AV.s⟩), (9, some ⟨34, 2, [(⟨(⟨#[116, 119, 111]⟩ : ByteArray), (2 : Int)⟩ : DPool)].map DPool.av⟩), (8, some ⟨9, 1, [(⟨#[97, 46, 111]⟩ : ByteArray)].map AV.s⟩), (7, some ⟨9, 1, [(⟨#[98, 46, 99]⟩ : ByteArray)].map AV.s⟩), (6, some ⟨9, 1, [(⟨#[98, 46, 111]⟩ : ByteArray)].map AV.s⟩), (5, some ⟨9, 1, [(⟨#[97, 46, 104]⟩ : ByteArray)].map AV.s⟩), (4, some ⟨9, 1, [(⟨#[97, 46, 99]⟩ : ByteArray)].map AV.s⟩), (3, some ⟨9, 1, [(⟨#[97, 46, 111]⟩ : ByteArray), (⟨#[97, 46, 100]⟩ : ByteArray)].map AV.s⟩), (2, some ⟨9, 1, [(⟨#[97, 46, 111]⟩ : ByteArray), (⟨#[98, 46, 111]⟩ : ByteArray)].map AV.s⟩), (1, some ⟨9, 1, [(⟨#[108, 105, 98]⟩ : ByteArray)].map AV.s⟩), (0, some ⟨31, 7, [(AV.st [(AV.own 1 0 1), (AV.own 2 0 2), (AV.sl 1 true []), (AV.sl 1 true []), (AV.s (⟨#[97, 114]⟩ : ByteArray)), (AV.b false), (AV.s (⟨#[]⟩ : ByteArray))]), (AV.st [(AV.own 3 0 2), (AV.own 4 0 1), (AV.own 5 0 1), (AV.sl 1 true []), (AV.s (⟨#[99, 99, 32, 97]⟩ : ByteArray)), (AV.b true), (AV.s (⟨#[116, 119, 111]⟩ : ByteArray))]), (AV.st [(AV.own 6 0 1), (AV.own 7 0 1), (AV.sl 1 true []), (AV.own 8 0 1), (AV.s (⟨#[99, 99, 32, 98]⟩ : ByteArray)), (AV.b false), (AV.s (⟨#[116, 119, 111]⟩ : ByteArray))])]⟩)]⟩) kr ?_
  refine AOps.done ?_
  refine Awp.seq ?_
  refine Awp.region tabS_ok ?_
  refine AOps.sq (x := (AV.loc 11 0 0)) kr le ?_
  refine AOps.sq (x := (AV.own 0 0 3)) kr le ?_
  refine AOps.sn (x := (AV.own 12 0 1)) (h' := ⟨13, [(12, some ⟨9, 1, [(⟨#[108, 105, 98]⟩ : ByteArray)].map AV.s⟩), (11, some ⟨27, 3, [(AV.st [(AV.own 0 0 3), (AV.own 9 0 1), (AV.own 10 0 1)])]⟩), (10, some ⟨9, 1, [(⟨#[108, 105, 98]⟩ : ByteArray)].map AV.s⟩), (9, some ⟨34, 2, [(⟨(⟨#[116, 119, 111]⟩ : ByteArray), (2 : Int)⟩ : DPool)].map DPool.av⟩), (8, some ⟨9, 1, [(⟨#[97, 46, 111]⟩ : ByteArray)].map AV.s⟩), (7, some ⟨9, 1, [(⟨#[98, 46, 99]⟩ : ByteArray)].map AV.s⟩), (6, some ⟨9, 1, [(⟨#[98, 46, 111]⟩ : ByteArray)].map AV.s⟩), (5, some ⟨9, 1, [(⟨#[97, 46, 104]⟩ : ByteArray)].map AV.s⟩), (4, some ⟨9, 1, [(⟨#[97, 46, 99]⟩ : ByteArray)].map AV.s⟩), (3, some ⟨9, 1, [(⟨#[97, 46, 111]⟩ : ByteArray), (⟨#[97, 46, 100]⟩ : ByteArray)].map AV.s⟩), (2, some ⟨9, 1, [(⟨#[97, 46, 111]⟩ : ByteArray), (⟨#[98, 46, 111]⟩ : ByteArray)].map AV.s⟩), (1, some ⟨9, 1, [(⟨#[108, 105, 98]⟩ : ByteArray)].map AV.s⟩), (0, some ⟨31, 7, [(AV.st [(AV.own 1 0 1), (AV.own 2 0 2), (AV.sl 1 true []), (AV.sl 1 true []), (AV.s (⟨#[97, 114]⟩ : ByteArray)), (AV.b false), (AV.s (⟨#[]⟩ : ByteArray))]), (AV.st [(AV.own 3 0 2), (AV.own 4 0 1), (AV.own 5 0 1), (AV.sl 1 true []), (AV.s (⟨#[99, 99, 32, 97]⟩ : ByteArray)), (AV.b true), (AV.s (⟨#[116, 119, 111]⟩ : ByteArray))]), (AV.st [(AV.own 6 0 1), (AV.own 7 0 1), (AV.sl 1 true []), (AV.own 8 0 1), (AV.s (⟨#[99, 99, 32, 98]⟩ : ByteArray)), (AV.b false), (AV.s (⟨#[116, 119, 111]⟩ : ByteArray))])]⟩)]⟩) kr le ?_
  refine AOps.sq (x := (AV.loc 0 1 0)) kr le ?_
  refine AOps.sq (x := (AV.loc 0 1 3)) kr le ?_
  refine AOps.st (x := AV.und) (h' := ⟨13, [(12, some ⟨9, 1, [(⟨#[108, 105, 98]⟩ : ByteArray)].map AV.s⟩), (11, some ⟨27, 3, [(AV.st [(AV.own 0 0 3), (AV.own 9 0 1), (AV.own 10 0 1)])]⟩), (10, some ⟨9, 1, [(⟨#[108, 105, 98]⟩ : ByteArray)].map AV.s⟩), (9, some ⟨34, 2, [(⟨(⟨#[116, 119, 111]⟩ : ByteArray), (2 : Int)⟩ : DPool)].map DPool.av⟩), (8, some ⟨9, 1, [(⟨#[97, 46, 111]⟩ : ByteArray)].map AV.s⟩), (7, some ⟨9, 1, [(⟨#[98, 46, 99]⟩ : ByteArray)].map AV.s⟩), (6, some ⟨9, 1, [(⟨#[98, 46, 111]⟩ : ByteArray)].map AV.s⟩), (5, some ⟨9, 1, [(⟨#[97, 46, 104]⟩ : ByteArray)].map AV.s⟩), (4, some ⟨9, 1, [(⟨#[97, 46, 99]⟩ : ByteArray)].map AV.s⟩), (3, some ⟨9, 1, [(⟨#[97, 46, 111]⟩ : ByteArray), (⟨#[97, 46, 100]⟩ : ByteArray)].map AV.s⟩), (2, some ⟨9, 1, [(⟨#[97, 46, 111]⟩ : ByteArray), (⟨#[98, 46, 111]⟩ : ByteArray)].map AV.s⟩), (1, some ⟨9, 1, [(⟨#[108, 105, 98]⟩ : ByteArray)].map AV.s⟩), (0, some ⟨31, 7, [(AV.st [(AV.own 1 0 1), (AV.own 2 0 2), (AV.sl 1 true []), (AV.sl 1 true []), (AV.s (⟨#[97, 114]⟩ : ByteArray)), (AV.b false), (AV.s (⟨#[]⟩ : ByteArray))]), (AV.st [(AV.own 3 0 2), (AV.own 4 0 1), (AV.own 5 0 1), (AV.own 12 0 1), (AV.s (⟨#[99, 99, 32, 97]⟩ : ByteArray)), (AV.b true), (AV.s (⟨#[116, 119, 111]⟩ : ByteArray))]), (AV.st [(AV.own 6 0 1), (AV.own 7 0 1), (AV.sl 1 true []), (AV.own 8 0 1), (AV.s (⟨#[99, 99, 32, 98]⟩ : ByteArray)), (AV.b false), (AV.s (⟨#[116, 119, 111]⟩ : ByteArray))])]⟩)]⟩) kr ?_
  refine AOps.done ?_
  refine Awp.seq ?_
  refine Awp.region tabS_ok ?_
  refine AOps.sq (x := (AV.st [(AV.own 0 0 3), (AV.own 9 0 1), (AV.own 10 0 1)])) kr le ?_
  refine AOps.sfw (vs := [(AV.st [(AV.own 0 0 3), (AV.own 9 0 1), (AV.own 10 0 1)])]) (ss := [(DGraph.av (⟨[(⟨[(⟨#[108, 105, 98]⟩ : ByteArray)], [(⟨#[97, 46, 111]⟩ : ByteArray), (⟨#[98, 46, 111]⟩ : ByteArray)], [], [], (⟨#[97, 114]⟩ : ByteArray), false, (⟨#[]⟩ : ByteArray)⟩ : DEdge), (⟨[(⟨#[97, 46, 111]⟩ : ByteArray), (⟨#[97, 46, 100]⟩ : ByteArray)], [(⟨#[97, 46, 99]⟩ : ByteArray)], [(⟨#[97, 46, 104]⟩ : ByteArray)], [(⟨#[108, 105, 98]⟩ : ByteArray)], (⟨#[99, 99, 32, 97]⟩ : ByteArray), true, (⟨#[116, 119, 111]⟩ : ByteArray)⟩ : DEdge), (⟨[(⟨#[98, 46, 111]⟩ : ByteArray)], [(⟨#[98, 46, 99]⟩ : ByteArray)], [], [(⟨#[97, 46, 111]⟩ : ByteArray)], (⟨#[99, 99, 32, 98]⟩ : ByteArray), false, (⟨#[116, 119, 111]⟩ : ByteArray)⟩ : DEdge)], [(⟨(⟨#[116, 119, 111]⟩ : ByteArray), (2 : Int)⟩ : DPool)], [(⟨#[108, 105, 98]⟩ : ByteArray)]⟩ : DGraph))]) (r0 := (AV.tup [AV.und, (AV.i .i64 ((m_order_Of (⟨[(⟨[(⟨#[108, 105, 98]⟩ : ByteArray)], [(⟨#[97, 46, 111]⟩ : ByteArray), (⟨#[98, 46, 111]⟩ : ByteArray)], [], [], (⟨#[97, 114]⟩ : ByteArray), false, (⟨#[]⟩ : ByteArray)⟩ : DEdge), (⟨[(⟨#[97, 46, 111]⟩ : ByteArray), (⟨#[97, 46, 100]⟩ : ByteArray)], [(⟨#[97, 46, 99]⟩ : ByteArray)], [(⟨#[97, 46, 104]⟩ : ByteArray)], [(⟨#[108, 105, 98]⟩ : ByteArray)], (⟨#[99, 99, 32, 97]⟩ : ByteArray), true, (⟨#[116, 119, 111]⟩ : ByteArray)⟩ : DEdge), (⟨[(⟨#[98, 46, 111]⟩ : ByteArray)], [(⟨#[98, 46, 99]⟩ : ByteArray)], [], [(⟨#[97, 46, 111]⟩ : ByteArray)], (⟨#[99, 99, 32, 98]⟩ : ByteArray), false, (⟨#[116, 119, 111]⟩ : ByteArray)⟩ : DEdge)], [(⟨(⟨#[116, 119, 111]⟩ : ByteArray), (2 : Int)⟩ : DPool)], [(⟨#[108, 105, 98]⟩ : ByteArray)]⟩ : DGraph)).2))])) kr (show SnapW _ _ _ from ⟨(EntK.w (EntK.cast (x' := (AV.st [(AV.own 0 0 3), (AV.own 9 0 1), (AV.own 10 0 1)])) kr kr (EntK.st (EntKs.cons (EntK.own (id := 0) (len := 3) (e := 31) (k := 7) (els := [(AV.st [(AV.own 1 0 1), (AV.own 2 0 2), (AV.sl 1 true []), (AV.sl 1 true []), (AV.s (⟨#[97, 114]⟩ : ByteArray)), (AV.b false), (AV.s (⟨#[]⟩ : ByteArray))]), (AV.st [(AV.own 3 0 2), (AV.own 4 0 1), (AV.own 5 0 1), (AV.own 12 0 1), (AV.s (⟨#[99, 99, 32, 97]⟩ : ByteArray)), (AV.b true), (AV.s (⟨#[116, 119, 111]⟩ : ByteArray))]), (AV.st [(AV.own 6 0 1), (AV.own 7 0 1), (AV.sl 1 true []), (AV.own 8 0 1), (AV.s (⟨#[99, 99, 32, 98]⟩ : ByteArray)), (AV.b false), (AV.s (⟨#[116, 119, 111]⟩ : ByteArray))])]) rfl rfl rfl sd (EntKEs.cons (EntKE.st (EntKs.cons (EntK.row (fun _ => rfl) (A := AV.s) (id := 1) (e := 9) (k := 1) (xs := [(⟨#[108, 105, 98]⟩ : ByteArray)]) rfl rfl sd sd) (EntKs.cons (EntK.row (fun _ => rfl) (A := AV.s) (id := 2) (e := 9) (k := 1) (xs := [(⟨#[97, 46, 111]⟩ : ByteArray), (⟨#[98, 46, 111]⟩ : ByteArray)]) rfl rfl sd sd) (EntKs.cons (EntK.c rfl (WeakC.nil 1)) (EntKs.cons (EntK.c rfl (WeakC.nil 1)) (EntKs.cons (EntK.cr (x := (AV.s (⟨#[97, 114]⟩ : ByteArray))) kr) (EntKs.cons (EntK.cr (x := (AV.b false)) kr) (EntKs.cons (EntK.cr (x := (AV.s (⟨#[]⟩ : ByteArray))) kr) EntKs.nil)))))))) (EntKEs.cons (EntKE.st (EntKs.cons (EntK.row (fun _ => rfl) (A := AV.s) (id := 3) (e := 9) (k := 1) (xs := [(⟨#[97, 46, 111]⟩ : ByteArray), (⟨#[97, 46, 100]⟩ : ByteArray)]) rfl rfl sd sd) (EntKs.cons (EntK.row (fun _ => rfl) (A := AV.s) (id := 4) (e := 9) (k := 1) (xs := [(⟨#[97, 46, 99]⟩ : ByteArray)]) rfl rfl sd sd) (EntKs.cons (EntK.row (fun _ => rfl) (A := AV.s) (id := 5) (e := 9) (k := 1) (xs := [(⟨#[97, 46, 104]⟩ : ByteArray)]) rfl rfl sd sd) (EntKs.cons (EntK.row (fun _ => rfl) (A := AV.s) (id := 12) (e := 9) (k := 1) (xs := [(⟨#[108, 105, 98]⟩ : ByteArray)]) rfl rfl sd sd) (EntKs.cons (EntK.cr (x := (AV.s (⟨#[99, 99, 32, 97]⟩ : ByteArray))) kr) (EntKs.cons (EntK.cr (x := (AV.b true)) kr) (EntKs.cons (EntK.cr (x := (AV.s (⟨#[116, 119, 111]⟩ : ByteArray))) kr) EntKs.nil)))))))) (EntKEs.cons (EntKE.st (EntKs.cons (EntK.row (fun _ => rfl) (A := AV.s) (id := 6) (e := 9) (k := 1) (xs := [(⟨#[98, 46, 111]⟩ : ByteArray)]) rfl rfl sd sd) (EntKs.cons (EntK.row (fun _ => rfl) (A := AV.s) (id := 7) (e := 9) (k := 1) (xs := [(⟨#[98, 46, 99]⟩ : ByteArray)]) rfl rfl sd sd) (EntKs.cons (EntK.c rfl (WeakC.nil 1)) (EntKs.cons (EntK.row (fun _ => rfl) (A := AV.s) (id := 8) (e := 9) (k := 1) (xs := [(⟨#[97, 46, 111]⟩ : ByteArray)]) rfl rfl sd sd) (EntKs.cons (EntK.cr (x := (AV.s (⟨#[99, 99, 32, 98]⟩ : ByteArray))) kr) (EntKs.cons (EntK.cr (x := (AV.b false)) kr) (EntKs.cons (EntK.cr (x := (AV.s (⟨#[116, 119, 111]⟩ : ByteArray))) kr) EntKs.nil)))))))) EntKEs.nil)))) (EntKs.cons (EntK.row (fun _ => rfl) (A := DPool.av) (id := 9) (e := 34) (k := 2) (xs := [(⟨(⟨#[116, 119, 111]⟩ : ByteArray), (2 : Int)⟩ : DPool)]) rfl rfl sd sd) (EntKs.cons (EntK.row (fun _ => rfl) (A := AV.s) (id := 10) (e := 9) (k := 1) (xs := [(⟨#[108, 105, 98]⟩ : ByteArray)]) rfl rfl sd sd) EntKs.nil)))))), trivial⟩) ((w_order_Of W hW (⟨[(⟨[(⟨#[108, 105, 98]⟩ : ByteArray)], [(⟨#[97, 46, 111]⟩ : ByteArray), (⟨#[98, 46, 111]⟩ : ByteArray)], [], [], (⟨#[97, 114]⟩ : ByteArray), false, (⟨#[]⟩ : ByteArray)⟩ : DEdge), (⟨[(⟨#[97, 46, 111]⟩ : ByteArray), (⟨#[97, 46, 100]⟩ : ByteArray)], [(⟨#[97, 46, 99]⟩ : ByteArray)], [(⟨#[97, 46, 104]⟩ : ByteArray)], [(⟨#[108, 105, 98]⟩ : ByteArray)], (⟨#[99, 99, 32, 97]⟩ : ByteArray), true, (⟨#[116, 119, 111]⟩ : ByteArray)⟩ : DEdge), (⟨[(⟨#[98, 46, 111]⟩ : ByteArray)], [(⟨#[98, 46, 99]⟩ : ByteArray)], [], [(⟨#[97, 46, 111]⟩ : ByteArray)], (⟨#[99, 99, 32, 98]⟩ : ByteArray), false, (⟨#[116, 119, 111]⟩ : ByteArray)⟩ : DEdge)], [(⟨(⟨#[116, 119, 111]⟩ : ByteArray), (2 : Int)⟩ : DPool)], [(⟨#[108, 105, 98]⟩ : ByteArray)]⟩ : DGraph) sd).res (WeakV.tup ⟨WeakV.und _, WeakV.refl _, trivial⟩)) rfl kr le ?_
  refine AOps.sq (x := (AV.tup [AV.und, (AV.i .i64 ((m_order_Of (⟨[(⟨[(⟨#[108, 105, 98]⟩ : ByteArray)], [(⟨#[97, 46, 111]⟩ : ByteArray), (⟨#[98, 46, 111]⟩ : ByteArray)], [], [], (⟨#[97, 114]⟩ : ByteArray), false, (⟨#[]⟩ : ByteArray)⟩ : DEdge), (⟨[(⟨#[97, 46, 111]⟩ : ByteArray), (⟨#[97, 46, 100]⟩ : ByteArray)], [(⟨#[97, 46, 99]⟩ : ByteArray)], [(⟨#[97, 46, 104]⟩ : ByteArray)], [(⟨#[108, 105, 98]⟩ : ByteArray)], (⟨#[99, 99, 32, 97]⟩ : ByteArray), true, (⟨#[116, 119, 111]⟩ : ByteArray)⟩ : DEdge), (⟨[(⟨#[98, 46, 111]⟩ : ByteArray)], [(⟨#[98, 46, 99]⟩ : ByteArray)], [], [(⟨#[97, 46, 111]⟩ : ByteArray)], (⟨#[99, 99, 32, 98]⟩ : ByteArray), false, (⟨#[116, 119, 111]⟩ : ByteArray)⟩ : DEdge)], [(⟨(⟨#[116, 119, 111]⟩ : ByteArray), (2 : Int)⟩ : DPool)], [(⟨#[108, 105, 98]⟩ : ByteArray)]⟩ : DGraph)).2))])) kr le ?_
  refine AOps.sq (x := AV.und) kr le ?_
  refine AOps.sq (x := (AV.i .i64 ((m_order_Of (⟨[(⟨[(⟨#[108, 105, 98]⟩ : ByteArray)], [(⟨#[97, 46, 111]⟩ : ByteArray), (⟨#[98, 46, 111]⟩ : ByteArray)], [], [], (⟨#[97, 114]⟩ : ByteArray), false, (⟨#[]⟩ : ByteArray)⟩ : DEdge), (⟨[(⟨#[97, 46, 111]⟩ : ByteArray), (⟨#[97, 46, 100]⟩ : ByteArray)], [(⟨#[97, 46, 99]⟩ : ByteArray)], [(⟨#[97, 46, 104]⟩ : ByteArray)], [(⟨#[108, 105, 98]⟩ : ByteArray)], (⟨#[99, 99, 32, 97]⟩ : ByteArray), true, (⟨#[116, 119, 111]⟩ : ByteArray)⟩ : DEdge), (⟨[(⟨#[98, 46, 111]⟩ : ByteArray)], [(⟨#[98, 46, 99]⟩ : ByteArray)], [], [(⟨#[97, 46, 111]⟩ : ByteArray)], (⟨#[99, 99, 32, 98]⟩ : ByteArray), false, (⟨#[116, 119, 111]⟩ : ByteArray)⟩ : DEdge)], [(⟨(⟨#[116, 119, 111]⟩ : ByteArray), (2 : Int)⟩ : DPool)], [(⟨#[108, 105, 98]⟩ : ByteArray)]⟩ : DGraph)).2))) kr le ?_
  refine AOps.sq (x := AV.und) kr le ?_
  refine AOps.sq (x := (AV.i .i64 ((m_order_Of (⟨[(⟨[(⟨#[108, 105, 98]⟩ : ByteArray)], [(⟨#[97, 46, 111]⟩ : ByteArray), (⟨#[98, 46, 111]⟩ : ByteArray)], [], [], (⟨#[97, 114]⟩ : ByteArray), false, (⟨#[]⟩ : ByteArray)⟩ : DEdge), (⟨[(⟨#[97, 46, 111]⟩ : ByteArray), (⟨#[97, 46, 100]⟩ : ByteArray)], [(⟨#[97, 46, 99]⟩ : ByteArray)], [(⟨#[97, 46, 104]⟩ : ByteArray)], [(⟨#[108, 105, 98]⟩ : ByteArray)], (⟨#[99, 99, 32, 97]⟩ : ByteArray), true, (⟨#[116, 119, 111]⟩ : ByteArray)⟩ : DEdge), (⟨[(⟨#[98, 46, 111]⟩ : ByteArray)], [(⟨#[98, 46, 99]⟩ : ByteArray)], [], [(⟨#[97, 46, 111]⟩ : ByteArray)], (⟨#[99, 99, 32, 98]⟩ : ByteArray), false, (⟨#[116, 119, 111]⟩ : ByteArray)⟩ : DEdge)], [(⟨(⟨#[116, 119, 111]⟩ : ByteArray), (2 : Int)⟩ : DPool)], [(⟨#[108, 105, 98]⟩ : ByteArray)]⟩ : DGraph)).2))) kr le ?_
  refine AOps.done ?_
  refine Awp.seq ?_
  refine Awp.region tabS_ok ?_
  refine AOps.sq (x := (AV.loc 11 0 0)) kr le ?_
  refine AOps.sq (x := (AV.own 0 0 3)) kr le ?_
  refine AOps.sq (x := (AV.loc 0 1 0)) kr le ?_
  refine AOps.sq (x := (AV.loc 0 1 4)) kr le ?_
  refine AOps.st (x := AV.und) (h' := ⟨13, [(12, some ⟨9, 1, [(⟨#[108, 105, 98]⟩ : ByteArray)].map AV.s⟩), (11, some ⟨27, 3, [(AV.st [(AV.own 0 0 3), (AV.own 9 0 1), (AV.own 10 0 1)])]⟩), (10, some ⟨9, 1, [(⟨#[108, 105, 98]⟩ : ByteArray)].map AV.s⟩), (9, some ⟨34, 2, [(⟨(⟨#[116, 119, 111]⟩ : ByteArray), (2 : Int)⟩ : DPool)].map DPool.av⟩), (8, some ⟨9, 1, [(⟨#[97, 46, 111]⟩ : ByteArray)].map AV.s⟩), (7, some ⟨9, 1, [(⟨#[98, 46, 99]⟩ : ByteArray)].map AV.s⟩), (6, some ⟨9, 1, [(⟨#[98, 46, 111]⟩ : ByteArray)].map AV.s⟩), (5, some ⟨9, 1, [(⟨#[97, 46, 104]⟩ : ByteArray)].map AV.s⟩), (4, some ⟨9, 1, [(⟨#[97, 46, 99]⟩ : ByteArray)].map AV.s⟩), (3, some ⟨9, 1, [(⟨#[97, 46, 111]⟩ : ByteArray), (⟨#[97, 46, 100]⟩ : ByteArray)].map AV.s⟩), (2, some ⟨9, 1, [(⟨#[97, 46, 111]⟩ : ByteArray), (⟨#[98, 46, 111]⟩ : ByteArray)].map AV.s⟩), (1, some ⟨9, 1, [(⟨#[108, 105, 98]⟩ : ByteArray)].map AV.s⟩), (0, some ⟨31, 7, [(AV.st [(AV.own 1 0 1), (AV.own 2 0 2), (AV.sl 1 true []), (AV.sl 1 true []), (AV.s (⟨#[97, 114]⟩ : ByteArray)), (AV.b false), (AV.s (⟨#[]⟩ : ByteArray))]), (AV.st [(AV.own 3 0 2), (AV.own 4 0 1), (AV.own 5 0 1), (AV.own 12 0 1), (AV.s (⟨#[]⟩ : ByteArray)), (AV.b true), (AV.s (⟨#[116, 119, 111]⟩ : ByteArray))]), (AV.st [(AV.own 6 0 1), (AV.own 7 0 1), (AV.sl 1 true []), (AV.own 8 0 1), (AV.s (⟨#[99, 99, 32, 98]⟩ : ByteArray)), (AV.b false), (AV.s (⟨#[116, 119, 111]⟩ : ByteArray))])]⟩)]⟩) kr ?_
  refine AOps.done ?_
  refine Awp.seq ?_
  refine Awp.region tabS_ok ?_
  refine AOps.sq (x := (AV.st [(AV.own 0 0 3), (AV.own 9 0 1), (AV.own 10 0 1)])) kr le ?_
  refine AOps.sfw (vs := [(AV.st [(AV.own 0 0 3), (AV.own 9 0 1), (AV.own 10 0 1)])]) (ss := [(DGraph.av (⟨[(⟨[(⟨#[108, 105, 98]⟩ : ByteArray)], [(⟨#[97, 46, 111]⟩ : ByteArray), (⟨#[98, 46, 111]⟩ : ByteArray)], [], [], (⟨#[97, 114]⟩ : ByteArray), false, (⟨#[]⟩ : ByteArray)⟩ : DEdge), (⟨[(⟨#[97, 46, 111]⟩ : ByteArray), (⟨#[97, 46, 100]⟩ : ByteArray)], [(⟨#[97, 46, 99]⟩ : ByteArray)], [(⟨#[97, 46, 104]⟩ : ByteArray)], [(⟨#[108, 105, 98]⟩ : ByteArray)], (⟨#[]⟩ : ByteArray), true, (⟨#[116, 119, 111]⟩ : ByteArray)⟩ : DEdge), (⟨[(⟨#[98, 46, 111]⟩ : ByteArray)], [(⟨#[98, 46, 99]⟩ : ByteArray)], [], [(⟨#[97, 46, 111]⟩ : ByteArray)], (⟨#[99, 99, 32, 98]⟩ : ByteArray), false, (⟨#[116, 119, 111]⟩ : ByteArray)⟩ : DEdge)], [(⟨(⟨#[116, 119, 111]⟩ : ByteArray), (2 : Int)⟩ : DPool)], [(⟨#[108, 105, 98]⟩ : ByteArray)]⟩ : DGraph))]) (r0 := (AV.tup [AV.und, (AV.i .i64 ((m_order_Of (⟨[(⟨[(⟨#[108, 105, 98]⟩ : ByteArray)], [(⟨#[97, 46, 111]⟩ : ByteArray), (⟨#[98, 46, 111]⟩ : ByteArray)], [], [], (⟨#[97, 114]⟩ : ByteArray), false, (⟨#[]⟩ : ByteArray)⟩ : DEdge), (⟨[(⟨#[97, 46, 111]⟩ : ByteArray), (⟨#[97, 46, 100]⟩ : ByteArray)], [(⟨#[97, 46, 99]⟩ : ByteArray)], [(⟨#[97, 46, 104]⟩ : ByteArray)], [(⟨#[108, 105, 98]⟩ : ByteArray)], (⟨#[]⟩ : ByteArray), true, (⟨#[116, 119, 111]⟩ : ByteArray)⟩ : DEdge), (⟨[(⟨#[98, 46, 111]⟩ : ByteArray)], [(⟨#[98, 46, 99]⟩ : ByteArray)], [], [(⟨#[97, 46, 111]⟩ : ByteArray)], (⟨#[99, 99, 32, 98]⟩ : ByteArray), false, (⟨#[116, 119, 111]⟩ : ByteArray)⟩ : DEdge)], [(⟨(⟨#[116, 119, 111]⟩ : ByteArray), (2 : Int)⟩ : DPool)], [(⟨#[108, 105, 98]⟩ : ByteArray)]⟩ : DGraph)).2))])) kr (show SnapW _ _ _ from ⟨(EntK.w (EntK.cast (x' := (AV.st [(AV.own 0 0 3), (AV.own 9 0 1), (AV.own 10 0 1)])) kr kr (EntK.st (EntKs.cons (EntK.own (id := 0) (len := 3) (e := 31) (k := 7) (els := [(AV.st [(AV.own 1 0 1), (AV.own 2 0 2), (AV.sl 1 true []), (AV.sl 1 true []), (AV.s (⟨#[97, 114]⟩ : ByteArray)), (AV.b false), (AV.s (⟨#[]⟩ : ByteArray))]), (AV.st [(AV.own 3 0 2), (AV.own 4 0 1), (AV.own 5 0 1), (AV.own 12 0 1), (AV.s (⟨#[]⟩ : ByteArray)), (AV.b true), (AV.s (⟨#[116, 119, 111]⟩ : ByteArray))]), (AV.st [(AV.own 6 0 1), (AV.own 7 0 1), (AV.sl 1 true []), (AV.own 8 0 1), (AV.s (⟨#[99, 99, 32, 98]⟩ : ByteArray)), (AV.b false), (AV.s (⟨#[116, 119, 111]⟩ : ByteArray))])]) rfl rfl rfl sd (EntKEs.cons (EntKE.st (EntKs.cons (EntK.row (fun _ => rfl) (A := AV.s) (id := 1) (e := 9) (k := 1) (xs := [(⟨#[108, 105, 98]⟩ : ByteArray)]) rfl rfl sd sd) (EntKs.cons (EntK.row (fun _ => rfl) (A := AV.s) (id := 2) (e := 9) (k := 1) (xs := [(⟨#[97, 46, 111]⟩ : ByteArray), (⟨#[98, 46, 111]⟩ : ByteArray)]) rfl rfl sd sd) (EntKs.cons (EntK.c rfl (WeakC.nil 1)) (EntKs.cons (EntK.c rfl (WeakC.nil 1)) (EntKs.cons (EntK.cr (x := (AV.s (⟨#[97, 114]⟩ : ByteArray))) kr) (EntKs.cons (EntK.cr (x := (AV.b false)) kr) (EntKs.cons (EntK.cr (x := (AV.s (⟨#[]⟩ : ByteArray))) kr) EntKs.nil)))))))) (EntKEs.cons (EntKE.st (EntKs.cons (EntK.row (fun _ => rfl) (A := AV.s) (id := 3) (e := 9) (k := 1) (xs := [(⟨#[97, 46, 111]⟩ : ByteArray), (⟨#[97, 46, 100]⟩ : ByteArray)]) rfl rfl sd sd) (EntKs.cons (EntK.row (fun _ => rfl) (A := AV.s) (id := 4) (e := 9) (k := 1) (xs := [(⟨#[97, 46, 99]⟩ : ByteArray)]) rfl rfl sd sd) (EntKs.cons (EntK.row (fun _ => rfl) (A := AV.s) (id := 5) (e := 9) (k := 1) (xs := [(⟨#[97, 46, 104]⟩ : ByteArray)]) rfl rfl sd sd) (EntKs.cons (EntK.row (fun _ => rfl) (A := AV.s) (id := 12) (e := 9) (k := 1) (xs := [(⟨#[108, 105, 98]⟩ : ByteArray)]) rfl rfl sd sd) (EntKs.cons (EntK.cr (x := (AV.s (⟨#[]⟩ : ByteArray))) kr) (EntKs.cons (EntK.cr (x := (AV.b true)) kr) (EntKs.cons (EntK.cr (x := (AV.s (⟨#[116, 119, 111]⟩ : ByteArray))) kr) EntKs.nil)))))))) (EntKEs.cons (EntKE.st (EntKs.cons (EntK.row (fun _ => rfl) (A := AV.s) (id := 6) (e := 9) (k := 1) (xs := [(⟨#[98, 46, 111]⟩ : ByteArray)]) rfl rfl sd sd) (EntKs.cons (EntK.row (fun _ => rfl) (A := AV.s) (id := 7) (e := 9) (k := 1) (xs := [(⟨#[98, 46, 99]⟩ : ByteArray)]) rfl rfl sd sd) (EntKs.cons (EntK.c rfl (WeakC.nil 1)) (EntKs.cons (EntK.row (fun _ => rfl) (A := AV.s) (id := 8) (e := 9) (k := 1) (xs := [(⟨#[97, 46, 111]⟩ : ByteArray)]) rfl rfl sd sd) (EntKs.cons (EntK.cr (x := (AV.s (⟨#[99, 99, 32, 98]⟩ : ByteArray))) kr) (EntKs.cons (EntK.cr (x := (AV.b false)) kr) (EntKs.cons (EntK.cr (x := (AV.s (⟨#[116, 119, 111]⟩ : ByteArray))) kr) EntKs.nil)))))))) EntKEs.nil)))) (EntKs.cons (EntK.row (fun _ => rfl) (A := DPool.av) (id := 9) (e := 34) (k := 2) (xs := [(⟨(⟨#[116, 119, 111]⟩ : ByteArray), (2 : Int)⟩ : DPool)]) rfl rfl sd sd) (EntKs.cons (EntK.row (fun _ => rfl) (A := AV.s) (id := 10) (e := 9) (k := 1) (xs := [(⟨#[108, 105, 98]⟩ : ByteArray)]) rfl rfl sd sd) EntKs.nil)))))), trivial⟩) ((w_order_Of W hW (⟨[(⟨[(⟨#[108, 105, 98]⟩ : ByteArray)], [(⟨#[97, 46, 111]⟩ : ByteArray), (⟨#[98, 46, 111]⟩ : ByteArray)], [], [], (⟨#[97, 114]⟩ : ByteArray), false, (⟨#[]⟩ : ByteArray)⟩ : DEdge), (⟨[(⟨#[97, 46, 111]⟩ : ByteArray), (⟨#[97, 46, 100]⟩ : ByteArray)], [(⟨#[97, 46, 99]⟩ : ByteArray)], [(⟨#[97, 46, 104]⟩ : ByteArray)], [(⟨#[108, 105, 98]⟩ : ByteArray)], (⟨#[]⟩ : ByteArray), true, (⟨#[116, 119, 111]⟩ : ByteArray)⟩ : DEdge), (⟨[(⟨#[98, 46, 111]⟩ : ByteArray)], [(⟨#[98, 46, 99]⟩ : ByteArray)], [], [(⟨#[97, 46, 111]⟩ : ByteArray)], (⟨#[99, 99, 32, 98]⟩ : ByteArray), false, (⟨#[116, 119, 111]⟩ : ByteArray)⟩ : DEdge)], [(⟨(⟨#[116, 119, 111]⟩ : ByteArray), (2 : Int)⟩ : DPool)], [(⟨#[108, 105, 98]⟩ : ByteArray)]⟩ : DGraph) sd).res (WeakV.tup ⟨WeakV.und _, WeakV.refl _, trivial⟩)) rfl kr le ?_
  refine AOps.sq (x := (AV.tup [AV.und, (AV.i .i64 ((m_order_Of (⟨[(⟨[(⟨#[108, 105, 98]⟩ : ByteArray)], [(⟨#[97, 46, 111]⟩ : ByteArray), (⟨#[98, 46, 111]⟩ : ByteArray)], [], [], (⟨#[97, 114]⟩ : ByteArray), false, (⟨#[]⟩ : ByteArray)⟩ : DEdge), (⟨[(⟨#[97, 46, 111]⟩ : ByteArray), (⟨#[97, 46, 100]⟩ : ByteArray)], [(⟨#[97, 46, 99]⟩ : ByteArray)], [(⟨#[97, 46, 104]⟩ : ByteArray)], [(⟨#[108, 105, 98]⟩ : ByteArray)], (⟨#[]⟩ : ByteArray), true, (⟨#[116, 119, 111]⟩ : ByteArray)⟩ : DEdge), (⟨[(⟨#[98, 46, 111]⟩ : ByteArray)], [(⟨#[98, 46, 99]⟩ : ByteArray)], [], [(⟨#[97, 46, 111]⟩ : ByteArray)], (⟨#[99, 99, 32, 98]⟩ : ByteArray), false, (⟨#[116, 119, 111]⟩ : ByteArray)⟩ : DEdge)], [(⟨(⟨#[116, 119, 111]⟩ : ByteArray), (2 : Int)⟩ : DPool)], [(⟨#[108, 105, 98]⟩ : ByteArray)]⟩ : DGraph)).2))])) kr le ?_
  refine AOps.sq (x := AV.und) kr le ?_
  refine AOps.sq (x := (AV.i .i64 ((m_order_Of (⟨[(⟨[(⟨#[108, 105, 98]⟩ : ByteArray)], [(⟨#[97, 46, 111]⟩ : ByteArray), (⟨#[98, 46, 111]⟩ : ByteArray)], [], [], (⟨#[97, 114]⟩ : ByteArray), false, (⟨#[]⟩ : ByteArray)⟩ : DEdge), (⟨[(⟨#[97, 46, 111]⟩ : ByteArray), (⟨#[97, 46, 100]⟩ : ByteArray)], [(⟨#[97, 46, 99]⟩ : ByteArray)], [(⟨#[97, 46, 104]⟩ : ByteArray)], [(⟨#[108, 105, 98]⟩ : ByteArray)], (⟨#[]⟩ : ByteArray), true, (⟨#[116, 119, 111]⟩ : ByteArray)⟩ : DEdge), (⟨[(⟨#[98, 46, 111]⟩ : ByteArray)], [(⟨#[98, 46, 99]⟩ : ByteArray)], [], [(⟨#[97, 46, 111]⟩ : ByteArray)], (⟨#[99, 99, 32, 98]⟩ : ByteArray), false, (⟨#[116, 119, 111]⟩ : ByteArray)⟩ : DEdge)], [(⟨(⟨#[116, 119, 111]⟩ : ByteArray), (2 : Int)⟩ : DPool)], [(⟨#[108, 105, 98]⟩ : ByteArray)]⟩ : DGraph)).2))) kr le ?_
  refine AOps.sq (x := AV.und) kr le ?_
  refine AOps.sq (x := (AV.i .i64 ((m_order_Of (⟨[(⟨[(⟨#[108, 105, 98]⟩ : ByteArray)], [(⟨#[97, 46, 111]⟩ : ByteArray), (⟨#[98, 46, 111]⟩ : ByteArray)], [], [], (⟨#[97, 114]⟩ : ByteArray), false, (⟨#[]⟩ : ByteArray)⟩ : DEdge), (⟨[(⟨#[97, 46, 111]⟩ : ByteArray), (⟨#[97, 46, 100]⟩ : ByteArray)], [(⟨#[97, 46, 99]⟩ : ByteArray)], [(⟨#[97, 46, 104]⟩ : ByteArray)], [(⟨#[108, 105, 98]⟩ : ByteArray)], (⟨#[]⟩ : ByteArray), true, (⟨#[116, 119, 111]⟩ : ByteArray)⟩ : DEdge), (⟨[(⟨#[98, 46, 111]⟩ : ByteArray)], [(⟨#[98, 46, 99]⟩ : ByteArray)], [], [(⟨#[97, 46, 111]⟩ : ByteArray)], (⟨#[99, 99, 32, 98]⟩ : ByteArray), false, (⟨#[116, 119, 111]⟩ : ByteArray)⟩ : DEdge)], [(⟨(⟨#[116, 119, 111]⟩ : ByteArray), (2 : Int)⟩ : DPool)], [(⟨#[108, 105, 98]⟩ : ByteArray)]⟩ : DGraph)).2))) kr le ?_
  refine AOps.done ?_
  refine Awp.seq ?_
  refine Awp.region tabS_ok ?_
  refine AOps.sq (x := ((slA 1 (AV.i .i64)) ((m_order_Of (⟨[(⟨[(⟨#[108, 105, 98]⟩ : ByteArray)], [(⟨#[97, 46, 111]⟩ : ByteArray), (⟨#[98, 46, 111]⟩ : ByteArray)], [], [], (⟨#[97, 114]⟩ : ByteArray), false, (⟨#[]⟩ : ByteArray)⟩ : DEdge), (⟨[(⟨#[97, 46, 111]⟩ : ByteArray), (⟨#[97, 46, 100]⟩ : ByteArray)], [(⟨#[97, 46, 99]⟩ : ByteArray)], [(⟨#[97, 46, 104]⟩ : ByteArray)], [], (⟨#[99, 99, 32, 97]⟩ : ByteArray), true, (⟨#[116, 119, 111]⟩ : ByteArray)⟩ : DEdge), (⟨[(⟨#[98, 46, 111]⟩ : ByteArray)], [(⟨#[98, 46, 99]⟩ : ByteArray)], [], [(⟨#[97, 46, 111]⟩ : ByteArray)], (⟨#[99, 99, 32, 98]⟩ : ByteArray), false, (⟨#[116, 119, 111]⟩ : ByteArray)⟩ : DEdge)], [(⟨(⟨#[116, 119, 111]⟩ : ByteArray), (2 : Int)⟩ : DPool)], [(⟨#[108, 105, 98]⟩ : ByteArray)]⟩ : DGraph)).1))) kr le ?_
  refine AOps.sn (x := (AV.own 13 0 3)) (h' := ⟨14, [(13, some ⟨3, 1, [(1 : Int), (2 : Int), (0 : Int)].map (AV.i .i64)⟩), (12, some ⟨9, 1, [(⟨#[108, 105, 98]⟩ : ByteArray)].map AV.s⟩), (11, some ⟨27, 3, [(AV.st [(AV.own 0 0 3), (AV.own 9 0 1), (AV.own 10 0 1)])]⟩), (10, some ⟨9, 1, [(⟨#[108, 105, 98]⟩ : ByteArray)].map AV.s⟩), (9, some ⟨34, 2, [(⟨(⟨#[116, 119, 111]⟩ : ByteArray), (2 : Int)⟩ : DPool)].map DPool.av⟩), (8, some ⟨9, 1, [(⟨#[97, 46, 111]⟩ : ByteArray)].map AV.s⟩), (7, some ⟨9, 1, [(⟨#[98, 46, 99]⟩ : ByteArray)].map AV.s⟩), (6, some ⟨9, 1, [(⟨#[98, 46, 111]⟩ : ByteArray)].map AV.s⟩), (5, some ⟨9, 1, [(⟨#[97, 46, 104]⟩ : ByteArray)].map AV.s⟩), (4, some ⟨9, 1, [(⟨#[97, 46, 99]⟩ : ByteArray)].map AV.s⟩), (3, some ⟨9, 1, [(⟨#[97, 46, 111]⟩ : ByteArray), (⟨#[97, 46, 100]⟩ : ByteArray)].map AV.s⟩), (2, some ⟨9, 1, [(⟨#[97, 46, 111]⟩ : ByteArray), (⟨#[98, 46, 111]⟩ : ByteArray)].map AV.s⟩), (1, some ⟨9, 1, [(⟨#[108, 105, 98]⟩ : ByteArray)].map AV.s⟩), (0, some ⟨31, 7, [(AV.st [(AV.own 1 0 1), (AV.own 2 0 2), (AV.sl 1 true []), (AV.sl 1 true []), (AV.s (⟨#[97, 114]⟩ : ByteArray)), (AV.b false), (AV.s (⟨#[]⟩ : ByteArray))]), (AV.st [(AV.own 3 0 2), (AV.own 4 0 1), (AV.own 5 0 1), (AV.own 12 0 1), (AV.s (⟨#[]⟩ : ByteArray)), (AV.b true), (AV.s (⟨#[116, 119, 111]⟩ : ByteArray))]), (AV.st [(AV.own 6 0 1), (AV.own 7 0 1), (AV.sl 1 true []), (AV.own 8 0 1), (AV.s (⟨#[99, 99, 32, 98]⟩ : ByteArray)), (AV.b false), (AV.s (⟨#[116, 119, 111]⟩ : ByteArray))])]⟩)]⟩) kr le ?_
  refine AOps.sfw (vs := [((slA 1 (AV.i .i64)) ((m_order_Of (⟨[(⟨[(⟨#[108, 105, 98]⟩ : ByteArray)], [(⟨#[97, 46, 111]⟩ : ByteArray), (⟨#[98, 46, 111]⟩ : ByteArray)], [], [], (⟨#[97, 114]⟩ : ByteArray), false, (⟨#[]⟩ : ByteArray)⟩ : DEdge), (⟨[(⟨#[97, 46, 111]⟩ : ByteArray), (⟨#[97, 46, 100]⟩ : ByteArray)], [(⟨#[97, 46, 99]⟩ : ByteArray)], [(⟨#[97, 46, 104]⟩ : ByteArray)], [], (⟨#[99, 99, 32, 97]⟩ : ByteArray), true, (⟨#[116, 119, 111]⟩ : ByteArray)⟩ : DEdge), (⟨[(⟨#[98, 46, 111]⟩ : ByteArray)], [(⟨#[98, 46, 99]⟩ : ByteArray)], [], [(⟨#[97, 46, 111]⟩ : ByteArray)], (⟨#[99, 99, 32, 98]⟩ : ByteArray), false, (⟨#[116, 119, 111]⟩ : ByteArray)⟩ : DEdge)], [(⟨(⟨#[116, 119, 111]⟩ : ByteArray), (2 : Int)⟩ : DPool)], [(⟨#[108, 105, 98]⟩ : ByteArray)]⟩ : DGraph)).1)), (AV.own 13 0 3)]) (ss := [((slA 1 (AV.i .i64)) ((m_order_Of (⟨[(⟨[(⟨#[108, 105, 98]⟩ : ByteArray)], [(⟨#[97, 46, 111]⟩ : ByteArray), (⟨#[98, 46, 111]⟩ : ByteArray)], [], [], (⟨#[97, 114]⟩ : ByteArray), false, (⟨#[]⟩ : ByteArray)⟩ : DEdge), (⟨[(⟨#[97, 46, 111]⟩ : ByteArray), (⟨#[97, 46, 100]⟩ : ByteArray)], [(⟨#[97, 46, 99]⟩ : ByteArray)], [(⟨#[97, 46, 104]⟩ : ByteArray)], [], (⟨#[99, 99, 32, 97]⟩ : ByteArray), true, (⟨#[116, 119, 111]⟩ : ByteArray)⟩ : DEdge), (⟨[(⟨#[98, 46, 111]⟩ : ByteArray)], [(⟨#[98, 46, 99]⟩ : ByteArray)], [], [(⟨#[97, 46, 111]⟩ : ByteArray)], (⟨#[99, 99, 32, 98]⟩ : ByteArray), false, (⟨#[116, 119, 111]⟩ : ByteArray)⟩ : DEdge)], [(⟨(⟨#[116, 119, 111]⟩ : ByteArray), (2 : Int)⟩ : DPool)], [(⟨#[108, 105, 98]⟩ : ByteArray)]⟩ : DGraph)).1)), ((slA 1 (AV.i .i64)) [(1 : Int), (2 : Int), (0 : Int)])]) (r0 := (AV.b (m_law0_SameInts ((m_order_Of (⟨[(⟨[(⟨#[108, 105, 98]⟩ : ByteArray)], [(⟨#[97, 46, 111]⟩ : ByteArray), (⟨#[98, 46, 111]⟩ : ByteArray)], [], [], (⟨#[97, 114]⟩ : ByteArray), false, (⟨#[]⟩ : ByteArray)⟩ : DEdge), (⟨[(⟨#[97, 46, 111]⟩ : ByteArray), (⟨#[97, 46, 100]⟩ : ByteArray)], [(⟨#[97, 46, 99]⟩ : ByteArray)], [(⟨#[97, 46, 104]⟩ : ByteArray)], [], (⟨#[99, 99, 32, 97]⟩ : ByteArray), true, (⟨#[116, 119, 111]⟩ : ByteArray)⟩ : DEdge), (⟨[(⟨#[98, 46, 111]⟩ : ByteArray)], [(⟨#[98, 46, 99]⟩ : ByteArray)], [], [(⟨#[97, 46, 111]⟩ : ByteArray)], (⟨#[99, 99, 32, 98]⟩ : ByteArray), false, (⟨#[116, 119, 111]⟩ : ByteArray)⟩ : DEdge)], [(⟨(⟨#[116, 119, 111]⟩ : ByteArray), (2 : Int)⟩ : DPool)], [(⟨#[108, 105, 98]⟩ : ByteArray)]⟩ : DGraph)).1) [(1 : Int), (2 : Int), (0 : Int)]))) kr (show SnapW _ _ _ from ⟨(SnapW.e kr), ⟨(EntK.w (EntK.cast (x' := (AV.own 13 0 3)) kr kr (EntK.row (fun _ => rfl) (A := (AV.i .i64)) (id := 13) (e := 3) (k := 1) (xs := [(1 : Int), (2 : Int), (0 : Int)]) rfl rfl sd sd))), trivial⟩⟩) (w_law0_SameInts W ((m_order_Of (⟨[(⟨[(⟨#[108, 105, 98]⟩ : ByteArray)], [(⟨#[97, 46, 111]⟩ : ByteArray), (⟨#[98, 46, 111]⟩ : ByteArray)], [], [], (⟨#[97, 114]⟩ : ByteArray), false, (⟨#[]⟩ : ByteArray)⟩ : DEdge), (⟨[(⟨#[97, 46, 111]⟩ : ByteArray), (⟨#[97, 46, 100]⟩ : ByteArray)], [(⟨#[97, 46, 99]⟩ : ByteArray)], [(⟨#[97, 46, 104]⟩ : ByteArray)], [], (⟨#[99, 99, 32, 97]⟩ : ByteArray), true, (⟨#[116, 119, 111]⟩ : ByteArray)⟩ : DEdge), (⟨[(⟨#[98, 46, 111]⟩ : ByteArray)], [(⟨#[98, 46, 99]⟩ : ByteArray)], [], [(⟨#[97, 46, 111]⟩ : ByteArray)], (⟨#[99, 99, 32, 98]⟩ : ByteArray), false, (⟨#[116, 119, 111]⟩ : ByteArray)⟩ : DEdge)], [(⟨(⟨#[116, 119, 111]⟩ : ByteArray), (2 : Int)⟩ : DPool)], [(⟨#[108, 105, 98]⟩ : ByteArray)]⟩ : DGraph)).1) [(1 : Int), (2 : Int), (0 : Int)]) rfl kr le ?_
  refine AOps.sq (x := (AV.b (m_law0_SameInts ((m_order_Of (⟨[(⟨[(⟨#[108, 105, 98]⟩ : ByteArray)], [(⟨#[97, 46, 111]⟩ : ByteArray), (⟨#[98, 46, 111]⟩ : ByteArray)], [], [], (⟨#[97, 114]⟩ : ByteArray), false, (⟨#[]⟩ : ByteArray)⟩ : DEdge), (⟨[(⟨#[97, 46, 111]⟩ : ByteArray), (⟨#[97, 46, 100]⟩ : ByteArray)], [(⟨#[97, 46, 99]⟩ : ByteArray)], [(⟨#[97, 46, 104]⟩ : ByteArray)], [], (⟨#[99, 99, 32, 97]⟩ : ByteArray), true, (⟨#[116, 119, 111]⟩ : ByteArray)⟩ : DEdge), (⟨[(⟨#[98, 46, 111]⟩ : ByteArray)], [(⟨#[98, 46, 99]⟩ : ByteArray)], [], [(⟨#[97, 46, 111]⟩ : ByteArray)], (⟨#[99, 99, 32, 98]⟩ : ByteArray), false, (⟨#[116, 119, 111]⟩ : ByteArray)⟩ : DEdge)], [(⟨(⟨#[116, 119, 111]⟩ : ByteArray), (2 : Int)⟩ : DPool)], [(⟨#[108, 105, 98]⟩ : ByteArray)]⟩ : DGraph)).1) [(1 : Int), (2 : Int), (0 : Int)]))) kr le ?_
  cases c_1 : (m_law0_SameInts ((m_order_Of (⟨[(⟨[(⟨#[108, 105, 98]⟩ : ByteArray)], [(⟨#[97, 46, 111]⟩ : ByteArray), (⟨#[98, 46, 111]⟩ : ByteArray)], [], [], (⟨#[97, 114]⟩ : ByteArray), false, (⟨#[]⟩ : ByteArray)⟩ : DEdge), (⟨[(⟨#[97, 46, 111]⟩ : ByteArray), (⟨#[97, 46, 100]⟩ : ByteArray)], [(⟨#[97, 46, 99]⟩ : ByteArray)], [(⟨#[97, 46, 104]⟩ : ByteArray)], [], (⟨#[99, 99, 32, 97]⟩ : ByteArray), true, (⟨#[116, 119, 111]⟩ : ByteArray)⟩ : DEdge), (⟨[(⟨#[98, 46, 111]⟩ : ByteArray)], [(⟨#[98, 46, 99]⟩ : ByteArray)], [], [(⟨#[97, 46, 111]⟩ : ByteArray)], (⟨#[99, 99, 32, 98]⟩ : ByteArray), false, (⟨#[116, 119, 111]⟩ : ByteArray)⟩ : DEdge)], [(⟨(⟨#[116, 119, 111]⟩ : ByteArray), (2 : Int)⟩ : DPool)], [(⟨#[108, 105, 98]⟩ : ByteArray)]⟩ : DGraph)).1) [(1 : Int), (2 : Int), (0 : Int)])
  · refine AOps.sgn rfl rfl kr rfl le ?_
    refine AOps.sgn rfl rfl kr rfl le ?_
    refine AOps.sgn rfl rfl kr rfl le ?_
    refine AOps.sq (x := (AV.b false)) kr le ?_
    refine AOps.sq (x := (AV.b false)) kr le ?_
    refine AOps.sgn rfl rfl kr rfl le ?_
    refine AOps.sgn rfl rfl kr rfl le ?_
    refine AOps.sgn rfl rfl kr rfl le ?_
    refine AOps.sq (x := (AV.b false)) kr le ?_
    refine AOps.sq (x := (AV.b false)) kr le ?_
    refine AOps.sgn rfl rfl kr rfl le ?_
    refine AOps.sgn rfl rfl kr rfl le ?_
    refine AOps.sgn rfl rfl kr rfl le ?_
    refine AOps.sq (x := (AV.b false)) kr le ?_
    refine AOps.sq (x := (AV.b false)) kr le ?_
    refine AOps.done ?_
    refine Awp.ret ?_
    have hM : m_law10_awake = false := by simp only [m_law10_awake, c_1, sbt]
    refine ⟨Or.inr rfl, ?_⟩
    rw [hM]
    exact Ent.cast (x' := (AV.b false)) (y' := (AV.b false)) kr kr (Ent.c kr kr)
  · refine AOps.sgy rfl rfl kr rfl ?_
    refine AOps.sq (x := (AV.i .i64 ((m_order_Of (⟨[(⟨[(⟨#[108, 105, 98]⟩ : ByteArray)], [(⟨#[97, 46, 111]⟩ : ByteArray), (⟨#[98, 46, 111]⟩ : ByteArray)], [], [], (⟨#[97, 114]⟩ : ByteArray), false, (⟨#[]⟩ : ByteArray)⟩ : DEdge), (⟨[(⟨#[97, 46, 111]⟩ : ByteArray), (⟨#[97, 46, 100]⟩ : ByteArray)], [(⟨#[97, 46, 99]⟩ : ByteArray)], [(⟨#[97, 46, 104]⟩ : ByteArray)], [], (⟨#[99, 99, 32, 97]⟩ : ByteArray), true, (⟨#[116, 119, 111]⟩ : ByteArray)⟩ : DEdge), (⟨[(⟨#[98, 46, 111]⟩ : ByteArray)], [(⟨#[98, 46, 99]⟩ : ByteArray)], [], [(⟨#[97, 46, 111]⟩ : ByteArray)], (⟨#[99, 99, 32, 98]⟩ : ByteArray), false, (⟨#[116, 119, 111]⟩ : ByteArray)⟩ : DEdge)], [(⟨(⟨#[116, 119, 111]⟩ : ByteArray), (2 : Int)⟩ : DPool)], [(⟨#[108, 105, 98]⟩ : ByteArray)]⟩ : DGraph)).2))) kr le ?_
    refine AOps.sgy rfl rfl kr rfl ?_
    refine AOps.sc0 (vs := [(AV.i .i64 ((m_order_Of (⟨[(⟨[(⟨#[108, 105, 98]⟩ : ByteArray)], [(⟨#[97, 46, 111]⟩ : ByteArray), (⟨#[98, 46, 111]⟩ : ByteArray)], [], [], (⟨#[97, 114]⟩ : ByteArray), false, (⟨#[]⟩ : ByteArray)⟩ : DEdge), (⟨[(⟨#[97, 46, 111]⟩ : ByteArray), (⟨#[97, 46, 100]⟩ : ByteArray)], [(⟨#[97, 46, 99]⟩ : ByteArray)], [(⟨#[97, 46, 104]⟩ : ByteArray)], [], (⟨#[99, 99, 32, 97]⟩ : ByteArray), true, (⟨#[116, 119, 111]⟩ : ByteArray)⟩ : DEdge), (⟨[(⟨#[98, 46, 111]⟩ : ByteArray)], [(⟨#[98, 46, 99]⟩ : ByteArray)], [], [(⟨#[97, 46, 111]⟩ : ByteArray)], (⟨#[99, 99, 32, 98]⟩ : ByteArray), false, (⟨#[116, 119, 111]⟩ : ByteArray)⟩ : DEdge)], [(⟨(⟨#[116, 119, 111]⟩ : ByteArray), (2 : Int)⟩ : DPool)], [(⟨#[108, 105, 98]⟩ : ByteArray)]⟩ : DGraph)).2))]) (r0 := (AV.i .i64 (m_law0_Num ((m_order_Of (⟨[(⟨[(⟨#[108, 105, 98]⟩ : ByteArray)], [(⟨#[97, 46, 111]⟩ : ByteArray), (⟨#[98, 46, 111]⟩ : ByteArray)], [], [], (⟨#[97, 114]⟩ : ByteArray), false, (⟨#[]⟩ : ByteArray)⟩ : DEdge), (⟨[(⟨#[97, 46, 111]⟩ : ByteArray), (⟨#[97, 46, 100]⟩ : ByteArray)], [(⟨#[97, 46, 99]⟩ : ByteArray)], [(⟨#[97, 46, 104]⟩ : ByteArray)], [], (⟨#[99, 99, 32, 97]⟩ : ByteArray), true, (⟨#[116, 119, 111]⟩ : ByteArray)⟩ : DEdge), (⟨[(⟨#[98, 46, 111]⟩ : ByteArray)], [(⟨#[98, 46, 99]⟩ : ByteArray)], [], [(⟨#[97, 46, 111]⟩ : ByteArray)], (⟨#[99, 99, 32, 98]⟩ : ByteArray), false, (⟨#[116, 119, 111]⟩ : ByteArray)⟩ : DEdge)], [(⟨(⟨#[116, 119, 111]⟩ : ByteArray), (2 : Int)⟩ : DPool)], [(⟨#[108, 105, 98]⟩ : ByteArray)]⟩ : DGraph)).2)))) kr kr (w_law0_Num W ((m_order_Of (⟨[(⟨[(⟨#[108, 105, 98]⟩ : ByteArray)], [(⟨#[97, 46, 111]⟩ : ByteArray), (⟨#[98, 46, 111]⟩ : ByteArray)], [], [], (⟨#[97, 114]⟩ : ByteArray), false, (⟨#[]⟩ : ByteArray)⟩ : DEdge), (⟨[(⟨#[97, 46, 111]⟩ : ByteArray), (⟨#[97, 46, 100]⟩ : ByteArray)], [(⟨#[97, 46, 99]⟩ : ByteArray)], [(⟨#[97, 46, 104]⟩ : ByteArray)], [], (⟨#[99, 99, 32, 97]⟩ : ByteArray), true, (⟨#[116, 119, 111]⟩ : ByteArray)⟩ : DEdge), (⟨[(⟨#[98, 46, 111]⟩ : ByteArray)], [(⟨#[98, 46, 99]⟩ : ByteArray)], [], [(⟨#[97, 46, 111]⟩ : ByteArray)], (⟨#[99, 99, 32, 98]⟩ : ByteArray), false, (⟨#[116, 119, 111]⟩ : ByteArray)⟩ : DEdge)], [(⟨(⟨#[116, 119, 111]⟩ : ByteArray), (2 : Int)⟩ : DPool)], [(⟨#[108, 105, 98]⟩ : ByteArray)]⟩ : DGraph)).2)) kr le ?_
    refine AOps.sgy rfl rfl kr rfl ?_
    refine AOps.sq (x := (AV.b (decide ((m_law0_Num ((m_order_Of (⟨[(⟨[(⟨#[108, 105, 98]⟩ : ByteArray)], [(⟨#[97, 46, 111]⟩ : ByteArray), (⟨#[98, 46, 111]⟩ : ByteArray)], [], [], (⟨#[97, 114]⟩ : ByteArray), false, (⟨#[]⟩ : ByteArray)⟩ : DEdge), (⟨[(⟨#[97, 46, 111]⟩ : ByteArray), (⟨#[97, 46, 100]⟩ : ByteArray)], [(⟨#[97, 46, 99]⟩ : ByteArray)], [(⟨#[97, 46, 104]⟩ : ByteArray)], [], (⟨#[99, 99, 32, 97]⟩ : ByteArray), true, (⟨#[116, 119, 111]⟩ : ByteArray)⟩ : DEdge), (⟨[(⟨#[98, 46, 111]⟩ : ByteArray)], [(⟨#[98, 46, 99]⟩ : ByteArray)], [], [(⟨#[97, 46, 111]⟩ : ByteArray)], (⟨#[99, 99, 32, 98]⟩ : ByteArray), false, (⟨#[116, 119, 111]⟩ : ByteArray)⟩ : DEdge)], [(⟨(⟨#[116, 119, 111]⟩ : ByteArray), (2 : Int)⟩ : DPool)], [(⟨#[108, 105, 98]⟩ : ByteArray)]⟩ : DGraph)).2)) = (0 : Int))))) kr le ?_
    refine AOps.sq (x := (AV.b (decide ((m_law0_Num ((m_order_Of (⟨[(⟨[(⟨#[108, 105, 98]⟩ : ByteArray)], [(⟨#[97, 46, 111]⟩ : ByteArray), (⟨#[98, 46, 111]⟩ : ByteArray)], [], [], (⟨#[97, 114]⟩ : ByteArray), false, (⟨#[]⟩ : ByteArray)⟩ : DEdge), (⟨[(⟨#[97, 46, 111]⟩ : ByteArray), (⟨#[97, 46, 100]⟩ : ByteArray)], [(⟨#[97, 46, 99]⟩ : ByteArray)], [(⟨#[97, 46, 104]⟩ : ByteArray)], [], (⟨#[99, 99, 32, 97]⟩ : ByteArray), true, (⟨#[116, 119, 111]⟩ : ByteArray)⟩ : DEdge), (⟨[(⟨#[98, 46, 111]⟩ : ByteArray)], [(⟨#[98, 46, 99]⟩ : ByteArray)], [], [(⟨#[97, 46, 111]⟩ : ByteArray)], (⟨#[99, 99, 32, 98]⟩ : ByteArray), false, (⟨#[116, 119, 111]⟩ : ByteArray)⟩ : DEdge)], [(⟨(⟨#[116, 119, 111]⟩ : ByteArray), (2 : Int)⟩ : DPool)], [(⟨#[108, 105, 98]⟩ : ByteArray)]⟩ : DGraph)).2)) = (0 : Int))))) kr le ?_
    refine AOps.sq (x := (AV.b (decide ((m_law0_Num ((m_order_Of (⟨[(⟨[(⟨#[108, 105, 98]⟩ : ByteArray)], [(⟨#[97, 46, 111]⟩ : ByteArray), (⟨#[98, 46, 111]⟩ : ByteArray)], [], [], (⟨#[97, 114]⟩ : ByteArray), false, (⟨#[]⟩ : ByteArray)⟩ : DEdge), (⟨[(⟨#[97, 46, 111]⟩ : ByteArray), (⟨#[97, 46, 100]⟩ : ByteArray)], [(⟨#[97, 46, 99]⟩ : ByteArray)], [(⟨#[97, 46, 104]⟩ : ByteArray)], [], (⟨#[99, 99, 32, 97]⟩ : ByteArray), true, (⟨#[116, 119, 111]⟩ : ByteArray)⟩ : DEdge), (⟨[(⟨#[98, 46, 111]⟩ : ByteArray)], [(⟨#[98, 46, 99]⟩ : ByteArray)], [], [(⟨#[97, 46, 111]⟩ : ByteArray)], (⟨#[99, 99, 32, 98]⟩ : ByteArray), false, (⟨#[116, 119, 111]⟩ : ByteArray)⟩ : DEdge)], [(⟨(⟨#[116, 119, 111]⟩ : ByteArray), (2 : Int)⟩ : DPool)], [(⟨#[108, 105, 98]⟩ : ByteArray)]⟩ : DGraph)).2)) = (0 : Int))))) kr le ?_
    cases c_2 : decide ((m_law0_Num ((m_order_Of (⟨[(⟨[(⟨#[108, 105, 98]⟩ : ByteArray)], [(⟨#[97, 46, 111]⟩ : ByteArray), (⟨#[98, 46, 111]⟩ : ByteArray)], [], [], (⟨#[97, 114]⟩ : ByteArray), false, (⟨#[]⟩ : ByteArray)⟩ : DEdge), (⟨[(⟨#[97, 46, 111]⟩ : ByteArray), (⟨#[97, 46, 100]⟩ : ByteArray)], [(⟨#[97, 46, 99]⟩ : ByteArray)], [(⟨#[97, 46, 104]⟩ : ByteArray)], [], (⟨#[99, 99, 32, 97]⟩ : ByteArray), true, (⟨#[116, 119, 111]⟩ : ByteArray)⟩ : DEdge), (⟨[(⟨#[98, 46, 111]⟩ : ByteArray)], [(⟨#[98, 46, 99]⟩ : ByteArray)], [], [(⟨#[97, 46, 111]⟩ : ByteArray)], (⟨#[99, 99, 32, 98]⟩ : ByteArray), false, (⟨#[116, 119, 111]⟩ : ByteArray)⟩ : DEdge)], [(⟨(⟨#[116, 119, 111]⟩ : ByteArray), (2 : Int)⟩ : DPool)], [(⟨#[108, 105, 98]⟩ : ByteArray)]⟩ : DGraph)).2)) = (0 : Int))
    · have k_2 : ¬ ((m_law0_Num ((m_order_Of (⟨[(⟨[(⟨#[108, 105, 98]⟩ : ByteArray)], [(⟨#[97, 46, 111]⟩ : ByteArray), (⟨#[98, 46, 111]⟩ : ByteArray)], [], [], (⟨#[97, 114]⟩ : ByteArray), false, (⟨#[]⟩ : ByteArray)⟩ : DEdge), (⟨[(⟨#[97, 46, 111]⟩ : ByteArray), (⟨#[97, 46, 100]⟩ : ByteArray)], [(⟨#[97, 46, 99]⟩ : ByteArray)], [(⟨#[97, 46, 104]⟩ : ByteArray)], [], (⟨#[99, 99, 32, 97]⟩ : ByteArray), true, (⟨#[116, 119, 111]⟩ : ByteArray)⟩ : DEdge), (⟨[(⟨#[98, 46, 111]⟩ : ByteArray)], [(⟨#[98, 46, 99]⟩ : ByteArray)], [], [(⟨#[97, 46, 111]⟩ : ByteArray)], (⟨#[99, 99, 32, 98]⟩ : ByteArray), false, (⟨#[116, 119, 111]⟩ : ByteArray)⟩ : DEdge)], [(⟨(⟨#[116, 119, 111]⟩ : ByteArray), (2 : Int)⟩ : DPool)], [(⟨#[108, 105, 98]⟩ : ByteArray)]⟩ : DGraph)).2)) = (0 : Int)) := of_decide_eq_false c_2
      refine AOps.sgn rfl rfl kr rfl le ?_
      refine AOps.sgn rfl rfl kr rfl le ?_
      refine AOps.sgn rfl rfl kr rfl le ?_
      refine AOps.sq (x := (AV.b false)) kr le ?_
      refine AOps.sq (x := (AV.b false)) kr le ?_
      refine AOps.sgn rfl rfl kr rfl le ?_
      refine AOps.sgn rfl rfl kr rfl le ?_
      refine AOps.sgn rfl rfl kr rfl le ?_
      refine AOps.sq (x := (AV.b false)) kr le ?_
      refine AOps.sq (x := (AV.b false)) kr le ?_
      refine AOps.done ?_
      refine Awp.ret ?_
      have hM : m_law10_awake = false := by simp only [m_law10_awake, c_1, c_2, sbt]
      refine ⟨Or.inr rfl, ?_⟩
      rw [hM]
      exact Ent.cast (x' := (AV.b false)) (y' := (AV.b false)) kr kr (Ent.c kr kr)
    · have k_2 : ((m_law0_Num ((m_order_Of (⟨[(⟨[(⟨#[108, 105, 98]⟩ : ByteArray)], [(⟨#[97, 46, 111]⟩ : ByteArray), (⟨#[98, 46, 111]⟩ : ByteArray)], [], [], (⟨#[97, 114]⟩ : ByteArray), false, (⟨#[]⟩ : ByteArray)⟩ : DEdge), (⟨[(⟨#[97, 46, 111]⟩ : ByteArray), (⟨#[97, 46, 100]⟩ : ByteArray)], [(⟨#[97, 46, 99]⟩ : ByteArray)], [(⟨#[97, 46, 104]⟩ : ByteArray)], [], (⟨#[99, 99, 32, 97]⟩ : ByteArray), true, (⟨#[116, 119, 111]⟩ : ByteArray)⟩ : DEdge), (⟨[(⟨#[98, 46, 111]⟩ : ByteArray)], [(⟨#[98, 46, 99]⟩ : ByteArray)], [], [(⟨#[97, 46, 111]⟩ : ByteArray)], (⟨#[99, 99, 32, 98]⟩ : ByteArray), false, (⟨#[116, 119, 111]⟩ : ByteArray)⟩ : DEdge)], [(⟨(⟨#[116, 119, 111]⟩ : ByteArray), (2 : Int)⟩ : DPool)], [(⟨#[108, 105, 98]⟩ : ByteArray)]⟩ : DGraph)).2)) = (0 : Int)) := of_decide_eq_true c_2
      refine AOps.sgy rfl rfl kr rfl ?_
      refine AOps.sq (x := (AV.i .i64 ((m_order_Of (⟨[(⟨[(⟨#[108, 105, 98]⟩ : ByteArray)], [(⟨#[97, 46, 111]⟩ : ByteArray), (⟨#[98, 46, 111]⟩ : ByteArray)], [], [], (⟨#[97, 114]⟩ : ByteArray), false, (⟨#[]⟩ : ByteArray)⟩ : DEdge), (⟨[(⟨#[97, 46, 111]⟩ : ByteArray), (⟨#[97, 46, 100]⟩ : ByteArray)], [(⟨#[97, 46, 99]⟩ : ByteArray)], [(⟨#[97, 46, 104]⟩ : ByteArray)], [(⟨#[108, 105, 98]⟩ : ByteArray)], (⟨#[99, 99, 32, 97]⟩ : ByteArray), true, (⟨#[116, 119, 111]⟩ : ByteArray)⟩ : DEdge), (⟨[(⟨#[98, 46, 111]⟩ : ByteArray)], [(⟨#[98, 46, 99]⟩ : ByteArray)], [], [(⟨#[97, 46, 111]⟩ : ByteArray)], (⟨#[99, 99, 32, 98]⟩ : ByteArray), false, (⟨#[116, 119, 111]⟩ : ByteArray)⟩ : DEdge)], [(⟨(⟨#[116, 119, 111]⟩ : ByteArray), (2 : Int)⟩ : DPool)], [(⟨#[108, 105, 98]⟩ : ByteArray)]⟩ : DGraph)).2))) kr le ?_
      refine AOps.sgy rfl rfl kr rfl ?_
      refine AOps.sc0 (vs := [(AV.i .i64 ((m_order_Of (⟨[(⟨[(⟨#[108, 105, 98]⟩ : ByteArray)], [(⟨#[97, 46, 111]⟩ : ByteArray), (⟨#[98, 46, 111]⟩ : ByteArray)], [], [], (⟨#[97, 114]⟩ : ByteArray), false, (⟨#[]⟩ : ByteArray)⟩ : DEdge), (⟨[(⟨#[97, 46, 111]⟩ : ByteArray), (⟨#[97, 46, 100]⟩ : ByteArray)], [(⟨#[97, 46, 99]⟩ : ByteArray)], [(⟨#[97, 46, 104]⟩ : ByteArray)], [(⟨#[108, 105, 98]⟩ : ByteArray)], (⟨#[99, 99, 32, 97]⟩ : ByteArray), true, (⟨#[116, 119, 111]⟩ : ByteArray)⟩ : DEdge), (⟨[(⟨#[98, 46, 111]⟩ : ByteArray)], [(⟨#[98, 46, 99]⟩ : ByteArray)], [], [(⟨#[97, 46, 111]⟩ : ByteArray)], (⟨#[99, 99, 32, 98]⟩ : ByteArray), false, (⟨#[116, 119, 111]⟩ : ByteArray)⟩ : DEdge)], [(⟨(⟨#[116, 119, 111]⟩ : ByteArray), (2 : Int)⟩ : DPool)], [(⟨#[108, 105, 98]⟩ : ByteArray)]⟩ : DGraph)).2))]) (r0 := (AV.i .i64 (m_law0_Num ((m_order_Of (⟨[(⟨[(⟨#[108, 105, 98]⟩ : ByteArray)], [(⟨#[97, 46, 111]⟩ : ByteArray), (⟨#[98, 46, 111]⟩ : ByteArray)], [], [], (⟨#[97, 114]⟩ : ByteArray), false, (⟨#[]⟩ : ByteArray)⟩ : DEdge), (⟨[(⟨#[97, 46, 111]⟩ : ByteArray), (⟨#[97, 46, 100]⟩ : ByteArray)], [(⟨#[97, 46, 99]⟩ : ByteArray)], [(⟨#[97, 46, 104]⟩ : ByteArray)], [(⟨#[108, 105, 98]⟩ : ByteArray)], (⟨#[99, 99, 32, 97]⟩ : ByteArray), true, (⟨#[116, 119, 111]⟩ : ByteArray)⟩ : DEdge), (⟨[(⟨#[98, 46, 111]⟩ : ByteArray)], [(⟨#[98, 46, 99]⟩ : ByteArray)], [], [(⟨#[97, 46, 111]⟩ : ByteArray)], (⟨#[99, 99, 32, 98]⟩ : ByteArray), false, (⟨#[116, 119, 111]⟩ : ByteArray)⟩ : DEdge)], [(⟨(⟨#[116, 119, 111]⟩ : ByteArray), (2 : Int)⟩ : DPool)], [(⟨#[108, 105, 98]⟩ : ByteArray)]⟩ : DGraph)).2)))) kr kr (w_law0_Num W ((m_order_Of (⟨[(⟨[(⟨#[108, 105, 98]⟩ : ByteArray)], [(⟨#[97, 46, 111]⟩ : ByteArray), (⟨#[98, 46, 111]⟩ : ByteArray)], [], [], (⟨#[97, 114]⟩ : ByteArray), false, (⟨#[]⟩ : ByteArray)⟩ : DEdge), (⟨[(⟨#[97, 46, 111]⟩ : ByteArray), (⟨#[97, 46, 100]⟩ : ByteArray)], [(⟨#[97, 46, 99]⟩ : ByteArray)], [(⟨#[97, 46, 104]⟩ : ByteArray)], [(⟨#[108, 105, 98]⟩ : ByteArray)], (⟨#[99, 99, 32, 97]⟩ : ByteArray), true, (⟨#[116, 119, 111]⟩ : ByteArray)⟩ : DEdge), (⟨[(⟨#[98, 46, 111]⟩ : ByteArray)], [(⟨#[98, 46, 99]⟩ : ByteArray)], [], [(⟨#[97, 46, 111]⟩ : ByteArray)], (⟨#[99, 99, 32, 98]⟩ : ByteArray), false, (⟨#[116, 119, 111]⟩ : ByteArray)⟩ : DEdge)], [(⟨(⟨#[116, 119, 111]⟩ : ByteArray), (2 : Int)⟩ : DPool)], [(⟨#[108, 105, 98]⟩ : ByteArray)]⟩ : DGraph)).2)) kr le ?_
      refine AOps.sgy rfl rfl kr rfl ?_
      refine AOps.sq (x := (AV.b (decide ((m_law0_Num ((m_order_Of (⟨[(⟨[(⟨#[108, 105, 98]⟩ : ByteArray)], [(⟨#[97, 46, 111]⟩ : ByteArray), (⟨#[98, 46, 111]⟩ : ByteArray)], [], [], (⟨#[97, 114]⟩ : ByteArray), false, (⟨#[]⟩ : ByteArray)⟩ : DEdge), (⟨[(⟨#[97, 46, 111]⟩ : ByteArray), (⟨#[97, 46, 100]⟩ : ByteArray)], [(⟨#[97, 46, 99]⟩ : ByteArray)], [(⟨#[97, 46, 104]⟩ : ByteArray)], [(⟨#[108, 105, 98]⟩ : ByteArray)], (⟨#[99, 99, 32, 97]⟩ : ByteArray), true, (⟨#[116, 119, 111]⟩ : ByteArray)⟩ : DEdge), (⟨[(⟨#[98, 46, 111]⟩ : ByteArray)], [(⟨#[98, 46, 99]⟩ : ByteArray)], [], [(⟨#[97, 46, 111]⟩ : ByteArray)], (⟨#[99, 99, 32, 98]⟩ : ByteArray), false, (⟨#[116, 119, 111]⟩ : ByteArray)⟩ : DEdge)], [(⟨(⟨#[116, 119, 111]⟩ : ByteArray), (2 : Int)⟩ : DPool)], [(⟨#[108, 105, 98]⟩ : ByteArray)]⟩ : DGraph)).2)) = (1001 : Int))))) kr le ?_
      refine AOps.sq (x := (AV.b (decide ((m_law0_Num ((m_order_Of (⟨[(⟨[(⟨#[108, 105, 98]⟩ : ByteArray)], [(⟨#[97, 46, 111]⟩ : ByteArray), (⟨#[98, 46, 111]⟩ : ByteArray)], [], [], (⟨#[97, 114]⟩ : ByteArray), false, (⟨#[]⟩ : ByteArray)⟩ : DEdge), (⟨[(⟨#[97, 46, 111]⟩ : ByteArray), (⟨#[97, 46, 100]⟩ : ByteArray)], [(⟨#[97, 46, 99]⟩ : ByteArray)], [(⟨#[97, 46, 104]⟩ : ByteArray)], [(⟨#[108, 105, 98]⟩ : ByteArray)], (⟨#[99, 99, 32, 97]⟩ : ByteArray), true, (⟨#[116, 119, 111]⟩ : ByteArray)⟩ : DEdge), (⟨[(⟨#[98, 46, 111]⟩ : ByteArray)], [(⟨#[98, 46, 99]⟩ : ByteArray)], [], [(⟨#[97, 46, 111]⟩ : ByteArray)], (⟨#[99, 99, 32, 98]⟩ : ByteArray), false, (⟨#[116, 119, 111]⟩ : ByteArray)⟩ : DEdge)], [(⟨(⟨#[116, 119, 111]⟩ : ByteArray), (2 : Int)⟩ : DPool)], [(⟨#[108, 105, 98]⟩ : ByteArray)]⟩ : DGraph)).2)) = (1001 : Int))))) kr le ?_
      refine AOps.sq (x := (AV.b (decide ((m_law0_Num ((m_order_Of (⟨[(⟨[(⟨#[108, 105, 98]⟩ : ByteArray)], [(⟨#[97, 46, 111]⟩ : ByteArray), (⟨#[98, 46, 111]⟩ : ByteArray)], [], [], (⟨#[97, 114]⟩ : ByteArray), false, (⟨#[]⟩ : ByteArray)⟩ : DEdge), (⟨[(⟨#[97, 46, 111]⟩ : ByteArray), (⟨#[97, 46, 100]⟩ : ByteArray)], [(⟨#[97, 46, 99]⟩ : ByteArray)], [(⟨#[97, 46, 104]⟩ : ByteArray)], [(⟨#[108, 105, 98]⟩ : ByteArray)], (⟨#[99, 99, 32, 97]⟩ : ByteArray), true, (⟨#[116, 119, 111]⟩ : ByteArray)⟩ : DEdge), (⟨[(⟨#[98, 46, 111]⟩ : ByteArray)], [(⟨#[98, 46, 99]⟩ : ByteArray)], [], [(⟨#[97, 46, 111]⟩ : ByteArray)], (⟨#[99, 99, 32, 98]⟩ : ByteArray), false, (⟨#[116, 119, 111]⟩ : ByteArray)⟩ : DEdge)], [(⟨(⟨#[116, 119, 111]⟩ : ByteArray), (2 : Int)⟩ : DPool)], [(⟨#[108, 105, 98]⟩ : ByteArray)]⟩ : DGraph)).2)) = (1001 : Int))))) kr le ?_
      cases c_3 : decide ((m_law0_Num ((m_order_Of (⟨[(⟨[(⟨#[108, 105, 98]⟩ : ByteArray)], [(⟨#[97, 46, 111]⟩ : ByteArray), (⟨#[98, 46, 111]⟩ : ByteArray)], [], [], (⟨#[97, 114]⟩ : ByteArray), false, (⟨#[]⟩ : ByteArray)⟩ : DEdge), (⟨[(⟨#[97, 46, 111]⟩ : ByteArray), (⟨#[97, 46, 100]⟩ : ByteArray)], [(⟨#[97, 46, 99]⟩ : ByteArray)], [(⟨#[97, 46, 104]⟩ : ByteArray)], [(⟨#[108, 105, 98]⟩ : ByteArray)], (⟨#[99, 99, 32, 97]⟩ : ByteArray), true, (⟨#[116, 119, 111]⟩ : ByteArray)⟩ : DEdge), (⟨[(⟨#[98, 46, 111]⟩ : ByteArray)], [(⟨#[98, 46, 99]⟩ : ByteArray)], [], [(⟨#[97, 46, 111]⟩ : ByteArray)], (⟨#[99, 99, 32, 98]⟩ : ByteArray), false, (⟨#[116, 119, 111]⟩ : ByteArray)⟩ : DEdge)], [(⟨(⟨#[116, 119, 111]⟩ : ByteArray), (2 : Int)⟩ : DPool)], [(⟨#[108, 105, 98]⟩ : ByteArray)]⟩ : DGraph)).2)) = (1001 : Int))
      · have k_3 : ¬ ((m_law0_Num ((m_order_Of (⟨[(⟨[(⟨#[108, 105, 98]⟩ : ByteArray)], [(⟨#[97, 46, 111]⟩ : ByteArray), (⟨#[98, 46, 111]⟩ : ByteArray)], [], [], (⟨#[97, 114]⟩ : ByteArray), false, (⟨#[]⟩ : ByteArray)⟩ : DEdge), (⟨[(⟨#[97, 46, 111]⟩ : ByteArray), (⟨#[97, 46, 100]⟩ : ByteArray)], [(⟨#[97, 46, 99]⟩ : ByteArray)], [(⟨#[97, 46, 104]⟩ : ByteArray)], [(⟨#[108, 105, 98]⟩ : ByteArray)], (⟨#[99, 99, 32, 97]⟩ : ByteArray), true, (⟨#[116, 119, 111]⟩ : ByteArray)⟩ : DEdge), (⟨[(⟨#[98, 46, 111]⟩ : ByteArray)], [(⟨#[98, 46, 99]⟩ : ByteArray)], [], [(⟨#[97, 46, 111]⟩ : ByteArray)], (⟨#[99, 99, 32, 98]⟩ : ByteArray), false, (⟨#[116, 119, 111]⟩ : ByteArray)⟩ : DEdge)], [(⟨(⟨#[116, 119, 111]⟩ : ByteArray), (2 : Int)⟩ : DPool)], [(⟨#[108, 105, 98]⟩ : ByteArray)]⟩ : DGraph)).2)) = (1001 : Int)) := of_decide_eq_false c_3
        refine AOps.sgn rfl rfl kr rfl le ?_
        refine AOps.sgn rfl rfl kr rfl le ?_
        refine AOps.sgn rfl rfl kr rfl le ?_
        refine AOps.sq (x := (AV.b false)) kr le ?_
        refine AOps.sq (x := (AV.b false)) kr le ?_
        refine AOps.done ?_
        refine Awp.ret ?_
        have hM : m_law10_awake = false := by simp only [m_law10_awake, c_1, c_2, c_3, sbt]
        refine ⟨Or.inr rfl, ?_⟩
        rw [hM]
        exact Ent.cast (x' := (AV.b false)) (y' := (AV.b false)) kr kr (Ent.c kr kr)
      · have k_3 : ((m_law0_Num ((m_order_Of (⟨[(⟨[(⟨#[108, 105, 98]⟩ : ByteArray)], [(⟨#[97, 46, 111]⟩ : ByteArray), (⟨#[98, 46, 111]⟩ : ByteArray)], [], [], (⟨#[97, 114]⟩ : ByteArray), false, (⟨#[]⟩ : ByteArray)⟩ : DEdge), (⟨[(⟨#[97, 46, 111]⟩ : ByteArray), (⟨#[97, 46, 100]⟩ : ByteArray)], [(⟨#[97, 46, 99]⟩ : ByteArray)], [(⟨#[97, 46, 104]⟩ : ByteArray)], [(⟨#[108, 105, 98]⟩ : ByteArray)], (⟨#[99, 99, 32, 97]⟩ : ByteArray), true, (⟨#[116, 119, 111]⟩ : ByteArray)⟩ : DEdge), (⟨[(⟨#[98, 46, 111]⟩ : ByteArray)], [(⟨#[98, 46, 99]⟩ : ByteArray)], [], [(⟨#[97, 46, 111]⟩ : ByteArray)], (⟨#[99, 99, 32, 98]⟩ : ByteArray), false, (⟨#[116, 119, 111]⟩ : ByteArray)⟩ : DEdge)], [(⟨(⟨#[116, 119, 111]⟩ : ByteArray), (2 : Int)⟩ : DPool)], [(⟨#[108, 105, 98]⟩ : ByteArray)]⟩ : DGraph)).2)) = (1001 : Int)) := of_decide_eq_true c_3
        refine AOps.sgy rfl rfl kr rfl ?_
        refine AOps.sq (x := (AV.i .i64 ((m_order_Of (⟨[(⟨[(⟨#[108, 105, 98]⟩ : ByteArray)], [(⟨#[97, 46, 111]⟩ : ByteArray), (⟨#[98, 46, 111]⟩ : ByteArray)], [], [], (⟨#[97, 114]⟩ : ByteArray), false, (⟨#[]⟩ : ByteArray)⟩ : DEdge), (⟨[(⟨#[97, 46, 111]⟩ : ByteArray), (⟨#[97, 46, 100]⟩ : ByteArray)], [(⟨#[97, 46, 99]⟩ : ByteArray)], [(⟨#[97, 46, 104]⟩ : ByteArray)], [(⟨#[108, 105, 98]⟩ : ByteArray)], (⟨#[]⟩ : ByteArray), true, (⟨#[116, 119, 111]⟩ : ByteArray)⟩ : DEdge), (⟨[(⟨#[98, 46, 111]⟩ : ByteArray)], [(⟨#[98, 46, 99]⟩ : ByteArray)], [], [(⟨#[97, 46, 111]⟩ : ByteArray)], (⟨#[99, 99, 32, 98]⟩ : ByteArray), false, (⟨#[116, 119, 111]⟩ : ByteArray)⟩ : DEdge)], [(⟨(⟨#[116, 119, 111]⟩ : ByteArray), (2 : Int)⟩ : DPool)], [(⟨#[108, 105, 98]⟩ : ByteArray)]⟩ : DGraph)).2))) kr le ?_
        refine AOps.sgy rfl rfl kr rfl ?_
        refine AOps.sc0 (vs := [(AV.i .i64 ((m_order_Of (⟨[(⟨[(⟨#[108, 105, 98]⟩ : ByteArray)], [(⟨#[97, 46, 111]⟩ : ByteArray), (⟨#[98, 46, 111]⟩ : ByteArray)], [], [], (⟨#[97, 114]⟩ : ByteArray), false, (⟨#[]⟩ : ByteArray)⟩ : DEdge), (⟨[(⟨#[97, 46, 111]⟩ : ByteArray), (⟨#[97, 46, 100]⟩ : ByteArray)], [(⟨#[97, 46, 99]⟩ : ByteArray)], [(⟨#[97, 46, 104]⟩ : ByteArray)], [(⟨#[108, 105, 98]⟩ : ByteArray)], (⟨#[]⟩ : ByteArray), true, (⟨#[116, 119, 111]⟩ : ByteArray)⟩ : DEdge), (⟨[(⟨#[98, 46, 111]⟩ : ByteArray)], [(⟨#[98, 46, 99]⟩ : ByteArray)], [], [(⟨#[97, 46, 111]⟩ : ByteArray)], (⟨#[99, 99, 32, 98]⟩ : ByteArray), false, (⟨#[116, 119, 111]⟩ : ByteArray)⟩ : DEdge)], [(⟨(⟨#[116, 119, 111]⟩ : ByteArray), (2 : Int)⟩ : DPool)], [(⟨#[108, 105, 98]⟩ : ByteArray)]⟩ : DGraph)).2))]) (r0 := (AV.i .i64 (m_law0_Num ((m_order_Of (⟨[(⟨[(⟨#[108, 105, 98]⟩ : ByteArray)], [(⟨#[97, 46, 111]⟩ : ByteArray), (⟨#[98, 46, 111]⟩ : ByteArray)], [], [], (⟨#[97, 114]⟩ : ByteArray), false, (⟨#[]⟩ : ByteArray)⟩ : DEdge), (⟨[(⟨#[97, 46, 111]⟩ : ByteArray), (⟨#[97, 46, 100]⟩ : ByteArray)], [(⟨#[97, 46, 99]⟩ : ByteArray)], [(⟨#[97, 46, 104]⟩ : ByteArray)], [(⟨#[108, 105, 98]⟩ : ByteArray)], (⟨#[]⟩ : ByteArray), true, (⟨#[116, 119, 111]⟩ : ByteArray)⟩ : DEdge), (⟨[(⟨#[98, 46, 111]⟩ : ByteArray)], [(⟨#[98, 46, 99]⟩ : ByteArray)], [], [(⟨#[97, 46, 111]⟩ : ByteArray)], (⟨#[99, 99, 32, 98]⟩ : ByteArray), false, (⟨#[116, 119, 111]⟩ : ByteArray)⟩ : DEdge)], [(⟨(⟨#[116, 119, 111]⟩ : ByteArray), (2 : Int)⟩ : DPool)], [(⟨#[108, 105, 98]⟩ : ByteArray)]⟩ : DGraph)).2)))) kr kr (w_law0_Num W ((m_order_Of (⟨[(⟨[(⟨#[108, 105, 98]⟩ : ByteArray)], [(⟨#[97, 46, 111]⟩ : ByteArray), (⟨#[98, 46, 111]⟩ : ByteArray)], [], [], (⟨#[97, 114]⟩ : ByteArray), false, (⟨#[]⟩ : ByteArray)⟩ : DEdge), (⟨[(⟨#[97, 46, 111]⟩ : ByteArray), (⟨#[97, 46, 100]⟩ : ByteArray)], [(⟨#[97, 46, 99]⟩ : ByteArray)], [(⟨#[97, 46, 104]⟩ : ByteArray)], [(⟨#[108, 105, 98]⟩ : ByteArray)], (⟨#[]⟩ : ByteArray), true, (⟨#[116, 119, 111]⟩ : ByteArray)⟩ : DEdge), (⟨[(⟨#[98, 46, 111]⟩ : ByteArray)], [(⟨#[98, 46, 99]⟩ : ByteArray)], [], [(⟨#[97, 46, 111]⟩ : ByteArray)], (⟨#[99, 99, 32, 98]⟩ : ByteArray), false, (⟨#[116, 119, 111]⟩ : ByteArray)⟩ : DEdge)], [(⟨(⟨#[116, 119, 111]⟩ : ByteArray), (2 : Int)⟩ : DPool)], [(⟨#[108, 105, 98]⟩ : ByteArray)]⟩ : DGraph)).2)) kr le ?_
        refine AOps.sgy rfl rfl kr rfl ?_
        refine AOps.sq (x := (AV.b (decide ((m_law0_Num ((m_order_Of (⟨[(⟨[(⟨#[108, 105, 98]⟩ : ByteArray)], [(⟨#[97, 46, 111]⟩ : ByteArray), (⟨#[98, 46, 111]⟩ : ByteArray)], [], [], (⟨#[97, 114]⟩ : ByteArray), false, (⟨#[]⟩ : ByteArray)⟩ : DEdge), (⟨[(⟨#[97, 46, 111]⟩ : ByteArray), (⟨#[97, 46, 100]⟩ : ByteArray)], [(⟨#[97, 46, 99]⟩ : ByteArray)], [(⟨#[97, 46, 104]⟩ : ByteArray)], [(⟨#[108, 105, 98]⟩ : ByteArray)], (⟨#[]⟩ : ByteArray), true, (⟨#[116, 119, 111]⟩ : ByteArray)⟩ : DEdge), (⟨[(⟨#[98, 46, 111]⟩ : ByteArray)], [(⟨#[98, 46, 99]⟩ : ByteArray)], [], [(⟨#[97, 46, 111]⟩ : ByteArray)], (⟨#[99, 99, 32, 98]⟩ : ByteArray), false, (⟨#[116, 119, 111]⟩ : ByteArray)⟩ : DEdge)], [(⟨(⟨#[116, 119, 111]⟩ : ByteArray), (2 : Int)⟩ : DPool)], [(⟨#[108, 105, 98]⟩ : ByteArray)]⟩ : DGraph)).2)) = (1000 : Int))))) kr le ?_
        refine AOps.sq (x := (AV.b (decide ((m_law0_Num ((m_order_Of (⟨[(⟨[(⟨#[108, 105, 98]⟩ : ByteArray)], [(⟨#[97, 46, 111]⟩ : ByteArray), (⟨#[98, 46, 111]⟩ : ByteArray)], [], [], (⟨#[97, 114]⟩ : ByteArray), false, (⟨#[]⟩ : ByteArray)⟩ : DEdge), (⟨[(⟨#[97, 46, 111]⟩ : ByteArray), (⟨#[97, 46, 100]⟩ : ByteArray)], [(⟨#[97, 46, 99]⟩ : ByteArray)], [(⟨#[97, 46, 104]⟩ : ByteArray)], [(⟨#[108, 105, 98]⟩ : ByteArray)], (⟨#[]⟩ : ByteArray), true, (⟨#[116, 119, 111]⟩ : ByteArray)⟩ : DEdge), (⟨[(⟨#[98, 46, 111]⟩ : ByteArray)], [(⟨#[98, 46, 99]⟩ : ByteArray)], [], [(⟨#[97, 46, 111]⟩ : ByteArray)], (⟨#[99, 99, 32, 98]⟩ : ByteArray), false, (⟨#[116, 119, 111]⟩ : ByteArray)⟩ : DEdge)], [(⟨(⟨#[116, 119, 111]⟩ : ByteArray), (2 : Int)⟩ : DPool)], [(⟨#[108, 105, 98]⟩ : ByteArray)]⟩ : DGraph)).2)) = (1000 : Int))))) kr le ?_
        refine AOps.sq (x := (AV.b (decide ((m_law0_Num ((m_order_Of (⟨[(⟨[(⟨#[108, 105, 98]⟩ : ByteArray)], [(⟨#[97, 46, 111]⟩ : ByteArray), (⟨#[98, 46, 111]⟩ : ByteArray)], [], [], (⟨#[97, 114]⟩ : ByteArray), false, (⟨#[]⟩ : ByteArray)⟩ : DEdge), (⟨[(⟨#[97, 46, 111]⟩ : ByteArray), (⟨#[97, 46, 100]⟩ : ByteArray)], [(⟨#[97, 46, 99]⟩ : ByteArray)], [(⟨#[97, 46, 104]⟩ : ByteArray)], [(⟨#[108, 105, 98]⟩ : ByteArray)], (⟨#[]⟩ : ByteArray), true, (⟨#[116, 119, 111]⟩ : ByteArray)⟩ : DEdge), (⟨[(⟨#[98, 46, 111]⟩ : ByteArray)], [(⟨#[98, 46, 99]⟩ : ByteArray)], [], [(⟨#[97, 46, 111]⟩ : ByteArray)], (⟨#[99, 99, 32, 98]⟩ : ByteArray), false, (⟨#[116, 119, 111]⟩ : ByteArray)⟩ : DEdge)], [(⟨(⟨#[116, 119, 111]⟩ : ByteArray), (2 : Int)⟩ : DPool)], [(⟨#[108, 105, 98]⟩ : ByteArray)]⟩ : DGraph)).2)) = (1000 : Int))))) kr le ?_
        refine AOps.done ?_
        refine Awp.ret ?_
        have hM : m_law10_awake = decide ((m_law0_Num ((m_order_Of (⟨[(⟨[(⟨#[108, 105, 98]⟩ : ByteArray)], [(⟨#[97, 46, 111]⟩ : ByteArray), (⟨#[98, 46, 111]⟩ : ByteArray)], [], [], (⟨#[97, 114]⟩ : ByteArray), false, (⟨#[]⟩ : ByteArray)⟩ : DEdge), (⟨[(⟨#[97, 46, 111]⟩ : ByteArray), (⟨#[97, 46, 100]⟩ : ByteArray)], [(⟨#[97, 46, 99]⟩ : ByteArray)], [(⟨#[97, 46, 104]⟩ : ByteArray)], [(⟨#[108, 105, 98]⟩ : ByteArray)], (⟨#[]⟩ : ByteArray), true, (⟨#[116, 119, 111]⟩ : ByteArray)⟩ : DEdge), (⟨[(⟨#[98, 46, 111]⟩ : ByteArray)], [(⟨#[98, 46, 99]⟩ : ByteArray)], [], [(⟨#[97, 46, 111]⟩ : ByteArray)], (⟨#[99, 99, 32, 98]⟩ : ByteArray), false, (⟨#[116, 119, 111]⟩ : ByteArray)⟩ : DEdge)], [(⟨(⟨#[116, 119, 111]⟩ : ByteArray), (2 : Int)⟩ : DPool)], [(⟨#[108, 105, 98]⟩ : ByteArray)]⟩ : DGraph)).2)) = (1000 : Int)) := by simp only [m_law10_awake, c_1, c_2, c_3, sbt]
        refine ⟨Or.inr rfl, ?_⟩
        rw [hM]
        exact Ent.cast (x' := (AV.b (decide ((m_law0_Num ((m_order_Of (⟨[(⟨[(⟨#[108, 105, 98]⟩ : ByteArray)], [(⟨#[97, 46, 111]⟩ : ByteArray), (⟨#[98, 46, 111]⟩ : ByteArray)], [], [], (⟨#[97, 114]⟩ : ByteArray), false, (⟨#[]⟩ : ByteArray)⟩ : DEdge), (⟨[(⟨#[97, 46, 111]⟩ : ByteArray), (⟨#[97, 46, 100]⟩ : ByteArray)], [(⟨#[97, 46, 99]⟩ : ByteArray)], [(⟨#[97, 46, 104]⟩ : ByteArray)], [(⟨#[108, 105, 98]⟩ : ByteArray)], (⟨#[]⟩ : ByteArray), true, (⟨#[116, 119, 111]⟩ : ByteArray)⟩ : DEdge), (⟨[(⟨#[98, 46, 111]⟩ : ByteArray)], [(⟨#[98, 46, 99]⟩ : ByteArray)], [], [(⟨#[97, 46, 111]⟩ : ByteArray)], (⟨#[99, 99, 32, 98]⟩ : ByteArray), false, (⟨#[116, 119, 111]⟩ : ByteArray)⟩ : DEdge)], [(⟨(⟨#[116, 119, 111]⟩ : ByteArray), (2 : Int)⟩ : DPool)], [(⟨#[108, 105, 98]⟩ : ByteArray)]⟩ : DGraph)).2)) = (1000 : Int))))) (y' := (AV.b (decide ((m_law0_Num ((m_order_Of (⟨[(⟨[(⟨#[108, 105, 98]⟩ : ByteArray)], [(⟨#[97, 46, 111]⟩ : ByteArray), (⟨#[98, 46, 111]⟩ : ByteArray)], [], [], (⟨#[97, 114]⟩ : ByteArray), false, (⟨#[]⟩ : ByteArray)⟩ : DEdge), (⟨[(⟨#[97, 46, 111]⟩ : ByteArray), (⟨#[97, 46, 100]⟩ : ByteArray)], [(⟨#[97, 46, 99]⟩ : ByteArray)], [(⟨#[97, 46, 104]⟩ : ByteArray)], [(⟨#[108, 105, 98]⟩ : ByteArray)], (⟨#[]⟩ : ByteArray), true, (⟨#[116, 119, 111]⟩ : ByteArray)⟩ : DEdge), (⟨[(⟨#[98, 46, 111]⟩ : ByteArray)], [(⟨#[98, 46, 99]⟩ : ByteArray)], [], [(⟨#[97, 46, 111]⟩ : ByteArray)], (⟨#[99, 99, 32, 98]⟩ : ByteArray), false, (⟨#[116, 119, 111]⟩ : ByteArray)⟩ : DEdge)], [(⟨(⟨#[116, 119, 111]⟩ : ByteArray), (2 : Int)⟩ : DPool)], [(⟨#[108, 105, 98]⟩ : ByteArray)]⟩ : DGraph)).2)) = (1000 : Int))))) kr kr (Ent.c kr kr)

theorem w_law10_OrderNeeds (W : World) {m0 : Int} (hW : W.cell? ⟨0, 0, none⟩ = some (.int .i64 m0)) (g : DGraph) (hz0 : g.sz ≤ 1048576) : PureAt Go.Proofs.Tryd.prog W 7 [(DGraph.av g)] (AV.b (m_law10_OrderNeeds g)) [] := by
  have hz : ∀ i, needsN g i ≤ 1048576 := fun i => Nat.le_trans (needsN_sz g i) hz0
  have hzo : outsN g.edges ≤ 1048576 := Nat.le_trans (outsN_sz g) hz0
  have hgl : g.edges.length ≤ 1048576 := Nat.le_trans g.sz_len hz0
  have hnm : ∀ e k, k ∈ m_ref1_Needs g e → 0 ≤ k ∧ k.toNat < g.edges.length := fun e k hk => rneeds_mem hk
  refine pure_of_bodyC (fn := Go.Proofs.Tryd.f7) Go.Proofs.Tryd.func7 rfl (en7 W) (ts := [2]) rfl le ?_
  refine Awp.seq ?_
  refine Awp.region tabS_ok ?_
  refine AOps.sn (x := (AV.loc 0 0 0)) (h' := ⟨1, [(0, some ⟨27, 3, [(DGraph.av g)]⟩)]⟩) kr le ?_
  refine AOps.sq (x := (AV.b false)) kr le ?_
  refine AOps.done ?_
  refine Awp.seq ?_
  refine Awp.seq ?_
  refine Awp.region tabS_ok ?_
  refine AOps.sc0 (vs := []) (r0 := (AV.b m_law10_awake)) kr kr (w_law10_awake W hW ) kr le ?_
  refine AOps.sq (x := (AV.b (!m_law10_awake))) kr le ?_
  refine AOps.done ?_
  cases c_1 : (!m_law10_awake)
  · refine Awp.cond (t := false) kr ?_
    refine Awp.skip ?_
    refine Awp.seq ?_
    refine Awp.region tabS_ok ?_
    refine AOps.sq (x := (DGraph.av g)) kr le ?_
    refine AOps.sc0 (vs := [(DGraph.av g)]) (r0 := (AV.tup [((slA 1 (AV.i .i64)) ((m_order_Of g).1)), (AV.i .i64 ((m_order_Of g).2))])) kr kr (w_order_Of W hW g sd) kr le ?_
    refine AOps.sq (x := (AV.tup [((slA 1 (AV.i .i64)) ((m_order_Of g).1)), (AV.i .i64 ((m_order_Of g).2))])) kr le ?_
    refine AOps.sq (x := ((slA 1 (AV.i .i64)) ((m_order_Of g).1))) kr le ?_
    refine AOps.sq (x := (AV.i .i64 ((m_order_Of g).2))) kr le ?_
    refine AOps.sq (x := ((slA 1 (AV.i .i64)) ((m_order_Of g).1))) kr le ?_
    refine AOps.sq (x := (AV.i .i64 ((m_order_Of g).2))) kr le ?_
    refine AOps.done ?_
    refine Awp.seq ?_
    refine Awp.seq ?_
    refine Awp.region tabS_ok ?_
    refine AOps.sq (x := (AV.i .i64 ((m_order_Of g).2))) kr le ?_
    refine AOps.sc0 (vs := [(AV.i .i64 ((m_order_Of g).2))]) (r0 := (AV.i .i64 (m_law0_Num ((m_order_Of g).2)))) kr kr (w_law0_Num W ((m_order_Of g).2)) kr le ?_
    refine AOps.sq (x := (AV.b (!decide ((m_law0_Num ((m_order_Of g).2)) = (0 : Int))))) kr le ?_
    refine AOps.done ?_
    cases c_2 : (!decide ((m_law0_Num ((m_order_Of g).2)) = (0 : Int)))
    · have k_2 : ((m_law0_Num ((m_order_Of g).2)) = (0 : Int)) := of_decide_eq_true (by simpa using c_2)
      refine Awp.cond (t := false) kr ?_
      refine Awp.skip ?_
      refine Awp.seq ?_
      refine Awp.seq ?_
      refine Awp.region tabS_ok ?_
      refine AOps.sq (x := ((slA 1 (AV.i .i64)) ((m_order_Of g).1))) kr le ?_
      refine AOps.sq (x := (AV.i .i64 ((((m_order_Of g).1).length : Nat) : Int))) (g_len (k := 1) (nl := false) (e := 3) (A := (AV.i .i64)) (xs := ((m_order_Of g).1)) kr kr) le ?_
      refine AOps.sq (x := (AV.loc 0 0 0)) kr le ?_
      refine AOps.sq (x := ((slA 7 DEdge.av) g.edges)) kr le ?_
      refine AOps.sq (x := (AV.i .i64 ((g.edges.length : Nat) : Int))) (g_len (k := 7) (nl := false) (e := 31) (A := DEdge.av) (xs := g.edges) kr kr) le ?_
      refine AOps.sq (x := (AV.b (!decide (((((m_order_Of g).1).length : Nat) : Int) = ((g.edges.length : Nat) : Int))))) kr le ?_
      refine AOps.done ?_
      cases c_3 : (!decide (((((m_order_Of g).1).length : Nat) : Int) = ((g.edges.length : Nat) : Int)))
      · have k_3 : (((((m_order_Of g).1).length : Nat) : Int) = ((g.edges.length : Nat) : Int)) := of_decide_eq_true (by simpa using c_3)
        refine Awp.cond (t := false) kr ?_
        refine Awp.skip ?_
        refine Awp.seq ?_
        refine Awp.region tabS_ok ?_
        refine AOps.sq (x := (AV.loc 0 0 0)) kr le ?_
        refine AOps.sq (x := ((slA 7 DEdge.av) g.edges)) kr le ?_
        refine AOps.sq (x := (AV.i .i64 ((g.edges.length : Nat) : Int))) (g_len (k := 7) (nl := false) (e := 31) (A := DEdge.av) (xs := g.edges) kr kr) le ?_
        refine AOps.sn (x := (AV.own 1 0 g.edges.length)) (h' := ⟨2, [(1, some ⟨4, 1, (List.replicate g.edges.length false).map AV.b⟩), (0, some ⟨27, 3, [(DGraph.av g)]⟩)]⟩) (g_make (e := 4) (i := tI_4) (A := AV.b) (z := false) (n := g.edges.length) kr kr kr kr ⟨by decide, by kernel_rfl⟩ kr (by show _ * 1 ≤ 140737488355328; first | omega | (simp only [List.length_append, List.length_cons, List.length_nil, List.length_set, List.length_replicate]; omega) | (simp; omega)) sd) le ?_
        refine AOps.sq (x := (AV.own 1 0 g.edges.length)) kr le ?_
        refine AOps.done ?_
        refine Awp.seq ?_
        refine Awp.seq ?_
        refine Awp.region tabS_ok ?_
        refine AOps.sq (x := (AV.i .i64 (0 : Int))) kr le ?_
        refine AOps.done ?_
        refine Awp.block ?_
        refine Awp.lim 13 (x := ((slA 1 (AV.i .i64)) ((m_order_Of g).1))) kr fun hlm1 => ?_
        have hB1 : ((m_order_Of g).1).length ≤ 281474976710656 := lim_slA hlm1
        obtain ⟨R1, hR1⟩ : ∃ R, m_law10_OrderNeeds_L1 g ((m_order_Of g).1) 0 (List.replicate g.edges.length false) = R := ⟨_, rfl⟩
        refine Awp.loopT (fun ((i, row) : Nat × (List Bool)) => [(1, (AV.loc 0 0 0)), (3, ((slA 1 (AV.i .i64)) ((m_order_Of g).1))), (5, (AV.own 1 0 g.edges.length)), (6, (AV.i .i64 ((i : Nat) : Int)))]) (fun ((i, row) : Nat × (List Bool)) => ⟨2, [(0, some ⟨27, 3, [(DGraph.av g)]⟩), (1, some ⟨4, 1, row.map AV.b⟩)]⟩) (fun ((i, row) : Nat × (List Bool)) => i ≤ ((m_order_Of g).1).length ∧ row.length = g.edges.length ∧ m_law10_OrderNeeds_L1 g (((m_order_Of g).1).drop i) i row = R1) (fun ((i, row) : Nat × (List Bool)) => ((m_order_Of g).1).length - i) (0, (List.replicate g.edges.length false)) ?_ ?_ ?_
        · exact ⟨[0, 1], ⟨by decide, rfl, (FitsObjs.cons kr (FitsObjs.cons (obj_row (fun _ => rfl) (e := 4) (k := 1) (A := AV.b) (xs := (List.replicate g.edges.length false)) rfl rfl) FitsObjs.nil)), (EntE.cons (Ent.f kr) (EntE.cons (Ent.c kr kr) (EntE.cons (Ent.f kr) (EntE.cons (Ent.c kr kr) EntE.nil))))⟩, keep0⟩
        · exact ⟨od, sdd, hR1⟩
        · rintro ⟨i, row⟩ ⟨hi1, hr, hE1⟩
          try dsimp only
          refine Awp.seq ?_
          refine Awp.seq ?_
          refine Awp.region tabS_ok ?_
          refine AOps.sq (x := (AV.i .i64 ((i : Nat) : Int))) kr le ?_
          refine AOps.sq (x := ((slA 1 (AV.i .i64)) ((m_order_Of g).1))) kr le ?_
          refine AOps.sq (x := (AV.i .i64 ((((m_order_Of g).1).length : Nat) : Int))) (g_len (k := 1) (nl := false) (e := 3) (A := (AV.i .i64)) (xs := ((m_order_Of g).1)) kr kr) le ?_
          refine AOps.sq (x := (AV.b (decide (((i : Nat) : Int) < ((((m_order_Of g).1).length : Nat) : Int))))) kr le ?_
          refine AOps.done ?_
          rcases Nat.lt_or_ge i ((m_order_Of g).1).length with hl1 | hl1
          · have hc1 : decide (((i : Nat) : Int) < ((((m_order_Of g).1).length : Nat) : Int)) = true := decide_eq_true (by omega)
            refine Awp.cond (t := true) (by rw [← hc1] <;> kernel_rfl) (Awp.skip ?_)
            obtain ⟨x1, hx1⟩ : ∃ x, ((m_order_Of g).1)[i]? = some x := ⟨_, List.getElem?_eq_getElem hl1⟩
            rw [drop_at hx1, m_law10_OrderNeeds_L1.eq_2] at hE1
            refine Awp.seq ?_
            refine Awp.block ?_
            refine Awp.seq ?_
            refine Awp.seq ?_
            refine Awp.drawn tabS_ok mixed 30 kr le ?_
            refine AOpsD.sq (x := ((slA 1 (AV.i .i64)) ((m_order_Of g).1))) kr le ?_
            refine AOpsD.sq (x := (AV.i .i64 ((i : Nat) : Int))) kr le ?_
            refine AOpsD.sq (x := (AV.pt ((AV.i .i64) x1).cells)) (g_idx (k := 1) (nl := false) (e := 3) (kk := .i64) (A := (AV.i .i64)) (xs := ((m_order_Of g).1)) (i := i) kr kr kr ⟨by kernel_rfl, by decide⟩ hx1) le ?_
            refine AOpsD.sq (x := (AV.i .i64 x1)) kr le ?_
            refine AOpsD.sq (x := (AV.b (decide (x1 < (0 : Int))))) kr le ?_
            refine AOpsD.sq (x := (AV.b (decide (x1 < (0 : Int))))) kr le ?_
            cases c_4 : decide (x1 < (0 : Int))
            · have k_4 : ¬ (x1 < (0 : Int)) := of_decide_eq_false c_4
              refine AOpsD.sgy rfl rfl kr rfl ?_
              refine AOpsD.sq (x := ((slA 1 (AV.i .i64)) ((m_order_Of g).1))) kr le ?_
              refine AOpsD.sgy rfl rfl kr rfl ?_
              refine AOpsD.sq (x := (AV.i .i64 ((i : Nat) : Int))) kr le ?_
              refine AOpsD.sgy rfl rfl kr rfl ?_
              refine AOpsD.sq (x := (AV.pt ((AV.i .i64) x1).cells)) (g_idx (k := 1) (nl := false) (e := 3) (kk := .i64) (A := (AV.i .i64)) (xs := ((m_order_Of g).1)) (i := i) kr kr kr ⟨by kernel_rfl, by decide⟩ hx1) le ?_
              refine AOpsD.sgy rfl rfl kr rfl ?_
              refine AOpsD.sq (x := (AV.i .i64 x1)) kr le ?_
              refine AOpsD.sgy rfl rfl kr rfl ?_
              refine AOpsD.sq (x := (AV.own 1 0 g.edges.length)) kr le ?_
              refine AOpsD.sgy rfl rfl kr rfl ?_
              refine AOpsD.sq (x := (AV.i .i64 ((g.edges.length : Nat) : Int))) kr le ?_
              refine AOpsD.sgy rfl rfl kr rfl ?_
              refine AOpsD.sq (x := (AV.b (decide (((g.edges.length : Nat) : Int) ≤ x1)))) kr le ?_
              refine AOpsD.sq (x := (AV.b (decide (((g.edges.length : Nat) : Int) ≤ x1)))) kr le ?_
              refine AOpsD.sq (x := (AV.b (decide (((g.edges.length : Nat) : Int) ≤ x1)))) kr le ?_
              cases c_5 : decide (((g.edges.length : Nat) : Int) ≤ x1)
              · have k_5 : ¬ (((g.edges.length : Nat) : Int) ≤ x1) := of_decide_eq_false c_5
                refine AOpsD.sgy rfl rfl kr rfl ?_
                refine AOpsD.sq (x := (AV.own 1 0 g.edges.length)) kr le ?_
                refine AOpsD.sgy rfl rfl kr rfl ?_
                refine AOpsD.sq (x := ((slA 1 (AV.i .i64)) ((m_order_Of g).1))) kr le ?_
                refine AOpsD.sgy rfl rfl kr rfl ?_
                refine AOpsD.sq (x := (AV.i .i64 ((i : Nat) : Int))) kr le ?_
                refine AOpsD.sgy rfl rfl kr rfl ?_
                refine AOpsD.sq (x := (AV.pt ((AV.i .i64) x1).cells)) (g_idx (k := 1) (nl := false) (e := 3) (kk := .i64) (A := (AV.i .i64)) (xs := ((m_order_Of g).1)) (i := i) kr kr kr ⟨by kernel_rfl, by decide⟩ hx1) le ?_
                refine AOpsD.sgy rfl rfl kr rfl ?_
                refine AOpsD.sq (x := (AV.i .i64 x1)) kr le ?_
                refine AOpsD.sgy rfl rfl kr rfl ?_
                refine AOpsD.sq (x := (AV.loc 1 x1.toNat 0)) (g_oidxI (e := 4) (id := 1) (len := g.edges.length) (kk := .i64) (ob := ⟨4, 1, row.map AV.b⟩) (n := x1) kr kr kr rfl kr sd sd) le ?_
                refine AOpsD.sgy rfl rfl kr rfl ?_
                refine AOpsD.sq (x := (AV.b (row.getD x1.toNat default))) (g_oload (e := 4) (k := 1) (i := tI_4) (id := 1) (xs := row) (A := AV.b) (j := x1.toNat) kr kr rfl (getD_some sd) kr) le ?_
                refine AOpsD.sq (x := (AV.b (row.getD x1.toNat default))) kr le ?_
                refine AOpsD.sq (x := (AV.b (row.getD x1.toNat default))) kr le ?_
                cases c_6 : (row.getD x1.toNat default)
                · refine AOpsD.sgy rfl rfl kr rfl ?_
                  refine AOpsD.sq (x := (DGraph.av g)) kr le ?_
                  refine AOpsD.sgy rfl rfl kr rfl ?_
                  refine AOpsD.sq (x := (AV.own 1 0 g.edges.length)) kr le ?_
                  refine AOpsD.sgy rfl rfl kr rfl ?_
                  refine AOpsD.sq (x := ((slA 1 (AV.i .i64)) ((m_order_Of g).1))) kr le ?_
                  refine AOpsD.sgy rfl rfl kr rfl ?_
                  refine AOpsD.sq (x := (AV.i .i64 ((i : Nat) : Int))) kr le ?_
                  refine AOpsD.sgy rfl rfl kr rfl ?_
                  refine AOpsD.sq (x := (AV.pt ((AV.i .i64) x1).cells)) (g_idx (k := 1) (nl := false) (e := 3) (kk := .i64) (A := (AV.i .i64)) (xs := ((m_order_Of g).1)) (i := i) kr kr kr ⟨by kernel_rfl, by decide⟩ hx1) le ?_
                  refine AOpsD.sgy rfl rfl kr rfl ?_
                  refine AOpsD.sq (x := (AV.i .i64 x1)) kr le ?_
                  refine AOpsD.sgy rfl rfl kr rfl ?_
                  refine AOpsD.sfw (vs := [(DGraph.av g), (AV.own 1 0 g.edges.length), (AV.i .i64 x1)]) (ss := [(DGraph.av g), ((slA 1 AV.b) row), (AV.i .i64 x1)]) (r0 := (AV.b (m_law10_free g row x1))) kr (show SnapW _ _ _ from ⟨(SnapW.e kr), ⟨(EntK.w (EntK.cast (x' := (AV.own 1 0 g.edges.length)) kr kr (EntK.row (fun _ => rfl) (A := AV.b) (id := 1) (e := 4) (k := 1) (xs := row) rfl rfl sd sd))), ⟨(SnapW.e kr), trivial⟩⟩⟩) (w_law10_free W g row x1 ⟨by omega, by omega⟩ (hz _) (fun k hk => ⟨(hnm _ k hk).1, by have := (hnm _ k hk).2; omega⟩)) rfl kr le ?_
                  refine AOpsD.sgy rfl rfl kr rfl ?_
                  refine AOpsD.sq (x := (AV.b (!(m_law10_free g row x1)))) kr le ?_
                  refine AOpsD.sq (x := (AV.b (!(m_law10_free g row x1)))) kr le ?_
                  refine AOpsD.fin ?_
                  cases c_7 : (!(m_law10_free g row x1))
                  · refine Awp.cond (t := false) kr ?_
                    refine Awp.skip ?_
                    refine Awp.seq ?_
                    refine Awp.seq ?_
                    refine Awp.region tabS_ok ?_
                    refine AOps.sq (x := (AV.i .i64 (0 : Int))) kr le ?_
                    refine AOps.done ?_
                    refine Awp.block ?_
                    obtain ⟨R2, hR2⟩ : ∃ R, m_law10_OrderNeeds_L2 x1 row g (x1.toNat - 0 + 1) 0 = R := ⟨_, rfl⟩
                    refine Awp.loopT (fun ((kf2, k) : Nat × Nat) => [(1, (AV.loc 0 0 0)), (3, ((slA 1 (AV.i .i64)) ((m_order_Of g).1))), (5, (AV.own 1 0 g.edges.length)), (6, (AV.i .i64 ((i : Nat) : Int))), (7, (AV.i .i64 ((k : Nat) : Int)))]) (fun ((kf2, k) : Nat × Nat) => ⟨2, [(0, some ⟨27, 3, [(DGraph.av g)]⟩), (1, some ⟨4, 1, row.map AV.b⟩)]⟩) (fun ((kf2, k) : Nat × Nat) => x1.toNat - k < kf2 ∧ m_law10_OrderNeeds_L2 x1 row g kf2 k = R2) (fun ((kf2, k) : Nat × Nat) => kf2) (x1.toNat - 0 + 1, 0) ?_ ?_ ?_
                    · exact ⟨[0, 1], ⟨by decide, rfl, (FitsObjs.cons kr (FitsObjs.cons (obj_row (fun _ => rfl) (e := 4) (k := 1) (A := AV.b) (xs := row) rfl rfl) FitsObjs.nil)), (EntE.cons (Ent.f kr) (EntE.cons (Ent.c kr kr) (EntE.cons (Ent.f kr) (EntE.cons (Ent.c kr kr) (EntE.cons (Ent.c kr kr) EntE.nil)))))⟩, keep0⟩
                    · exact ⟨od, hR2⟩
                    · rintro ⟨kf2, k⟩ ⟨hi2, hE2⟩
                      try dsimp only
                      cases kf2 with
                      | zero => exact absurd hi2 (Nat.not_lt_zero _)
                      | succ kf2 =>
                        rw [m_law10_OrderNeeds_L2.eq_2] at hE2
                        refine Awp.seq ?_
                        refine Awp.seq ?_
                        refine Awp.region tabS_ok ?_
                        refine AOps.sq (x := (AV.i .i64 ((k : Nat) : Int))) kr le ?_
                        refine AOps.sq (x := ((slA 1 (AV.i .i64)) ((m_order_Of g).1))) kr le ?_
                        refine AOps.sq (x := (AV.i .i64 ((i : Nat) : Int))) kr le ?_
                        refine AOps.sq (x := (AV.pt ((AV.i .i64) x1).cells)) (g_idx (k := 1) (nl := false) (e := 3) (kk := .i64) (A := (AV.i .i64)) (xs := ((m_order_Of g).1)) (i := i) kr kr kr ⟨by kernel_rfl, by decide⟩ hx1) le ?_
                        refine AOps.sq (x := (AV.i .i64 x1)) kr le ?_
                        refine AOps.sq (x := (AV.b (decide (((k : Nat) : Int) < x1)))) kr le ?_
                        refine AOps.done ?_
                        cases c_8 : decide (((k : Nat) : Int) < x1)
                        · have k_8 : ¬ (((k : Nat) : Int) < x1) := of_decide_eq_false c_8
                          refine Awp.cond (t := false) kr ?_
                          refine Awp.exit ?_
                          try simp only [c_8, sbt] at hE2
                          subst hE2
                          refine Awp.region tabS_ok ?_
                          refine AOps.sq (x := (AV.own 1 0 g.edges.length)) kr le ?_
                          refine AOps.sq (x := ((slA 1 (AV.i .i64)) ((m_order_Of g).1))) kr le ?_
                          refine AOps.sq (x := (AV.i .i64 ((i : Nat) : Int))) kr le ?_
                          refine AOps.sq (x := (AV.pt ((AV.i .i64) x1).cells)) (g_idx (k := 1) (nl := false) (e := 3) (kk := .i64) (A := (AV.i .i64)) (xs := ((m_order_Of g).1)) (i := i) kr kr kr ⟨by kernel_rfl, by decide⟩ hx1) le ?_
                          refine AOps.sq (x := (AV.i .i64 x1)) kr le ?_
                          refine AOps.sq (x := (AV.loc 1 x1.toNat 0)) (g_oidxI (e := 4) (id := 1) (len := g.edges.length) (kk := .i64) (ob := ⟨4, 1, row.map AV.b⟩) (n := x1) kr kr kr rfl kr sd sd) le ?_
                          refine AOps.st (x := AV.und) (h' := ⟨2, [(0, some ⟨27, 3, [(DGraph.av g)]⟩), (1, some ⟨4, 1, (row.set x1.toNat true).map AV.b⟩)]⟩) (g_set (e := 4) (k := 1) (i := tI_4) (id := 1) (A := AV.b) (xs := row) (y := true) (j := x1.toNat) kr kr kr rfl sd (fun _ => rfl) kr (fun _ => rfl) (fun _ => rfl)) ?_
                          refine AOps.done ?_
                          refine Awp.region tabS_ok ?_
                          refine AOps.sq (x := (AV.i .i64 ((i : Nat) : Int))) kr le ?_
                          refine AOps.sq (x := (AV.i .i64 ((i + 1 : Nat) : Int))) (g_addN (i := i) (m := 1) kr kr sd) le ?_
                          refine AOps.sq (x := (AV.i .i64 ((i + 1 : Nat) : Int))) kr le ?_
                          refine AOps.done ?_
                          try simp only [c_4, c_5, c_6, c_7, hR2, sbt] at hE1
                          refine ⟨(i + 1, (row.set x1.toNat true)), od, ⟨od, sdd, hE1⟩, ?_⟩
                          exact ⟨[0, 1], ⟨by decide, rfl, (FitsObjs.cons kr (FitsObjs.cons (obj_row (fun _ => rfl) (e := 4) (k := 1) (A := AV.b) (xs := (row.set x1.toNat true)) rfl rfl) FitsObjs.nil)), (EntE.cons (Ent.f kr) (EntE.cons (Ent.c kr kr) (EntE.cons (Ent.f kr) (EntE.cons (Ent.c kr kr) EntE.nil))))⟩, keep0⟩
                        · have k_8 : (((k : Nat) : Int) < x1) := of_decide_eq_true c_8
                          refine Awp.cond (t := true) kr ?_
                          refine Awp.skip ?_
                          refine Awp.seq ?_
                          refine Awp.block ?_
                          refine Awp.seq ?_
                          refine Awp.region tabS_ok ?_
                          refine AOps.sq (x := (AV.own 1 0 g.edges.length)) kr le ?_
                          refine AOps.sq (x := (AV.i .i64 ((k : Nat) : Int))) kr le ?_
                          refine AOps.sq (x := (AV.loc 1 k 0)) (g_oidx (e := 4) (id := 1) (len := g.edges.length) (kk := .i64) (ob := ⟨4, 1, row.map AV.b⟩) (i := k) kr kr kr rfl kr sd) le ?_
                          refine AOps.sq (x := (AV.b (row.getD k default))) (g_oload (e := 4) (k := 1) (i := tI_4) (id := 1) (xs := row) (A := AV.b) (j := k) kr kr rfl (getD_some sd) kr) le ?_
                          refine AOps.sq (x := (AV.b (!(row.getD k default)))) kr le ?_
                          refine AOps.sq (x := (AV.b (!(row.getD k default)))) kr le ?_
                          cases c_9 : (!(row.getD k default))
                          · refine AOps.sgn rfl rfl kr rfl le ?_
                            refine AOps.sgn rfl rfl kr rfl le ?_
                            refine AOps.sgn rfl rfl kr rfl le ?_
                            refine AOps.sgn rfl rfl kr rfl le ?_
                            refine AOps.sq (x := (AV.b false)) kr le ?_
                            refine AOps.done ?_
                            refine Awp.cond (t := false) kr ?_
                            refine Awp.skip ?_
                            refine Awp.region tabS_ok ?_
                            refine AOps.sq (x := (AV.i .i64 ((k : Nat) : Int))) kr le ?_
                            refine AOps.sq (x := (AV.i .i64 ((k + 1 : Nat) : Int))) (g_addN (i := k) (m := 1) kr kr sd) le ?_
                            refine AOps.sq (x := (AV.i .i64 ((k + 1 : Nat) : Int))) kr le ?_
                            refine AOps.done ?_
                            try simp only [c_8, c_9, sbt] at hE2
                            refine ⟨(kf2, k + 1), od, ⟨sdd, hE2⟩, ?_⟩
                            exact ⟨[0, 1], ⟨by decide, rfl, (FitsObjs.cons kr (FitsObjs.cons (obj_row (fun _ => rfl) (e := 4) (k := 1) (A := AV.b) (xs := row) rfl rfl) FitsObjs.nil)), (EntE.cons (Ent.f kr) (EntE.cons (Ent.c kr kr) (EntE.cons (Ent.f kr) (EntE.cons (Ent.c kr kr) (EntE.cons (Ent.c kr kr) EntE.nil)))))⟩, keep0⟩
                          · refine AOps.sgy rfl rfl kr rfl ?_
                            refine AOps.sq (x := (DGraph.av g)) kr le ?_
                            refine AOps.sgy rfl rfl kr rfl ?_
                            refine AOps.sq (x := (AV.own 1 0 g.edges.length)) kr le ?_
                            refine AOps.sgy rfl rfl kr rfl ?_
                            refine AOps.sq (x := (AV.i .i64 ((k : Nat) : Int))) kr le ?_
                            refine AOps.sgy rfl rfl kr rfl ?_
                            refine AOps.sfw (vs := [(DGraph.av g), (AV.own 1 0 g.edges.length), (AV.i .i64 ((k : Nat) : Int))]) (ss := [(DGraph.av g), ((slA 1 AV.b) row), (AV.i .i64 ((k : Nat) : Int))]) (r0 := (AV.b (m_law10_free g row ((k : Nat) : Int)))) kr (show SnapW _ _ _ from ⟨(SnapW.e kr), ⟨(EntK.w (EntK.cast (x' := (AV.own 1 0 g.edges.length)) kr kr (EntK.row (fun _ => rfl) (A := AV.b) (id := 1) (e := 4) (k := 1) (xs := row) rfl rfl sd sd))), ⟨(SnapW.e kr), trivial⟩⟩⟩) (w_law10_free W g row ((k : Nat) : Int) ⟨by omega, by omega⟩ (hz _) (fun k hk => ⟨(hnm _ k hk).1, by have := (hnm _ k hk).2; omega⟩)) rfl kr le ?_
                            refine AOps.sq (x := (AV.b (m_law10_free g row ((k : Nat) : Int)))) kr le ?_
                            refine AOps.done ?_
                            cases c_10 : (m_law10_free g row ((k : Nat) : Int))
                            · refine Awp.cond (t := false) kr ?_
                              refine Awp.skip ?_
                              refine Awp.region tabS_ok ?_
                              refine AOps.sq (x := (AV.i .i64 ((k : Nat) : Int))) kr le ?_
                              refine AOps.sq (x := (AV.i .i64 ((k + 1 : Nat) : Int))) (g_addN (i := k) (m := 1) kr kr sd) le ?_
                              refine AOps.sq (x := (AV.i .i64 ((k + 1 : Nat) : Int))) kr le ?_
                              refine AOps.done ?_
                              try simp only [c_8, c_9, c_10, sbt] at hE2
                              refine ⟨(kf2, k + 1), od, ⟨sdd, hE2⟩, ?_⟩
                              exact ⟨[0, 1], ⟨by decide, rfl, (FitsObjs.cons kr (FitsObjs.cons (obj_row (fun _ => rfl) (e := 4) (k := 1) (A := AV.b) (xs := row) rfl rfl) FitsObjs.nil)), (EntE.cons (Ent.f kr) (EntE.cons (Ent.c kr kr) (EntE.cons (Ent.f kr) (EntE.cons (Ent.c kr kr) (EntE.cons (Ent.c kr kr) EntE.nil)))))⟩, keep0⟩
                            · refine Awp.cond (t := true) kr ?_
                              refine Awp.seq ?_
                              refine Awp.region tabS_ok ?_
                              refine AOps.sq (x := (AV.b false)) kr le ?_
                              refine AOps.done ?_
                              refine Awp.ret ?_
                              try simp only [c_8, c_9, c_10, sbt] at hE2
                              subst hE2
                              try simp only [c_4, c_5, c_6, c_7, hR2, sbt] at hE1
                              subst hE1
                              have hM : m_law10_OrderNeeds g = false := by simp only [m_law10_OrderNeeds, c_1, c_2, c_3, hR1, sbt]
                              refine ⟨Or.inr rfl, ?_⟩
                              rw [hM]
                              exact Ent.cast (x' := (AV.b false)) (y' := (AV.b false)) kr kr (Ent.c kr kr)
                  · refine Awp.cond (t := true) kr ?_
                    refine Awp.seq ?_
                    refine Awp.region tabS_ok ?_
                    refine AOps.sq (x := (AV.b false)) kr le ?_
                    refine AOps.done ?_
                    refine Awp.ret ?_
                    try simp only [c_4, c_5, c_6, c_7, sbt] at hE1
                    subst hE1
                    have hM : m_law10_OrderNeeds g = false := by simp only [m_law10_OrderNeeds, c_1, c_2, c_3, hR1, sbt]
                    refine ⟨Or.inr rfl, ?_⟩
                    rw [hM]
                    exact Ent.cast (x' := (AV.b false)) (y' := (AV.b false)) kr kr (Ent.c kr kr)
                · refine AOpsD.sgn rfl rfl kr rfl le ?_
                  refine AOpsD.sgn rfl rfl kr rfl le ?_
                  refine AOpsD.sgn rfl rfl kr rfl le ?_
                  refine AOpsD.sgn rfl rfl kr rfl le ?_
                  refine AOpsD.sgn rfl rfl kr rfl le ?_
                  refine AOpsD.sgn rfl rfl kr rfl le ?_
                  refine AOpsD.sgn rfl rfl kr rfl le ?_
                  refine AOpsD.sgn rfl rfl kr rfl le ?_
                  refine AOpsD.sq (x := (AV.b true)) kr le ?_
                  refine AOpsD.fin ?_
                  refine Awp.cond (t := true) kr ?_
                  refine Awp.seq ?_
                  refine Awp.region tabS_ok ?_
                  refine AOps.sq (x := (AV.b false)) kr le ?_
                  refine AOps.done ?_
                  refine Awp.ret ?_
                  try simp only [c_4, c_5, c_6, sbt] at hE1
                  subst hE1
                  have hM : m_law10_OrderNeeds g = false := by simp only [m_law10_OrderNeeds, c_1, c_2, c_3, hR1, sbt]
                  refine ⟨Or.inr rfl, ?_⟩
                  rw [hM]
                  exact Ent.cast (x' := (AV.b false)) (y' := (AV.b false)) kr kr (Ent.c kr kr)
              · have k_5 : (((g.edges.length : Nat) : Int) ≤ x1) := of_decide_eq_true c_5
                refine AOpsD.sgn rfl rfl kr rfl le ?_
                refine AOpsD.sgn rfl rfl kr rfl le ?_
                refine AOpsD.sgn rfl rfl kr rfl le ?_
                refine AOpsD.sgn rfl rfl kr rfl le ?_
                refine AOpsD.sgn rfl rfl kr rfl le ?_
                refine AOpsD.sgn rfl rfl kr rfl le ?_
                refine AOpsD.sgn rfl rfl kr rfl le ?_
                refine AOpsD.sq (x := (AV.b true)) kr le ?_
                refine AOpsD.sq (x := (AV.b true)) kr le ?_
                refine AOpsD.sgn rfl rfl kr rfl le ?_
                refine AOpsD.sgn rfl rfl kr rfl le ?_
                refine AOpsD.sgn rfl rfl kr rfl le ?_
                refine AOpsD.sgn rfl rfl kr rfl le ?_
                refine AOpsD.sgn rfl rfl kr rfl le ?_
                refine AOpsD.sgn rfl rfl kr rfl le ?_
                refine AOpsD.sgn rfl rfl kr rfl le ?_
                refine AOpsD.sgn rfl rfl kr rfl le ?_
                refine AOpsD.sq (x := (AV.b true)) kr le ?_
                refine AOpsD.fin ?_
                refine Awp.cond (t := true) kr ?_
                refine Awp.seq ?_
                refine Awp.region tabS_ok ?_
                refine AOps.sq (x := (AV.b false)) kr le ?_
                refine AOps.done ?_
                refine Awp.ret ?_
                try simp only [c_4, c_5, sbt] at hE1
                subst hE1
                have hM : m_law10_OrderNeeds g = false := by simp only [m_law10_OrderNeeds, c_1, c_2, c_3, hR1, sbt]
                refine ⟨Or.inr rfl, ?_⟩
                rw [hM]
                exact Ent.cast (x' := (AV.b false)) (y' := (AV.b false)) kr kr (Ent.c kr kr)
            · have k_4 : (x1 < (0 : Int)) := of_decide_eq_true c_4
              refine AOpsD.sgn rfl rfl kr rfl le ?_
              refine AOpsD.sgn rfl rfl kr rfl le ?_
              refine AOpsD.sgn rfl rfl kr rfl le ?_
              refine AOpsD.sgn rfl rfl kr rfl le ?_
              refine AOpsD.sgn rfl rfl kr rfl le ?_
              refine AOpsD.sgn rfl rfl kr rfl le ?_
              refine AOpsD.sgn rfl rfl kr rfl le ?_
              refine AOpsD.sq (x := (AV.b true)) kr le ?_
              refine AOpsD.sq (x := (AV.b true)) kr le ?_
              refine AOpsD.sgn rfl rfl kr rfl le ?_
              refine AOpsD.sgn rfl rfl kr rfl le ?_
              refine AOpsD.sgn rfl rfl kr rfl le ?_
              refine AOpsD.sgn rfl rfl kr rfl le ?_
              refine AOpsD.sgn rfl rfl kr rfl le ?_
              refine AOpsD.sgn rfl rfl kr rfl le ?_
              refine AOpsD.sgn rfl rfl kr rfl le ?_
              refine AOpsD.sq (x := (AV.b true)) kr le ?_
              refine AOpsD.sq (x := (AV.b true)) kr le ?_
              refine AOpsD.sgn rfl rfl kr rfl le ?_
              refine AOpsD.sgn rfl rfl kr rfl le ?_
              refine AOpsD.sgn rfl rfl kr rfl le ?_
              refine AOpsD.sgn rfl rfl kr rfl le ?_
              refine AOpsD.sgn rfl rfl kr rfl le ?_
              refine AOpsD.sgn rfl rfl kr rfl le ?_
              refine AOpsD.sgn rfl rfl kr rfl le ?_
              refine AOpsD.sgn rfl rfl kr rfl le ?_
              refine AOpsD.sq (x := (AV.b true)) kr le ?_
              refine AOpsD.fin ?_
              refine Awp.cond (t := true) kr ?_
              refine Awp.seq ?_
              refine Awp.region tabS_ok ?_
              refine AOps.sq (x := (AV.b false)) kr le ?_
              refine AOps.done ?_
              refine Awp.ret ?_
              try simp only [c_4, sbt] at hE1
              subst hE1
              have hM : m_law10_OrderNeeds g = false := by simp only [m_law10_OrderNeeds, c_1, c_2, c_3, hR1, sbt]
              refine ⟨Or.inr rfl, ?_⟩
              rw [hM]
              exact Ent.cast (x' := (AV.b false)) (y' := (AV.b false)) kr kr (Ent.c kr kr)
          · have hc1 : decide (((i : Nat) : Int) < ((((m_order_Of g).1).length : Nat) : Int)) = false := decide_eq_false (by omega)
            refine Awp.cond (t := false) (by rw [← hc1] <;> kernel_rfl) (Awp.exit ?_)
            rw [List.drop_eq_nil_of_le (hl1), m_law10_OrderNeeds_L1.eq_1] at hE1
            subst hE1
            refine Awp.seq ?_
            refine Awp.region tabS_ok ?_
            refine AOps.sq (x := (AV.b true)) kr le ?_
            refine AOps.done ?_
            refine Awp.ret ?_
            have hM : m_law10_OrderNeeds g = true := by simp only [m_law10_OrderNeeds, c_1, c_2, c_3, hR1, sbt]
            refine ⟨Or.inr rfl, ?_⟩
            rw [hM]
            exact Ent.cast (x' := (AV.b true)) (y' := (AV.b true)) kr kr (Ent.c kr kr)
      · have k_3 : ¬ (((((m_order_Of g).1).length : Nat) : Int) = ((g.edges.length : Nat) : Int)) := of_decide_eq_false (by simpa using c_3)
        refine Awp.cond (t := true) kr ?_
        refine Awp.seq ?_
        refine Awp.region tabS_ok ?_
        refine AOps.sq (x := (AV.b false)) kr le ?_
        refine AOps.done ?_
        refine Awp.ret ?_
        have hM : m_law10_OrderNeeds g = false := by simp only [m_law10_OrderNeeds, c_1, c_2, c_3, sbt]
        refine ⟨Or.inr rfl, ?_⟩
        rw [hM]
        exact Ent.cast (x' := (AV.b false)) (y' := (AV.b false)) kr kr (Ent.c kr kr)
    · have k_2 : ¬ ((m_law0_Num ((m_order_Of g).2)) = (0 : Int)) := of_decide_eq_false (by simpa using c_2)
      refine Awp.cond (t := true) kr ?_
      refine Awp.seq ?_
      refine Awp.region tabS_ok ?_
      refine AOps.sq (x := ((slA 1 (AV.i .i64)) ((m_order_Of g).1))) kr le ?_
      refine AOps.sq (x := (AV.i .i64 ((((m_order_Of g).1).length : Nat) : Int))) (g_len (k := 1) (nl := false) (e := 3) (A := (AV.i .i64)) (xs := ((m_order_Of g).1)) kr kr) le ?_
      refine AOps.sq (x := (AV.b (decide (((((m_order_Of g).1).length : Nat) : Int) = (0 : Int))))) kr le ?_
      refine AOps.sq (x := (AV.b (decide (((((m_order_Of g).1).length : Nat) : Int) = (0 : Int))))) kr le ?_
      refine AOps.done ?_
      refine Awp.ret ?_
      have hM : m_law10_OrderNeeds g = decide (((((m_order_Of g).1).length : Nat) : Int) = (0 : Int)) := by simp only [m_law10_OrderNeeds, c_1, c_2, sbt]
      refine ⟨Or.inr rfl, ?_⟩
      rw [hM]
      exact Ent.cast (x' := (AV.b (decide (((((m_order_Of g).1).length : Nat) : Int) = (0 : Int))))) (y' := (AV.b (decide (((((m_order_Of g).1).length : Nat) : Int) = (0 : Int))))) kr kr (Ent.c kr kr)
  · refine Awp.cond (t := true) kr ?_
    refine Awp.seq ?_
    refine Awp.region tabS_ok ?_
    refine AOps.sq (x := (AV.b false)) kr le ?_
    refine AOps.done ?_
    refine Awp.ret ?_
    have hM : m_law10_OrderNeeds g = false := by simp only [m_law10_OrderNeeds, c_1, sbt]
    refine ⟨Or.inr rfl, ?_⟩
    rw [hM]
    exact Ent.cast (x' := (AV.b false)) (y' := (AV.b false)) kr kr (Ent.c kr kr)

end
end Go.Lift
