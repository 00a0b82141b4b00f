/-
  Lemmas of this claim: a layer over the kit's calls, contracts of the functions that the law reaches, and the law's row. No condition of its own.
-/
import Derived.Test.YthagoaoenalmbaaGreatDoorSaWants
import Derived.Test.YthagoaoenalmbaaGreatDoorLbWants
import Derived.Test.YthagoaoenalmbaaGreatDoorScWants
namespace Go.Lift
noncomputable section
open Go Go.RowKit
set_option linter.unusedSimpArgs false
set_option linter.unusedVariables false
set_option linter.unusedSectionVars false
set_option maxRecDepth 20000
theorem gOf_av (g : DGraph) : (gOf g).av = DGraph.av g := by
  have h1 : EdgeD.av ∘ eOf = DEdge.av := rfl
  have h2 : PoolD.av ∘ pOf = DPool.av := rfl
  simp only [GraphD.av, gOf, DGraph.av, slA, List.map_map, h1, h2, Strs.av]
theorem Rg {W : World} {n N : Nat} {env : Env} {h : Store} {Q : Post} {id : Nat} {ops : Array Oper} (k : AOps Go.Proofs.Tryz.prog W tabS n ops ops.toList env h (Q .normal)) : Awp Go.Proofs.Tryz.prog W n N (.region id ops false) env h Q := Awp.region tabS_ok k
theorem w_path_Clean (W : World) {m0 : Int} (hW : W.cell? ⟨0, 0, none⟩ = some (.int .i64 m0)) (s : ByteArray) : PureAt Go.Proofs.Tryz.prog W 132 [.s s] (.tup [.s (cleanS s).1, .i .i64 (cleanS s).2]) [] := path_clean W hW s
theorem w_graph_Check (W : World) {m0 : Int} (hW : W.cell? ⟨0, 0, none⟩ = some (.int .i64 m0)) (g : DGraph) : PureAt Go.Proofs.Tryz.prog W 18 [DGraph.av g] (.i .i64 (m_6 g)) [] := by
  rw [← gOf_av]; exact graph_check W hW (gOf g)
theorem wn_law0_SpoilBools (W : World) (a : List Bool) (he : a = []) : PureAt Go.Proofs.Tryz.prog W 33 [slA 1 (AV.b) a] (.tup []) [] := by
 subst he
 refine pure_of_bodyC (fn := Go.Proofs.Tryz.f33) Go.Proofs.Tryz.func33 rfl (en33 W) (ts := []) rfl le <| Sq <| Rg <| Aq (AV.i .i64 (0 : Int)) <| Ad <| Awp.block ?_
 refine Awp.loop (fun _ env h => env = ((2, AV.i .i64 (0 : Int)) :: argEnv 0 [slA 1 (AV.b) []]) ∧ h = ⟨0, []⟩) 0 ⟨rfl, rfl⟩ ?_
 rintro k env h ⟨rfl, rfl⟩
 refine Sq <| Sq <| Rg <| Aq (AV.i .i64 (0 : Int)) <| Aq (slA 1 (AV.b) []) <| Aq (AV.i .i64 (0 : Int)) <| Aq (AV.b false) <| Ad <| Cf <| Awp.exit ?_
 exact ⟨Or.inl rfl, Ent.c rfl rfl⟩
theorem we_law0_SpoilBools (W : World) (a : List Bool) (hz : a.length ≤ 1048576) {h : Store} {id : Nat} (hg : h.get id = some ⟨4, 1, a.map AV.b⟩) : EffAt Go.Proofs.Tryz.prog W 33 [AV.own id 0 a.length] h (.tup []) (h.put id (some ⟨4, 1, (m_bl a).map AV.b⟩)) := by
 refine eff_one (fn := Go.Proofs.Tryz.f33) Go.Proofs.Tryz.func33 rfl (en33 W) (ts := []) rfl (cl := []) le (plain_map (fun _ => rfl) _) (plain_map (fun _ => rfl) _) (Or.inr rfl) kr ?_ hg
 refine Sq <| Rg <| Aq (AV.i .i64 (0 : Int)) <| Ad <| Awp.block ?_
 have hB1 : a.length ≤ 281474976710656 := by first | omega | (simp; done) | (simp; omega)
 obtain ⟨R1, hR1⟩ : ∃ R, m_a4 a 0 a = R := ⟨_, rfl⟩
 refine Awp.loopT (fun ((i, row) : Nat × (List Bool)) => [(0, (AV.own 0 0 a.length)), (2, (Ai i))]) (fun ((i, row) : Nat × (List Bool)) => ⟨1, [(0, some ⟨4, 1, row.map AV.b⟩)]⟩) (fun ((i, row) : Nat × (List Bool)) => i ≤ a.length ∧ row.length = a.length ∧ m_a4 (a.drop i) i row = R1) (fun ((i, row) : Nat × (List Bool)) => a.length - i) (0, a) ?_ ?_ ?_
 exact ⟨[0], ⟨by decide, rfl, (FitsObjs.cons (obj_row (fun _ => rfl) (e := 4) (k := 1) (A := AV.b) (xs := a) rfl rfl) FitsObjs.nil), (EntE.cons (Ent.f kr) (Ee EntE.nil))⟩, keep1⟩
 exact ⟨od, by (try dsimp only) <;> (rfl), hR1⟩
 rintro ⟨i, row⟩ ⟨hi1, hq, hE1⟩
 try dsimp only
 refine Sq <| Sq <| Rg <| Aq (Ai i) <| Aq (AV.own 0 0 a.length) <| Aq (Ai a.length) <| Aq (AV.b (decide (((i : Nat) : Int) < ((a.length : Nat) : Int)))) <| Ad ?_
 rcases Nat.lt_or_ge i a.length with hl1 | hl1
 have hc1 : decide (((i : Nat) : Int) < ((a.length : Nat) : Int)) = true := decide_eq_true (by omega)
 refine Awp.cond (t := true) (by rw [← hc1] <;> kernel_rfl) (Awp.skip ?_)
 obtain ⟨x1, hx1⟩ : ∃ x, a[i]? = some x := ⟨_, List.getElem?_eq_getElem (by first | (simpa using hl1) | omega)⟩
 rw [drop_at hx1, m_a4.eq_2] at hE1
 refine Sq <| Awp.block <| Rg <| Aq (AV.own 0 0 a.length) <| Aq (Ai i) <| Aq (AV.own 0 0 a.length) <| Aq (Ai i) <| Ap (AV.loc 0 i 0) (g_oidx (e := 4) (id := 0) (len := a.length) (kk := .i64) (ob := ⟨4, 1, row.map AV.b⟩) (i := i) kr kr kr rfl kr sd) <| Ap (AV.b (row.getD i default)) (g_oload (e := 4) (k := 1) (i := tI_4) (id := 0) (xs := row) (A := AV.b) (j := i) kr kr rfl (getD_some sd) kr) <| Aq (AV.b (!(row.getD i default))) <| Ap (AV.loc 0 i 0) (g_oidx (e := 4) (id := 0) (len := a.length) (kk := .i64) (ob := ⟨4, 1, row.map AV.b⟩) (i := i) kr kr kr rfl kr sd) <| AOps.st (x := AV.und) (h' := ⟨1, [(0, some ⟨4, 1, (row.set i (!(row.getD i default))).map AV.b⟩)]⟩) (g_set (e := 4) (k := 1) (i := tI_4) (id := 0) (A := AV.b) (xs := row) (y := (!(row.getD i default))) (j := i) kr kr kr rfl sd (fun _ => rfl) kr (fun _ => rfl) (fun _ => rfl)) <| Ad <| Rg <| Aq (Ai i) <| Ap (Ai (i + 1)) (g_addN (i := i) (m := 1) kr kr sd) <| Aq (Ai (i + 1)) <| Ad ?_
 refine ⟨(i + 1, (row.set i (!(row.getD i default)))), od, ⟨od, by (try dsimp only) <;> (simp only [List.length_set]; exact hq), hE1⟩, ?_⟩
 exact ⟨[0], ⟨by decide, rfl, (FitsObjs.cons (obj_row (fun _ => rfl) (e := 4) (k := 1) (A := AV.b) (xs := (row.set i (!(row.getD i default)))) rfl rfl) FitsObjs.nil), (EntE.cons (Ent.f kr) (Ee EntE.nil))⟩, keep1⟩
 have hc1 : decide (((i : Nat) : Int) < ((a.length : Nat) : Int)) = false := decide_eq_false (by omega)
 refine Awp.cond (t := false) (by rw [← hc1] <;> kernel_rfl) (Awp.exit ?_)
 rw [List.drop_eq_nil_of_le (by first | (simpa using hl1) | omega), m_a4.eq_1] at hE1
 subst hE1
 have hM : m_bl a = row := by simp only [m_bl, hR1, sbt]
 refine ⟨Or.inl rfl, rfl, ?_⟩
 rw [hM]; rfl
theorem w_path_Is (W : World) {m0 : Int} (hW : W.cell? ⟨0, 0, none⟩ = some (.int .i64 m0)) (s' : ByteArray) : PureAt Go.Proofs.Tryz.prog W 101 [(AV.s s')] (AV.b (m_bq s')) [] := by
 refine pure_of_bodyC (fn := Go.Proofs.Tryz.f101) Go.Proofs.Tryz.func101 rfl (en101 W) (ts := [2]) rfl le <| Sq <| Rg <| Aq (AV.b false) <| Ad <| Sq <| Rg <| Aq (AV.s s') <| AOps.sc0 (vs := [(AV.s s')]) (r0 := (AV.tup [(AV.s ((cleanS s').1)), (AV.i .i64 ((cleanS s').2))])) kr kr (w_path_Clean W hW s') kr le <| Aq (AV.tup [(AV.s ((cleanS s').1)), (AV.i .i64 ((cleanS s').2))]) <| Aq (AV.s ((cleanS s').1)) <| Aq (AV.i .i64 ((cleanS s').2)) <| Aq (AV.s ((cleanS s').1)) <| Aq (AV.i .i64 ((cleanS s').2)) <| Ad <| Sq <| Rg <| Aq (AV.i .i64 ((cleanS s').2)) <| Aq (AV.b (decide ((cleanS s').2 = (0 : Int)))) <| Aq (AV.b (decide ((cleanS s').2 = (0 : Int)))) ?_
 cases c_1 : decide ((cleanS s').2 = (0 : Int))
 have k_1 := of_decide_eq_false c_1
 refine An <| An <| An <| Aq (AV.b false) <| Aq (AV.b false) <| Ad <| Rt ?_
 have hM : m_bq s' = false := by simp only [m_bq, c_1, sbt]
 refine ⟨Or.inr rfl, ?_⟩
 rw [hM]
 exact Ec
 have k_1 := of_decide_eq_true c_1
 refine Ay <| Aq (AV.s ((cleanS s').1)) <| Ay <| Aq (AV.s s') <| Ay <| Aq (AV.b (decide ((cleanS s').1 = s'))) <| Aq (AV.b (decide ((cleanS s').1 = s'))) <| Aq (AV.b (decide ((cleanS s').1 = s'))) <| Ad <| Rt ?_
 have hM : m_bq s' = decide ((cleanS s').1 = s') := by simp only [m_bq, c_1, sbt]
 refine ⟨Or.inr rfl, ?_⟩
 rw [hM]
 exact Ec
theorem w_path_All (W : World) {m0 : Int} (hW : W.cell? ⟨0, 0, none⟩ = some (.int .i64 m0)) (ss : List ByteArray) (most' : Int) : PureAt Go.Proofs.Tryz.prog W 61 [((slA 1 AV.s) ss), (AV.i .i64 most')] (AV.b (m_ax ss most')) [] := by
 refine pure_of_bodyC (fn := Go.Proofs.Tryz.f61) Go.Proofs.Tryz.func61 rfl (en61 W) (ts := [4]) rfl le <| Sq <| Rg <| Aq (AV.b false) <| Ad <| Sq <| Sq <| Rg <| Aq ((slA 1 AV.s) ss) <| Ap (Ai ss.length) (g_len (k := 1) (nl := false) (e := 9) (A := AV.s) (xs := ss) kr kr) <| Aq (AV.i .i64 (0 : Int)) <| Ad <| Awp.block <| Awp.lim 0 (x := ((slA 1 AV.s) ss)) kr fun hlm1 => ?_
 have hB1 : ss.length ≤ 281474976710656 := lim_slA hlm1
 obtain ⟨R1, hR1⟩ : ∃ R, m_br ss 0 = R := ⟨_, rfl⟩
 refine Awp.loopT (fun (v9 : Nat) => [(0, ((slA 1 AV.s) ss)), (1, (AV.i .i64 most')), (7, ((slA 1 AV.s) ss)), (8, (Ai ss.length)), (9, (Ai v9))]) (fun (v9 : Nat) => ⟨0, []⟩) (fun (v9 : Nat) => v9 ≤ ss.length ∧ m_br (ss.drop v9) v9 = R1) (fun (v9 : Nat) => ss.length - v9) 0 ?_ ?_ ?_
 exact ⟨[], ⟨by decide, rfl, FitsObjs.nil, (Ee (Ee (Ee (Ee (Ee EntE.nil)))))⟩, keep0⟩
 exact ⟨od, hR1⟩
 rintro v9 ⟨hi1, hE1⟩
 try dsimp only
 refine Sq <| Rg <| Aq (AV.b (decide (((v9 : Nat) : Int) < ((ss.length : Nat) : Int)))) <| Ad <| Sq ?_
 rcases Nat.lt_or_ge v9 ss.length with hl1 | hl1
 have hc1 : decide (((v9 : Nat) : Int) < ((ss.length : Nat) : Int)) = true := decide_eq_true (by omega)
 refine Awp.cond (t := true) (by rw [← hc1] <;> kernel_rfl) (Awp.skip ?_)
 obtain ⟨x1, hx1⟩ : ∃ x, ss[v9]? = some x := ⟨_, List.getElem?_eq_getElem hl1⟩
 rw [drop_at hx1, m_br.eq_2] at hE1
 refine Sq <| Awp.block <| Sq <| Rg <| Ap (AV.pt (AV.s x1).cells) (g_idx (k := 1) (nl := false) (e := 9) (kk := .i64) (A := AV.s) (xs := ss) (i := v9) kr kr kr ⟨by kernel_rfl, by decide⟩ hx1) <| Aq (AV.s x1) <| Aq (AV.s x1) <| Ad <| Sq <| Rg <| Aq (AV.s x1) <| AOps.sc0 (vs := [(AV.s x1)]) (r0 := (AV.b (m_bq x1))) kr kr (w_path_Is W hW x1) kr le <| Aq (AV.b (!(m_bq x1))) <| Ad ?_
 cases c_1 : (!(m_bq x1))
 refine Cf <| Awp.skip <| Rg <| Ap (Ai (v9 + 1)) (g_addN (i := v9) (m := 1) kr kr sd) <| Aq (Ai (v9 + 1)) <| Ad ?_
 try simp only [c_1, sbt] at hE1
 refine ⟨v9 + 1, od, ⟨od, hE1⟩, ?_⟩
 exact ⟨[], ⟨by decide, rfl, FitsObjs.nil, (Ee (Ee (Ee (Ee (Ee EntE.nil)))))⟩, keep0⟩
 refine Ct <| Sq <| Rg <| Aq (AV.b false) <| Ad <| Rt ?_
 try simp only [c_1, sbt] at hE1
 subst hE1
 have hM : m_ax ss most' = false := by simp only [m_ax, hR1, sbt]
 refine ⟨Or.inr rfl, ?_⟩
 rw [hM]
 exact Ec
 have hc1 : decide (((v9 : Nat) : Int) < ((ss.length : Nat) : Int)) = false := decide_eq_false (by omega)
 refine Awp.cond (t := false) (by rw [← hc1] <;> kernel_rfl) (Awp.exit ?_)
 rw [List.drop_eq_nil_of_le (hl1), m_br.eq_1] at hE1
 subst hE1
 refine Sq <| Rg <| Aq ((slA 1 AV.s) ss) <| Ap (Ai ss.length) (g_len (k := 1) (nl := false) (e := 9) (A := AV.s) (xs := ss) kr kr) <| Aq (AV.i .i64 most') <| Aq (AV.b (decide (((ss.length : Nat) : Int) ≤ most'))) <| Aq (AV.b (decide (((ss.length : Nat) : Int) ≤ most'))) <| Ad <| Rt ?_
 have hM : m_ax ss most' = decide (((ss.length : Nat) : Int) ≤ most') := by simp only [m_ax, hR1, sbt]
 refine ⟨Or.inr rfl, ?_⟩
 rw [hM]
 exact Ec
theorem w_graph_Outs (W : World) (g : DGraph) (hz : outsN g.edges ≤ 1048576) : PureAt Go.Proofs.Tryz.prog W 53 [(AV.pt (DGraph.av g).cells)] ((slA 1 AV.s) (m_j g)) [] := by
 refine pure_of_bodyC (fn := Go.Proofs.Tryz.f53) Go.Proofs.Tryz.func53 rfl (en53 W) (ts := [2]) rfl le <| Sq <| Rg <| Aq (AV.sl 1 true []) <| Ad <| Sq <| Rg <| Aq (AV.sl 1 true []) <| Ad <| Sq <| Sq <| Rg <| Aq (AV.pt (DGraph.av g).cells) <| Aq (AV.pt (DGraph.av g).cells) <| Aq (AV.pt ((DGraph.av g).cells.drop 0)) <| Aq ((slA 7 DEdge.av) g.edges) <| Ap (Ai g.edges.length) (g_len (k := 7) (nl := false) (e := 76) (A := DEdge.av) (xs := g.edges) kr kr) <| Aq (AV.i .i64 (0 : Int)) <| Ad <| Awp.block <| Awp.lim 9 (x := ((slA 7 DEdge.av) g.edges)) kr fun hlm1 => ?_
 have hB1 : g.edges.length ≤ 281474976710656 := lim_slA hlm1
 obtain ⟨R1, hR1⟩ : ∃ R, m_au g.edges 0 [] = R := ⟨_, rfl⟩
 refine Awp.loopT (fun ((b_out, out, v11) : Bool × (List ByteArray) × Nat) => [(9, ((slA 7 DEdge.av) g.edges)), (10, (Ai g.edges.length)), (3, (accW 0 1 AV.s b_out out)), (11, (Ai v11))]) (fun ((b_out, out, v11) : Bool × (List ByteArray) × Nat) => ⟨1, [(0, accWO 9 1 AV.s b_out out)]⟩) (fun ((b_out, out, v11) : Bool × (List ByteArray) × Nat) => v11 ≤ g.edges.length ∧ (b_out = false → out = []) ∧ out.length + outsN (g.edges.drop v11) ≤ outsN g.edges ∧ m_au (g.edges.drop v11) v11 out = R1) (fun ((b_out, out, v11) : Bool × (List ByteArray) × Nat) => g.edges.length - v11) (false, [], 0) ?_ ?_ ?_
 exact ⟨[1000000], ⟨by decide, rfl, (FitsObjs.cons rfl FitsObjs.nil), (Ee (Ee (Ee (Ee EntE.nil))))⟩, keep0⟩
 exact ⟨od, (by simp), by (try dsimp only) <;> (simp), hR1⟩
 rintro ⟨b_out, out, v11⟩ ⟨hi1, hn_out, ha, hE1⟩
 try dsimp only
 cases b_out
 have hz_out := hn_out rfl
 subst hz_out
 try dsimp only
 refine Sq <| Rg <| Aq (AV.b (decide (((v11 : Nat) : Int) < ((g.edges.length : Nat) : Int)))) <| Ad <| Sq ?_
 rcases Nat.lt_or_ge v11 g.edges.length with hl1 | hl1
 have hc1 : decide (((v11 : Nat) : Int) < ((g.edges.length : Nat) : Int)) = true := decide_eq_true (by omega)
 refine Awp.cond (t := true) (by rw [← hc1] <;> kernel_rfl) (Awp.skip ?_)
 obtain ⟨x1, hx1⟩ : ∃ x, g.edges[v11]? = some x := ⟨_, List.getElem?_eq_getElem hl1⟩
 rw [drop_at hx1, m_au.eq_2] at hE1
 rw [drop_at hx1] at ha
 simp only [outsN] at ha
 refine Sq <| Awp.block <| Sq <| Rg <| Ap (AV.pt (DEdge.av x1).cells) (g_idx (k := 7) (nl := false) (e := 76) (kk := .i64) (A := DEdge.av) (xs := g.edges) (i := v11) kr kr kr ⟨by kernel_rfl, by decide⟩ hx1) <| Aq (DEdge.av x1) <| Nn (AV.loc 1 0 0) ⟨76, 7, [(AV.st [(AV.sl 1 true []), (AV.sl 1 true []), (AV.sl 1 true []), (AV.sl 1 true []), (AV.s (⟨#[]⟩ : ByteArray)), (AV.b false), (AV.s (⟨#[]⟩ : ByteArray))])]⟩ <| Sp 1 ⟨76, 7, [(AV.st [((slA 1 AV.s) x1.outs), ((slA 1 AV.s) x1.ins), ((slA 1 AV.s) x1.implicit), ((slA 1 AV.s) x1.order), (AV.s x1.command), (AV.b x1.deps), (AV.s x1.pool)])]⟩ <| Ad <| Rg <| Aq (AV.sl 1 true []) <| Aq (AV.loc 1 0 0) <| Aq ((slA 1 AV.s) x1.outs) ?_
 by_cases z_1 : x1.outs = []
 refine AOps.se (x := (AV.sl 1 true [])) (h' := ⟨2, [(1, some ⟨76, 7, [(AV.st [((slA 1 AV.s) x1.outs), ((slA 1 AV.s) x1.ins), ((slA 1 AV.s) x1.implicit), ((slA 1 AV.s) x1.order), (AV.s x1.command), (AV.b x1.deps), (AV.s x1.pool)])]⟩), (0, none)]⟩) (g_app0 (e := 9) (X := ((slA 1 AV.s) x1.outs)) (A := AV.s) (i := tI_9) (k := 1) (ys := x1.outs) kr kr kr (hx := kr) rfl z_1 ⟨by decide, by kernel_rfl⟩) le <| Aq (AV.sl 1 true []) <| Ad <| Rg <| Ap (Ai (v11 + 1)) (g_addN (i := v11) (m := 1) kr kr sd) <| Aq (Ai (v11 + 1)) <| Ad ?_
 try simp only [z_1, sbt] at hE1
 refine ⟨(false, [], v11 + 1), od, ⟨od, (by simp), by (try dsimp only) <;> (first | omega | (simp; omega)), hE1⟩, ?_⟩
 exact ⟨[1000000], ⟨by decide, rfl, (FitsObjs.cons rfl FitsObjs.nil), (Ee (Ee (Ee (Ee EntE.nil))))⟩, keep0⟩
 refine AOps.se (x := (AV.own 2 0 x1.outs.length)) (h' := ⟨3, [(2, some ⟨9, 1, x1.outs.map AV.s⟩), (1, some ⟨76, 7, [(AV.st [((slA 1 AV.s) x1.outs), ((slA 1 AV.s) x1.ins), ((slA 1 AV.s) x1.implicit), ((slA 1 AV.s) x1.order), (AV.s x1.command), (AV.b x1.deps), (AV.s x1.pool)])]⟩), (0, none)]⟩) (g_app1 (e := 9) (X := ((slA 1 AV.s) x1.outs)) (A := AV.s) (i := tI_9) (k := 1) (ys := x1.outs) kr kr kr (hx := kr) rfl z_1 ⟨by decide, by kernel_rfl⟩ (by show _ * 16 ≤ 140737488355328; first | omega | (simp only [List.length_append, List.length_cons, List.length_nil, List.length_set, List.length_replicate]; omega) | (simp; omega)) sd) le <| Aq (AV.own 2 0 x1.outs.length) <| Ad <| Rg <| Ap (Ai (v11 + 1)) (g_addN (i := v11) (m := 1) kr kr sd) <| Aq (Ai (v11 + 1)) <| Ad ?_
 refine ⟨(true, x1.outs, v11 + 1), od, ⟨od, (by simp), by (try dsimp only) <;> (first | omega | (simp; omega)), hE1⟩, ?_⟩
 exact ⟨[2], ⟨by decide, rfl, (FitsObjs.cons (obj_row (fun _ => rfl) (e := 9) (k := 1) (A := AV.s) (xs := x1.outs) rfl rfl) FitsObjs.nil), (Ee (Ee (EntE.cons (ent_keepO (by decide) rfl) (Ee EntE.nil))))⟩, keep0⟩
 have hc1 : decide (((v11 : Nat) : Int) < ((g.edges.length : Nat) : Int)) = false := decide_eq_false (by omega)
 refine Awp.cond (t := false) (by rw [← hc1] <;> kernel_rfl) (Awp.exit ?_)
 rw [List.drop_eq_nil_of_le (hl1), m_au.eq_1] at hE1
 subst hE1
 refine Sq <| Rg <| Aq (AV.sl 1 true []) <| Aq (AV.sl 1 true []) <| Ad <| Rt ?_
 have hM : m_j g = [] := by simp only [m_j, hR1, sbt]
 refine ⟨Or.inr rfl, ?_⟩
 rw [hM]
 exact Ent.cast (x' := (AV.sl 1 true [])) (y' := ((slA 1 AV.s) [])) kr kr (Ent.w rfl (WeakC.nil 1))
 try dsimp only
 refine Sq <| Rg <| Aq (AV.b (decide (((v11 : Nat) : Int) < ((g.edges.length : Nat) : Int)))) <| Ad <| Sq ?_
 rcases Nat.lt_or_ge v11 g.edges.length with hl1 | hl1
 have hc1 : decide (((v11 : Nat) : Int) < ((g.edges.length : Nat) : Int)) = true := decide_eq_true (by omega)
 refine Awp.cond (t := true) (by rw [← hc1] <;> kernel_rfl) (Awp.skip ?_)
 obtain ⟨x1, hx1⟩ : ∃ x, g.edges[v11]? = some x := ⟨_, List.getElem?_eq_getElem hl1⟩
 rw [drop_at hx1, m_au.eq_2] at hE1
 rw [drop_at hx1] at ha
 simp only [outsN] at ha
 refine Sq <| Awp.block <| Sq <| Rg <| Ap (AV.pt (DEdge.av x1).cells) (g_idx (k := 7) (nl := false) (e := 76) (kk := .i64) (A := DEdge.av) (xs := g.edges) (i := v11) kr kr kr ⟨by kernel_rfl, by decide⟩ hx1) <| Aq (DEdge.av x1) <| Nn (AV.loc 1 0 0) ⟨76, 7, [(AV.st [(AV.sl 1 true []), (AV.sl 1 true []), (AV.sl 1 true []), (AV.sl 1 true []), (AV.s (⟨#[]⟩ : ByteArray)), (AV.b false), (AV.s (⟨#[]⟩ : ByteArray))])]⟩ <| Sp 1 ⟨76, 7, [(AV.st [((slA 1 AV.s) x1.outs), ((slA 1 AV.s) x1.ins), ((slA 1 AV.s) x1.implicit), ((slA 1 AV.s) x1.order), (AV.s x1.command), (AV.b x1.deps), (AV.s x1.pool)])]⟩ <| Ad <| Rg <| Aq (AV.own 0 0 out.length) <| Aq (AV.loc 1 0 0) <| Aq ((slA 1 AV.s) x1.outs) <| AOps.se (x := (AV.own 2 0 ((out ++ x1.outs).length))) (h' := ⟨3, [(2, some ⟨9, 1, (out ++ x1.outs).map AV.s⟩), (1, some ⟨76, 7, [(AV.st [((slA 1 AV.s) x1.outs), ((slA 1 AV.s) x1.ins), ((slA 1 AV.s) x1.implicit), ((slA 1 AV.s) x1.order), (AV.s x1.command), (AV.b x1.deps), (AV.s x1.pool)])]⟩), (0, none)]⟩) (g_appR (len := out.length) (e := 9) (X := ((slA 1 AV.s) x1.outs)) (A := AV.s) (i := tI_9) (p := 0) (xs := out) (ys := x1.outs) kr kr kr (hx := kr) kr ⟨by decide, by kernel_rfl⟩ rfl rfl (by show _ * 16 ≤ 140737488355328; first | omega | (simp only [List.length_append, List.length_cons, List.length_nil, List.length_set, List.length_replicate]; omega) | (simp; omega)) sd) le <| Aq (AV.own 2 0 ((out ++ x1.outs).length)) <| Ad <| Rg <| Ap (Ai (v11 + 1)) (g_addN (i := v11) (m := 1) kr kr sd) <| Aq (Ai (v11 + 1)) ?_
 refine Ad ?_
 refine ⟨(true, (out ++ x1.outs), v11 + 1), od, ⟨od, (by simp), by (try dsimp only) <;> (first | omega | (simp; omega)), hE1⟩, ?_⟩
 exact ⟨[2], ⟨by decide, rfl, (FitsObjs.cons (obj_row (fun _ => rfl) (e := 9) (k := 1) (A := AV.s) (xs := (out ++ x1.outs)) rfl rfl) FitsObjs.nil), (Ee (Ee (EntE.cons (ent_keepO (by decide) rfl) (Ee EntE.nil))))⟩, keep0⟩
 have hc1 : decide (((v11 : Nat) : Int) < ((g.edges.length : Nat) : Int)) = false := decide_eq_false (by omega)
 refine Awp.cond (t := false) (by rw [← hc1] <;> kernel_rfl) (Awp.exit ?_)
 rw [List.drop_eq_nil_of_le (hl1), m_au.eq_1] at hE1
 subst hE1
 refine Sq <| Rg <| Aq (AV.own 0 0 out.length) <| Aq (AV.own 0 0 out.length) <| Ad <| Rt ?_
 have hM : m_j g = out := by simp only [m_j, hR1, sbt]
 refine ⟨Or.inr rfl, ?_⟩
 rw [hM]
 exact Ent.cast (x' := (AV.own 0 0 out.length)) (y' := ((slA 1 AV.s) out)) kr kr (EntD.kk (x' := (AV.own 0 0 out.length)) kr kr rfl (EntK.row (fun _ => rfl) (A := AV.s) (id := 0) (e := 9) (k := 1) (xs := out) rfl rfl rfl sd))
theorem w_ref1_has (W : World) (xs : List ByteArray) (x' : ByteArray) : PureAt Go.Proofs.Tryz.prog W 57 [((slA 1 AV.s) xs), (AV.s x')] (AV.b (m_bh xs x')) [] := by
 refine pure_of_bodyC (fn := Go.Proofs.Tryz.f57) Go.Proofs.Tryz.func57 rfl (en57 W) (ts := [4]) rfl le <| Sq <| Rg <| Aq (AV.b false) <| Ad <| Sq <| Sq <| Rg <| Aq (AV.i .i64 (0 : Int)) <| Ad <| Awp.block <| Awp.lim 0 (x := ((slA 1 AV.s) xs)) kr fun hlm1 => ?_
 have hB1 : xs.length ≤ 281474976710656 := lim_slA hlm1
 obtain ⟨R1, hR1⟩ : ∃ R, m_bo x' xs 0 = R := ⟨_, rfl⟩
 refine Awp.loopT (fun (i : Nat) => [(0, ((slA 1 AV.s) xs)), (1, (AV.s x')), (5, (Ai i))]) (fun (i : Nat) => ⟨0, []⟩) (fun (i : Nat) => i ≤ xs.length ∧ m_bo x' (xs.drop i) i = R1) (fun (i : Nat) => xs.length - i) 0 ?_ ?_ ?_
 exact ⟨[], ⟨by decide, rfl, FitsObjs.nil, (Ee (Ee (Ee EntE.nil)))⟩, keep0⟩
 exact ⟨od, hR1⟩
 rintro i ⟨hi1, hE1⟩
 try dsimp only
 refine Sq <| Sq <| Rg <| Aq (Ai i) <| Aq ((slA 1 AV.s) xs) <| Ap (Ai xs.length) (g_len (k := 1) (nl := false) (e := 9) (A := AV.s) (xs := xs) kr kr) <| Aq (AV.b (decide (((i : Nat) : Int) < ((xs.length : Nat) : Int)))) <| Ad ?_
 rcases Nat.lt_or_ge i xs.length with hl1 | hl1
 have hc1 : decide (((i : Nat) : Int) < ((xs.length : Nat) : Int)) = true := decide_eq_true (by omega)
 refine Awp.cond (t := true) (by rw [← hc1] <;> kernel_rfl) (Awp.skip ?_)
 obtain ⟨x1, hx1⟩ : ∃ x, xs[i]? = some x := ⟨_, List.getElem?_eq_getElem hl1⟩
 rw [drop_at hx1, m_bo.eq_2] at hE1
 refine Sq <| Awp.block <| Sq <| Rg <| Aq ((slA 1 AV.s) xs) <| Aq (Ai i) <| Ap (AV.pt (AV.s x1).cells) (g_idx (k := 1) (nl := false) (e := 9) (kk := .i64) (A := AV.s) (xs := xs) (i := i) kr kr kr ⟨by kernel_rfl, by decide⟩ hx1) <| Aq (AV.s x1) <| Aq (AV.s x') <| Aq (AV.b (decide (x1 = x'))) <| Ad ?_
 cases c_1 : decide (x1 = x')
 have k_1 := of_decide_eq_false c_1
 refine Cf <| Awp.skip <| Rg <| Aq (Ai i) <| Ap (Ai (i + 1)) (g_addN (i := i) (m := 1) kr kr sd) <| Aq (Ai (i + 1)) <| Ad ?_
 try simp only [c_1, sbt] at hE1
 refine ⟨i + 1, od, ⟨od, hE1⟩, ?_⟩
 exact ⟨[], ⟨by decide, rfl, FitsObjs.nil, (Ee (Ee (Ee EntE.nil)))⟩, keep0⟩
 have k_1 := of_decide_eq_true c_1
 refine Ct <| Sq <| Rg <| Aq (AV.b true) <| Ad <| Rt ?_
 try simp only [c_1, sbt] at hE1
 subst hE1
 have hM : m_bh xs x' = true := by simp only [m_bh, hR1, sbt]
 refine ⟨Or.inr rfl, ?_⟩
 rw [hM]
 exact Ec
 have hc1 : decide (((i : Nat) : Int) < ((xs.length : Nat) : Int)) = false := decide_eq_false (by omega)
 refine Awp.cond (t := false) (by rw [← hc1] <;> kernel_rfl) (Awp.exit ?_)
 rw [List.drop_eq_nil_of_le (hl1), m_bo.eq_1] at hE1
 subst hE1
 refine Sq <| Rg <| Aq (AV.b false) <| Ad <| Rt ?_
 have hM : m_bh xs x' = false := by simp only [m_bh, hR1, sbt]
 refine ⟨Or.inr rfl, ?_⟩
 rw [hM]
 exact Ec
theorem w_ref1_small (W : World) (c : Int) : PureAt Go.Proofs.Tryz.prog W 102 [(AV.i .u8 c)] (AV.b (m_al c)) [] := by
 refine pure_of_bodyC (fn := Go.Proofs.Tryz.f102) Go.Proofs.Tryz.func102 rfl (en102 W) (ts := [2]) rfl le <| Sq <| Rg <| Aq (AV.b false) <| Ad <| Sq <| Rg <| Aq (AV.i .u8 c) <| Aq (AV.b (decide ((97 : Int) ≤ c))) <| Aq (AV.b (decide ((97 : Int) ≤ c))) ?_
 cases c_1 : decide ((97 : Int) ≤ c)
 have k_1 := of_decide_eq_false c_1
 refine An <| An <| Aq (AV.b false) <| Aq (AV.b false) <| Ay <| Aq (AV.i .u8 c) <| Ay <| Aq (AV.b (decide ((48 : Int) ≤ c))) <| Ay <| Aq (AV.b (decide ((48 : Int) ≤ c))) ?_
 cases c_2 : decide ((48 : Int) ≤ c)
 have k_2 := of_decide_eq_false c_2
 refine An <| An <| Ay <| Aq (AV.b false) <| Aq (AV.b false) <| Aq (AV.b false) <| Ad <| Rt ?_
 have hM : m_al c = false := by simp only [m_al, c_1, c_2, sbt]
 refine ⟨Or.inr rfl, ?_⟩
 rw [hM]
 exact Ec
 have k_2 := of_decide_eq_true c_2
 refine Ay <| Aq (AV.i .u8 c) <| Ay <| Aq (AV.b (decide (c ≤ (57 : Int)))) <| Ay <| Aq (AV.b (decide (c ≤ (57 : Int)))) <| Aq (AV.b (decide (c ≤ (57 : Int)))) <| Aq (AV.b (decide (c ≤ (57 : Int)))) <| Ad <| Rt ?_
 have hM : m_al c = decide (c ≤ (57 : Int)) := by simp only [m_al, c_1, c_2, sbt]
 refine ⟨Or.inr rfl, ?_⟩
 rw [hM]
 exact Ec
 have k_1 := of_decide_eq_true c_1
 refine Ay <| Aq (AV.i .u8 c) <| Ay <| Aq (AV.b (decide (c ≤ (122 : Int)))) <| Aq (AV.b (decide (c ≤ (122 : Int)))) <| Aq (AV.b (decide (c ≤ (122 : Int)))) ?_
 cases c_3 : decide (c ≤ (122 : Int))
 have k_3 := of_decide_eq_false c_3
 refine Ay <| Aq (AV.i .u8 c) <| Ay <| Aq (AV.b (decide ((48 : Int) ≤ c))) <| Ay <| Aq (AV.b (decide ((48 : Int) ≤ c))) ?_
 cases c_4 : decide ((48 : Int) ≤ c)
 have k_4 := of_decide_eq_false c_4
 refine An <| An <| Ay <| Aq (AV.b false) <| Aq (AV.b false) <| Aq (AV.b false) <| Ad <| Rt ?_
 have hM : m_al c = false := by simp only [m_al, c_1, c_3, c_4, sbt]
 refine ⟨Or.inr rfl, ?_⟩
 rw [hM]
 exact Ec
 have k_4 := of_decide_eq_true c_4
 refine Ay <| Aq (AV.i .u8 c) <| Ay <| Aq (AV.b (decide (c ≤ (57 : Int)))) <| Ay <| Aq (AV.b (decide (c ≤ (57 : Int)))) <| Aq (AV.b (decide (c ≤ (57 : Int)))) <| Aq (AV.b (decide (c ≤ (57 : Int)))) <| Ad <| Rt ?_
 have hM : m_al c = decide (c ≤ (57 : Int)) := by simp only [m_al, c_1, c_3, c_4, sbt]
 refine ⟨Or.inr rfl, ?_⟩
 rw [hM]
 exact Ec
 have k_3 := of_decide_eq_true c_3
 refine An <| An <| An <| An <| An <| An <| Aq (AV.b true) <| Aq (AV.b true) <| Ad <| Rt ?_
 have hM : m_al c = true := by simp only [m_al, c_1, c_3, sbt]
 refine ⟨Or.inr rfl, ?_⟩
 rw [hM]
 exact Ec
theorem w_ref1_Plain (W : World) (s' : ByteArray) (least : Int) (most' : Int) : PureAt Go.Proofs.Tryz.prog W 103 [(AV.s s'), (AV.i .i64 least), (AV.i .i64 most')] (AV.b (m_ap s' least most')) [] := by
 refine pure_of_bodyC (fn := Go.Proofs.Tryz.f103) Go.Proofs.Tryz.func103 rfl (en103 W) (ts := [6]) rfl le <| Sq <| Rg <| Aq (AV.b false) <| Ad <| Sq <| Sq <| Rg <| Aq (AV.i .i64 (0 : Int)) <| Ad <| Awp.block <| Awp.lim 0 (x := (AV.s s')) kr fun hlm1 => ?_
 have hB1 : s'.size ≤ 281474976710656 := lim_s hlm1
 obtain ⟨R1, hR1⟩ : ∃ R, m_ba s'.data.toList 0 = R := ⟨_, rfl⟩
 refine Awp.loopT (fun (i : Nat) => [(0, (AV.s s')), (1, (AV.i .i64 least)), (2, (AV.i .i64 most')), (7, (Ai i))]) (fun (i : Nat) => ⟨0, []⟩) (fun (i : Nat) => i ≤ s'.size ∧ m_ba (s'.data.toList.drop i) i = R1) (fun (i : Nat) => s'.size - i) 0 ?_ ?_ ?_
 exact ⟨[], ⟨by decide, rfl, FitsObjs.nil, (Ee (Ee (Ee (Ee EntE.nil))))⟩, keep0⟩
 exact ⟨od, hR1⟩
 rintro i ⟨hi1, hE1⟩
 try dsimp only
 refine Sq <| Sq <| Rg <| Aq (Ai i) <| Aq (AV.s s') <| Aq (Ai s'.size) <| Aq (AV.b (decide (((i : Nat) : Int) < ((s'.size : Nat) : Int)))) <| Ad ?_
 rcases Nat.lt_or_ge i s'.size with hl1 | hl1
 have hc1 : decide (((i : Nat) : Int) < ((s'.size : Nat) : Int)) = true := decide_eq_true (by omega)
 refine Awp.cond (t := true) (by rw [← hc1] <;> kernel_rfl) (Awp.skip ?_)
 obtain ⟨x1, hx1, hx1l⟩ := data_get hl1
 rw [drop_at hx1l, m_ba.eq_2] at hE1
 refine Sq <| Awp.block <| Sq <| Rg <| Aq (AV.s s') <| Aq (Ai i) <| Ap (AV.i .u8 (x1.toNat : Int)) (g_str (kk := .i64) (s := s') (i := i) (b := x1) kr kr kr hx1) <| Aq (AV.b (decide ((x1.toNat : Int) < (32 : Int)))) <| Aq (AV.b (decide ((x1.toNat : Int) < (32 : Int)))) ?_
 cases c_1 : decide ((x1.toNat : Int) < (32 : Int))
 have k_1 := of_decide_eq_false c_1
 refine Ay <| Aq (AV.s s') <| Ay <| Aq (Ai i) <| Ay <| Ap (AV.i .u8 (x1.toNat : Int)) (g_str (kk := .i64) (s := s') (i := i) (b := x1) kr kr kr hx1) <| Ay <| Aq (AV.b (decide ((126 : Int) < (x1.toNat : Int)))) <| Aq (AV.b (decide ((126 : Int) < (x1.toNat : Int)))) <| Ad ?_
 cases c_2 : decide ((126 : Int) < (x1.toNat : Int))
 have k_2 := of_decide_eq_false c_2
 refine Cf <| Awp.skip <| Rg <| Aq (Ai i) <| Ap (Ai (i + 1)) (g_addN (i := i) (m := 1) kr kr sd) <| Aq (Ai (i + 1)) <| Ad ?_
 try simp only [c_1, c_2, sbt] at hE1
 refine ⟨i + 1, od, ⟨od, hE1⟩, ?_⟩
 exact ⟨[], ⟨by decide, rfl, FitsObjs.nil, (Ee (Ee (Ee (Ee EntE.nil))))⟩, keep0⟩
 have k_2 := of_decide_eq_true c_2
 refine Ct <| Sq <| Rg <| Aq (AV.b false) <| Ad <| Rt ?_
 try simp only [c_1, c_2, sbt] at hE1
 subst hE1
 have hM : m_ap s' least most' = false := by simp only [m_ap, hR1, sbt]
 refine ⟨Or.inr rfl, ?_⟩
 rw [hM]
 exact Ec
 have k_1 := of_decide_eq_true c_1
 refine An <| An <| An <| An <| Aq (AV.b true) <| Ad <| Ct <| Sq <| Rg <| Aq (AV.b false) <| Ad <| Rt ?_
 try simp only [c_1, sbt] at hE1
 subst hE1
 have hM : m_ap s' least most' = false := by simp only [m_ap, hR1, sbt]
 refine ⟨Or.inr rfl, ?_⟩
 rw [hM]
 exact Ec
 have hc1 : decide (((i : Nat) : Int) < ((s'.size : Nat) : Int)) = false := decide_eq_false (by omega)
 refine Awp.cond (t := false) (by rw [← hc1] <;> kernel_rfl) (Awp.exit ?_)
 rw [List.drop_eq_nil_of_le (bytes_le hl1), m_ba.eq_1] at hE1
 subst hE1
 refine Sq <| Rg <| Aq (AV.s s') <| Aq (Ai s'.size) <| Aq (AV.i .i64 least) <| Aq (AV.b (decide (least ≤ ((s'.size : Nat) : Int)))) <| Aq (AV.b (decide (least ≤ ((s'.size : Nat) : Int)))) ?_
 cases c_3 : decide (least ≤ ((s'.size : Nat) : Int))
 have k_3 := of_decide_eq_false c_3
 refine An <| An <| An <| An <| Aq (AV.b false) <| Aq (AV.b false) <| Ad <| Rt ?_
 have hM : m_ap s' least most' = false := by simp only [m_ap, hR1, c_3, sbt]
 refine ⟨Or.inr rfl, ?_⟩
 rw [hM]
 exact Ec
 have k_3 := of_decide_eq_true c_3
 refine Ay <| Aq (AV.s s') <| Ay <| Aq (Ai s'.size) <| Ay <| Aq (AV.i .i64 most') <| Ay <| Aq (AV.b (decide (((s'.size : Nat) : Int) ≤ most'))) <| Aq (AV.b (decide (((s'.size : Nat) : Int) ≤ most'))) <| Aq (AV.b (decide (((s'.size : Nat) : Int) ≤ most'))) <| Ad <| Rt ?_
 have hM : m_ap s' least most' = decide (((s'.size : Nat) : Int) ≤ most') := by simp only [m_ap, hR1, c_3, sbt]
 refine ⟨Or.inr rfl, ?_⟩
 rw [hM]
 exact Ec
theorem w_ref1_NameMay (W : World) (s' : ByteArray) : PureAt Go.Proofs.Tryz.prog W 62 [(AV.s s')] (AV.b (m_y s')) [] := by
 refine pure_of_bodyC (fn := Go.Proofs.Tryz.f62) Go.Proofs.Tryz.func62 rfl (en62 W) (ts := [2]) rfl le <| Sq <| Rg <| Aq (AV.b false) <| Ad <| Sq <| Sq <| Rg <| Aq (AV.i .i64 (0 : Int)) <| Ad <| Awp.block <| Awp.lim 0 (x := (AV.s s')) kr fun hlm1 => ?_
 have hB1 : s'.size ≤ 281474976710656 := lim_s hlm1
 obtain ⟨R1, hR1⟩ : ∃ R, m_ag s'.data.toList 0 = R := ⟨_, rfl⟩
 refine Awp.loopT (fun (i : Nat) => [(0, (AV.s s')), (3, (Ai i))]) (fun (i : Nat) => ⟨0, []⟩) (fun (i : Nat) => i ≤ s'.size ∧ m_ag (s'.data.toList.drop i) i = R1) (fun (i : Nat) => s'.size - i) 0 ?_ ?_ ?_
 exact ⟨[], ⟨by decide, rfl, FitsObjs.nil, (Ee (Ee EntE.nil))⟩, keep0⟩
 exact ⟨od, hR1⟩
 rintro i ⟨hi1, hE1⟩
 try dsimp only
 refine Sq <| Sq <| Rg <| Aq (Ai i) <| Aq (AV.s s') <| Aq (Ai s'.size) <| Aq (AV.b (decide (((i : Nat) : Int) < ((s'.size : Nat) : Int)))) <| Ad ?_
 rcases Nat.lt_or_ge i s'.size with hl1 | hl1
 have hc1 : decide (((i : Nat) : Int) < ((s'.size : Nat) : Int)) = true := decide_eq_true (by omega)
 refine Awp.cond (t := true) (by rw [← hc1] <;> kernel_rfl) (Awp.skip ?_)
 obtain ⟨x1, hx1, hx1l⟩ := data_get hl1
 rw [drop_at hx1l, m_ag.eq_2] at hE1
 refine Sq <| Awp.block <| Sq <| Rg <| Aq (AV.s s') <| Aq (Ai i) <| Ap (AV.i .u8 (x1.toNat : Int)) (g_str (kk := .i64) (s := s') (i := i) (b := x1) kr kr kr hx1) <| AOps.sc0 (vs := [(AV.i .u8 (x1.toNat : Int))]) (r0 := (AV.b (m_al (x1.toNat : Int)))) kr kr (w_ref1_small W (x1.toNat : Int)) kr le <| Aq (AV.b (!(m_al (x1.toNat : Int)))) <| Aq (AV.b (!(m_al (x1.toNat : Int)))) ?_
 cases c_1 : (!(m_al (x1.toNat : Int)))
 refine An <| An <| An <| An <| Aq (AV.b false) <| Aq (AV.b false) <| An <| An <| An <| An <| Aq (AV.b false) <| Aq (AV.b false) <| An <| An <| An <| An <| Aq (AV.b false) <| Aq (AV.b false) <| An <| An <| An <| An <| Aq (AV.b false) <| Ad <| Cf <| Awp.skip <| Rg <| Aq (Ai i) <| Ap (Ai (i + 1)) (g_addN (i := i) (m := 1) kr kr sd) <| Aq (Ai (i + 1)) <| Ad ?_
 try simp only [c_1, sbt] at hE1
 refine ⟨i + 1, od, ⟨od, hE1⟩, ?_⟩
 exact ⟨[], ⟨by decide, rfl, FitsObjs.nil, (Ee (Ee EntE.nil))⟩, keep0⟩
 refine Ay <| Aq (AV.s s') <| Ay <| Aq (Ai i) <| Ay <| Ap (AV.i .u8 (x1.toNat : Int)) (g_str (kk := .i64) (s := s') (i := i) (b := x1) kr kr kr hx1) <| Ay <| Aq (AV.b (!decide ((x1.toNat : Int) = (46 : Int)))) <| Aq (AV.b (!decide ((x1.toNat : Int) = (46 : Int)))) <| Aq (AV.b (!decide ((x1.toNat : Int) = (46 : Int)))) ?_
 cases c_2 : (!decide ((x1.toNat : Int) = (46 : Int)))
 have k_2 := nde c_2
 refine An <| An <| An <| An <| Aq (AV.b false) <| Aq (AV.b false) <| An <| An <| An <| An <| Aq (AV.b false) <| Aq (AV.b false) <| An <| An <| An <| An <| Aq (AV.b false) <| Ad <| Cf <| Awp.skip <| Rg <| Aq (Ai i) <| Ap (Ai (i + 1)) (g_addN (i := i) (m := 1) kr kr sd) <| Aq (Ai (i + 1)) <| Ad ?_
 try simp only [c_1, c_2, sbt] at hE1
 refine ⟨i + 1, od, ⟨od, hE1⟩, ?_⟩
 exact ⟨[], ⟨by decide, rfl, FitsObjs.nil, (Ee (Ee EntE.nil))⟩, keep0⟩
 have k_2 := ndt c_2
 refine Ay <| Aq (AV.s s') <| Ay <| Aq (Ai i) <| Ay <| Ap (AV.i .u8 (x1.toNat : Int)) (g_str (kk := .i64) (s := s') (i := i) (b := x1) kr kr kr hx1) <| Ay <| Aq (AV.b (!decide ((x1.toNat : Int) = (95 : Int)))) <| Aq (AV.b (!decide ((x1.toNat : Int) = (95 : Int)))) <| Aq (AV.b (!decide ((x1.toNat : Int) = (95 : Int)))) ?_
 cases c_3 : (!decide ((x1.toNat : Int) = (95 : Int)))
 have k_3 := nde c_3
 refine An <| An <| An <| An <| Aq (AV.b false) <| Aq (AV.b false) <| An <| An <| An <| An <| Aq (AV.b false) <| Ad <| Cf <| Awp.skip <| Rg <| Aq (Ai i) <| Ap (Ai (i + 1)) (g_addN (i := i) (m := 1) kr kr sd) <| Aq (Ai (i + 1)) <| Ad ?_
 try simp only [c_1, c_2, c_3, sbt] at hE1
 refine ⟨i + 1, od, ⟨od, hE1⟩, ?_⟩
 exact ⟨[], ⟨by decide, rfl, FitsObjs.nil, (Ee (Ee EntE.nil))⟩, keep0⟩
 have k_3 := ndt c_3
 refine Ay <| Aq (AV.s s') <| Ay <| Aq (Ai i) <| Ay <| Ap (AV.i .u8 (x1.toNat : Int)) (g_str (kk := .i64) (s := s') (i := i) (b := x1) kr kr kr hx1) <| Ay <| Aq (AV.b (!decide ((x1.toNat : Int) = (45 : Int)))) <| Aq (AV.b (!decide ((x1.toNat : Int) = (45 : Int)))) <| Aq (AV.b (!decide ((x1.toNat : Int) = (45 : Int)))) ?_
 cases c_4 : (!decide ((x1.toNat : Int) = (45 : Int)))
 have k_4 := nde c_4
 refine An <| An <| An <| An <| Aq (AV.b false) <| Ad <| Cf <| Awp.skip <| Rg <| Aq (Ai i) <| Ap (Ai (i + 1)) (g_addN (i := i) (m := 1) kr kr sd) <| Aq (Ai (i + 1)) <| Ad ?_
 try simp only [c_1, c_2, c_3, c_4, sbt] at hE1
 refine ⟨i + 1, od, ⟨od, hE1⟩, ?_⟩
 exact ⟨[], ⟨by decide, rfl, FitsObjs.nil, (Ee (Ee EntE.nil))⟩, keep0⟩
 have k_4 := ndt c_4
 refine Ay <| Aq (AV.s s') <| Ay <| Aq (Ai i) <| Ay <| Ap (AV.i .u8 (x1.toNat : Int)) (g_str (kk := .i64) (s := s') (i := i) (b := x1) kr kr kr hx1) <| Ay <| Aq (AV.b (!decide ((x1.toNat : Int) = (47 : Int)))) <| Aq (AV.b (!decide ((x1.toNat : Int) = (47 : Int)))) <| Ad ?_
 cases c_5 : (!decide ((x1.toNat : Int) = (47 : Int)))
 have k_5 := nde c_5
 refine Cf <| Awp.skip <| Rg <| Aq (Ai i) <| Ap (Ai (i + 1)) (g_addN (i := i) (m := 1) kr kr sd) <| Aq (Ai (i + 1)) <| Ad ?_
 try simp only [c_1, c_2, c_3, c_4, c_5, sbt] at hE1
 refine ⟨i + 1, od, ⟨od, hE1⟩, ?_⟩
 exact ⟨[], ⟨by decide, rfl, FitsObjs.nil, (Ee (Ee EntE.nil))⟩, keep0⟩
 have k_5 := ndt c_5
 refine Ct <| Sq <| Rg <| Aq (AV.b false) <| Ad <| Rt ?_
 try simp only [c_1, c_2, c_3, c_4, c_5, sbt] at hE1
 subst hE1
 have hM : m_y s' = false := by simp only [m_y, hR1, sbt]
 refine ⟨Or.inr rfl, ?_⟩
 rw [hM]
 exact Ec
 have hc1 : decide (((i : Nat) : Int) < ((s'.size : Nat) : Int)) = false := decide_eq_false (by omega)
 refine Awp.cond (t := false) (by rw [← hc1] <;> kernel_rfl) (Awp.exit ?_)
 rw [List.drop_eq_nil_of_le (bytes_le hl1), m_ag.eq_1] at hE1
 subst hE1
 refine Sq <| Rg <| Aq (AV.s s') <| Aq (Ai s'.size) <| Aq (AV.b (decide ((1 : Int) ≤ ((s'.size : Nat) : Int)))) <| Aq (AV.b (decide ((1 : Int) ≤ ((s'.size : Nat) : Int)))) ?_
 cases c_6 : decide ((1 : Int) ≤ ((s'.size : Nat) : Int))
 have k_6 := of_decide_eq_false c_6
 refine An <| An <| An <| Aq (AV.b false) <| Aq (AV.b false) <| Ad <| Rt ?_
 have hM : m_y s' = false := by simp only [m_y, hR1, c_6, sbt]
 refine ⟨Or.inr rfl, ?_⟩
 rw [hM]
 exact Ec
 have k_6 := of_decide_eq_true c_6
 refine Ay <| Aq (AV.s s') <| Ay <| Aq (Ai s'.size) <| Ay <| Aq (AV.b (decide (((s'.size : Nat) : Int) ≤ (16 : Int)))) <| Aq (AV.b (decide (((s'.size : Nat) : Int) ≤ (16 : Int)))) <| Aq (AV.b (decide (((s'.size : Nat) : Int) ≤ (16 : Int)))) <| Ad <| Rt ?_
 have hM : m_y s' = decide (((s'.size : Nat) : Int) ≤ (16 : Int)) := by simp only [m_y, hR1, c_6, sbt]
 refine ⟨Or.inr rfl, ?_⟩
 rw [hM]
 exact Ec
theorem w_ref1_Join (W : World) (xs : List ByteArray) (sign : ByteArray) (hz : szsum xs sign.size ≤ 281474976710656) : PureAt Go.Proofs.Tryz.prog W 151 [((slA 1 AV.s) xs), (AV.s sign)] (AV.s (m_bm xs sign)) [] := by
 refine pure_of_bodyC (fn := Go.Proofs.Tryz.f151) Go.Proofs.Tryz.func151 rfl (en151 W) (ts := [4]) rfl le <| Sq <| Rg <| Aq (AV.s (⟨#[]⟩ : ByteArray)) <| Ad <| Sq <| Rg <| Aq (AV.s (⟨#[]⟩ : ByteArray)) <| Ad <| Sq <| Sq <| Rg <| Aq (AV.i .i64 (0 : Int)) <| Ad <| Awp.block <| Awp.lim 0 (x := ((slA 1 AV.s) xs)) kr fun hlm1 => ?_
 have hB1 : xs.length ≤ 281474976710656 := lim_slA hlm1
 obtain ⟨R1, hR1⟩ : ∃ R, m_a2 sign xs 0 (⟨#[]⟩ : ByteArray) = R := ⟨_, rfl⟩
 refine Awp.loopT (fun ((s', i) : ByteArray × Nat) => [(0, ((slA 1 AV.s) xs)), (1, (AV.s sign)), (5, (AV.s s')), (6, (Ai i))]) (fun ((s', i) : ByteArray × Nat) => ⟨0, []⟩) (fun ((s', i) : ByteArray × Nat) => i ≤ xs.length ∧ s'.size + szsum (xs.drop i) sign.size ≤ 281474976710656 ∧ m_a2 sign (xs.drop i) i s' = R1) (fun ((s', i) : ByteArray × Nat) => xs.length - i) ((⟨#[]⟩ : ByteArray), 0) ?_ ?_ ?_
 exact ⟨[], ⟨by decide, rfl, FitsObjs.nil, (Ee (Ee (Ee (Ee EntE.nil))))⟩, keep0⟩
 exact ⟨od, by (try dsimp only) <;> (show 0 + szsum xs sign.size ≤ _; omega), hR1⟩
 rintro ⟨s', i⟩ ⟨hi1, hj, hE1⟩
 try dsimp only
 refine Sq <| Sq <| Rg <| Aq (Ai i) <| Aq ((slA 1 AV.s) xs) <| Ap (Ai xs.length) (g_len (k := 1) (nl := false) (e := 9) (A := AV.s) (xs := xs) kr kr) <| Aq (AV.b (decide (((i : Nat) : Int) < ((xs.length : Nat) : Int)))) <| Ad ?_
 rcases Nat.lt_or_ge i xs.length with hl1 | hl1
 have hc1 : decide (((i : Nat) : Int) < ((xs.length : Nat) : Int)) = true := decide_eq_true (by omega)
 refine Awp.cond (t := true) (by rw [← hc1] <;> kernel_rfl) (Awp.skip ?_)
 obtain ⟨x1, hx1⟩ : ∃ x, xs[i]? = some x := ⟨_, List.getElem?_eq_getElem hl1⟩
 rw [drop_at hx1, m_a2.eq_2] at hE1
 rw [drop_at hx1] at hj
 simp only [szsum] at hj
 refine Sq <| Awp.block <| Sq <| Sq <| Rg <| Aq (Ai i) <| Aq (AV.b (decide ((0 : Int) < ((i : Nat) : Int)))) <| Ad ?_
 cases c_1 : decide ((0 : Int) < ((i : Nat) : Int))
 have k_1 := of_decide_eq_false c_1
 refine Cf <| Awp.skip <| Rg <| Aq (AV.s s') <| Aq ((slA 1 AV.s) xs) <| Aq (Ai i) <| Ap (AV.pt (AV.s x1).cells) (g_idx (k := 1) (nl := false) (e := 9) (kk := .i64) (A := AV.s) (xs := xs) (i := i) kr kr kr ⟨by kernel_rfl, by decide⟩ hx1) <| Aq (AV.s x1) <| Ap (AV.s (s' ++ x1)) (g_sadd (a := s') (b := x1) kr kr sd) <| Aq (AV.s (s' ++ x1)) <| Ad <| Rg <| Aq (Ai i) <| Ap (Ai (i + 1)) (g_addN (i := i) (m := 1) kr kr sd) <| Aq (Ai (i + 1)) <| Ad ?_
 try simp only [c_1, sbt] at hE1
 refine ⟨((s' ++ x1), i + 1), od, ⟨od, by (try dsimp only) <;> (first | omega | (simp only [ByteArray.size_append]; omega)), hE1⟩, ?_⟩
 exact ⟨[], ⟨by decide, rfl, FitsObjs.nil, (Ee (Ee (Ee (Ee EntE.nil))))⟩, keep0⟩
 have k_1 := of_decide_eq_true c_1
 refine Ct <| Rg <| Aq (AV.s s') <| Aq (AV.s sign) <| Ap (AV.s (s' ++ sign)) (g_sadd (a := s') (b := sign) kr kr sd) <| Aq (AV.s (s' ++ sign)) <| Ad <| Rg <| Aq (AV.s (s' ++ sign)) <| Aq ((slA 1 AV.s) xs) <| Aq (Ai i) <| Ap (AV.pt (AV.s x1).cells) (g_idx (k := 1) (nl := false) (e := 9) (kk := .i64) (A := AV.s) (xs := xs) (i := i) kr kr kr ⟨by kernel_rfl, by decide⟩ hx1) <| Aq (AV.s x1) <| Ap (AV.s ((s' ++ sign) ++ x1)) (g_sadd (a := (s' ++ sign)) (b := x1) kr kr sd) <| Aq (AV.s ((s' ++ sign) ++ x1)) <| Ad <| Rg <| Aq (Ai i) <| Ap (Ai (i + 1)) (g_addN (i := i) (m := 1) kr kr sd) <| Aq (Ai (i + 1)) <| Ad ?_
 try simp only [c_1, sbt] at hE1
 refine ⟨(((s' ++ sign) ++ x1), i + 1), od, ⟨od, by (try dsimp only) <;> (first | omega | (simp only [ByteArray.size_append]; omega)), hE1⟩, ?_⟩
 exact ⟨[], ⟨by decide, rfl, FitsObjs.nil, (Ee (Ee (Ee (Ee EntE.nil))))⟩, keep0⟩
 have hc1 : decide (((i : Nat) : Int) < ((xs.length : Nat) : Int)) = false := decide_eq_false (by omega)
 refine Awp.cond (t := false) (by rw [← hc1] <;> kernel_rfl) (Awp.exit ?_)
 rw [List.drop_eq_nil_of_le (hl1), m_a2.eq_1] at hE1
 subst hE1
 refine Sq <| Rg <| Aq (AV.s s') <| Aq (AV.s s') <| Ad <| Rt ?_
 have hM : m_bm xs sign = s' := by simp only [m_bm, hR1, sbt]
 refine ⟨Or.inr rfl, ?_⟩
 rw [hM]
 exact Ec
theorem w_ref1_split (W : World) (s' : ByteArray) (sign : Int) (hs : s'.size ≤ 1048576) : PureAt Go.Proofs.Tryz.prog W 150 [(AV.s s'), (AV.i .u8 sign)] ((slA 1 AV.s) (m_r s' sign)) [] := by
 refine pure_of_bodyC (fn := Go.Proofs.Tryz.f150) Go.Proofs.Tryz.func150 rfl (en150 W) (ts := [4]) rfl le <| Sq <| Rg <| Aq (AV.sl 1 true []) <| Ad <| Sq <| Rg <| Aq (AV.sl 1 true []) <| Ad <| Sq <| Rg <| Aq (AV.i .i64 (0 : Int)) <| Ad <| Sq <| Sq <| Rg <| Aq (AV.i .i64 (0 : Int)) <| Ad <| Awp.block <| Awp.lim 0 (x := (AV.s s')) kr fun hlm12 => ?_
 have hB1_2 : s'.size ≤ 281474976710656 := lim_s hlm12
 obtain ⟨R1, hR1⟩ : ∃ R, m_ak s' sign (s'.size + 1 - 0 + 1) [] 0 0 = R := ⟨_, rfl⟩
 refine Awp.loopT (fun ((kf1, (out, from', i)) : Nat × ((List ByteArray) × Nat × Nat)) => [(0, (AV.s s')), (1, (AV.i .u8 sign)), (5, (accV 0 1 AV.s out)), (6, (Ai from')), (7, (Ai i))]) (fun ((kf1, (out, from', i)) : Nat × ((List ByteArray) × Nat × Nat)) => ⟨1, [(0, accO 9 1 AV.s out)]⟩) (fun ((kf1, (out, from', i)) : Nat × ((List ByteArray) × Nat × Nat)) => s'.size + 1 - i < kf1 ∧ from' ≤ i ∧ i ≤ s'.size + 1 ∧ out.length ≤ i ∧ m_ak s' sign kf1 out from' i = R1) (fun ((kf1, (out, from', i)) : Nat × ((List ByteArray) × Nat × Nat)) => kf1) (s'.size + 1 - 0 + 1, ([], 0, 0)) ?_ ?_ ?_
 exact ⟨[1000000], ⟨by decide, rfl, (FitsObjs.cons rfl FitsObjs.nil), (Ee (Ee (Ee (Ee (Ee EntE.nil)))))⟩, keep0⟩
 exact ⟨od, sdd, sdd, sdd, hR1⟩
 rintro ⟨kf1, out, from', i⟩ ⟨hi1, hf, hi2, hl, hE1⟩
 try dsimp only
 rcases kf1 with _ | kf1
 exact absurd hi1 (Nat.not_lt_zero _)
 rw [m_ak.eq_2] at hE1
 refine Sq <| Sq <| Rg <| Aq (Ai i) <| Aq (AV.s s') <| Aq (Ai s'.size) <| Aq (AV.b (decide (((i : Nat) : Int) ≤ ((s'.size : Nat) : Int)))) <| Ad ?_
 cases c_1 : decide (((i : Nat) : Int) ≤ ((s'.size : Nat) : Int))
 have k_1 := of_decide_eq_false c_1
 refine Cf <| Awp.exit ?_
 try simp only [c_1, sbt] at hE1
 subst hE1
 refine Sq <| Rg <| Aq (accV 0 1 AV.s out) <| Aq (accV 0 1 AV.s out) <| Ad <| Rt ?_
 have hM : m_r s' sign = out := by simp only [m_r, hR1, sbt]
 refine ⟨Or.inr rfl, ?_⟩
 rw [hM]
 exact Ent.cast (x' := (accV 0 1 AV.s out)) (y' := ((slA 1 AV.s) out)) kr kr (Ent.cast (x' := (accV 0 1 AV.s out)) (y' := slA 1 AV.s out) kr kr (ent_acc (fun _ => rfl) (by decide) (by decide) (e := 9) (k := 1) rfl sd))
 have k_1 := of_decide_eq_true c_1
 refine Ct <| Awp.skip <| Sq <| Awp.block ?_
 refine Awp.cut [(0, (AV.s s')), (1, (AV.i .u8 sign)), (5, (accV 0 1 AV.s out)), (6, (Ai from')), (7, (Ai i)), (24, (AV.b (decide (((i : Nat) : Int) = ((s'.size : Nat) : Int)) || decide (((s'.data.getD i 0).toNat : Int) = sign))))] ⟨1, [(0, accO 9 1 AV.s out)]⟩ ?_ ?_
 refine Rg <| Aq (Ai i) <| Aq (AV.s s') <| Aq (Ai s'.size) <| Aq (AV.b (decide (((i : Nat) : Int) = ((s'.size : Nat) : Int)))) <| Aq (AV.b (decide (((i : Nat) : Int) = ((s'.size : Nat) : Int)))) ?_
 cases c_2 : decide (((i : Nat) : Int) = ((s'.size : Nat) : Int))
 have k_2 := of_decide_eq_false c_2
 refine Ay <| Aq (AV.s s') <| Ay <| Aq (Ai i) <| Ay <| Ap (AV.i .u8 ((s'.data.getD i 0).toNat : Int)) (g_str (kk := .i64) (s := s') (i := i) (b := (s'.data.getD i 0)) kr kr kr (byteD_some sd)) <| Ay <| Aq (AV.i .u8 sign) <| Ay <| Aq (AV.b (decide (((s'.data.getD i 0).toNat : Int) = sign))) <| Aq (AV.b (decide (((s'.data.getD i 0).toNat : Int) = sign))) <| Ad ?_
 exact ⟨[0], ⟨by decide, rfl, (FitsObjs.cons (obj_acc (fun _ => rfl) (e := 9) (k := 1) (A := AV.s) (xs := out) rfl rfl) FitsObjs.nil), (Ee (Ee (EntE.cons (ent_keepA (by decide)) (Ee (Ee (Ee EntE.nil))))))⟩, keep0⟩
 have k_2 := of_decide_eq_true c_2
 refine An <| An <| An <| An <| An <| Aq (AV.b true) <| Ad ?_
 exact ⟨[0], ⟨by decide, rfl, (FitsObjs.cons (obj_acc (fun _ => rfl) (e := 9) (k := 1) (A := AV.s) (xs := out) rfl rfl) FitsObjs.nil), (Ee (Ee (EntE.cons (ent_keepA (by decide)) (Ee (Ee (Ee EntE.nil))))))⟩, keep0⟩
 cases c_3 : (decide (((i : Nat) : Int) = ((s'.size : Nat) : Int)) || decide (((s'.data.getD i 0).toNat : Int) = sign))
 refine Cf <| Awp.skip <| Rg <| Aq (Ai i) <| Ap (Ai (i + 1)) (g_addN (i := i) (m := 1) kr kr sd) <| Aq (Ai (i + 1)) <| Ad ?_
 try simp only [c_1, c_3, sbt] at hE1
 refine ⟨(kf1, (out, from', i + 1)), od, ⟨sdd, sdd, sdd, sdd, hE1⟩, ?_⟩
 exact ⟨[0], ⟨by decide, rfl, (FitsObjs.cons (obj_acc (fun _ => rfl) (e := 9) (k := 1) (A := AV.s) (xs := out) rfl rfl) FitsObjs.nil), (Ee (Ee (EntE.cons (ent_keepA (by decide)) (Ee (Ee EntE.nil)))))⟩, keep0⟩
 refine Ct <| Sq <| Rg <| Aq (accV 0 1 AV.s out) <| Aq (AV.s s') <| Aq (Ai from') <| Aq (Ai i) <| Ap (AV.s (s'.extract from' i)) (g_sub (s := s') (l := (some ((from' : Nat) : Int))) (g := (some ((i : Nat) : Int))) (a := from') (b := i) kr kr kr kr rfl rfl sd sd) <| Nn (AV.own 1 0 1) ⟨9, 1, [(s'.extract from' i)].map AV.s⟩ <| AOps.se (x := (AV.own 2 0 ((out ++ [(s'.extract from' i)]).length))) (h' := ⟨3, [(2, some ⟨9, 1, (out ++ [(s'.extract from' i)]).map AV.s⟩), (1, some ⟨9, 1, [(s'.extract from' i)].map AV.s⟩), (0, none)]⟩) (g_app (e := 9) (X := (AV.own 1 0 1)) (A := AV.s) (i := tI_9) (p := 0) (xs := out) (ys := [(s'.extract from' i)]) kr kr kr (hx := kr) kr (by simp) ⟨by decide, by kernel_rfl⟩ rfl (by intro q; first | (subst q; rfl) | (rw [q]; rfl) | (simp only [q]; rfl)) (by show _ * 16 ≤ 140737488355328; first | omega | (simp only [List.length_append, List.length_cons, List.length_nil, List.length_set, List.length_replicate]; omega) | (simp; omega)) sd) le <| Aq (AV.own 2 0 ((out ++ [(s'.extract from' i)]).length)) <| Ad <| Rg <| Aq (Ai i) <| Ap (Ai (i + 1)) (g_addN (i := i) (m := 1) kr kr sd) <| Aq (Ai (i + 1)) <| Ad <| Rg <| Aq (Ai i) <| Ap (Ai (i + 1)) (g_addN (i := i) (m := 1) kr kr sd) <| Aq (Ai (i + 1)) <| Ad ?_
 try simp only [c_1, c_3, sbt] at hE1
 refine ⟨(kf1, ((out ++ [(s'.extract from' i)]), i + 1, i + 1)), od, ⟨sdd, sdd, sdd, sdd, hE1⟩, ?_⟩
 exact ⟨[2], ⟨by decide, rfl, (FitsObjs.cons (obj_acc' (fun _ => rfl) (e := 9) (k := 1) (A := AV.s) (xs := (out ++ [(s'.extract from' i)])) (by simp) rfl rfl) FitsObjs.nil), (Ee (Ee (EntE.cons (ent_keep (A := AV.s) (xs := (out ++ [(s'.extract from' i)])) (by decide) (by simp) rfl) (Ee (Ee EntE.nil)))))⟩, keep0⟩
theorem w_ref1_CleanPath (W : World) (s' : ByteArray) : PureAt Go.Proofs.Tryz.prog W 133 [(AV.s s')] (AV.tup [(AV.s ((m_k s').1)), (AV.i .i64 ((m_k s').2))]) [] := by
 refine pure_of_bodyC (fn := Go.Proofs.Tryz.f133) Go.Proofs.Tryz.func133 rfl (en133 W) (ts := [2, 3]) rfl le <| Sq <| Rg <| Aq (AV.s (⟨#[]⟩ : ByteArray)) <| Aq (AV.i .i64 (0 : Int)) <| Ad <| Sq <| Sq <| Rg <| Aq (AV.s s') <| AOps.sc0 (vs := [(AV.s s')]) (r0 := (AV.b (m_y s'))) kr kr (w_ref1_NameMay W s') kr le <| Aq (AV.b (!(m_y s'))) <| Aq (AV.b (!(m_y s'))) ?_
 cases c_1 : (!(m_y s'))
 have q_1 := ref1_NameMay_sz c_1
 refine Ay <| Aq (AV.s s') <| Ay <| Ap (AV.i .u8 ((s'.data.getD 0 0).toNat : Int)) (g_str (kk := .i64) (s := s') (i := 0) (b := (s'.data.getD 0 0)) kr kr kr (byteD_some sd)) <| Ay <| Aq (AV.b (decide (((s'.data.getD 0 0).toNat : Int) = (47 : Int)))) <| Aq (AV.b (decide (((s'.data.getD 0 0).toNat : Int) = (47 : Int)))) <| Ad ?_
 cases c_2 : decide (((s'.data.getD 0 0).toNat : Int) = (47 : Int))
 have k_2 := of_decide_eq_false c_2
 refine Cf <| Awp.skip <| Sq <| Rg <| Aq (AV.s s') <| AOps.sc0 (vs := [(AV.s s'), (AV.i .u8 (47 : Int))]) (r0 := ((slA 1 AV.s) (m_r s' (47 : Int)))) kr kr (w_ref1_split W s' (47 : Int) (by omega)) kr le <| Aq ((slA 1 AV.s) (m_r s' (47 : Int))) <| Ad <| Sq <| Rg <| Aq (AV.sl 1 true []) <| Ad <| Sq <| Sq <| Rg <| Aq (AV.i .i64 (0 : Int)) <| Ad <| Awp.block <| Awp.lim 16 (x := ((slA 1 AV.s) (m_r s' (47 : Int)))) kr fun hlm1 => ?_
 have hB1 : (m_r s' (47 : Int)).length ≤ 281474976710656 := lim_slA hlm1
 obtain ⟨R1, hR1⟩ : ∃ R, m_aa (m_r s' (47 : Int)) 0 [] = R := ⟨_, rfl⟩
 refine Awp.loopT (fun ((b_kept, kept, i) : Bool × (List ByteArray) × Nat) => [(4, ((slA 1 AV.s) (m_r s' (47 : Int)))), (5, (accW 0 1 AV.s b_kept kept)), (6, (Ai i))]) (fun ((b_kept, kept, i) : Bool × (List ByteArray) × Nat) => ⟨1, [(0, accWO 9 1 AV.s b_kept kept)]⟩) (fun ((b_kept, kept, i) : Bool × (List ByteArray) × Nat) => i ≤ (m_r s' (47 : Int)).length ∧ (b_kept = false → kept = []) ∧ szsum kept 1 + szsum ((m_r s' (47 : Int)).drop i) 1 ≤ szsum (m_r s' (47 : Int)) 1 ∧ kept.length ≤ i ∧ m_aa ((m_r s' (47 : Int)).drop i) i kept = R1) (fun ((b_kept, kept, i) : Bool × (List ByteArray) × Nat) => (m_r s' (47 : Int)).length - i) (false, [], 0) ?_ ?_ ?_
 exact ⟨[1000000], ⟨by decide, rfl, (FitsObjs.cons rfl FitsObjs.nil), (Ee (Ee (Ee EntE.nil)))⟩, keep0⟩
 exact ⟨od, (by simp), by (try dsimp only) <;> (simp only [szsum, Nat.zero_add]; exact Nat.le_refl _), by (try dsimp only) <;> (simp), hR1⟩
 rintro ⟨b_kept, kept, i⟩ ⟨hi1, hn_kept, hk, hl, hE1⟩
 try dsimp only
 cases b_kept
 have hz_kept := hn_kept rfl
 subst hz_kept
 try dsimp only
 refine Sq <| Sq <| Rg <| Aq (Ai i) <| Aq ((slA 1 AV.s) (m_r s' (47 : Int))) <| Ap (AV.i .i64 (((m_r s' (47 : Int)).length : Nat) : Int)) (g_len (k := 1) (nl := false) (e := 9) (A := AV.s) (xs := (m_r s' (47 : Int))) kr kr) <| Aq (AV.b (decide (((i : Nat) : Int) < (((m_r s' (47 : Int)).length : Nat) : Int)))) <| Ad ?_
 rcases Nat.lt_or_ge i (m_r s' (47 : Int)).length with hl1 | hl1
 have hc1 : decide (((i : Nat) : Int) < (((m_r s' (47 : Int)).length : Nat) : Int)) = true := decide_eq_true (by omega)
 refine Awp.cond (t := true) (by rw [← hc1] <;> kernel_rfl) (Awp.skip ?_)
 obtain ⟨x1, hx1⟩ : ∃ x, (m_r s' (47 : Int))[i]? = some x := ⟨_, List.getElem?_eq_getElem hl1⟩
 rw [drop_at hx1, m_aa.eq_2] at hE1
 have hz1 := split_sz s' 47
 have hz2 := szsum_len []
 rw [drop_at hx1] at hk
 simp only [szsum] at hk
 refine Sq <| Awp.block <| Sq <| Rg <| Aq ((slA 1 AV.s) (m_r s' (47 : Int))) <| Aq (Ai i) <| Ap (AV.pt (AV.s x1).cells) (g_idx (k := 1) (nl := false) (e := 9) (kk := .i64) (A := AV.s) (xs := (m_r s' (47 : Int))) (i := i) kr kr kr ⟨by kernel_rfl, by decide⟩ hx1) <| Aq (AV.s x1) <| Ad <| Awp.block <| Sq <| Sq <| Rg <| Aq (AV.b (decide (x1 = (⟨#[]⟩ : ByteArray)))) <| Aq (AV.b (decide (x1 = (⟨#[]⟩ : ByteArray)))) <| Ad ?_
 cases c_7 : decide (x1 = (⟨#[]⟩ : ByteArray))
 refine Cf <| Rg <| Aq (AV.b (decide (x1 = (⟨#[46]⟩ : ByteArray)))) <| Aq (AV.b (decide (x1 = (⟨#[46]⟩ : ByteArray)))) <| Ad ?_
 cases c_8 : decide (x1 = (⟨#[46]⟩ : ByteArray))
 refine Cf <| Sq <| Rg <| Aq (AV.b (decide (x1 = (⟨#[46, 46]⟩ : ByteArray)))) <| Aq (AV.b (decide (x1 = (⟨#[46, 46]⟩ : ByteArray)))) <| Ad ?_
 cases c_9 : decide (x1 = (⟨#[46, 46]⟩ : ByteArray))
 refine Cf <| Rg <| Aq (AV.sl 1 true []) <| Aq ((slA 1 AV.s) (m_r s' (47 : Int))) <| Aq (Ai i) <| Ap (AV.pt (AV.s x1).cells) (g_idx (k := 1) (nl := false) (e := 9) (kk := .i64) (A := AV.s) (xs := (m_r s' (47 : Int))) (i := i) kr kr kr ⟨by kernel_rfl, by decide⟩ hx1) <| Aq (AV.s x1) <| Nn (AV.own 1 0 1) ⟨9, 1, [x1].map AV.s⟩ <| AOps.se (x := (AV.own 2 0 1)) (h' := ⟨3, [(2, some ⟨9, 1, [x1].map AV.s⟩), (1, some ⟨9, 1, [x1].map AV.s⟩), (0, none)]⟩) kr le <| Aq (AV.own 2 0 1) <| Ad <| Rg <| Aq (Ai i) <| Ap (Ai (i + 1)) (g_addN (i := i) (m := 1) kr kr sd) <| Aq (Ai (i + 1)) <| Ad ?_
 try simp only [c_7, c_8, c_9, sbt] at hE1
 refine ⟨(true, [x1], i + 1), od, ⟨od, (by simp), by (try dsimp only) <;> (first | omega | (simp only [szsum_append, szsum, Nat.add_zero]; omega) | (have := szsum_take kept (kept.length - 1) 1; omega)), by (try dsimp only) <;> (first | omega | (simp only [List.length_append, List.length_cons, List.length_nil, List.length_take]; omega)), hE1⟩, ?_⟩
 exact ⟨[2], ⟨by decide, rfl, (FitsObjs.cons (obj_row (fun _ => rfl) (e := 9) (k := 1) (A := AV.s) (xs := [x1]) rfl rfl) FitsObjs.nil), (Ee (EntE.cons (ent_keepO (by decide) (by simp)) (Ee EntE.nil)))⟩, keep0⟩
 refine Ct <| Sq <| Sq <| Rg <| Aq (AV.sl 1 true []) <| Aq (AV.i .i64 (0 : Int)) <| Aq (AV.b true) <| Ad <| Ct <| Sq <| Rg <| Aq (AV.s (⟨#[]⟩ : ByteArray)) <| Aq (AV.i .i64 (200 : Int)) <| Ad <| Rt ?_
 try simp only [c_7, c_8, c_9, sbt] at hE1
 subst hE1
 have hM : m_k s' = ((⟨#[]⟩ : ByteArray), (200 : Int)) := by simp only [m_k, c_1, c_2, hR1, sbt]
 refine ⟨Or.inr rfl, ?_⟩
 rw [hM]
 exact Ent.cast (x' := (AV.tup [(AV.s (⟨#[]⟩ : ByteArray)), (AV.i .i64 (200 : Int))])) (y' := (AV.tup [(AV.s (((⟨#[]⟩ : ByteArray), (200 : Int)).1)), (AV.i .i64 (((⟨#[]⟩ : ByteArray), (200 : Int)).2))])) kr kr (Ent.tup ⟨Ec, ⟨Ec, trivial⟩⟩ kr)
 refine Ct <| Awp.skip <| Rg <| Aq (Ai i) <| Ap (Ai (i + 1)) (g_addN (i := i) (m := 1) kr kr sd) <| Aq (Ai (i + 1)) <| Ad ?_
 try simp only [c_7, c_8, sbt] at hE1
 refine ⟨(false, [], i + 1), od, ⟨od, (by simp), by (try dsimp only) <;> (first | omega | (simp only [szsum_append, szsum, Nat.add_zero]; omega) | (have := szsum_take kept (kept.length - 1) 1; omega)), by (try dsimp only) <;> (first | omega | (simp only [List.length_append, List.length_cons, List.length_nil, List.length_take]; omega)), hE1⟩, ?_⟩
 exact ⟨[1000000], ⟨by decide, rfl, (FitsObjs.cons rfl FitsObjs.nil), (Ee (Ee (Ee EntE.nil)))⟩, keep0⟩
 refine Ct <| Awp.skip <| Ct <| Awp.skip <| Rg <| Aq (Ai i) <| Ap (Ai (i + 1)) (g_addN (i := i) (m := 1) kr kr sd) <| Aq (Ai (i + 1)) <| Ad ?_
 try simp only [c_7, sbt] at hE1
 refine ⟨(false, [], i + 1), od, ⟨od, (by simp), by (try dsimp only) <;> (first | omega | (simp only [szsum_append, szsum, Nat.add_zero]; omega) | (have := szsum_take kept (kept.length - 1) 1; omega)), by (try dsimp only) <;> (first | omega | (simp only [List.length_append, List.length_cons, List.length_nil, List.length_take]; omega)), hE1⟩, ?_⟩
 exact ⟨[1000000], ⟨by decide, rfl, (FitsObjs.cons rfl FitsObjs.nil), (Ee (Ee (Ee EntE.nil)))⟩, keep0⟩
 have hc1 : decide (((i : Nat) : Int) < (((m_r s' (47 : Int)).length : Nat) : Int)) = false := decide_eq_false (by omega)
 refine Awp.cond (t := false) (by rw [← hc1] <;> kernel_rfl) (Awp.exit ?_)
 rw [List.drop_eq_nil_of_le (hl1), m_aa.eq_1] at hE1
 subst hE1
 refine Sq <| Sq <| Rg <| Aq (AV.sl 1 true []) <| Aq (AV.i .i64 (0 : Int)) <| Aq (AV.b true) <| Ad <| Ct <| Sq <| Rg <| Aq (AV.s (⟨#[]⟩ : ByteArray)) <| Aq (AV.i .i64 (200 : Int)) <| Ad <| Rt ?_
 have hM : m_k s' = ((⟨#[]⟩ : ByteArray), (200 : Int)) := by simp only [m_k, c_1, c_2, hR1, sbt]
 refine ⟨Or.inr rfl, ?_⟩
 rw [hM]
 exact Ent.cast (x' := (AV.tup [(AV.s (⟨#[]⟩ : ByteArray)), (AV.i .i64 (200 : Int))])) (y' := (AV.tup [(AV.s (((⟨#[]⟩ : ByteArray), (200 : Int)).1)), (AV.i .i64 (((⟨#[]⟩ : ByteArray), (200 : Int)).2))])) kr kr (Ent.tup ⟨Ec, ⟨Ec, trivial⟩⟩ kr)
 try dsimp only
 refine Sq <| Sq <| Rg <| Aq (Ai i) <| Aq ((slA 1 AV.s) (m_r s' (47 : Int))) <| Ap (AV.i .i64 (((m_r s' (47 : Int)).length : Nat) : Int)) (g_len (k := 1) (nl := false) (e := 9) (A := AV.s) (xs := (m_r s' (47 : Int))) kr kr) <| Aq (AV.b (decide (((i : Nat) : Int) < (((m_r s' (47 : Int)).length : Nat) : Int)))) <| Ad ?_
 rcases Nat.lt_or_ge i (m_r s' (47 : Int)).length with hl1 | hl1
 have hc1 : decide (((i : Nat) : Int) < (((m_r s' (47 : Int)).length : Nat) : Int)) = true := decide_eq_true (by omega)
 refine Awp.cond (t := true) (by rw [← hc1] <;> kernel_rfl) (Awp.skip ?_)
 obtain ⟨x1, hx1⟩ : ∃ x, (m_r s' (47 : Int))[i]? = some x := ⟨_, List.getElem?_eq_getElem hl1⟩
 rw [drop_at hx1, m_aa.eq_2] at hE1
 have hz1 := split_sz s' 47
 have hz2 := szsum_len kept
 rw [drop_at hx1] at hk
 simp only [szsum] at hk
 refine Sq <| Awp.block <| Sq <| Rg <| Aq ((slA 1 AV.s) (m_r s' (47 : Int))) <| Aq (Ai i) <| Ap (AV.pt (AV.s x1).cells) (g_idx (k := 1) (nl := false) (e := 9) (kk := .i64) (A := AV.s) (xs := (m_r s' (47 : Int))) (i := i) kr kr kr ⟨by kernel_rfl, by decide⟩ hx1) <| Aq (AV.s x1) <| Ad <| Awp.block <| Sq <| Sq <| Rg <| Aq (AV.b (decide (x1 = (⟨#[]⟩ : ByteArray)))) <| Aq (AV.b (decide (x1 = (⟨#[]⟩ : ByteArray)))) <| Ad ?_
 cases c_10 : decide (x1 = (⟨#[]⟩ : ByteArray))
 refine Cf <| Rg <| Aq (AV.b (decide (x1 = (⟨#[46]⟩ : ByteArray)))) <| Aq (AV.b (decide (x1 = (⟨#[46]⟩ : ByteArray)))) <| Ad ?_
 cases c_11 : decide (x1 = (⟨#[46]⟩ : ByteArray))
 refine Cf <| Sq <| Rg <| Aq (AV.b (decide (x1 = (⟨#[46, 46]⟩ : ByteArray)))) <| Aq (AV.b (decide (x1 = (⟨#[46, 46]⟩ : ByteArray)))) <| Ad ?_
 cases c_12 : decide (x1 = (⟨#[46, 46]⟩ : ByteArray))
 refine Cf <| Rg <| Aq (AV.own 0 0 kept.length) <| Aq ((slA 1 AV.s) (m_r s' (47 : Int))) <| Aq (Ai i) <| Ap (AV.pt (AV.s x1).cells) (g_idx (k := 1) (nl := false) (e := 9) (kk := .i64) (A := AV.s) (xs := (m_r s' (47 : Int))) (i := i) kr kr kr ⟨by kernel_rfl, by decide⟩ hx1) <| Aq (AV.s x1) <| Nn (AV.own 1 0 1) ⟨9, 1, [x1].map AV.s⟩ <| AOps.se (x := (AV.own 2 0 ((kept ++ [x1]).length))) (h' := ⟨3, [(2, some ⟨9, 1, (kept ++ [x1]).map AV.s⟩), (1, some ⟨9, 1, [x1].map AV.s⟩), (0, none)]⟩) (g_appR (len := kept.length) (e := 9) (X := (AV.own 1 0 1)) (A := AV.s) (i := tI_9) (p := 0) (xs := kept) (ys := [x1]) kr kr kr (hx := kr) kr ⟨by decide, by kernel_rfl⟩ rfl rfl (by show _ * 16 ≤ 140737488355328; first | omega | (simp only [List.length_append, List.length_cons, List.length_nil, List.length_set, List.length_replicate]; omega) | (simp; omega)) sd) le <| Aq (AV.own 2 0 ((kept ++ [x1]).length)) <| Ad <| Rg <| Aq (Ai i) <| Ap (Ai (i + 1)) (g_addN (i := i) (m := 1) kr kr sd) <| Aq (Ai (i + 1)) <| Ad ?_
 try simp only [c_10, c_11, c_12, sbt] at hE1
 refine ⟨(true, (kept ++ [x1]), i + 1), od, ⟨od, (by simp), by (try dsimp only) <;> (first | omega | (simp only [szsum_append, szsum, Nat.add_zero]; omega) | (have := szsum_take kept (kept.length - 1) 1; omega)), by (try dsimp only) <;> (first | omega | (simp only [List.length_append, List.length_cons, List.length_nil, List.length_take]; omega)), hE1⟩, ?_⟩
 exact ⟨[2], ⟨by decide, rfl, (FitsObjs.cons (obj_row (fun _ => rfl) (e := 9) (k := 1) (A := AV.s) (xs := (kept ++ [x1])) rfl rfl) FitsObjs.nil), (Ee (EntE.cons (ent_keepO (by decide) rfl) (Ee EntE.nil)))⟩, keep0⟩
 refine Ct <| Sq <| Sq <| Rg <| Aq (AV.own 0 0 kept.length) <| Aq (Ai kept.length) <| Aq (AV.b (decide (((kept.length : Nat) : Int) = (0 : Int)))) <| Ad ?_
 cases c_13 : decide (((kept.length : Nat) : Int) = (0 : Int))
 have k_13 := of_decide_eq_false c_13
 refine Cf <| Awp.skip <| Rg <| Aq (AV.own 0 0 kept.length) <| Aq (AV.own 0 0 kept.length) <| Aq (Ai kept.length) <| Ap (AV.i .i64 ((kept.length - 1 : Nat) : Int)) (g_subN (i := kept.length) (m := 1) kr kr sd sd) <| Ap (AV.own 0 0 (kept.length - 1)) (g_cutO (e := 9) (id := 0) (len := kept.length) (ob := ⟨9, 1, kept.map AV.s⟩) (l := none) (g := (some ((kept.length - 1 : Nat) : Int))) (b := kept.length - 1) kr kr kr kr kr kr rfl rfl (by simp only [List.length_map, List.length_append, List.length_cons, List.length_nil]; omega)) <| Aq (AV.own 0 0 (kept.length - 1)) <| Ad <| Rg <| Aq (Ai i) <| Ap (Ai (i + 1)) (g_addN (i := i) (m := 1) kr kr sd) <| Aq (Ai (i + 1)) <| Ad ?_
 try simp only [c_10, c_11, c_12, c_13, sbt] at hE1
 refine ⟨(true, (kept.take (kept.length - 1)), i + 1), od, ⟨od, (by simp), by (try dsimp only) <;> (first | omega | (simp only [szsum_append, szsum, Nat.add_zero]; omega) | (have := szsum_take kept (kept.length - 1) 1; omega)), by (try dsimp only) <;> (first | omega | (simp only [List.length_append, List.length_cons, List.length_nil, List.length_take]; omega)), hE1⟩, ?_⟩
 exact ⟨[0], ⟨by decide, rfl, (FitsObjs.consW (obj_pre (fun _ => rfl) (fun _ => rfl) (e := 9) (k := 1) (A := AV.s) (xs := kept) (ys := (kept.take (kept.length - 1))) (take_pre _ _) rfl rfl) FitsObjs.nil), (Ee (EntE.cons (ent_keepO (by decide) (by simp)) (Ee EntE.nil)))⟩, keep0⟩
 have k_13 := of_decide_eq_true c_13
 refine Ct <| Sq <| Rg <| Aq (AV.s (⟨#[]⟩ : ByteArray)) <| Aq (AV.i .i64 (200 : Int)) <| Ad <| Rt ?_
 try simp only [c_10, c_11, c_12, c_13, sbt] at hE1
 subst hE1
 have hM : m_k s' = ((⟨#[]⟩ : ByteArray), (200 : Int)) := by simp only [m_k, c_1, c_2, hR1, sbt]
 refine ⟨Or.inr rfl, ?_⟩
 rw [hM]
 exact Ent.cast (x' := (AV.tup [(AV.s (⟨#[]⟩ : ByteArray)), (AV.i .i64 (200 : Int))])) (y' := (AV.tup [(AV.s (((⟨#[]⟩ : ByteArray), (200 : Int)).1)), (AV.i .i64 (((⟨#[]⟩ : ByteArray), (200 : Int)).2))])) kr kr (Ent.tup ⟨Ec, ⟨Ec, trivial⟩⟩ kr)
 refine Ct <| Awp.skip <| Rg <| Aq (Ai i) <| Ap (Ai (i + 1)) (g_addN (i := i) (m := 1) kr kr sd) <| Aq (Ai (i + 1)) <| Ad ?_
 try simp only [c_10, c_11, sbt] at hE1
 refine ⟨(true, kept, i + 1), od, ⟨od, (by simp), by (try dsimp only) <;> (first | omega | (simp only [szsum_append, szsum, Nat.add_zero]; omega) | (have := szsum_take kept (kept.length - 1) 1; omega)), by (try dsimp only) <;> (first | omega | (simp only [List.length_append, List.length_cons, List.length_nil, List.length_take]; omega)), hE1⟩, ?_⟩
 exact ⟨[0], ⟨by decide, rfl, (FitsObjs.cons (obj_row (fun _ => rfl) (e := 9) (k := 1) (A := AV.s) (xs := kept) rfl rfl) FitsObjs.nil), (Ee (EntE.cons (ent_keepO (by decide) rfl) (Ee EntE.nil)))⟩, keep0⟩
 refine Ct <| Awp.skip <| Ct <| Awp.skip <| Rg <| Aq (Ai i) <| Ap (Ai (i + 1)) (g_addN (i := i) (m := 1) kr kr sd) <| Aq (Ai (i + 1)) <| Ad ?_
 try simp only [c_10, sbt] at hE1
 refine ⟨(true, kept, i + 1), od, ⟨od, (by simp), by (try dsimp only) <;> (first | omega | (simp only [szsum_append, szsum, Nat.add_zero]; omega) | (have := szsum_take kept (kept.length - 1) 1; omega)), by (try dsimp only) <;> (first | omega | (simp only [List.length_append, List.length_cons, List.length_nil, List.length_take]; omega)), hE1⟩, ?_⟩
 exact ⟨[0], ⟨by decide, rfl, (FitsObjs.cons (obj_row (fun _ => rfl) (e := 9) (k := 1) (A := AV.s) (xs := kept) rfl rfl) FitsObjs.nil), (Ee (EntE.cons (ent_keepO (by decide) rfl) (Ee EntE.nil)))⟩, keep0⟩
 have hc1 : decide (((i : Nat) : Int) < (((m_r s' (47 : Int)).length : Nat) : Int)) = false := decide_eq_false (by omega)
 refine Awp.cond (t := false) (by rw [← hc1] <;> kernel_rfl) (Awp.exit ?_)
 rw [List.drop_eq_nil_of_le (hl1), m_aa.eq_1] at hE1
 subst hE1
 refine Sq <| Sq <| Rg <| Aq (AV.own 0 0 kept.length) <| Aq (Ai kept.length) <| Aq (AV.b (decide (((kept.length : Nat) : Int) = (0 : Int)))) <| Ad ?_
 cases c_14 : decide (((kept.length : Nat) : Int) = (0 : Int))
 have k_14 := of_decide_eq_false c_14
 refine Cf <| Awp.skip <| Sq <| Rg <| Aq (AV.own 0 0 kept.length) <| AOps.sfw (vs := [(AV.own 0 0 kept.length), (AV.s (⟨#[47]⟩ : ByteArray))]) (ss := [((slA 1 AV.s) kept), (AV.s (⟨#[47]⟩ : ByteArray))]) (r0 := (AV.s (m_bm kept (⟨#[47]⟩ : ByteArray)))) kr (show SnapW _ _ _ from ⟨(EntK.w (EntK.cast (x' := (AV.own 0 0 kept.length)) kr kr (EntK.row (fun _ => rfl) (A := AV.s) (id := 0) (e := 9) (k := 1) (xs := kept) rfl rfl rfl sd))), ⟨(SnapW.e kr), trivial⟩⟩) (w_ref1_Join W kept (⟨#[47]⟩ : ByteArray) (split_join (by omega) hk)) rfl kr le <| Aq (AV.s (m_bm kept (⟨#[47]⟩ : ByteArray))) <| Aq (AV.i .i64 (0 : Int)) <| Ad <| Rt ?_
 have hM : m_k s' = ((m_bm kept (⟨#[47]⟩ : ByteArray)), (0 : Int)) := by simp only [m_k, c_1, c_2, hR1, c_14, sbt]
 refine ⟨Or.inr rfl, ?_⟩
 rw [hM]
 exact Ent.cast (x' := (AV.tup [(AV.s (m_bm kept (⟨#[47]⟩ : ByteArray))), (AV.i .i64 (0 : Int))])) (y' := (AV.tup [(AV.s (((m_bm kept (⟨#[47]⟩ : ByteArray)), (0 : Int)).1)), (AV.i .i64 (((m_bm kept (⟨#[47]⟩ : ByteArray)), (0 : Int)).2))])) kr kr (Ent.tup ⟨Ec, ⟨Ec, trivial⟩⟩ kr)
 have k_14 := of_decide_eq_true c_14
 refine Ct <| Sq <| Rg <| Aq (AV.s (⟨#[]⟩ : ByteArray)) <| Aq (AV.i .i64 (200 : Int)) <| Ad <| Rt ?_
 have hM : m_k s' = ((⟨#[]⟩ : ByteArray), (200 : Int)) := by simp only [m_k, c_1, c_2, hR1, c_14, sbt]
 refine ⟨Or.inr rfl, ?_⟩
 rw [hM]
 exact Ent.cast (x' := (AV.tup [(AV.s (⟨#[]⟩ : ByteArray)), (AV.i .i64 (200 : Int))])) (y' := (AV.tup [(AV.s (((⟨#[]⟩ : ByteArray), (200 : Int)).1)), (AV.i .i64 (((⟨#[]⟩ : ByteArray), (200 : Int)).2))])) kr kr (Ent.tup ⟨Ec, ⟨Ec, trivial⟩⟩ kr)
 have k_2 := of_decide_eq_true c_2
 refine Ct <| Sq <| Rg <| Aq (AV.s (⟨#[]⟩ : ByteArray)) <| Aq (AV.i .i64 (200 : Int)) <| Ad <| Rt ?_
 have hM : m_k s' = ((⟨#[]⟩ : ByteArray), (200 : Int)) := by simp only [m_k, c_1, c_2, sbt]
 refine ⟨Or.inr rfl, ?_⟩
 rw [hM]
 exact Ent.cast (x' := (AV.tup [(AV.s (⟨#[]⟩ : ByteArray)), (AV.i .i64 (200 : Int))])) (y' := (AV.tup [(AV.s (((⟨#[]⟩ : ByteArray), (200 : Int)).1)), (AV.i .i64 (((⟨#[]⟩ : ByteArray), (200 : Int)).2))])) kr kr (Ent.tup ⟨Ec, ⟨Ec, trivial⟩⟩ kr)
 refine An <| An <| An <| Aq (AV.b true) <| Ad <| Ct <| Sq <| Rg <| Aq (AV.s (⟨#[]⟩ : ByteArray)) <| Aq (AV.i .i64 (200 : Int)) <| Ad <| Rt ?_
 have hM : m_k s' = ((⟨#[]⟩ : ByteArray), (200 : Int)) := by simp only [m_k, c_1, sbt]
 refine ⟨Or.inr rfl, ?_⟩
 rw [hM]
 exact Ent.cast (x' := (AV.tup [(AV.s (⟨#[]⟩ : ByteArray)), (AV.i .i64 (200 : Int))])) (y' := (AV.tup [(AV.s (((⟨#[]⟩ : ByteArray), (200 : Int)).1)), (AV.i .i64 (((⟨#[]⟩ : ByteArray), (200 : Int)).2))])) kr kr (Ent.tup ⟨Ec, ⟨Ec, trivial⟩⟩ kr)
theorem w_ref1_PathMay (W : World) (s' : ByteArray) : PureAt Go.Proofs.Tryz.prog W 104 [(AV.s s')] (AV.b (m_a3 s')) [] := by
 refine pure_of_bodyC (fn := Go.Proofs.Tryz.f104) Go.Proofs.Tryz.func104 rfl (en104 W) (ts := [2]) rfl le <| Sq <| Rg <| Aq (AV.b false) <| Ad <| Sq <| Rg <| Aq (AV.s s') <| AOps.sc0 (vs := [(AV.s s')]) (r0 := (AV.tup [(AV.s ((m_k s').1)), (AV.i .i64 ((m_k s').2))])) kr kr (w_ref1_CleanPath W s') kr le <| Aq (AV.tup [(AV.s ((m_k s').1)), (AV.i .i64 ((m_k s').2))]) <| Aq (AV.s ((m_k s').1)) <| Aq (AV.i .i64 ((m_k s').2)) <| Aq (AV.s ((m_k s').1)) <| Aq (AV.i .i64 ((m_k s').2)) <| Ad <| Sq <| Rg <| Aq (AV.i .i64 ((m_k s').2)) <| Aq (AV.b (decide ((m_k s').2 = (0 : Int)))) <| Aq (AV.b (decide ((m_k s').2 = (0 : Int)))) ?_
 cases c_1 : decide ((m_k s').2 = (0 : Int))
 have k_1 := of_decide_eq_false c_1
 refine An <| An <| An <| Aq (AV.b false) <| Aq (AV.b false) <| Ad <| Rt ?_
 have hM : m_a3 s' = false := by simp only [m_a3, c_1, sbt]
 refine ⟨Or.inr rfl, ?_⟩
 rw [hM]
 exact Ec
 have k_1 := of_decide_eq_true c_1
 refine Ay <| Aq (AV.s ((m_k s').1)) <| Ay <| Aq (AV.s s') <| Ay <| Aq (AV.b (decide ((m_k s').1 = s'))) <| Aq (AV.b (decide ((m_k s').1 = s'))) <| Aq (AV.b (decide ((m_k s').1 = s'))) <| Ad <| Rt ?_
 have hM : m_a3 s' = decide ((m_k s').1 = s') := by simp only [m_a3, c_1, sbt]
 refine ⟨Or.inr rfl, ?_⟩
 rw [hM]
 exact Ec
theorem w_ref1_PathsMay (W : World) (xs : List ByteArray) : PureAt Go.Proofs.Tryz.prog W 65 [((slA 1 AV.s) xs)] (AV.b (m_n xs)) [] := by
 refine pure_of_bodyC (fn := Go.Proofs.Tryz.f65) Go.Proofs.Tryz.func65 rfl (en65 W) (ts := [2]) rfl le <| Sq <| Rg <| Aq (AV.b false) <| Ad <| Sq <| Sq <| Rg <| Aq (AV.i .i64 (0 : Int)) <| Ad <| Awp.block <| Awp.lim 0 (x := ((slA 1 AV.s) xs)) kr fun hlm1 => ?_
 have hB1 : xs.length ≤ 281474976710656 := lim_slA hlm1
 obtain ⟨R1, hR1⟩ : ∃ R, m_ay xs 0 = R := ⟨_, rfl⟩
 refine Awp.loopT (fun (i : Nat) => [(0, ((slA 1 AV.s) xs)), (3, (Ai i))]) (fun (i : Nat) => ⟨0, []⟩) (fun (i : Nat) => i ≤ xs.length ∧ m_ay (xs.drop i) i = R1) (fun (i : Nat) => xs.length - i) 0 ?_ ?_ ?_
 exact ⟨[], ⟨by decide, rfl, FitsObjs.nil, (Ee (Ee EntE.nil))⟩, keep0⟩
 exact ⟨od, hR1⟩
 rintro i ⟨hi1, hE1⟩
 try dsimp only
 refine Sq <| Sq <| Rg <| Aq (Ai i) <| Aq ((slA 1 AV.s) xs) <| Ap (Ai xs.length) (g_len (k := 1) (nl := false) (e := 9) (A := AV.s) (xs := xs) kr kr) <| Aq (AV.b (decide (((i : Nat) : Int) < ((xs.length : Nat) : Int)))) <| Ad ?_
 rcases Nat.lt_or_ge i xs.length with hl1 | hl1
 have hc1 : decide (((i : Nat) : Int) < ((xs.length : Nat) : Int)) = true := decide_eq_true (by omega)
 refine Awp.cond (t := true) (by rw [← hc1] <;> kernel_rfl) (Awp.skip ?_)
 obtain ⟨x1, hx1⟩ : ∃ x, xs[i]? = some x := ⟨_, List.getElem?_eq_getElem hl1⟩
 rw [drop_at hx1, m_ay.eq_2] at hE1
 refine Sq <| Awp.block <| Sq <| Rg <| Aq ((slA 1 AV.s) xs) <| Aq (Ai i) <| Ap (AV.pt (AV.s x1).cells) (g_idx (k := 1) (nl := false) (e := 9) (kk := .i64) (A := AV.s) (xs := xs) (i := i) kr kr kr ⟨by kernel_rfl, by decide⟩ hx1) <| Aq (AV.s x1) <| AOps.sc0 (vs := [(AV.s x1)]) (r0 := (AV.b (m_a3 x1))) kr kr (w_ref1_PathMay W x1) kr le <| Aq (AV.b (!(m_a3 x1))) <| Ad ?_
 cases c_1 : (!(m_a3 x1))
 refine Cf <| Awp.skip <| Rg <| Aq (Ai i) <| Ap (Ai (i + 1)) (g_addN (i := i) (m := 1) kr kr sd) <| Aq (Ai (i + 1)) <| Ad ?_
 try simp only [c_1, sbt] at hE1
 refine ⟨i + 1, od, ⟨od, hE1⟩, ?_⟩
 exact ⟨[], ⟨by decide, rfl, FitsObjs.nil, (Ee (Ee EntE.nil))⟩, keep0⟩
 refine Ct <| Sq <| Rg <| Aq (AV.b false) <| Ad <| Rt ?_
 try simp only [c_1, sbt] at hE1
 subst hE1
 have hM : m_n xs = false := by simp only [m_n, hR1, sbt]
 refine ⟨Or.inr rfl, ?_⟩
 rw [hM]
 exact Ec
 have hc1 : decide (((i : Nat) : Int) < ((xs.length : Nat) : Int)) = false := decide_eq_false (by omega)
 refine Awp.cond (t := false) (by rw [← hc1] <;> kernel_rfl) (Awp.exit ?_)
 rw [List.drop_eq_nil_of_le (hl1), m_ay.eq_1] at hE1
 subst hE1
 refine Sq <| Rg <| Aq ((slA 1 AV.s) xs) <| Ap (Ai xs.length) (g_len (k := 1) (nl := false) (e := 9) (A := AV.s) (xs := xs) kr kr) <| Aq (AV.b (decide (((xs.length : Nat) : Int) ≤ (8 : Int)))) <| Aq (AV.b (decide (((xs.length : Nat) : Int) ≤ (8 : Int)))) <| Ad <| Rt ?_
 have hM : m_n xs = decide (((xs.length : Nat) : Int) ≤ (8 : Int)) := by simp only [m_n, hR1, sbt]
 refine ⟨Or.inr rfl, ?_⟩
 rw [hM]
 exact Ec
theorem w_ref1_poolAt (W : World) (ps : List DPool) (name : ByteArray) : PureAt Go.Proofs.Tryz.prog W 63 [((slA 2 DPool.av) ps), (AV.s name)] (AV.i .i64 (m_af ps name)) [] := by
 refine pure_of_bodyC (fn := Go.Proofs.Tryz.f63) Go.Proofs.Tryz.func63 rfl (en63 W) (ts := [4]) rfl le <| Sq <| Rg <| Aq (AV.i .i64 (0 : Int)) <| Ad <| Sq <| Sq <| Rg <| Aq (AV.i .i64 (0 : Int)) <| Ad <| Awp.block <| Awp.lim 0 (x := ((slA 2 DPool.av) ps)) kr fun hlm1 => ?_
 have hB1 : ps.length ≤ 281474976710656 := lim_slA hlm1
 obtain ⟨R1, hR1⟩ : ∃ R, m_bd name ps 0 = R := ⟨_, rfl⟩
 refine Awp.loopT (fun (i : Nat) => [(0, ((slA 2 DPool.av) ps)), (1, (AV.s name)), (5, (Ai i))]) (fun (i : Nat) => ⟨0, []⟩) (fun (i : Nat) => i ≤ ps.length ∧ m_bd name (ps.drop i) i = R1) (fun (i : Nat) => ps.length - i) 0 ?_ ?_ ?_
 exact ⟨[], ⟨by decide, rfl, FitsObjs.nil, (Ee (Ee (Ee EntE.nil)))⟩, keep0⟩
 exact ⟨od, hR1⟩
 rintro i ⟨hi1, hE1⟩
 try dsimp only
 refine Sq <| Sq <| Rg <| Aq (Ai i) <| Aq ((slA 2 DPool.av) ps) <| Ap (Ai ps.length) (g_len (k := 2) (nl := false) (e := 81) (A := DPool.av) (xs := ps) kr kr) <| Aq (AV.b (decide (((i : Nat) : Int) < ((ps.length : Nat) : Int)))) <| Ad ?_
 rcases Nat.lt_or_ge i ps.length with hl1 | hl1
 have hc1 : decide (((i : Nat) : Int) < ((ps.length : Nat) : Int)) = true := decide_eq_true (by omega)
 refine Awp.cond (t := true) (by rw [← hc1] <;> kernel_rfl) (Awp.skip ?_)
 obtain ⟨x1, hx1⟩ : ∃ x, ps[i]? = some x := ⟨_, List.getElem?_eq_getElem hl1⟩
 rw [drop_at hx1, m_bd.eq_2] at hE1
 refine Sq <| Awp.block <| Sq <| Rg <| Aq ((slA 2 DPool.av) ps) <| Aq (Ai i) <| Ap (AV.pt (DPool.av x1).cells) (g_idx (k := 2) (nl := false) (e := 81) (kk := .i64) (A := DPool.av) (xs := ps) (i := i) kr kr kr ⟨by kernel_rfl, by decide⟩ hx1) <| Aq (AV.pt ((DPool.av x1).cells.drop 0)) <| Aq (AV.s x1.name) <| Aq (AV.s name) <| Aq (AV.b (decide (x1.name = name))) <| Ad ?_
 cases c_1 : decide (x1.name = name)
 refine Cf <| Awp.skip <| Rg <| Aq (Ai i) <| Ap (Ai (i + 1)) (g_addN (i := i) (m := 1) kr kr sd) <| Aq (Ai (i + 1)) <| Ad ?_
 try simp only [c_1, sbt] at hE1
 refine ⟨i + 1, od, ⟨od, hE1⟩, ?_⟩
 exact ⟨[], ⟨by decide, rfl, FitsObjs.nil, (Ee (Ee (Ee EntE.nil)))⟩, keep0⟩
 refine Ct <| Sq <| Rg <| Aq (Ai i) <| Aq (Ai i) <| Ad <| Rt ?_
 try simp only [c_1, sbt] at hE1
 subst hE1
 have hM : m_af ps name = ((i : Nat) : Int) := by simp only [m_af, hR1, sbt]
 refine ⟨Or.inr rfl, ?_⟩
 rw [hM]
 exact Ec
 have hc1 : decide (((i : Nat) : Int) < ((ps.length : Nat) : Int)) = false := decide_eq_false (by omega)
 refine Awp.cond (t := false) (by rw [← hc1] <;> kernel_rfl) (Awp.exit ?_)
 rw [List.drop_eq_nil_of_le (hl1), m_bd.eq_1] at hE1
 subst hE1
 refine Sq <| Rg <| Aq (AV.i .i64 (-1 : Int)) <| Ad <| Rt ?_
 have hM : m_af ps name = (-1 : Int) := by simp only [m_af, hR1, sbt]
 refine ⟨Or.inr rfl, ?_⟩
 rw [hM]
 exact Ec
theorem w_ref1_EdgeMay (W : World) (e : DEdge) : PureAt Go.Proofs.Tryz.prog W 64 [(DEdge.av e)] (AV.b (m_1 e)) [] := by
 refine pure_of_bodyC (fn := Go.Proofs.Tryz.f64) Go.Proofs.Tryz.func64 rfl (en64 W) (ts := [2]) rfl le <| Sq <| Rg <| Nn (AV.loc 0 0 0) ⟨76, 7, [(DEdge.av e)]⟩ <| Aq (AV.b false) <| Ad <| Sq <| Rg <| Aq (AV.loc 0 0 0) <| Aq ((slA 1 AV.s) e.outs) <| Ap (Ai e.outs.length) (g_len (k := 1) (nl := false) (e := 9) (A := AV.s) (xs := e.outs) kr kr) <| Aq (AV.b (decide ((0 : Int) < ((e.outs.length : Nat) : Int)))) <| Aq (AV.b (decide ((0 : Int) < ((e.outs.length : Nat) : Int)))) ?_
 cases c_1 : decide ((0 : Int) < ((e.outs.length : Nat) : Int))
 have k_1 := of_decide_eq_false c_1
 refine An <| An <| An <| Aq (AV.b false) <| Aq (AV.b false) <| An <| An <| An <| Aq (AV.b false) <| Aq (AV.b false) <| An <| An <| An <| Aq (AV.b false) <| Aq (AV.b false) <| An <| An <| An <| Aq (AV.b false) <| Aq (AV.b false) <| An <| An <| An <| Aq (AV.b false) <| Aq (AV.b false) <| An <| An <| An <| An <| An <| An <| An <| An <| Aq (AV.b false) <| Aq (AV.b false) <| Ad <| Rt ?_
 have hM : m_1 e = false := by simp only [m_1, c_1, sbt]
 refine ⟨Or.inr rfl, ?_⟩
 rw [hM]
 exact Ec
 have k_1 := of_decide_eq_true c_1
 refine Ay <| Aq (AV.loc 0 0 0) <| Ay <| Aq ((slA 1 AV.s) e.outs) <| Ay <| AOps.sc0 (vs := [((slA 1 AV.s) e.outs)]) (r0 := (AV.b (m_n e.outs))) kr kr (w_ref1_PathsMay W e.outs) kr le <| Aq (AV.b (m_n e.outs)) <| Aq (AV.b (m_n e.outs)) ?_
 cases c_2 : (m_n e.outs)
 refine An <| An <| An <| Aq (AV.b false) <| Aq (AV.b false) <| An <| An <| An <| Aq (AV.b false) <| Aq (AV.b false) <| An <| An <| An <| Aq (AV.b false) <| Aq (AV.b false) <| An <| An <| An <| Aq (AV.b false) <| Aq (AV.b false) <| An <| An <| An <| An <| An <| An <| An <| An <| Aq (AV.b false) <| Aq (AV.b false) <| Ad <| Rt ?_
 have hM : m_1 e = false := by simp only [m_1, c_1, c_2, sbt]
 refine ⟨Or.inr rfl, ?_⟩
 rw [hM]
 exact Ec
 refine Ay <| Aq (AV.loc 0 0 1) <| Ay <| Aq ((slA 1 AV.s) e.ins) <| Ay <| AOps.sc0 (vs := [((slA 1 AV.s) e.ins)]) (r0 := (AV.b (m_n e.ins))) kr kr (w_ref1_PathsMay W e.ins) kr le <| Aq (AV.b (m_n e.ins)) <| Aq (AV.b (m_n e.ins)) ?_
 cases c_3 : (m_n e.ins)
 refine An <| An <| An <| Aq (AV.b false) <| Aq (AV.b false) <| An <| An <| An <| Aq (AV.b false) <| Aq (AV.b false) <| An <| An <| An <| Aq (AV.b false) <| Aq (AV.b false) <| An <| An <| An <| An <| An <| An <| An <| An <| Aq (AV.b false) <| Aq (AV.b false) <| Ad <| Rt ?_
 have hM : m_1 e = false := by simp only [m_1, c_1, c_2, c_3, sbt]
 refine ⟨Or.inr rfl, ?_⟩
 rw [hM]
 exact Ec
 refine Ay <| Aq (AV.loc 0 0 2) <| Ay <| Aq ((slA 1 AV.s) e.implicit) <| Ay <| AOps.sc0 (vs := [((slA 1 AV.s) e.implicit)]) (r0 := (AV.b (m_n e.implicit))) kr kr (w_ref1_PathsMay W e.implicit) kr le <| Aq (AV.b (m_n e.implicit)) <| Aq (AV.b (m_n e.implicit)) ?_
 cases c_4 : (m_n e.implicit)
 refine An <| An <| An <| Aq (AV.b false) <| Aq (AV.b false) <| An <| An <| An <| Aq (AV.b false) <| Aq (AV.b false) <| An <| An <| An <| An <| An <| An <| An <| An <| Aq (AV.b false) <| Aq (AV.b false) <| Ad <| Rt ?_
 have hM : m_1 e = false := by simp only [m_1, c_1, c_2, c_3, c_4, sbt]
 refine ⟨Or.inr rfl, ?_⟩
 rw [hM]
 exact Ec
 refine Ay <| Aq (AV.loc 0 0 3) <| Ay <| Aq ((slA 1 AV.s) e.order) <| Ay <| AOps.sc0 (vs := [((slA 1 AV.s) e.order)]) (r0 := (AV.b (m_n e.order))) kr kr (w_ref1_PathsMay W e.order) kr le <| Aq (AV.b (m_n e.order)) <| Aq (AV.b (m_n e.order)) ?_
 cases c_5 : (m_n e.order)
 refine An <| An <| An <| Aq (AV.b false) <| Aq (AV.b false) <| An <| An <| An <| An <| An <| An <| An <| An <| Aq (AV.b false) <| Aq (AV.b false) <| Ad <| Rt ?_
 have hM : m_1 e = false := by simp only [m_1, c_1, c_2, c_3, c_4, c_5, sbt]
 refine ⟨Or.inr rfl, ?_⟩
 rw [hM]
 exact Ec
 refine Ay <| Aq (AV.loc 0 0 4) <| Ay <| Aq (AV.s e.command) <| Ay <| AOps.sc0 (vs := [(AV.s e.command), (AV.i .i64 (1 : Int)), (AV.i .i64 (256 : Int))]) (r0 := (AV.b (m_ap e.command (1 : Int) (256 : Int)))) kr kr (w_ref1_Plain W e.command (1 : Int) (256 : Int)) kr le <| Aq (AV.b (m_ap e.command (1 : Int) (256 : Int))) <| Aq (AV.b (m_ap e.command (1 : Int) (256 : Int))) ?_
 cases c_6 : (m_ap e.command (1 : Int) (256 : Int))
 refine An <| An <| An <| An <| An <| An <| An <| An <| Aq (AV.b false) <| Aq (AV.b false) <| Ad <| Rt ?_
 have hM : m_1 e = false := by simp only [m_1, c_1, c_2, c_3, c_4, c_5, c_6, sbt]
 refine ⟨Or.inr rfl, ?_⟩
 rw [hM]
 exact Ec
 refine Ay <| Aq (AV.loc 0 0 6) <| Ay <| Aq (AV.s e.pool) <| Ay <| Aq (AV.b (decide (e.pool = (⟨#[]⟩ : ByteArray)))) <| Ay <| Aq (AV.b (decide (e.pool = (⟨#[]⟩ : ByteArray)))) ?_
 cases c_7 : decide (e.pool = (⟨#[]⟩ : ByteArray))
 refine Ay <| Aq (AV.loc 0 0 6) <| Ay <| Aq (AV.s e.pool) <| Ay <| AOps.sc0 (vs := [(AV.s e.pool)]) (r0 := (AV.b (m_y e.pool))) kr kr (w_ref1_NameMay W e.pool) kr le <| Ay <| Aq (AV.b (m_y e.pool)) <| Aq (AV.b (m_y e.pool)) <| Aq (AV.b (m_y e.pool)) <| Ad <| Rt ?_
 have hM : m_1 e = (m_y e.pool) := by simp only [m_1, c_1, c_2, c_3, c_4, c_5, c_6, c_7, sbt]
 refine ⟨Or.inr rfl, ?_⟩
 rw [hM]
 exact Ec
 refine An <| An <| An <| Ay <| Aq (AV.b true) <| Aq (AV.b true) <| Aq (AV.b true) <| Ad <| Rt ?_
 have hM : m_1 e = true := by simp only [m_1, c_1, c_2, c_3, c_4, c_5, c_6, c_7, sbt]
 refine ⟨Or.inr rfl, ?_⟩
 rw [hM]
 exact Ec
theorem w_ref1_GraphMay (W : World) (g : DGraph) : PureAt Go.Proofs.Tryz.prog W 21 [(DGraph.av g)] (AV.b (m_w g)) [] := by
 refine pure_of_bodyC (fn := Go.Proofs.Tryz.f21) Go.Proofs.Tryz.func21 rfl (en21 W) (ts := [2]) rfl le <| Sq <| Rg <| Nn (AV.loc 0 0 0) ⟨26, 3, [(DGraph.av g)]⟩ <| Aq (AV.b false) <| Ad <| Sq <| Sq <| Rg <| Aq (AV.i .i64 (0 : Int)) <| Ad <| Awp.block <| Awp.lim 0 (x := (DGraph.av g)) kr fun hlm1 => ?_
 have hB1 : g.pools.length ≤ 281474976710656 := lim_slA (DGraph.lim_pools hlm1)
 obtain ⟨R1, hR1⟩ : ∃ R, m_ao g g.pools 0 = R := ⟨_, rfl⟩
 refine Awp.loopT (fun (i : Nat) => [(1, (AV.loc 0 0 0)), (3, (Ai i))]) (fun (i : Nat) => ⟨1, [(0, some ⟨26, 3, [(DGraph.av g)]⟩)]⟩) (fun (i : Nat) => i ≤ g.pools.length ∧ m_ao g (g.pools.drop i) i = R1) (fun (i : Nat) => g.pools.length - i) 0 ?_ ?_ ?_
 exact ⟨[0], ⟨by decide, rfl, (FitsObjs.cons kr FitsObjs.nil), (EntE.cons (Ent.f kr) (Ee EntE.nil))⟩, keep0⟩
 exact ⟨od, hR1⟩
 rintro i ⟨hi1, hE1⟩
 try dsimp only
 refine Sq <| Sq <| Rg <| Aq (Ai i) <| Aq (AV.loc 0 0 1) <| Aq ((slA 2 DPool.av) g.pools) <| Ap (Ai g.pools.length) (g_len (k := 2) (nl := false) (e := 81) (A := DPool.av) (xs := g.pools) kr kr) <| Aq (AV.b (decide (((i : Nat) : Int) < ((g.pools.length : Nat) : Int)))) <| Ad ?_
 rcases Nat.lt_or_ge i g.pools.length with hl1 | hl1
 have hc1 : decide (((i : Nat) : Int) < ((g.pools.length : Nat) : Int)) = true := decide_eq_true (by omega)
 refine Awp.cond (t := true) (by rw [← hc1] <;> kernel_rfl) (Awp.skip ?_)
 obtain ⟨x1, hx1⟩ : ∃ x, g.pools[i]? = some x := ⟨_, List.getElem?_eq_getElem hl1⟩
 rw [drop_at hx1, m_ao.eq_2] at hE1
 refine Sq <| Awp.block <| Sq <| Awp.drawn tabS_ok mixed 37 kr le <| Dq (AV.loc 0 0 1) <| Dq ((slA 2 DPool.av) g.pools) <| Dq (Ai i) <| Dp (AV.pt (DPool.av x1).cells) (g_idx (k := 2) (nl := false) (e := 81) (kk := .i64) (A := DPool.av) (xs := g.pools) (i := i) kr kr kr ⟨by kernel_rfl, by decide⟩ hx1) <| Dq (AV.pt ((DPool.av x1).cells.drop 0)) <| Dq (AV.s x1.name) <| AOpsD.sc0 (vs := [(AV.s x1.name)]) (r0 := (AV.b (m_y x1.name))) kr kr (w_ref1_NameMay W x1.name) kr le <| Dq (AV.b (!(m_y x1.name))) <| Dq (AV.b (!(m_y x1.name))) ?_
 cases c_1 : (!(m_y x1.name))
 have q_1 := ref1_NameMay_sz c_1
 refine Dy <| Dq (AV.loc 0 0 1) <| Dy <| Dq ((slA 2 DPool.av) g.pools) <| Dy <| Dq (Ai i) <| Dy <| Dp (AV.pt (DPool.av x1).cells) (g_idx (k := 2) (nl := false) (e := 81) (kk := .i64) (A := DPool.av) (xs := g.pools) (i := i) kr kr kr ⟨by kernel_rfl, by decide⟩ hx1) <| Dy <| Dq (AV.pt ((DPool.av x1).cells.drop 1)) <| Dy <| Dq (AV.i .i64 x1.depth) <| Dy <| Dq (AV.b (decide (x1.depth < (1 : Int)))) <| Dq (AV.b (decide (x1.depth < (1 : Int)))) <| Dq (AV.b (decide (x1.depth < (1 : Int)))) ?_
 cases c_2 : decide (x1.depth < (1 : Int))
 have k_2 := of_decide_eq_false c_2
 refine Dy <| Dq (AV.loc 0 0 1) <| Dy <| Dq ((slA 2 DPool.av) g.pools) <| Dy <| Dq (Ai i) <| Dy <| Dp (AV.pt (DPool.av x1).cells) (g_idx (k := 2) (nl := false) (e := 81) (kk := .i64) (A := DPool.av) (xs := g.pools) (i := i) kr kr kr ⟨by kernel_rfl, by decide⟩ hx1) <| Dy <| Dq (AV.pt ((DPool.av x1).cells.drop 1)) <| Dy <| Dq (AV.i .i64 x1.depth) <| Dy <| Dq (AV.b (decide ((8 : Int) < x1.depth))) <| Dq (AV.b (decide ((8 : Int) < x1.depth))) <| Dq (AV.b (decide ((8 : Int) < x1.depth))) ?_
 cases c_3 : decide ((8 : Int) < x1.depth)
 have k_3 := of_decide_eq_false c_3
 refine Dy <| Dq (AV.loc 0 0 1) <| Dy <| Dq ((slA 2 DPool.av) g.pools) <| Dy <| Dq (AV.loc 0 0 1) <| Dy <| Dq ((slA 2 DPool.av) g.pools) <| Dy <| Dq (Ai i) <| Dy <| Dp (AV.pt (DPool.av x1).cells) (g_idx (k := 2) (nl := false) (e := 81) (kk := .i64) (A := DPool.av) (xs := g.pools) (i := i) kr kr kr ⟨by kernel_rfl, by decide⟩ hx1) <| Dy <| Dq (AV.pt ((DPool.av x1).cells.drop 0)) <| Dy <| Dq (AV.s x1.name) <| Dy <| AOpsD.sc0 (vs := [((slA 2 DPool.av) g.pools), (AV.s x1.name)]) (r0 := (AV.i .i64 (m_af g.pools x1.name))) kr kr (w_ref1_poolAt W g.pools x1.name) kr le <| Dy <| Dq (Ai i) <| Dy <| Dq (AV.b (!decide ((m_af g.pools x1.name) = ((i : Nat) : Int)))) <| Dq (AV.b (!decide ((m_af g.pools x1.name) = ((i : Nat) : Int)))) <| AOpsD.fin ?_
 cases c_4 : (!decide ((m_af g.pools x1.name) = ((i : Nat) : Int)))
 have k_4 := nde c_4
 refine Cf <| Awp.skip <| Rg <| Aq (Ai i) <| Ap (Ai (i + 1)) (g_addN (i := i) (m := 1) kr kr sd) <| Aq (Ai (i + 1)) <| Ad ?_
 try simp only [c_1, c_2, c_3, c_4, sbt] at hE1
 refine ⟨i + 1, od, ⟨od, hE1⟩, ?_⟩
 exact ⟨[0], ⟨by decide, rfl, (FitsObjs.cons kr FitsObjs.nil), (EntE.cons (Ent.f kr) (Ee EntE.nil))⟩, keep0⟩
 have k_4 := ndt c_4
 refine Ct <| Sq <| Rg <| Aq (AV.b false) <| Ad <| Rt ?_
 try simp only [c_1, c_2, c_3, c_4, sbt] at hE1
 subst hE1
 have hM : m_w g = false := by simp only [m_w, hR1, sbt]
 refine ⟨Or.inr rfl, ?_⟩
 rw [hM]
 exact Ec
 have k_3 := of_decide_eq_true c_3
 refine Dn <| Dn <| Dn <| Dn <| Dn <| Dn <| Dn <| Dn <| Dn <| Dn <| Dn <| Dq (AV.b true) <| AOpsD.fin <| Ct <| Sq <| Rg <| Aq (AV.b false) <| Ad <| Rt ?_
 try simp only [c_1, c_2, c_3, sbt] at hE1
 subst hE1
 have hM : m_w g = false := by simp only [m_w, hR1, sbt]
 refine ⟨Or.inr rfl, ?_⟩
 rw [hM]
 exact Ec
 have k_2 := of_decide_eq_true c_2
 refine Dn <| Dn <| Dn <| Dn <| Dn <| Dn <| Dn <| Dq (AV.b true) <| Dq (AV.b true) <| Dn <| Dn <| Dn <| Dn <| Dn <| Dn <| Dn <| Dn <| Dn <| Dn <| Dn <| Dq (AV.b true) <| AOpsD.fin <| Ct <| Sq <| Rg <| Aq (AV.b false) <| Ad <| Rt ?_
 try simp only [c_1, c_2, sbt] at hE1
 subst hE1
 have hM : m_w g = false := by simp only [m_w, hR1, sbt]
 refine ⟨Or.inr rfl, ?_⟩
 rw [hM]
 exact Ec
 refine Dn <| Dn <| Dn <| Dn <| Dn <| Dn <| Dn <| Dq (AV.b true) <| Dq (AV.b true) <| Dn <| Dn <| Dn <| Dn <| Dn <| Dn <| Dn <| Dq (AV.b true) <| Dq (AV.b true) <| Dn <| Dn <| Dn <| Dn <| Dn <| Dn <| Dn <| Dn <| Dn <| Dn <| Dn <| Dq (AV.b true) <| AOpsD.fin <| Ct <| Sq <| Rg <| Aq (AV.b false) <| Ad <| Rt ?_
 try simp only [c_1, sbt] at hE1
 subst hE1
 have hM : m_w g = false := by simp only [m_w, hR1, sbt]
 refine ⟨Or.inr rfl, ?_⟩
 rw [hM]
 exact Ec
 have hc1 : decide (((i : Nat) : Int) < ((g.pools.length : Nat) : Int)) = false := decide_eq_false (by omega)
 refine Awp.cond (t := false) (by rw [← hc1] <;> kernel_rfl) (Awp.exit ?_)
 rw [List.drop_eq_nil_of_le (hl1), m_ao.eq_1] at hE1
 subst hE1
 refine Sq <| Sq <| Rg <| Aq (AV.i .i64 (0 : Int)) <| Ad <| Awp.block <| Awp.limLoc 1 0 (id := 0) (j := 0) (o := 0) (ob := ⟨26, 3, [(DGraph.av g)]⟩) (x := (DGraph.av g)) kr rfl rfl fun hlm2 => ?_
 have hB2 : g.edges.length ≤ 281474976710656 := lim_slA (DGraph.lim_edges (DGraph.lim_pt hlm2))
 obtain ⟨R2, hR2⟩ : ∃ R, m_aj g g.edges 0 = R := ⟨_, rfl⟩
 refine Awp.loopT (fun (i2 : Nat) => [(1, (AV.loc 0 0 0)), (4, (Ai i2))]) (fun (i2 : Nat) => ⟨1, [(0, some ⟨26, 3, [(DGraph.av g)]⟩)]⟩) (fun (i2 : Nat) => i2 ≤ g.edges.length ∧ m_aj g (g.edges.drop i2) i2 = R2) (fun (i2 : Nat) => g.edges.length - i2) 0 ?_ ?_ ?_
 exact ⟨[0], ⟨by decide, rfl, (FitsObjs.cons kr FitsObjs.nil), (EntE.cons (Ent.f kr) (Ee EntE.nil))⟩, keep0⟩
 exact ⟨od, hR2⟩
 rintro i2 ⟨hi2, hE2⟩
 try dsimp only
 refine Sq <| Sq <| Rg <| Aq (Ai i2) <| Aq (AV.loc 0 0 0) <| Aq ((slA 7 DEdge.av) g.edges) <| Ap (Ai g.edges.length) (g_len (k := 7) (nl := false) (e := 76) (A := DEdge.av) (xs := g.edges) kr kr) <| Aq (AV.b (decide (((i2 : Nat) : Int) < ((g.edges.length : Nat) : Int)))) <| Ad ?_
 rcases Nat.lt_or_ge i2 g.edges.length with hl2 | hl2
 have hc2 : decide (((i2 : Nat) : Int) < ((g.edges.length : Nat) : Int)) = true := decide_eq_true (by omega)
 refine Awp.cond (t := true) (by rw [← hc2] <;> kernel_rfl) (Awp.skip ?_)
 obtain ⟨x2, hx2⟩ : ∃ x, g.edges[i2]? = some x := ⟨_, List.getElem?_eq_getElem hl2⟩
 rw [drop_at hx2, m_aj.eq_2] at hE2
 refine Sq <| Awp.block <| Sq <| Awp.drawn tabS_ok mixed 24 kr le <| Dq (AV.loc 0 0 0) <| Dq ((slA 7 DEdge.av) g.edges) <| Dq (Ai i2) <| Dp (AV.pt (DEdge.av x2).cells) (g_idx (k := 7) (nl := false) (e := 76) (kk := .i64) (A := DEdge.av) (xs := g.edges) (i := i2) kr kr kr ⟨by kernel_rfl, by decide⟩ hx2) <| Dq (DEdge.av x2) <| AOpsD.sc0 (vs := [(DEdge.av x2)]) (r0 := (AV.b (m_1 x2))) kr kr (w_ref1_EdgeMay W x2) kr le <| Dq (AV.b (!(m_1 x2))) <| Dq (AV.b (!(m_1 x2))) ?_
 cases c_5 : (!(m_1 x2))
 refine Dy <| Dq (AV.loc 0 0 0) <| Dy <| Dq ((slA 7 DEdge.av) g.edges) <| Dy <| Dq (Ai i2) <| Dy <| Dp (AV.pt (DEdge.av x2).cells) (g_idx (k := 7) (nl := false) (e := 76) (kk := .i64) (A := DEdge.av) (xs := g.edges) (i := i2) kr kr kr ⟨by kernel_rfl, by decide⟩ hx2) <| Dy <| Dq (AV.pt ((DEdge.av x2).cells.drop 6)) <| Dy <| Dq (AV.s x2.pool) <| Dy <| Dq (AV.b (!decide (x2.pool = (⟨#[]⟩ : ByteArray)))) <| Dy <| Dq (AV.b (!decide (x2.pool = (⟨#[]⟩ : ByteArray)))) ?_
 cases c_6 : (!decide (x2.pool = (⟨#[]⟩ : ByteArray)))
 refine Dn <| Dn <| Dn <| Dn <| Dn <| Dn <| Dn <| Dn <| Dn <| Dn <| Dy <| Dq (AV.b false) <| Dq (AV.b false) <| AOpsD.fin <| Cf <| Awp.skip <| Rg <| Aq (Ai i2) <| Ap (Ai (i2 + 1)) (g_addN (i := i2) (m := 1) kr kr sd) <| Aq (Ai (i2 + 1)) <| Ad ?_
 try simp only [c_5, c_6, sbt] at hE2
 refine ⟨i2 + 1, od, ⟨od, hE2⟩, ?_⟩
 exact ⟨[0], ⟨by decide, rfl, (FitsObjs.cons kr FitsObjs.nil), (EntE.cons (Ent.f kr) (Ee EntE.nil))⟩, keep0⟩
 refine Dy <| Dq (AV.loc 0 0 1) <| Dy <| Dq ((slA 2 DPool.av) g.pools) <| Dy <| Dq (AV.loc 0 0 0) <| Dy <| Dq ((slA 7 DEdge.av) g.edges) <| Dy <| Dq (Ai i2) <| Dy <| Dp (AV.pt (DEdge.av x2).cells) (g_idx (k := 7) (nl := false) (e := 76) (kk := .i64) (A := DEdge.av) (xs := g.edges) (i := i2) kr kr kr ⟨by kernel_rfl, by decide⟩ hx2) <| Dy <| Dq (AV.pt ((DEdge.av x2).cells.drop 6)) <| Dy <| Dq (AV.s x2.pool) <| Dy <| AOpsD.sc0 (vs := [((slA 2 DPool.av) g.pools), (AV.s x2.pool)]) (r0 := (AV.i .i64 (m_af g.pools x2.pool))) kr kr (w_ref1_poolAt W g.pools x2.pool) kr le <| Dy <| Dq (AV.b (decide ((m_af g.pools x2.pool) < (0 : Int)))) <| Dy <| Dq (AV.b (decide ((m_af g.pools x2.pool) < (0 : Int)))) <| Dq (AV.b (decide ((m_af g.pools x2.pool) < (0 : Int)))) <| AOpsD.fin ?_
 cases c_7 : decide ((m_af g.pools x2.pool) < (0 : Int))
 have k_7 := of_decide_eq_false c_7
 refine Cf <| Awp.skip <| Rg <| Aq (Ai i2) <| Ap (Ai (i2 + 1)) (g_addN (i := i2) (m := 1) kr kr sd) <| Aq (Ai (i2 + 1)) <| Ad ?_
 try simp only [c_5, c_6, c_7, sbt] at hE2
 refine ⟨i2 + 1, od, ⟨od, hE2⟩, ?_⟩
 exact ⟨[0], ⟨by decide, rfl, (FitsObjs.cons kr FitsObjs.nil), (EntE.cons (Ent.f kr) (Ee EntE.nil))⟩, keep0⟩
 have k_7 := of_decide_eq_true c_7
 refine Ct <| Sq <| Rg <| Aq (AV.b false) <| Ad <| Rt ?_
 try simp only [c_5, c_6, c_7, sbt] at hE2
 subst hE2
 have hM : m_w g = false := by simp only [m_w, hR1, hR2, sbt]
 refine ⟨Or.inr rfl, ?_⟩
 rw [hM]
 exact Ec
 refine Dn <| Dn <| Dn <| Dn <| Dn <| Dn <| Dn <| Dn <| Dn <| Dn <| Dn <| Dn <| Dn <| Dn <| Dn <| Dn <| Dn <| Dn <| Dn <| Dq (AV.b true) <| AOpsD.fin <| Ct <| Sq <| Rg <| Aq (AV.b false) <| Ad <| Rt ?_
 try simp only [c_5, sbt] at hE2
 subst hE2
 have hM : m_w g = false := by simp only [m_w, hR1, hR2, sbt]
 refine ⟨Or.inr rfl, ?_⟩
 rw [hM]
 exact Ec
 have hc2 : decide (((i2 : Nat) : Int) < ((g.edges.length : Nat) : Int)) = false := decide_eq_false (by omega)
 refine Awp.cond (t := false) (by rw [← hc2] <;> kernel_rfl) (Awp.exit ?_)
 rw [List.drop_eq_nil_of_le (hl2), m_aj.eq_1] at hE2
 subst hE2
 refine Sq <| Rg <| Aq (AV.loc 0 0 1) <| Aq ((slA 2 DPool.av) g.pools) <| Ap (Ai g.pools.length) (g_len (k := 2) (nl := false) (e := 81) (A := DPool.av) (xs := g.pools) kr kr) <| Aq (AV.b (decide (((g.pools.length : Nat) : Int) ≤ (4 : Int)))) <| Aq (AV.b (decide (((g.pools.length : Nat) : Int) ≤ (4 : Int)))) ?_
 cases c_8 : decide (((g.pools.length : Nat) : Int) ≤ (4 : Int))
 have k_8 := of_decide_eq_false c_8
 refine An <| An <| An <| An <| Aq (AV.b false) <| Aq (AV.b false) <| An <| An <| An <| Aq (AV.b false) <| Aq (AV.b false) <| Ad <| Rt ?_
 have hM : m_w g = false := by simp only [m_w, hR1, hR2, c_8, sbt]
 refine ⟨Or.inr rfl, ?_⟩
 rw [hM]
 exact Ec
 have k_8 := of_decide_eq_true c_8
 refine Ay <| Aq (AV.loc 0 0 0) <| Ay <| Aq ((slA 7 DEdge.av) g.edges) <| Ay <| Ap (Ai g.edges.length) (g_len (k := 7) (nl := false) (e := 76) (A := DEdge.av) (xs := g.edges) kr kr) <| Ay <| Aq (AV.b (decide (((g.edges.length : Nat) : Int) ≤ (16 : Int)))) <| Aq (AV.b (decide (((g.edges.length : Nat) : Int) ≤ (16 : Int)))) <| Aq (AV.b (decide (((g.edges.length : Nat) : Int) ≤ (16 : Int)))) ?_
 cases c_9 : decide (((g.edges.length : Nat) : Int) ≤ (16 : Int))
 have k_9 := of_decide_eq_false c_9
 refine An <| An <| An <| Aq (AV.b false) <| Aq (AV.b false) <| Ad <| Rt ?_
 have hM : m_w g = false := by simp only [m_w, hR1, hR2, c_8, c_9, sbt]
 refine ⟨Or.inr rfl, ?_⟩
 rw [hM]
 exact Ec
 have k_9 := of_decide_eq_true c_9
 refine Ay <| Aq (AV.loc 0 0 2) <| Ay <| Aq ((slA 1 AV.s) g.defaults) <| Ay <| AOps.sc0 (vs := [((slA 1 AV.s) g.defaults)]) (r0 := (AV.b (m_n g.defaults))) kr kr (w_ref1_PathsMay W g.defaults) kr le <| Aq (AV.b (m_n g.defaults)) <| Aq (AV.b (m_n g.defaults)) <| Ad <| Rt ?_
 have hM : m_w g = (m_n g.defaults) := by simp only [m_w, hR1, hR2, c_8, c_9, sbt]
 refine ⟨Or.inr rfl, ?_⟩
 rw [hM]
 exact Ec
theorem w_ref1_Check (W : World) (g : DGraph) (hz : outsN g.edges ≤ 1048576) : PureAt Go.Proofs.Tryz.prog W 19 [(DGraph.av g)] (AV.i .i64 (m_aw g)) [] := by
 refine pure_of_bodyC (fn := Go.Proofs.Tryz.f19) Go.Proofs.Tryz.func19 rfl (en19 W) (ts := [2]) rfl le <| Sq <| Rg <| Nn (AV.loc 0 0 0) ⟨26, 3, [(DGraph.av g)]⟩ <| Aq (AV.i .i64 (0 : Int)) <| Ad <| Sq <| Sq <| Rg <| Aq (DGraph.av g) <| AOps.sc0 (vs := [(DGraph.av g)]) (r0 := (AV.b (m_w g))) kr kr (w_ref1_GraphMay W g) kr le <| Aq (AV.b (!(m_w g))) <| Ad ?_
 cases c_1 : (!(m_w g))
 refine Cf <| Awp.skip <| Sq <| Rg <| Aq (AV.sl 1 true []) <| Ad <| Sq <| Sq <| Rg <| Aq (AV.i .i64 (0 : Int)) <| Ad <| Awp.block <| Awp.lim 0 (x := (DGraph.av g)) kr fun hlm1 => ?_
 have hB1 : g.edges.length ≤ 281474976710656 := lim_slA (DGraph.lim_edges hlm1)
 obtain ⟨R1, hR1⟩ : ∃ R, m_bj g.edges 0 [] = R := ⟨_, rfl⟩
 refine Awp.loopT (fun ((all, i) : (List ByteArray) × Nat) => [(1, (AV.loc 1 0 0)), (3, (accV 0 1 AV.s all)), (4, (Ai i))]) (fun ((all, i) : (List ByteArray) × Nat) => ⟨2, [(0, accO 9 1 AV.s all), (1, some ⟨26, 3, [(DGraph.av g)]⟩)]⟩) (fun ((all, i) : (List ByteArray) × Nat) => i ≤ g.edges.length ∧ all.length + outsN (g.edges.drop i) ≤ outsN g.edges ∧ m_bj (g.edges.drop i) i all = R1) (fun ((all, i) : (List ByteArray) × Nat) => g.edges.length - i) ([], 0) ?_ ?_ ?_
 exact ⟨[1000000, 0], ⟨by decide, rfl, (FitsObjs.cons rfl (FitsObjs.cons kr FitsObjs.nil)), (EntE.cons (Ent.f kr) (Ee (Ee EntE.nil)))⟩, keep0⟩
 exact ⟨od, by (try dsimp only) <;> (simp), hR1⟩
 rintro ⟨all, i⟩ ⟨hi1, ha, hE1⟩
 try dsimp only
 refine Sq <| Sq <| Rg <| Aq (Ai i) <| Aq (AV.loc 1 0 0) <| Aq ((slA 7 DEdge.av) g.edges) <| Ap (Ai g.edges.length) (g_len (k := 7) (nl := false) (e := 76) (A := DEdge.av) (xs := g.edges) kr kr) <| Aq (AV.b (decide (((i : Nat) : Int) < ((g.edges.length : Nat) : Int)))) <| Ad ?_
 rcases Nat.lt_or_ge i g.edges.length with hl1 | hl1
 have hc1 : decide (((i : Nat) : Int) < ((g.edges.length : Nat) : Int)) = true := decide_eq_true (by omega)
 refine Awp.cond (t := true) (by rw [← hc1] <;> kernel_rfl) (Awp.skip ?_)
 obtain ⟨x1, hx1⟩ : ∃ x, g.edges[i]? = some x := ⟨_, List.getElem?_eq_getElem hl1⟩
 rw [drop_at hx1, m_bj.eq_2] at hE1
 rw [drop_at hx1] at ha
 simp only [outsN] at ha
 refine Sq <| Awp.block <| Sq <| Rg <| Aq (AV.i .i64 (0 : Int)) <| Ad <| Awp.block <| Awp.lim 11 (x := ((slA 7 DEdge.av) g.edges)) kr fun hlm2 => ?_
 have hB2 : x1.outs.length ≤ 281474976710656 := lim_slA (DEdge.lim_outs (lim_mem hlm2 hx1))
 obtain ⟨R2, hR2⟩ : ∃ R, m_bk x1.outs 0 all = R := ⟨_, rfl⟩
 refine Awp.loopT (fun ((all2, k) : (List ByteArray) × Nat) => [(1, (AV.loc 1 0 0)), (4, (Ai i)), (3, (accV 0 1 AV.s all2)), (5, (Ai k))]) (fun ((all2, k) : (List ByteArray) × Nat) => ⟨2, [(0, accO 9 1 AV.s all2), (1, some ⟨26, 3, [(DGraph.av g)]⟩)]⟩) (fun ((all2, k) : (List ByteArray) × Nat) => k ≤ x1.outs.length ∧ all2.length ≤ all.length + k ∧ m_bk (x1.outs.drop k) k all2 = R2) (fun ((all2, k) : (List ByteArray) × Nat) => x1.outs.length - k) (all, 0) ?_ ?_ ?_
 exact ⟨[0, 1], ⟨by decide, rfl, (FitsObjs.cons (obj_acc (fun _ => rfl) (e := 9) (k := 1) (A := AV.s) (xs := all) rfl rfl) (FitsObjs.cons kr FitsObjs.nil)), (EntE.cons (Ent.f kr) (Ee (EntE.cons (ent_keepA (by decide)) (Ee EntE.nil))))⟩, keep0⟩
 exact ⟨od, sdd, hR2⟩
 rintro ⟨all2, k⟩ ⟨hi2, hb, hE2⟩
 try dsimp only
 refine Sq <| Sq <| Rg <| Aq (Ai k) <| Aq (AV.loc 1 0 0) <| Aq ((slA 7 DEdge.av) g.edges) <| Aq (Ai i) <| Ap (AV.pt (DEdge.av x1).cells) (g_idx (k := 7) (nl := false) (e := 76) (kk := .i64) (A := DEdge.av) (xs := g.edges) (i := i) kr kr kr ⟨by kernel_rfl, by decide⟩ hx1) <| Aq (AV.pt ((DEdge.av x1).cells.drop 0)) <| Aq ((slA 1 AV.s) x1.outs) <| Ap (Ai x1.outs.length) (g_len (k := 1) (nl := false) (e := 9) (A := AV.s) (xs := x1.outs) kr kr) <| Aq (AV.b (decide (((k : Nat) : Int) < ((x1.outs.length : Nat) : Int)))) <| Ad ?_
 rcases Nat.lt_or_ge k x1.outs.length with hl2 | hl2
 have hc2 : decide (((k : Nat) : Int) < ((x1.outs.length : Nat) : Int)) = true := decide_eq_true (by omega)
 refine Awp.cond (t := true) (by rw [← hc2] <;> kernel_rfl) (Awp.skip ?_)
 obtain ⟨x2, hx2⟩ : ∃ x, x1.outs[k]? = some x := ⟨_, List.getElem?_eq_getElem hl2⟩
 rw [drop_at hx2, m_bk.eq_2] at hE2
 refine Sq <| Awp.block <| Sq <| Sq <| Rg <| Aq (accV 0 1 AV.s all2) <| Aq (AV.loc 1 0 0) <| Aq ((slA 7 DEdge.av) g.edges) <| Aq (Ai i) <| Ap (AV.pt (DEdge.av x1).cells) (g_idx (k := 7) (nl := false) (e := 76) (kk := .i64) (A := DEdge.av) (xs := g.edges) (i := i) kr kr kr ⟨by kernel_rfl, by decide⟩ hx1) <| Aq (AV.pt ((DEdge.av x1).cells.drop 0)) <| Aq ((slA 1 AV.s) x1.outs) <| Aq (Ai k) <| Ap (AV.pt (AV.s x2).cells) (g_idx (k := 1) (nl := false) (e := 9) (kk := .i64) (A := AV.s) (xs := x1.outs) (i := k) kr kr kr ⟨by kernel_rfl, by decide⟩ hx2) <| Aq (AV.s x2) <| AOps.sfw (vs := [(accV 0 1 AV.s all2), (AV.s x2)]) (ss := [((slA 1 AV.s) all2), (AV.s x2)]) (r0 := (AV.b (m_bh all2 x2))) kr (show SnapW _ _ _ from ⟨(EntK.w (EntK.cast (x' := (accV 0 1 AV.s all2)) kr kr (EntK.acc (fun _ => rfl) (A := AV.s) (e := 9) (k := 1) (id := 0) (xs := all2) rfl rfl sd))), ⟨(SnapW.e kr), trivial⟩⟩) (w_ref1_has W all2 x2) rfl kr le <| Ad ?_
 cases c_2 : (m_bh all2 x2)
 refine Cf <| Awp.skip <| Rg <| Aq (accV 0 1 AV.s all2) <| Aq (AV.loc 1 0 0) <| Aq ((slA 7 DEdge.av) g.edges) <| Aq (Ai i) <| Ap (AV.pt (DEdge.av x1).cells) (g_idx (k := 7) (nl := false) (e := 76) (kk := .i64) (A := DEdge.av) (xs := g.edges) (i := i) kr kr kr ⟨by kernel_rfl, by decide⟩ hx1) <| Aq (AV.pt ((DEdge.av x1).cells.drop 0)) <| Aq ((slA 1 AV.s) x1.outs) <| Aq (Ai k) <| Ap (AV.pt (AV.s x2).cells) (g_idx (k := 1) (nl := false) (e := 9) (kk := .i64) (A := AV.s) (xs := x1.outs) (i := k) kr kr kr ⟨by kernel_rfl, by decide⟩ hx2) <| Aq (AV.s x2) <| Nn (AV.own 2 0 1) ⟨9, 1, [x2].map AV.s⟩ <| AOps.se (x := (AV.own 3 0 ((all2 ++ [x2]).length))) (h' := ⟨4, [(3, some ⟨9, 1, (all2 ++ [x2]).map AV.s⟩), (2, some ⟨9, 1, [x2].map AV.s⟩), (0, none), (1, some ⟨26, 3, [(DGraph.av g)]⟩)]⟩) (g_app (e := 9) (X := (AV.own 2 0 1)) (A := AV.s) (i := tI_9) (p := 0) (xs := all2) (ys := [x2]) kr kr kr (hx := kr) kr (by simp) ⟨by decide, by kernel_rfl⟩ rfl (by intro q; first | (subst q; rfl) | (rw [q]; rfl) | (simp only [q]; rfl)) (by show _ * 16 ≤ 140737488355328; first | omega | (simp only [List.length_append, List.length_cons, List.length_nil, List.length_set, List.length_replicate]; omega) | (simp; omega)) sd) le <| Aq (AV.own 3 0 ((all2 ++ [x2]).length)) <| Ad <| Rg <| Aq (Ai k) <| Ap (Ai (k + 1)) (g_addN (i := k) (m := 1) kr kr sd) <| Aq (Ai (k + 1)) <| Ad ?_
 try simp only [c_2, sbt] at hE2
 refine ⟨((all2 ++ [x2]), k + 1), od, ⟨od, sdd, hE2⟩, ?_⟩
 exact ⟨[3, 1], ⟨by decide, rfl, (FitsObjs.cons (obj_acc' (fun _ => rfl) (e := 9) (k := 1) (A := AV.s) (xs := (all2 ++ [x2])) (by simp) rfl rfl) (FitsObjs.cons kr FitsObjs.nil)), (EntE.cons (Ent.f kr) (Ee (EntE.cons (ent_keep (A := AV.s) (xs := (all2 ++ [x2])) (by decide) (by simp) rfl) (Ee EntE.nil))))⟩, keep0⟩
 refine Ct <| Sq <| Rg <| Aq (AV.i .i64 (901 : Int)) <| Ad <| Rt ?_
 try simp only [c_2, sbt] at hE2
 subst hE2
 try simp only [hR2, sbt] at hE1
 subst hE1
 have hM : m_aw g = (901 : Int) := by simp only [m_aw, c_1, hR1, sbt]
 refine ⟨Or.inr rfl, ?_⟩
 rw [hM]
 exact Ec
 have hc2 : decide (((k : Nat) : Int) < ((x1.outs.length : Nat) : Int)) = false := decide_eq_false (by omega)
 refine Awp.cond (t := false) (by rw [← hc2] <;> kernel_rfl) (Awp.exit ?_)
 rw [List.drop_eq_nil_of_le (hl2), m_bk.eq_1] at hE2
 subst hE2
 refine Rg <| Aq (Ai i) <| Ap (Ai (i + 1)) (g_addN (i := i) (m := 1) kr kr sd) <| Aq (Ai (i + 1)) <| Ad ?_
 try simp only [hR2, sbt] at hE1
 refine ⟨(all2, i + 1), od, ⟨od, by (try dsimp only) <;> (omega), hE1⟩, ?_⟩
 exact ⟨[0, 1], ⟨by decide, rfl, (FitsObjs.cons (obj_acc (fun _ => rfl) (e := 9) (k := 1) (A := AV.s) (xs := all2) rfl rfl) (FitsObjs.cons kr FitsObjs.nil)), (EntE.cons (Ent.f kr) (EntE.cons (ent_keepA (by decide)) (Ee EntE.nil)))⟩, keep0⟩
 have hc1 : decide (((i : Nat) : Int) < ((g.edges.length : Nat) : Int)) = false := decide_eq_false (by omega)
 refine Awp.cond (t := false) (by rw [← hc1] <;> kernel_rfl) (Awp.exit ?_)
 rw [List.drop_eq_nil_of_le (hl1), m_bj.eq_1] at hE1
 subst hE1
 refine Sq <| Rg <| Aq (AV.i .i64 (0 : Int)) <| Ad <| Rt ?_
 have hM : m_aw g = (0 : Int) := by simp only [m_aw, c_1, hR1, sbt]
 refine ⟨Or.inr rfl, ?_⟩
 rw [hM]
 exact Ec
 refine Ct <| Sq <| Rg <| Aq (AV.i .i64 (900 : Int)) <| Ad <| Rt ?_
 have hM : m_aw g = (900 : Int) := by simp only [m_aw, c_1, sbt]
 refine ⟨Or.inr rfl, ?_⟩
 rw [hM]
 exact Ec
theorem w_ref1_MakerOf (W : World) (g : DGraph) (name : ByteArray) : PureAt Go.Proofs.Tryz.prog W 52 [(DGraph.av g), (AV.s name)] (AV.i .i64 (m_o g name)) [] := by
 refine pure_of_bodyC (fn := Go.Proofs.Tryz.f52) Go.Proofs.Tryz.func52 rfl (en52 W) (ts := [4]) rfl le <| Sq <| Rg <| Nn (AV.loc 0 0 0) ⟨26, 3, [(DGraph.av g)]⟩ <| Aq (AV.i .i64 (0 : Int)) <| Ad <| Sq <| Sq <| Rg <| Aq (AV.i .i64 (0 : Int)) <| Ad <| Awp.block <| Awp.lim 0 (x := (DGraph.av g)) kr fun hlm1 => ?_
 have hB1 : g.edges.length ≤ 281474976710656 := lim_slA (DGraph.lim_edges hlm1)
 obtain ⟨R1, hR1⟩ : ∃ R, m_bn name g.edges 0 = R := ⟨_, rfl⟩
 refine Awp.loopT (fun (i : Nat) => [(1, (AV.s name)), (2, (AV.loc 0 0 0)), (5, (Ai i))]) (fun (i : Nat) => ⟨1, [(0, some ⟨26, 3, [(DGraph.av g)]⟩)]⟩) (fun (i : Nat) => i ≤ g.edges.length ∧ m_bn name (g.edges.drop i) i = R1) (fun (i : Nat) => g.edges.length - i) 0 ?_ ?_ ?_
 exact ⟨[0], ⟨by decide, rfl, (FitsObjs.cons kr FitsObjs.nil), (Ee (EntE.cons (Ent.f kr) (Ee EntE.nil)))⟩, keep0⟩
 exact ⟨od, hR1⟩
 rintro i ⟨hi1, hE1⟩
 try dsimp only
 refine Sq <| Sq <| Rg <| Aq (Ai i) <| Aq (AV.loc 0 0 0) <| Aq ((slA 7 DEdge.av) g.edges) <| Ap (Ai g.edges.length) (g_len (k := 7) (nl := false) (e := 76) (A := DEdge.av) (xs := g.edges) kr kr) <| Aq (AV.b (decide (((i : Nat) : Int) < ((g.edges.length : Nat) : Int)))) <| Ad ?_
 rcases Nat.lt_or_ge i g.edges.length with hl1 | hl1
 have hc1 : decide (((i : Nat) : Int) < ((g.edges.length : Nat) : Int)) = true := decide_eq_true (by omega)
 refine Awp.cond (t := true) (by rw [← hc1] <;> kernel_rfl) (Awp.skip ?_)
 obtain ⟨x1, hx1⟩ : ∃ x, g.edges[i]? = some x := ⟨_, List.getElem?_eq_getElem hl1⟩
 rw [drop_at hx1, m_bn.eq_2] at hE1
 refine Sq <| Awp.block <| Sq <| Rg <| Aq (AV.loc 0 0 0) <| Aq ((slA 7 DEdge.av) g.edges) <| Aq (Ai i) <| Ap (AV.pt (DEdge.av x1).cells) (g_idx (k := 7) (nl := false) (e := 76) (kk := .i64) (A := DEdge.av) (xs := g.edges) (i := i) kr kr kr ⟨by kernel_rfl, by decide⟩ hx1) <| Aq (AV.pt ((DEdge.av x1).cells.drop 0)) <| Aq ((slA 1 AV.s) x1.outs) <| Aq (AV.s name) <| AOps.sc0 (vs := [((slA 1 AV.s) x1.outs), (AV.s name)]) (r0 := (AV.b (m_bh x1.outs name))) kr kr (w_ref1_has W x1.outs name) kr le <| Ad ?_
 cases c_1 : (m_bh x1.outs name)
 refine Cf <| Awp.skip <| Rg <| Aq (Ai i) <| Ap (Ai (i + 1)) (g_addN (i := i) (m := 1) kr kr sd) <| Aq (Ai (i + 1)) <| Ad ?_
 try simp only [c_1, sbt] at hE1
 refine ⟨i + 1, od, ⟨od, hE1⟩, ?_⟩
 exact ⟨[0], ⟨by decide, rfl, (FitsObjs.cons kr FitsObjs.nil), (Ee (EntE.cons (Ent.f kr) (Ee EntE.nil)))⟩, keep0⟩
 refine Ct <| Sq <| Rg <| Aq (Ai i) <| Aq (Ai i) <| Ad <| Rt ?_
 try simp only [c_1, sbt] at hE1
 subst hE1
 have hM : m_o g name = ((i : Nat) : Int) := by simp only [m_o, hR1, sbt]
 refine ⟨Or.inr rfl, ?_⟩
 rw [hM]
 exact Ec
 have hc1 : decide (((i : Nat) : Int) < ((g.edges.length : Nat) : Int)) = false := decide_eq_false (by omega)
 refine Awp.cond (t := false) (by rw [← hc1] <;> kernel_rfl) (Awp.exit ?_)
 rw [List.drop_eq_nil_of_le (hl1), m_bn.eq_1] at hE1
 subst hE1
 refine Sq <| Rg <| Aq (AV.i .i64 (-1 : Int)) <| Ad <| Rt ?_
 have hM : m_o g name = (-1 : Int) := by simp only [m_o, hR1, sbt]
 refine ⟨Or.inr rfl, ?_⟩
 rw [hM]
 exact Ec
theorem w_ref1_Needs (W : World) (g : DGraph) (edge : Int) (he : edge.toNat < g.edges.length ∧ 0 ≤ edge) (hz : needsN g edge ≤ 1048576) : PureAt Go.Proofs.Tryz.prog W 44 [(DGraph.av g), (AV.i .i64 edge)] ((slA 1 (AV.i .i64)) (m_l g edge)) [] := by
 have hz' := hz
 unfold needsN at hz'
 have hlen : (((g.edges.getD edge.toNat default).ins ++ (g.edges.getD edge.toNat default).implicit) ++ (g.edges.getD edge.toNat default).order).length = needsN g edge := by simp [needsN]; omega
 refine pure_of_bodyC (fn := Go.Proofs.Tryz.f44) Go.Proofs.Tryz.func44 rfl (en44 W) (ts := [4]) rfl le <| Sq <| Rg <| Nn (AV.loc 0 0 0) ⟨26, 3, [(DGraph.av g)]⟩ <| Aq (AV.sl 1 true []) <| Ad <| Sq <| Rg <| Aq (AV.loc 0 0 0) <| Aq ((slA 7 DEdge.av) g.edges) <| Aq (AV.i .i64 edge) <| Ap (AV.pt (DEdge.av (g.edges.getD edge.toNat default)).cells) (g_idxI (k := 7) (nl := false) (e := 76) (kk := .i64) (A := DEdge.av) (xs := g.edges) (n := edge) kr kr kr ⟨by kernel_rfl, by decide⟩ sd (getD_some sd)) <| Aq (DEdge.av (g.edges.getD edge.toNat default)) <| Nn (AV.loc 1 0 0) ⟨76, 7, [(AV.st [(AV.sl 1 true []), (AV.sl 1 true []), (AV.sl 1 true []), (AV.sl 1 true []), (AV.s (⟨#[]⟩ : ByteArray)), (AV.b false), (AV.s (⟨#[]⟩ : ByteArray))])]⟩ <| Sp 1 ⟨76, 7, [(AV.st [((slA 1 AV.s) ((g.edges.getD edge.toNat default).outs)), ((slA 1 AV.s) ((g.edges.getD edge.toNat default).ins)), ((slA 1 AV.s) ((g.edges.getD edge.toNat default).implicit)), ((slA 1 AV.s) ((g.edges.getD edge.toNat default).order)), (AV.s ((g.edges.getD edge.toNat default).command)), (AV.b ((g.edges.getD edge.toNat default).deps)), (AV.s ((g.edges.getD edge.toNat default).pool))])]⟩ <| Ad <| Sq <| Rg <| Nn (AV.own 2 0 0) ⟨9, 1, [].map AV.s⟩ <| Aq (AV.loc 1 0 1) <| Aq ((slA 1 AV.s) ((g.edges.getD edge.toNat default).ins)) <| AOps.se (x := (AV.own 3 0 ((g.edges.getD edge.toNat default).ins.length))) (h' := ⟨4, [(3, some ⟨9, 1, ((g.edges.getD edge.toNat default).ins).map AV.s⟩), (2, none), (1, some ⟨76, 7, [(AV.st [((slA 1 AV.s) ((g.edges.getD edge.toNat default).outs)), ((slA 1 AV.s) ((g.edges.getD edge.toNat default).ins)), ((slA 1 AV.s) ((g.edges.getD edge.toNat default).implicit)), ((slA 1 AV.s) ((g.edges.getD edge.toNat default).order)), (AV.s ((g.edges.getD edge.toNat default).command)), (AV.b ((g.edges.getD edge.toNat default).deps)), (AV.s ((g.edges.getD edge.toNat default).pool))])]⟩), (0, some ⟨26, 3, [(DGraph.av g)]⟩)]⟩) (g_appR (len := 0) (e := 9) (X := ((slA 1 AV.s) ((g.edges.getD edge.toNat default).ins))) (A := AV.s) (i := tI_9) (p := 2) (xs := []) (ys := (g.edges.getD edge.toNat default).ins) kr kr kr (hx := kr) kr ⟨by decide, by kernel_rfl⟩ rfl sd (by show _ * 16 ≤ 140737488355328; first | omega | (simp only [List.length_append, List.length_cons, List.length_nil, List.length_set, List.length_replicate]; omega) | (simp; omega)) sd) le ?_
 refine Aq (AV.own 3 0 ((g.edges.getD edge.toNat default).ins.length)) <| Ad <| Sq <| Rg <| Aq (AV.own 3 0 ((g.edges.getD edge.toNat default).ins.length)) <| Aq (AV.loc 1 0 2) <| Aq ((slA 1 AV.s) ((g.edges.getD edge.toNat default).implicit)) <| AOps.se (x := (AV.own 4 0 (((g.edges.getD edge.toNat default).ins ++ (g.edges.getD edge.toNat default).implicit).length))) (h' := ⟨5, [(4, some ⟨9, 1, ((g.edges.getD edge.toNat default).ins ++ (g.edges.getD edge.toNat default).implicit).map AV.s⟩), (3, none), (2, none), (1, some ⟨76, 7, [(AV.st [((slA 1 AV.s) ((g.edges.getD edge.toNat default).outs)), ((slA 1 AV.s) ((g.edges.getD edge.toNat default).ins)), ((slA 1 AV.s) ((g.edges.getD edge.toNat default).implicit)), ((slA 1 AV.s) ((g.edges.getD edge.toNat default).order)), (AV.s ((g.edges.getD edge.toNat default).command)), (AV.b ((g.edges.getD edge.toNat default).deps)), (AV.s ((g.edges.getD edge.toNat default).pool))])]⟩), (0, some ⟨26, 3, [(DGraph.av g)]⟩)]⟩) (g_appR (len := ((g.edges.getD edge.toNat default).ins.length)) (e := 9) (X := ((slA 1 AV.s) ((g.edges.getD edge.toNat default).implicit))) (A := AV.s) (i := tI_9) (p := 3) (xs := ((g.edges.getD edge.toNat default).ins)) (ys := (g.edges.getD edge.toNat default).implicit) kr kr kr (hx := kr) kr ⟨by decide, by kernel_rfl⟩ rfl sd (by show _ * 16 ≤ 140737488355328; first | omega | (simp only [List.length_append, List.length_cons, List.length_nil, List.length_set, List.length_replicate]; omega) | (simp; omega)) sd) le <| Aq (AV.own 4 0 (((g.edges.getD edge.toNat default).ins ++ (g.edges.getD edge.toNat default).implicit).length)) ?_
 refine Ad <| Sq <| Rg <| Aq (AV.own 4 0 (((g.edges.getD edge.toNat default).ins ++ (g.edges.getD edge.toNat default).implicit).length)) <| Aq (AV.loc 1 0 3) <| Aq ((slA 1 AV.s) ((g.edges.getD edge.toNat default).order)) <| AOps.se (x := (AV.own 5 0 ((((g.edges.getD edge.toNat default).ins ++ (g.edges.getD edge.toNat default).implicit) ++ (g.edges.getD edge.toNat default).order).length))) (h' := ⟨6, [(5, some ⟨9, 1, (((g.edges.getD edge.toNat default).ins ++ (g.edges.getD edge.toNat default).implicit) ++ (g.edges.getD edge.toNat default).order).map AV.s⟩), (4, none), (3, none), (2, none), (1, some ⟨76, 7, [(AV.st [((slA 1 AV.s) ((g.edges.getD edge.toNat default).outs)), ((slA 1 AV.s) ((g.edges.getD edge.toNat default).ins)), ((slA 1 AV.s) ((g.edges.getD edge.toNat default).implicit)), ((slA 1 AV.s) ((g.edges.getD edge.toNat default).order)), (AV.s ((g.edges.getD edge.toNat default).command)), (AV.b ((g.edges.getD edge.toNat default).deps)), (AV.s ((g.edges.getD edge.toNat default).pool))])]⟩), (0, some ⟨26, 3, [(DGraph.av g)]⟩)]⟩) (g_appR (len := (((g.edges.getD edge.toNat default).ins ++ (g.edges.getD edge.toNat default).implicit).length)) (e := 9) (X := ((slA 1 AV.s) ((g.edges.getD edge.toNat default).order))) (A := AV.s) (i := tI_9) (p := 4) (xs := ((g.edges.getD edge.toNat default).ins ++ (g.edges.getD edge.toNat default).implicit)) (ys := (g.edges.getD edge.toNat default).order) kr kr kr (hx := kr) kr ⟨by decide, by kernel_rfl⟩ rfl rfl (by show _ * 16 ≤ 140737488355328; first | omega | (simp only [List.length_append, List.length_cons, List.length_nil, List.length_set, List.length_replicate]; omega) | (simp; omega)) sd) le ?_
 refine Aq (AV.own 5 0 ((((g.edges.getD edge.toNat default).ins ++ (g.edges.getD edge.toNat default).implicit) ++ (g.edges.getD edge.toNat default).order).length)) <| Ad <| Sq <| Rg <| Aq (AV.sl 1 true []) <| Ad <| Sq <| Sq <| Rg <| Aq (AV.i .i64 (0 : Int)) <| Ad <| Awp.block ?_
 have hB1 : ((((g.edges.getD edge.toNat default).ins ++ (g.edges.getD edge.toNat default).implicit) ++ (g.edges.getD edge.toNat default).order).length) ≤ 281474976710656 := by first | omega | (simp; done) | (simp; omega)
 obtain ⟨R1, hR1⟩ : ∃ R, m_a8 g (((g.edges.getD edge.toNat default).ins ++ (g.edges.getD edge.toNat default).implicit) ++ (g.edges.getD edge.toNat default).order) 0 [] = R := ⟨_, rfl⟩
 refine Awp.loopT (fun ((out, i) : (List Int) × Nat) => [(2, (AV.loc 1 0 0)), (6, (AV.own 2 0 ((((g.edges.getD edge.toNat default).ins ++ (g.edges.getD edge.toNat default).implicit) ++ (g.edges.getD edge.toNat default).order).length))), (7, (accV 0 1 (AV.i .i64) out)), (8, (Ai i))]) (fun ((out, i) : (List Int) × Nat) => ⟨3, [(0, accO 3 1 (AV.i .i64) out), (1, some ⟨26, 3, [(DGraph.av g)]⟩), (2, some ⟨9, 1, (((g.edges.getD edge.toNat default).ins ++ (g.edges.getD edge.toNat default).implicit) ++ (g.edges.getD edge.toNat default).order).map AV.s⟩)]⟩) (fun ((out, i) : (List Int) × Nat) => i ≤ ((((g.edges.getD edge.toNat default).ins ++ (g.edges.getD edge.toNat default).implicit) ++ (g.edges.getD edge.toNat default).order).length) ∧ out.length ≤ i ∧ m_a8 g ((((g.edges.getD edge.toNat default).ins ++ (g.edges.getD edge.toNat default).implicit) ++ (g.edges.getD edge.toNat default).order).drop i) i out = R1) (fun ((out, i) : (List Int) × Nat) => ((((g.edges.getD edge.toNat default).ins ++ (g.edges.getD edge.toNat default).implicit) ++ (g.edges.getD edge.toNat default).order).length) - i) ([], 0) ?_ ?_ ?_
 exact ⟨[1000000, 0, 5], ⟨by decide, rfl, (FitsObjs.cons rfl (FitsObjs.cons kr (FitsObjs.cons (obj_row (fun _ => rfl) (e := 9) (k := 1) (A := AV.s) (xs := (((g.edges.getD edge.toNat default).ins ++ (g.edges.getD edge.toNat default).implicit) ++ (g.edges.getD edge.toNat default).order)) rfl rfl) FitsObjs.nil))), (EntE.cons (Ent.f kr) (EntE.cons (Ent.f kr) (Ee (Ee EntE.nil))))⟩, keep0⟩
 exact ⟨od, sdd, hR1⟩
 rintro ⟨out, i⟩ ⟨hi1, hl, hE1⟩
 try dsimp only
 refine Sq <| Sq <| Rg <| Aq (Ai i) <| Aq (AV.own 2 0 ((((g.edges.getD edge.toNat default).ins ++ (g.edges.getD edge.toNat default).implicit) ++ (g.edges.getD edge.toNat default).order).length)) <| Aq (AV.i .i64 (((((g.edges.getD edge.toNat default).ins ++ (g.edges.getD edge.toNat default).implicit) ++ (g.edges.getD edge.toNat default).order).length : Nat) : Int)) <| Aq (AV.b (decide (((i : Nat) : Int) < (((((g.edges.getD edge.toNat default).ins ++ (g.edges.getD edge.toNat default).implicit) ++ (g.edges.getD edge.toNat default).order).length : Nat) : Int)))) <| Ad ?_
 rcases Nat.lt_or_ge i ((((g.edges.getD edge.toNat default).ins ++ (g.edges.getD edge.toNat default).implicit) ++ (g.edges.getD edge.toNat default).order).length) with hl1 | hl1
 have hc1 : decide (((i : Nat) : Int) < ((((((g.edges.getD edge.toNat default).ins ++ (g.edges.getD edge.toNat default).implicit) ++ (g.edges.getD edge.toNat default).order).length) : Nat) : Int)) = true := decide_eq_true (by omega)
 refine Awp.cond (t := true) (by rw [← hc1] <;> kernel_rfl) (Awp.skip ?_)
 obtain ⟨x1, hx1⟩ : ∃ x, (((g.edges.getD edge.toNat default).ins ++ (g.edges.getD edge.toNat default).implicit) ++ (g.edges.getD edge.toNat default).order)[i]? = some x := ⟨_, List.getElem?_eq_getElem (by first | (simpa using hl1) | omega)⟩
 rw [drop_at hx1, m_a8.eq_2] at hE1
 refine Sq <| Awp.block <| Sq <| Awp.drawn tabS_ok mixed 5 kr le <| Dq (DGraph.av g) <| Dq (AV.own 2 0 ((((g.edges.getD edge.toNat default).ins ++ (g.edges.getD edge.toNat default).implicit) ++ (g.edges.getD edge.toNat default).order).length)) <| Dq (Ai i) <| Dp (AV.loc 2 i 0) (g_oidx (e := 9) (id := 2) (len := ((((g.edges.getD edge.toNat default).ins ++ (g.edges.getD edge.toNat default).implicit) ++ (g.edges.getD edge.toNat default).order).length)) (kk := .i64) (ob := ⟨9, 1, (((g.edges.getD edge.toNat default).ins ++ (g.edges.getD edge.toNat default).implicit) ++ (g.edges.getD edge.toNat default).order).map AV.s⟩) (i := i) kr kr kr rfl kr sd) <| Dp (AV.s x1) (g_oload (e := 9) (k := 1) (i := tI_9) (id := 2) (xs := (((g.edges.getD edge.toNat default).ins ++ (g.edges.getD edge.toNat default).implicit) ++ (g.edges.getD edge.toNat default).order)) (A := AV.s) (j := i) kr kr rfl hx1 kr) <| AOpsD.sc0 (vs := [(DGraph.av g), (AV.s x1)]) (r0 := (AV.i .i64 (m_o g x1))) kr kr (w_ref1_MakerOf W g x1) kr le <| Dq (AV.i .i64 (m_o g x1)) <| AOpsD.fin <| Sq <| Rg <| Aq (AV.i .i64 (m_o g x1)) <| Aq (AV.b (decide ((0 : Int) ≤ (m_o g x1)))) <| Ad ?_
 cases c_1 : decide ((0 : Int) ≤ (m_o g x1))
 have k_1 := of_decide_eq_false c_1
 refine Cf <| Awp.skip <| Rg <| Aq (Ai i) <| Ap (Ai (i + 1)) (g_addN (i := i) (m := 1) kr kr sd) <| Aq (Ai (i + 1)) <| Ad ?_
 try simp only [c_1, sbt] at hE1
 refine ⟨(out, i + 1), od, ⟨od, sdd, hE1⟩, ?_⟩
 exact ⟨[0, 1, 2], ⟨by decide, rfl, (FitsObjs.cons (obj_acc (fun _ => rfl) (e := 3) (k := 1) (A := (AV.i .i64)) (xs := out) rfl rfl) (FitsObjs.cons kr (FitsObjs.cons (obj_row (fun _ => rfl) (e := 9) (k := 1) (A := AV.s) (xs := (((g.edges.getD edge.toNat default).ins ++ (g.edges.getD edge.toNat default).implicit) ++ (g.edges.getD edge.toNat default).order)) rfl rfl) FitsObjs.nil))), (EntE.cons (Ent.f kr) (EntE.cons (Ent.f kr) (EntE.cons (ent_keepA (by decide)) (Ee EntE.nil))))⟩, keep0⟩
 have k_1 := of_decide_eq_true c_1
 refine Ct <| Rg <| Aq (accV 0 1 (AV.i .i64) out) <| Aq (AV.i .i64 (m_o g x1)) <| Nn (AV.own 3 0 1) ⟨3, 1, [(m_o g x1)].map (AV.i .i64)⟩ <| AOps.se (x := (AV.own 4 0 ((out ++ [(m_o g x1)]).length))) (h' := ⟨5, [(4, some ⟨3, 1, (out ++ [(m_o g x1)]).map (AV.i .i64)⟩), (3, some ⟨3, 1, [(m_o g x1)].map (AV.i .i64)⟩), (0, none), (1, some ⟨26, 3, [(DGraph.av g)]⟩), (2, some ⟨9, 1, (((g.edges.getD edge.toNat default).ins ++ (g.edges.getD edge.toNat default).implicit) ++ (g.edges.getD edge.toNat default).order).map AV.s⟩)]⟩) (g_app (e := 3) (X := (AV.own 3 0 1)) (A := (AV.i .i64)) (i := tI_3) (p := 0) (xs := out) (ys := [(m_o g x1)]) kr kr kr (hx := kr) kr (by simp) ⟨by decide, by kernel_rfl⟩ rfl (by intro q; first | (subst q; rfl) | (rw [q]; rfl) | (simp only [q]; rfl)) (by show _ * 8 ≤ 140737488355328; first | omega | (simp only [List.length_append, List.length_cons, List.length_nil, List.length_set, List.length_replicate]; omega) | (simp; omega)) sd) le <| Aq (AV.own 4 0 ((out ++ [(m_o g x1)]).length)) <| Ad <| Rg <| Aq (Ai i) <| Ap (Ai (i + 1)) (g_addN (i := i) (m := 1) kr kr sd) <| Aq (Ai (i + 1)) <| Ad ?_
 try simp only [c_1, sbt] at hE1
 refine ⟨((out ++ [(m_o g x1)]), i + 1), od, ⟨od, sdd, hE1⟩, ?_⟩
 exact ⟨[4, 1, 2], ⟨by decide, rfl, (FitsObjs.cons (obj_acc' (fun _ => rfl) (e := 3) (k := 1) (A := (AV.i .i64)) (xs := (out ++ [(m_o g x1)])) (by simp) rfl rfl) (FitsObjs.cons kr (FitsObjs.cons (obj_row (fun _ => rfl) (e := 9) (k := 1) (A := AV.s) (xs := (((g.edges.getD edge.toNat default).ins ++ (g.edges.getD edge.toNat default).implicit) ++ (g.edges.getD edge.toNat default).order)) rfl rfl) FitsObjs.nil))), (EntE.cons (Ent.f kr) (EntE.cons (Ent.f kr) (EntE.cons (ent_keep (A := (AV.i .i64)) (xs := (out ++ [(m_o g x1)])) (by decide) (by simp) rfl) (Ee EntE.nil))))⟩, keep0⟩
 have hc1 : decide (((i : Nat) : Int) < ((((((g.edges.getD edge.toNat default).ins ++ (g.edges.getD edge.toNat default).implicit) ++ (g.edges.getD edge.toNat default).order).length) : Nat) : Int)) = false := decide_eq_false (by omega)
 refine Awp.cond (t := false) (by rw [← hc1] <;> kernel_rfl) (Awp.exit ?_)
 rw [List.drop_eq_nil_of_le (by first | (simpa using hl1) | omega), m_a8.eq_1] at hE1
 subst hE1
 refine Sq <| Rg <| Aq (accV 0 1 (AV.i .i64) out) <| Aq (accV 0 1 (AV.i .i64) out) <| Ad <| Rt ?_
 have hM : m_l g edge = out := by simp only [m_l, hR1, sbt]
 refine ⟨Or.inr rfl, ?_⟩
 rw [hM]
 exact Ent.cast (x' := (accV 0 1 (AV.i .i64) out)) (y' := ((slA 1 (AV.i .i64)) out)) kr kr (Ent.cast (x' := (accV 0 1 (AV.i .i64) out)) (y' := slA 1 (AV.i .i64) out) kr kr (ent_acc (fun _ => rfl) (by decide) (by decide) (e := 3) (k := 1) rfl sd))
theorem w_ref1_Order (W : World) (g : DGraph) (hz0 : g.sz ≤ 1048576) : PureAt Go.Proofs.Tryz.prog W 25 [(DGraph.av g)] (AV.tup [((slA 1 (AV.i .i64)) ((m_f g).1)), (AV.i .i64 ((m_f g).2))]) [] := by
 have hz : ∀ i, needsN g i ≤ 1048576 := fun i => Nat.le_trans (needsN_sz g i) hz0
 have hzo : outsN g.edges ≤ 1048576 := Nat.le_trans (outsN_sz g) hz0
 have hgl : g.edges.length ≤ 1048576 := Nat.le_trans g.sz_len hz0
 have hnm : ∀ e k, k ∈ m_l g e → 0 ≤ k ∧ k.toNat < g.edges.length := fun e k hk => rneeds_mem hk
 refine pure_of_bodyC (fn := Go.Proofs.Tryz.f25) Go.Proofs.Tryz.func25 rfl (en25 W) (ts := [2, 3]) rfl le <| Sq <| Rg <| Nn (AV.loc 0 0 0) ⟨26, 3, [(DGraph.av g)]⟩ <| Aq (AV.sl 1 true []) <| Aq (AV.i .i64 (0 : Int)) <| Ad <| Sq <| Sq <| Rg <| Aq (DGraph.av g) <| AOps.sc0 (vs := [(DGraph.av g)]) (r0 := (AV.i .i64 (m_aw g))) kr kr (w_ref1_Check W g hzo) kr le <| Aq (AV.b (!decide ((m_aw g) = (0 : Int)))) <| Ad ?_
 cases c_1 : (!decide ((m_aw g) = (0 : Int)))
 have k_1 := nde c_1
 refine Cf <| Awp.skip <| Sq <| Rg <| Aq (AV.loc 0 0 0) <| Aq ((slA 7 DEdge.av) g.edges) <| Ap (Ai g.edges.length) (g_len (k := 7) (nl := false) (e := 76) (A := DEdge.av) (xs := g.edges) kr kr) <| AOps.sn (x := (AV.own 1 0 g.edges.length)) (h' := ⟨2, [(1, some ⟨4, 1, (List.replicate g.edges.length false).map AV.b⟩), (0, some ⟨26, 3, [(DGraph.av g)]⟩)]⟩) (g_make (e := 4) (i := tI_4) (A := AV.b) (z := false) (n := g.edges.length) kr kr kr kr ⟨by decide, by kernel_rfl⟩ kr (by show _ * 1 ≤ 140737488355328; first | omega | (simp only [List.length_append, List.length_cons, List.length_nil, List.length_set, List.length_replicate]; omega) | (simp; omega)) sd) le <| Aq (AV.own 1 0 g.edges.length) <| Ad <| Sq <| Rg <| Aq (AV.sl 1 true []) <| Ad <| Sq <| Awp.block ?_
 obtain ⟨R1, hR1⟩ : ∃ R, m_bp g (g.edges.length - 0 + 1) [] (List.replicate g.edges.length false) = R := ⟨_, rfl⟩
 refine Awp.loopT (fun ((kf1, (out, row)) : Nat × ((List Int) × (List Bool))) => [(1, (AV.loc 1 0 0)), (4, (AV.own 2 0 g.edges.length)), (5, (accV 0 1 (AV.i .i64) out))]) (fun ((kf1, (out, row)) : Nat × ((List Int) × (List Bool))) => ⟨3, [(0, accO 3 1 (AV.i .i64) out), (1, some ⟨26, 3, [(DGraph.av g)]⟩), (2, some ⟨4, 1, row.map AV.b⟩)]⟩) (fun ((kf1, (out, row)) : Nat × ((List Int) × (List Bool))) => g.edges.length - out.length < kf1 ∧ row.length = g.edges.length ∧ out.length ≤ g.edges.length ∧ m_bp g kf1 out row = R1) (fun ((kf1, (out, row)) : Nat × ((List Int) × (List Bool))) => kf1) (g.edges.length - 0 + 1, ([], (List.replicate g.edges.length false))) ?_ ?_ ?_
 exact ⟨[1000000, 0, 1], ⟨by decide, rfl, (FitsObjs.cons rfl (FitsObjs.cons kr (FitsObjs.cons (obj_row (fun _ => rfl) (e := 4) (k := 1) (A := AV.b) (xs := (List.replicate g.edges.length false)) rfl rfl) FitsObjs.nil))), (EntE.cons (Ent.f kr) (EntE.cons (Ent.f kr) (Ee EntE.nil)))⟩, keep0⟩
 exact ⟨od, sdd, sdd, hR1⟩
 rintro ⟨kf1, out, row⟩ ⟨hi1, ht, ho, hE1⟩
 try dsimp only
 rcases kf1 with _ | kf1
 exact absurd hi1 (Nat.not_lt_zero _)
 rw [m_bp.eq_2] at hE1
 refine Sq <| Sq <| Rg <| Aq (accV 0 1 (AV.i .i64) out) <| Ap (Ai out.length) (g_lenAcc (e := 3) (A := (AV.i .i64)) (xs := out) (p := 0) (k := 1) kr kr (fun q => acc_some (e := 3) (k := 1) (A := (AV.i .i64)) q rfl)) <| Aq (AV.loc 1 0 0) <| Aq ((slA 7 DEdge.av) g.edges) <| Ap (Ai g.edges.length) (g_len (k := 7) (nl := false) (e := 76) (A := DEdge.av) (xs := g.edges) kr kr) <| Aq (AV.b (decide (((out.length : Nat) : Int) < ((g.edges.length : Nat) : Int)))) <| Ad ?_
 cases c_2 : decide (((out.length : Nat) : Int) < ((g.edges.length : Nat) : Int))
 have k_2 := of_decide_eq_false c_2
 refine Cf <| Awp.exit ?_
 try simp only [c_2, sbt] at hE1
 subst hE1
 refine Sq <| Rg <| Aq (accV 0 1 (AV.i .i64) out) <| Aq (accV 0 1 (AV.i .i64) out) <| Aq (AV.i .i64 (0 : Int)) <| Ad <| Rt ?_
 have hM : m_f g = (out, (0 : Int)) := by simp only [m_f, c_1, hR1, sbt]
 refine ⟨Or.inr rfl, ?_⟩
 rw [hM]
 exact Ent.cast (x' := (AV.tup [(accV 0 1 (AV.i .i64) out), (AV.i .i64 (0 : Int))])) (y' := (AV.tup [((slA 1 (AV.i .i64)) ((out, (0 : Int)).1)), (AV.i .i64 ((out, (0 : Int)).2))])) kr kr (Ent.tup ⟨(Ent.cast (x' := (accV 0 1 (AV.i .i64) out)) (y' := slA 1 (AV.i .i64) out) kr kr (ent_acc (fun _ => rfl) (by decide) (by decide) (e := 3) (k := 1) rfl sd)), ⟨Ec, trivial⟩⟩ kr)
 have k_2 := of_decide_eq_true c_2
 refine Ct <| Awp.skip <| Awp.block <| Sq <| Rg <| Aq (AV.i .i64 (-1 : Int)) <| Ad <| Sq <| Sq <| Rg <| Aq (AV.loc 1 0 0) <| Aq ((slA 7 DEdge.av) g.edges) <| Ap (Ai g.edges.length) (g_len (k := 7) (nl := false) (e := 76) (A := DEdge.av) (xs := g.edges) kr kr) <| Ap (AV.i .i64 (((g.edges.length : Nat) : Int) - (1 : Int))) (g_subI (a := ((g.edges.length : Nat) : Int)) (b := (1 : Int)) kr kr sd sd) <| Aq (AV.i .i64 (((g.edges.length : Nat) : Int) - (1 : Int))) <| Ad <| Awp.block ?_
 obtain ⟨R2, hR2⟩ : ∃ R, m_a9 row g (((((g.edges.length : Nat) : Int) - (1 : Int)) + 1).toNat + 1) (-1 : Int) (((g.edges.length : Nat) : Int) - (1 : Int)) = R := ⟨_, rfl⟩
 refine Awp.loopT (fun ((kf2, (next, i)) : Nat × (Int × Int)) => [(1, (AV.loc 0 0 0)), (4, (AV.own 1 0 g.edges.length)), (5, (accV 2 1 (AV.i .i64) out)), (6, (AV.i .i64 next)), (7, (AV.i .i64 i))]) (fun ((kf2, (next, i)) : Nat × (Int × Int)) => ⟨3, [(0, some ⟨26, 3, [(DGraph.av g)]⟩), (1, some ⟨4, 1, row.map AV.b⟩), (2, accO 3 1 (AV.i .i64) out)]⟩) (fun ((kf2, (next, i)) : Nat × (Int × Int)) => (i + 1).toNat < kf2 ∧ -1 ≤ i ∧ i < ((g.edges.length : Nat) : Int) ∧ -1 ≤ next ∧ next < ((g.edges.length : Nat) : Int) ∧ m_a9 row g kf2 next i = R2) (fun ((kf2, (next, i)) : Nat × (Int × Int)) => kf2) (((((g.edges.length : Nat) : Int) - (1 : Int)) + 1).toNat + 1, ((-1 : Int), (((g.edges.length : Nat) : Int) - (1 : Int)))) ?_ ?_ ?_
 exact ⟨[1, 2, 0], ⟨by decide, rfl, (FitsObjs.cons kr (FitsObjs.cons (obj_row (fun _ => rfl) (e := 4) (k := 1) (A := AV.b) (xs := row) rfl rfl) (FitsObjs.cons (obj_acc (fun _ => rfl) (e := 3) (k := 1) (A := (AV.i .i64)) (xs := out) rfl rfl) FitsObjs.nil))), (EntE.cons (Ent.f kr) (EntE.cons (Ent.f kr) (EntE.cons (ent_keepA (by decide)) (Ee (Ee EntE.nil)))))⟩, keep0⟩
 exact ⟨od, sdd, sdd, sdd, sdd, hR2⟩
 rintro ⟨kf2, next, i⟩ ⟨hi2, hi, hi2, hn1, hn2, hE2⟩
 try dsimp only
 rcases kf2 with _ | kf2
 exact absurd hi2 (Nat.not_lt_zero _)
 rw [m_a9.eq_2] at hE2
 refine Sq <| Sq <| Rg <| Aq (AV.i .i64 i) <| Aq (AV.b (decide ((0 : Int) ≤ i))) <| Ad ?_
 cases c_3 : decide ((0 : Int) ≤ i)
 have k_3 := of_decide_eq_false c_3
 refine Cf <| Awp.exit ?_
 try simp only [c_3, sbt] at hE2
 subst hE2
 refine Sq <| Sq <| Rg <| Aq (AV.i .i64 next) <| Aq (AV.b (decide (next < (0 : Int)))) <| Ad ?_
 cases c_4 : decide (next < (0 : Int))
 have k_4 := of_decide_eq_false c_4
 refine Cf <| Awp.skip <| Sq <| Rg <| Aq (AV.own 1 0 g.edges.length) <| Aq (AV.i .i64 next) <| Ap (AV.loc 1 next.toNat 0) (g_oidxI (e := 4) (id := 1) (len := g.edges.length) (kk := .i64) (ob := ⟨4, 1, row.map AV.b⟩) (n := next) kr kr kr rfl kr sd sd) <| AOps.st (x := AV.und) (h' := ⟨3, [(0, some ⟨26, 3, [(DGraph.av g)]⟩), (1, some ⟨4, 1, (row.set next.toNat true).map AV.b⟩), (2, accO 3 1 (AV.i .i64) out)]⟩) (g_set (e := 4) (k := 1) (i := tI_4) (id := 1) (A := AV.b) (xs := row) (y := true) (j := next.toNat) kr kr kr rfl sd (fun _ => rfl) kr (fun _ => rfl) (fun _ => rfl)) <| Ad <| Rg <| Aq (accV 2 1 (AV.i .i64) out) <| Aq (AV.i .i64 next) <| Nn (AV.own 3 0 1) ⟨3, 1, [next].map (AV.i .i64)⟩ <| AOps.se (x := (AV.own 4 0 ((out ++ [next]).length))) (h' := ⟨5, [(4, some ⟨3, 1, (out ++ [next]).map (AV.i .i64)⟩), (3, some ⟨3, 1, [next].map (AV.i .i64)⟩), (0, some ⟨26, 3, [(DGraph.av g)]⟩), (1, some ⟨4, 1, (row.set next.toNat true).map AV.b⟩), (2, none)]⟩) (g_app (e := 3) (X := (AV.own 3 0 1)) (A := (AV.i .i64)) (i := tI_3) (p := 2) (xs := out) (ys := [next]) kr kr kr (hx := kr) kr (by simp) ⟨by decide, by kernel_rfl⟩ rfl (by intro q; first | (subst q; rfl) | (rw [q]; rfl) | (simp only [q]; rfl)) (by show _ * 8 ≤ 140737488355328; first | omega | (simp only [List.length_append, List.length_cons, List.length_nil, List.length_set, List.length_replicate]; omega) | (simp; omega)) sd) le <| Aq (AV.own 4 0 ((out ++ [next]).length)) <| Ad ?_
 try simp only [c_2, hR2, c_4, sbt] at hE1
 refine ⟨(kf1, ((out ++ [next]), (row.set next.toNat true))), od, ⟨sdd, sdd, sdd, hE1⟩, ?_⟩
 exact ⟨[4, 0, 1], ⟨by decide, rfl, (FitsObjs.cons (obj_acc' (fun _ => rfl) (e := 3) (k := 1) (A := (AV.i .i64)) (xs := (out ++ [next])) (by simp) rfl rfl) (FitsObjs.cons kr (FitsObjs.cons (obj_row (fun _ => rfl) (e := 4) (k := 1) (A := AV.b) (xs := (row.set next.toNat true)) rfl rfl) FitsObjs.nil))), (EntE.cons (Ent.f kr) (EntE.cons (Ent.f kr) (EntE.cons (ent_keep (A := (AV.i .i64)) (xs := (out ++ [next])) (by decide) (by simp) rfl) EntE.nil)))⟩, keep0⟩
 have k_4 := of_decide_eq_true c_4
 refine Ct <| Sq <| Rg <| Aq (AV.sl 1 true []) <| Aq (AV.i .i64 (1001 : Int)) <| Ad <| Rt ?_
 try simp only [c_2, hR2, c_4, sbt] at hE1
 subst hE1
 have hM : m_f g = (([] : List Int), (1001 : Int)) := by simp only [m_f, c_1, hR1, sbt]
 refine ⟨Or.inr rfl, ?_⟩
 rw [hM]
 exact Ent.cast (x' := (AV.tup [(AV.sl 1 true []), (AV.i .i64 (1001 : Int))])) (y' := (AV.tup [((slA 1 (AV.i .i64)) ((([] : List Int), (1001 : Int)).1)), (AV.i .i64 ((([] : List Int), (1001 : Int)).2))])) kr kr (Ent.tup ⟨(Ent.w rfl (WeakC.nil 1)), ⟨Ec, trivial⟩⟩ kr)
 have k_3 := of_decide_eq_true c_3
 refine Ct <| Awp.skip <| Sq <| Awp.block <| Sq <| Rg <| Aq (AV.own 1 0 g.edges.length) <| Aq (AV.i .i64 i) <| Ap (AV.loc 1 i.toNat 0) (g_oidxI (e := 4) (id := 1) (len := g.edges.length) (kk := .i64) (ob := ⟨4, 1, row.map AV.b⟩) (n := i) kr kr kr rfl kr sd sd) <| Ap (AV.b (row.getD i.toNat default)) (g_oload (e := 4) (k := 1) (i := tI_4) (id := 1) (xs := row) (A := AV.b) (j := i.toNat) kr kr rfl (getD_some sd) kr) <| Aq (AV.b (!(row.getD i.toNat default))) <| Aq (AV.b (!(row.getD i.toNat default))) <| Ad <| Sq <| Rg <| Aq (DGraph.av g) <| Aq (AV.i .i64 i) <| AOps.sc0 (vs := [(DGraph.av g), (AV.i .i64 i)]) (r0 := ((slA 1 (AV.i .i64)) (m_l g i))) kr kr (w_ref1_Needs W g i ⟨by omega, by omega⟩ (hz _)) kr le <| Aq ((slA 1 (AV.i .i64)) (m_l g i)) <| Ad <| Sq <| Sq <| Rg <| Aq (AV.i .i64 (0 : Int)) <| Ad <| Awp.block <| Awp.lim 39 (x := ((slA 1 (AV.i .i64)) (m_l g i))) kr fun hlm3 => ?_
 have hB3 : (m_l g i).length ≤ 281474976710656 := lim_slA hlm3
 obtain ⟨R3, hR3⟩ : ∃ R, m_a1 row (m_l g i) 0 (!(row.getD i.toNat default)) = R := ⟨_, rfl⟩
 refine Awp.loopT (fun ((free, k) : Bool × Nat) => [(1, (AV.loc 0 0 0)), (4, (AV.own 1 0 g.edges.length)), (5, (accV 2 1 (AV.i .i64) out)), (6, (AV.i .i64 next)), (7, (AV.i .i64 i)), (9, ((slA 1 (AV.i .i64)) (m_l g i))), (8, (AV.b free)), (10, (Ai k))]) (fun ((free, k) : Bool × Nat) => ⟨3, [(0, some ⟨26, 3, [(DGraph.av g)]⟩), (1, some ⟨4, 1, row.map AV.b⟩), (2, accO 3 1 (AV.i .i64) out)]⟩) (fun ((free, k) : Bool × Nat) => k ≤ (m_l g i).length ∧ m_a1 row ((m_l g i).drop k) k free = R3) (fun ((free, k) : Bool × Nat) => (m_l g i).length - k) ((!(row.getD i.toNat default)), 0) ?_ ?_ ?_
 exact ⟨[0, 1, 2], ⟨by decide, rfl, (FitsObjs.cons kr (FitsObjs.cons (obj_row (fun _ => rfl) (e := 4) (k := 1) (A := AV.b) (xs := row) rfl rfl) (FitsObjs.cons (obj_acc (fun _ => rfl) (e := 3) (k := 1) (A := (AV.i .i64)) (xs := out) rfl rfl) FitsObjs.nil))), (EntE.cons (Ent.f kr) (EntE.cons (Ent.f kr) (EntE.cons (ent_keepA (by decide)) (Ee (Ee (Ee (Ee (Ee EntE.nil))))))))⟩, keep0⟩
 exact ⟨od, hR3⟩
 rintro ⟨free, k⟩ ⟨hi3, hE3⟩
 try dsimp only
 refine Sq <| Sq <| Rg <| Aq (Ai k) <| Aq ((slA 1 (AV.i .i64)) (m_l g i)) <| Ap (AV.i .i64 (((m_l g i).length : Nat) : Int)) (g_len (k := 1) (nl := false) (e := 3) (A := (AV.i .i64)) (xs := (m_l g i)) kr kr) <| Aq (AV.b (decide (((k : Nat) : Int) < (((m_l g i).length : Nat) : Int)))) <| Ad ?_
 rcases Nat.lt_or_ge k (m_l g i).length with hl3 | hl3
 have hc3 : decide (((k : Nat) : Int) < (((m_l g i).length : Nat) : Int)) = true := decide_eq_true (by omega)
 refine Awp.cond (t := true) (by rw [← hc3] <;> kernel_rfl) (Awp.skip ?_)
 obtain ⟨x3, hx3⟩ : ∃ x, (m_l g i)[k]? = some x := ⟨_, List.getElem?_eq_getElem hl3⟩
 rw [drop_at hx3, m_a1.eq_2] at hE3
 have hk1 := hnm _ _ (List.mem_of_getElem? hx3)
 refine Sq <| Awp.block <| Rg <| Aq (AV.b free) <| Aq (AV.b free) ?_
 cases c_5 : free
 refine An <| An <| An <| An <| An <| An <| An <| Aq (AV.b false) <| Aq (AV.b false) <| Ad <| Rg <| Aq (Ai k) <| Ap (Ai (k + 1)) (g_addN (i := k) (m := 1) kr kr sd) <| Aq (Ai (k + 1)) <| Ad ?_
 try simp only [c_5, sbt] at hE3
 refine ⟨(false, k + 1), od, ⟨od, hE3⟩, ?_⟩
 exact ⟨[0, 1, 2], ⟨by decide, rfl, (FitsObjs.cons kr (FitsObjs.cons (obj_row (fun _ => rfl) (e := 4) (k := 1) (A := AV.b) (xs := row) rfl rfl) (FitsObjs.cons (obj_acc (fun _ => rfl) (e := 3) (k := 1) (A := (AV.i .i64)) (xs := out) rfl rfl) FitsObjs.nil))), (EntE.cons (Ent.f kr) (EntE.cons (Ent.f kr) (EntE.cons (ent_keepA (by decide)) (Ee (Ee (Ee (Ee (Ee EntE.nil))))))))⟩, keep0⟩
 refine Ay <| Aq (AV.own 1 0 g.edges.length) <| Ay <| Aq ((slA 1 (AV.i .i64)) (m_l g i)) <| Ay <| Aq (Ai k) <| Ay <| Ap (AV.pt ((AV.i .i64) x3).cells) (g_idx (k := 1) (nl := false) (e := 3) (kk := .i64) (A := (AV.i .i64)) (xs := (m_l g i)) (i := k) kr kr kr ⟨by kernel_rfl, by decide⟩ hx3) <| Ay <| Aq (AV.i .i64 x3) <| Ay <| Ap (AV.loc 1 x3.toNat 0) (g_oidxI (e := 4) (id := 1) (len := g.edges.length) (kk := .i64) (ob := ⟨4, 1, row.map AV.b⟩) (n := x3) kr kr kr rfl kr sd sd) <| Ay <| Ap (AV.b (row.getD x3.toNat default)) (g_oload (e := 4) (k := 1) (i := tI_4) (id := 1) (xs := row) (A := AV.b) (j := x3.toNat) kr kr rfl (getD_some sd) kr) <| Aq (AV.b (row.getD x3.toNat default)) <| Aq (AV.b (row.getD x3.toNat default)) <| Ad <| Rg <| Aq (Ai k) <| Ap (Ai (k + 1)) (g_addN (i := k) (m := 1) kr kr sd) <| Aq (Ai (k + 1)) <| Ad ?_
 try simp only [c_5, sbt] at hE3
 refine ⟨((row.getD x3.toNat default), k + 1), od, ⟨od, hE3⟩, ?_⟩
 exact ⟨[0, 1, 2], ⟨by decide, rfl, (FitsObjs.cons kr (FitsObjs.cons (obj_row (fun _ => rfl) (e := 4) (k := 1) (A := AV.b) (xs := row) rfl rfl) (FitsObjs.cons (obj_acc (fun _ => rfl) (e := 3) (k := 1) (A := (AV.i .i64)) (xs := out) rfl rfl) FitsObjs.nil))), (EntE.cons (Ent.f kr) (EntE.cons (Ent.f kr) (EntE.cons (ent_keepA (by decide)) (Ee (Ee (Ee (Ee (Ee EntE.nil))))))))⟩, keep0⟩
 have hc3 : decide (((k : Nat) : Int) < (((m_l g i).length : Nat) : Int)) = false := decide_eq_false (by omega)
 refine Awp.cond (t := false) (by rw [← hc3] <;> kernel_rfl) (Awp.exit ?_)
 rw [List.drop_eq_nil_of_le (hl3), m_a1.eq_1] at hE3
 subst hE3
 refine Sq <| Rg <| Aq (AV.b free) <| Ad ?_
 cases c_6 : free
 refine Cf <| Awp.skip <| Rg <| Aq (AV.i .i64 i) <| Ap (AV.i .i64 (i - (1 : Int))) (g_subI (a := i) (b := (1 : Int)) kr kr sd sd) <| Aq (AV.i .i64 (i - (1 : Int))) <| Ad ?_
 try simp only [c_3, hR3, c_6, sbt] at hE2
 refine ⟨(kf2, (next, (i - (1 : Int)))), od, ⟨sdd, sdd, sdd, sdd, sdd, hE2⟩, ?_⟩
 exact ⟨[0, 1, 2], ⟨by decide, rfl, (FitsObjs.cons kr (FitsObjs.cons (obj_row (fun _ => rfl) (e := 4) (k := 1) (A := AV.b) (xs := row) rfl rfl) (FitsObjs.cons (obj_acc (fun _ => rfl) (e := 3) (k := 1) (A := (AV.i .i64)) (xs := out) rfl rfl) FitsObjs.nil))), (EntE.cons (Ent.f kr) (EntE.cons (Ent.f kr) (EntE.cons (ent_keepA (by decide)) (Ee (Ee EntE.nil)))))⟩, keep0⟩
 refine Ct <| Rg <| Aq (AV.i .i64 i) <| Aq (AV.i .i64 i) <| Ad <| Rg <| Aq (AV.i .i64 i) <| Ap (AV.i .i64 (i - (1 : Int))) (g_subI (a := i) (b := (1 : Int)) kr kr sd sd) <| Aq (AV.i .i64 (i - (1 : Int))) <| Ad ?_
 try simp only [c_3, hR3, c_6, sbt] at hE2
 refine ⟨(kf2, (i, (i - (1 : Int)))), od, ⟨sdd, sdd, sdd, sdd, sdd, hE2⟩, ?_⟩
 exact ⟨[0, 1, 2], ⟨by decide, rfl, (FitsObjs.cons kr (FitsObjs.cons (obj_row (fun _ => rfl) (e := 4) (k := 1) (A := AV.b) (xs := row) rfl rfl) (FitsObjs.cons (obj_acc (fun _ => rfl) (e := 3) (k := 1) (A := (AV.i .i64)) (xs := out) rfl rfl) FitsObjs.nil))), (EntE.cons (Ent.f kr) (EntE.cons (Ent.f kr) (EntE.cons (ent_keepA (by decide)) (Ee (Ee EntE.nil)))))⟩, keep0⟩
 have k_1 := ndt c_1
 refine Ct <| Sq <| Rg <| Aq (AV.sl 1 true []) <| Aq (AV.i .i64 (1000 : Int)) <| Ad <| Rt ?_
 have hM : m_f g = (([] : List Int), (1000 : Int)) := by simp only [m_f, c_1, sbt]
 refine ⟨Or.inr rfl, ?_⟩
 rw [hM]
 exact Ent.cast (x' := (AV.tup [(AV.sl 1 true []), (AV.i .i64 (1000 : Int))])) (y' := (AV.tup [((slA 1 (AV.i .i64)) ((([] : List Int), (1000 : Int)).1)), (AV.i .i64 ((([] : List Int), (1000 : Int)).2))])) kr kr (Ent.tup ⟨(Ent.w rfl (WeakC.nil 1)), ⟨Ec, trivial⟩⟩ kr)
theorem w_law0_SameBools (W : World) (a : List Bool) (b : List Bool) : PureAt Go.Proofs.Tryz.prog W 32 [((slA 1 AV.b) a), ((slA 1 AV.b) b)] (AV.b (m_u a b)) [] := by
 refine pure_of_bodyC (fn := Go.Proofs.Tryz.f32) Go.Proofs.Tryz.func32 rfl (en32 W) (ts := [4]) rfl le <| Sq <| Rg <| Aq (AV.b false) <| Ad <| Sq <| Sq <| Rg <| Aq ((slA 1 AV.b) a) <| Ap (Ai a.length) (g_len (k := 1) (nl := false) (e := 4) (A := AV.b) (xs := a) kr kr) <| Aq ((slA 1 AV.b) b) <| Ap (Ai b.length) (g_len (k := 1) (nl := false) (e := 4) (A := AV.b) (xs := b) kr kr) <| Aq (AV.b (!decide (((a.length : Nat) : Int) = ((b.length : Nat) : Int)))) <| Ad ?_
 cases c_1 : (!decide (((a.length : Nat) : Int) = ((b.length : Nat) : Int)))
 have k_1 := nde c_1
 refine Cf <| Awp.skip <| Sq <| Sq <| Rg <| Aq (AV.i .i64 (0 : Int)) <| Ad <| Awp.block <| Awp.lim 0 (x := ((slA 1 AV.b) a)) kr fun hlm1 => ?_
 have hB1 : a.length ≤ 281474976710656 := lim_slA hlm1
 obtain ⟨R1, hR1⟩ : ∃ R, m_aq b a 0 = R := ⟨_, rfl⟩
 refine Awp.loopT (fun (i : Nat) => [(0, ((slA 1 AV.b) a)), (1, ((slA 1 AV.b) b)), (5, (Ai i))]) (fun (i : Nat) => ⟨0, []⟩) (fun (i : Nat) => i ≤ a.length ∧ m_aq b (a.drop i) i = R1) (fun (i : Nat) => a.length - i) 0 ?_ ?_ ?_
 exact ⟨[], ⟨by decide, rfl, FitsObjs.nil, (Ee (Ee (Ee EntE.nil)))⟩, keep0⟩
 exact ⟨od, hR1⟩
 rintro i ⟨hi1, hE1⟩
 try dsimp only
 refine Sq <| Sq <| Rg <| Aq (Ai i) <| Aq ((slA 1 AV.b) a) <| Ap (Ai a.length) (g_len (k := 1) (nl := false) (e := 4) (A := AV.b) (xs := a) kr kr) <| Aq (AV.b (decide (((i : Nat) : Int) < ((a.length : Nat) : Int)))) <| Ad ?_
 rcases Nat.lt_or_ge i a.length with hl1 | hl1
 have hc1 : decide (((i : Nat) : Int) < ((a.length : Nat) : Int)) = true := decide_eq_true (by omega)
 refine Awp.cond (t := true) (by rw [← hc1] <;> kernel_rfl) (Awp.skip ?_)
 obtain ⟨x1, hx1⟩ : ∃ x, a[i]? = some x := ⟨_, List.getElem?_eq_getElem hl1⟩
 rw [drop_at hx1, m_aq.eq_2] at hE1
 refine Sq <| Awp.block <| Sq <| Awp.drawn tabS_ok mixed 8 kr le <| Dq ((slA 1 AV.b) a) <| Dq (Ai i) <| Dp (AV.pt (AV.b x1).cells) (g_idx (k := 1) (nl := false) (e := 4) (kk := .i64) (A := AV.b) (xs := a) (i := i) kr kr kr ⟨by kernel_rfl, by decide⟩ hx1) <| Dq (AV.b x1) <| Dq ((slA 1 AV.b) b) <| Dq (Ai i) <| Dp (AV.pt (AV.b (b.getD i default)).cells) (g_idx (k := 1) (nl := false) (e := 4) (kk := .i64) (A := AV.b) (xs := b) (i := i) kr kr kr ⟨by kernel_rfl, by decide⟩ (getD_some sd)) <| Dq (AV.b (b.getD i default)) <| Dq (AV.b (!(x1 == (b.getD i default)))) <| AOpsD.fin ?_
 cases c_2 : (!(x1 == (b.getD i default)))
 refine Cf <| Awp.skip <| Rg <| Aq (Ai i) <| Ap (Ai (i + 1)) (g_addN (i := i) (m := 1) kr kr sd) <| Aq (Ai (i + 1)) <| Ad ?_
 try simp only [c_2, sbt] at hE1
 refine ⟨i + 1, od, ⟨od, hE1⟩, ?_⟩
 exact ⟨[], ⟨by decide, rfl, FitsObjs.nil, (Ee (Ee (Ee EntE.nil)))⟩, keep0⟩
 refine Ct <| Sq <| Rg <| Aq (AV.b false) <| Ad <| Rt ?_
 try simp only [c_2, sbt] at hE1
 subst hE1
 have hM : m_u a b = false := by simp only [m_u, c_1, hR1, sbt]
 refine ⟨Or.inr rfl, ?_⟩
 rw [hM]
 exact Ec
 have hc1 : decide (((i : Nat) : Int) < ((a.length : Nat) : Int)) = false := decide_eq_false (by omega)
 refine Awp.cond (t := false) (by rw [← hc1] <;> kernel_rfl) (Awp.exit ?_)
 rw [List.drop_eq_nil_of_le (hl1), m_aq.eq_1] at hE1
 subst hE1
 refine Sq <| Rg <| Aq (AV.b true) <| Ad <| Rt ?_
 have hM : m_u a b = true := by simp only [m_u, c_1, hR1, sbt]
 refine ⟨Or.inr rfl, ?_⟩
 rw [hM]
 exact Ec
 have k_1 := ndt c_1
 refine Ct <| Sq <| Rg <| Aq (AV.b false) <| Ad <| Rt ?_
 have hM : m_u a b = false := by simp only [m_u, c_1, sbt]
 refine ⟨Or.inr rfl, ?_⟩
 rw [hM]
 exact Ec
theorem w_slices_Index_int_int (W : World) (s' : List Int) (v : Int) : PureAt Go.Proofs.Tryz.prog W 106 [((slA 1 (AV.i .i64)) s'), (AV.i .i64 v)] (AV.i .i64 (m_9 s' v)) [] := by
 refine pure_of_bodyC (fn := Go.Proofs.Tryz.f106) Go.Proofs.Tryz.func106 rfl (en106 W) (ts := [4]) rfl le <| Sq <| Rg <| Aq (AV.i .i64 (0 : Int)) <| Ad <| Sq <| Sq <| Rg <| Aq ((slA 1 (AV.i .i64)) s') <| Ap (Ai s'.length) (g_len (k := 1) (nl := false) (e := 3) (A := (AV.i .i64)) (xs := s') kr kr) <| Aq (AV.i .i64 (0 : Int)) <| Ad <| Awp.block <| Awp.lim 0 (x := ((slA 1 (AV.i .i64)) s')) kr fun hlm1 => ?_
 have hB1 : s'.length ≤ 281474976710656 := lim_slA hlm1
 obtain ⟨R1, hR1⟩ : ∃ R, m_an v s' 0 = R := ⟨_, rfl⟩
 refine Awp.loopT (fun (v8 : Nat) => [(0, ((slA 1 (AV.i .i64)) s')), (1, (AV.i .i64 v)), (7, (Ai s'.length)), (8, (Ai v8))]) (fun (v8 : Nat) => ⟨0, []⟩) (fun (v8 : Nat) => v8 ≤ s'.length ∧ m_an v (s'.drop v8) v8 = R1) (fun (v8 : Nat) => s'.length - v8) 0 ?_ ?_ ?_
 exact ⟨[], ⟨by decide, rfl, FitsObjs.nil, (Ee (Ee (Ee (Ee EntE.nil))))⟩, keep0⟩
 exact ⟨od, hR1⟩
 rintro v8 ⟨hi1, hE1⟩
 try dsimp only
 refine Sq <| Rg <| Aq (AV.b (decide (((v8 : Nat) : Int) < ((s'.length : Nat) : Int)))) <| Ad <| Sq ?_
 rcases Nat.lt_or_ge v8 s'.length with hl1 | hl1
 have hc1 : decide (((v8 : Nat) : Int) < ((s'.length : Nat) : Int)) = true := decide_eq_true (by omega)
 refine Awp.cond (t := true) (by rw [← hc1] <;> kernel_rfl) (Awp.skip ?_)
 obtain ⟨x1, hx1⟩ : ∃ x, s'[v8]? = some x := ⟨_, List.getElem?_eq_getElem hl1⟩
 rw [drop_at hx1, m_an.eq_2] at hE1
 refine Sq <| Awp.block <| Sq <| Rg <| Aq (Ai v8) <| Aq (Ai v8) <| Ad <| Sq <| Rg <| Aq (AV.i .i64 v) <| Aq ((slA 1 (AV.i .i64)) s') <| Aq (Ai v8) <| Ap (AV.pt ((AV.i .i64) x1).cells) (g_idx (k := 1) (nl := false) (e := 3) (kk := .i64) (A := (AV.i .i64)) (xs := s') (i := v8) kr kr kr ⟨by kernel_rfl, by decide⟩ hx1) <| Aq (AV.i .i64 x1) <| Aq (AV.b (decide (v = x1))) <| Ad ?_
 cases c_1 : decide (v = x1)
 have k_1 := of_decide_eq_false c_1
 refine Cf <| Awp.skip <| Rg <| Ap (Ai (v8 + 1)) (g_addN (i := v8) (m := 1) kr kr sd) <| Aq (Ai (v8 + 1)) <| Ad ?_
 try simp only [c_1, sbt] at hE1
 refine ⟨v8 + 1, od, ⟨od, hE1⟩, ?_⟩
 exact ⟨[], ⟨by decide, rfl, FitsObjs.nil, (Ee (Ee (Ee (Ee EntE.nil))))⟩, keep0⟩
 have k_1 := of_decide_eq_true c_1
 refine Ct <| Sq <| Rg <| Aq (Ai v8) <| Aq (Ai v8) <| Ad <| Rt ?_
 try simp only [c_1, sbt] at hE1
 subst hE1
 have hM : m_9 s' v = ((v8 : Nat) : Int) := by simp only [m_9, hR1, sbt]
 refine ⟨Or.inr rfl, ?_⟩
 rw [hM]
 exact Ec
 have hc1 : decide (((v8 : Nat) : Int) < ((s'.length : Nat) : Int)) = false := decide_eq_false (by omega)
 refine Awp.cond (t := false) (by rw [← hc1] <;> kernel_rfl) (Awp.exit ?_)
 rw [List.drop_eq_nil_of_le (hl1), m_an.eq_1] at hE1
 subst hE1
 refine Sq <| Rg <| Aq (AV.i .i64 (-1 : Int)) <| Ad <| Rt ?_
 have hM : m_9 s' v = (-1 : Int) := by simp only [m_9, hR1, sbt]
 refine ⟨Or.inr rfl, ?_⟩
 rw [hM]
 exact Ec
theorem w_slices_Contains_int_int (W : World) (s' : List Int) (v : Int) : PureAt Go.Proofs.Tryz.prog W 72 [((slA 1 (AV.i .i64)) s'), (AV.i .i64 v)] (AV.b (m_v s' v)) [] := by
 refine pure_of_bodyC (fn := Go.Proofs.Tryz.f72) Go.Proofs.Tryz.func72 rfl (en72 W) (ts := [4]) rfl le <| Sq <| Rg <| Aq (AV.b false) <| Ad <| Sq <| Rg <| Aq ((slA 1 (AV.i .i64)) s') <| Aq (AV.i .i64 v) <| AOps.sc0 (vs := [((slA 1 (AV.i .i64)) s'), (AV.i .i64 v)]) (r0 := (AV.i .i64 (m_9 s' v))) kr kr (w_slices_Index_int_int W s' v) kr le <| Aq (AV.b (decide ((0 : Int) ≤ (m_9 s' v)))) <| Aq (AV.b (decide ((0 : Int) ≤ (m_9 s' v)))) <| Ad <| Rt ?_
 have hM : m_v s' v = decide ((0 : Int) ≤ (m_9 s' v)) := by simp only [m_v, sbt]
 refine ⟨Or.inr rfl, ?_⟩
 rw [hM]
 exact Ec
theorem w_slices_Index_string_string (W : World) (s' : List ByteArray) (v : ByteArray) : PureAt Go.Proofs.Tryz.prog W 116 [((slA 1 AV.s) s'), (AV.s v)] (AV.i .i64 (m_x s' v)) [] := by
 refine pure_of_bodyC (fn := Go.Proofs.Tryz.f116) Go.Proofs.Tryz.func116 rfl (en116 W) (ts := [4]) rfl le <| Sq <| Rg <| Aq (AV.i .i64 (0 : Int)) <| Ad <| Sq <| Sq <| Rg <| Aq ((slA 1 AV.s) s') <| Ap (Ai s'.length) (g_len (k := 1) (nl := false) (e := 9) (A := AV.s) (xs := s') kr kr) <| Aq (AV.i .i64 (0 : Int)) <| Ad <| Awp.block <| Awp.lim 0 (x := ((slA 1 AV.s) s')) kr fun hlm1 => ?_
 have hB1 : s'.length ≤ 281474976710656 := lim_slA hlm1
 obtain ⟨R1, hR1⟩ : ∃ R, m_ab v s' 0 = R := ⟨_, rfl⟩
 refine Awp.loopT (fun (v8 : Nat) => [(0, ((slA 1 AV.s) s')), (1, (AV.s v)), (7, (Ai s'.length)), (8, (Ai v8))]) (fun (v8 : Nat) => ⟨0, []⟩) (fun (v8 : Nat) => v8 ≤ s'.length ∧ m_ab v (s'.drop v8) v8 = R1) (fun (v8 : Nat) => s'.length - v8) 0 ?_ ?_ ?_
 exact ⟨[], ⟨by decide, rfl, FitsObjs.nil, (Ee (Ee (Ee (Ee EntE.nil))))⟩, keep0⟩
 exact ⟨od, hR1⟩
 rintro v8 ⟨hi1, hE1⟩
 try dsimp only
 refine Sq <| Rg <| Aq (AV.b (decide (((v8 : Nat) : Int) < ((s'.length : Nat) : Int)))) <| Ad <| Sq ?_
 rcases Nat.lt_or_ge v8 s'.length with hl1 | hl1
 have hc1 : decide (((v8 : Nat) : Int) < ((s'.length : Nat) : Int)) = true := decide_eq_true (by omega)
 refine Awp.cond (t := true) (by rw [← hc1] <;> kernel_rfl) (Awp.skip ?_)
 obtain ⟨x1, hx1⟩ : ∃ x, s'[v8]? = some x := ⟨_, List.getElem?_eq_getElem hl1⟩
 rw [drop_at hx1, m_ab.eq_2] at hE1
 refine Sq <| Awp.block <| Sq <| Rg <| Aq (Ai v8) <| Aq (Ai v8) <| Ad <| Sq <| Rg <| Aq (AV.s v) <| Aq ((slA 1 AV.s) s') <| Aq (Ai v8) <| Ap (AV.pt (AV.s x1).cells) (g_idx (k := 1) (nl := false) (e := 9) (kk := .i64) (A := AV.s) (xs := s') (i := v8) kr kr kr ⟨by kernel_rfl, by decide⟩ hx1) <| Aq (AV.s x1) <| Aq (AV.b (decide (v = x1))) <| Ad ?_
 cases c_1 : decide (v = x1)
 have k_1 := of_decide_eq_false c_1
 refine Cf <| Awp.skip <| Rg <| Ap (Ai (v8 + 1)) (g_addN (i := v8) (m := 1) kr kr sd) <| Aq (Ai (v8 + 1)) <| Ad ?_
 try simp only [c_1, sbt] at hE1
 refine ⟨v8 + 1, od, ⟨od, hE1⟩, ?_⟩
 exact ⟨[], ⟨by decide, rfl, FitsObjs.nil, (Ee (Ee (Ee (Ee EntE.nil))))⟩, keep0⟩
 have k_1 := of_decide_eq_true c_1
 refine Ct <| Sq <| Rg <| Aq (Ai v8) <| Aq (Ai v8) <| Ad <| Rt ?_
 try simp only [c_1, sbt] at hE1
 subst hE1
 have hM : m_x s' v = ((v8 : Nat) : Int) := by simp only [m_x, hR1, sbt]
 refine ⟨Or.inr rfl, ?_⟩
 rw [hM]
 exact Ec
 have hc1 : decide (((v8 : Nat) : Int) < ((s'.length : Nat) : Int)) = false := decide_eq_false (by omega)
 refine Awp.cond (t := false) (by rw [← hc1] <;> kernel_rfl) (Awp.exit ?_)
 rw [List.drop_eq_nil_of_le (hl1), m_ab.eq_1] at hE1
 subst hE1
 refine Sq <| Rg <| Aq (AV.i .i64 (-1 : Int)) <| Ad <| Rt ?_
 have hM : m_x s' v = (-1 : Int) := by simp only [m_x, hR1, sbt]
 refine ⟨Or.inr rfl, ?_⟩
 rw [hM]
 exact Ec
theorem w_slices_Contains_string_string (W : World) (s' : List ByteArray) (v : ByteArray) : PureAt Go.Proofs.Tryz.prog W 94 [((slA 1 AV.s) s'), (AV.s v)] (AV.b (m_z s' v)) [] := by
 refine pure_of_bodyC (fn := Go.Proofs.Tryz.f94) Go.Proofs.Tryz.func94 rfl (en94 W) (ts := [4]) rfl le <| Sq <| Rg <| Aq (AV.b false) <| Ad <| Sq <| Rg <| Aq ((slA 1 AV.s) s') <| Aq (AV.s v) <| AOps.sc0 (vs := [((slA 1 AV.s) s'), (AV.s v)]) (r0 := (AV.i .i64 (m_x s' v))) kr kr (w_slices_Index_string_string W s' v) kr le <| Aq (AV.b (decide ((0 : Int) ≤ (m_x s' v)))) <| Aq (AV.b (decide ((0 : Int) ≤ (m_x s' v)))) <| Ad <| Rt ?_
 have hM : m_z s' v = decide ((0 : Int) ≤ (m_x s' v)) := by simp only [m_z, sbt]
 refine ⟨Or.inr rfl, ?_⟩
 rw [hM]
 exact Ec
theorem w_slices_IndexFunc_api_Edge_api_Edge (W : World) (s' : List DEdge) (f_f : FuncId) (c_f : List AV) (f : DEdge → Bool) (hcl_f : closedL c_f = true) (hp_f : ∀ (z0 : DEdge), PureAt Go.Proofs.Tryz.prog W f_f ((DEdge.av z0) :: c_f) (AV.b (f z0)) []) : PureAt Go.Proofs.Tryz.prog W 92 [((slA 7 DEdge.av) s'), (AV.fn f_f c_f)] (AV.i .i64 (m_q s' f)) [] := by
 refine pure_of_bodyC (fn := Go.Proofs.Tryz.f92) Go.Proofs.Tryz.func92 rfl (en92 W) (ts := [4]) rfl le <| Sq <| Rg <| Aq (AV.i .i64 (0 : Int)) <| Ad <| Sq <| Sq <| Rg <| Aq ((slA 7 DEdge.av) s') <| Ap (Ai s'.length) (g_len (k := 7) (nl := false) (e := 76) (A := DEdge.av) (xs := s') kr kr) <| Aq (AV.i .i64 (0 : Int)) <| Ad <| Awp.block <| Awp.lim 0 (x := ((slA 7 DEdge.av) s')) kr fun hlm1 => ?_
 have hB1 : s'.length ≤ 281474976710656 := lim_slA hlm1
 obtain ⟨R1, hR1⟩ : ∃ R, m_t f s' 0 = R := ⟨_, rfl⟩
 refine Awp.loopT (fun (v8 : Nat) => [(0, ((slA 7 DEdge.av) s')), (1, (AV.fn f_f c_f)), (7, (Ai s'.length)), (8, (Ai v8))]) (fun (v8 : Nat) => ⟨0, []⟩) (fun (v8 : Nat) => v8 ≤ s'.length ∧ m_t f (s'.drop v8) v8 = R1) (fun (v8 : Nat) => s'.length - v8) 0 ?_ ?_ ?_
 exact ⟨[], ⟨by decide, rfl, FitsObjs.nil, (Ee (EntE.cons (Ent.c kr hcl_f) (Ee (Ee EntE.nil))))⟩, keep0⟩
 exact ⟨od, hR1⟩
 rintro v8 ⟨hi1, hE1⟩
 try dsimp only
 refine Sq <| Rg <| Aq (AV.b (decide (((v8 : Nat) : Int) < ((s'.length : Nat) : Int)))) <| Ad <| Sq ?_
 rcases Nat.lt_or_ge v8 s'.length with hl1 | hl1
 have hc1 : decide (((v8 : Nat) : Int) < ((s'.length : Nat) : Int)) = true := decide_eq_true (by omega)
 refine Awp.cond (t := true) (by rw [← hc1] <;> kernel_rfl) (Awp.skip ?_)
 obtain ⟨x1, hx1⟩ : ∃ x, s'[v8]? = some x := ⟨_, List.getElem?_eq_getElem hl1⟩
 rw [drop_at hx1, m_t.eq_2] at hE1
 refine Sq <| Awp.block <| Sq <| Rg <| Aq (Ai v8) <| Aq (Ai v8) <| Ad <| Sq <| Rg <| Aq (AV.fn f_f c_f) <| Aq ((slA 7 DEdge.av) s') <| Aq (Ai v8) <| Ap (AV.pt (DEdge.av x1).cells) (g_idx (k := 7) (nl := false) (e := 76) (kk := .i64) (A := DEdge.av) (xs := s') (i := v8) kr kr kr ⟨by kernel_rfl, by decide⟩ hx1) <| Aq (DEdge.av x1) <| AOps.sc0 (vs := ((DEdge.av x1) :: c_f)) (r0 := (AV.b (f x1))) kr (by simp only [closedL, Bool.and_eq_true]; exact ⟨by kernel_rfl, hcl_f⟩) (hp_f x1) kr le <| Ad ?_
 cases c_1 : (f x1)
 refine Cf <| Awp.skip <| Rg <| Ap (Ai (v8 + 1)) (g_addN (i := v8) (m := 1) kr kr sd) <| Aq (Ai (v8 + 1)) <| Ad ?_
 try simp only [c_1, sbt] at hE1
 refine ⟨v8 + 1, od, ⟨od, hE1⟩, ?_⟩
 exact ⟨[], ⟨by decide, rfl, FitsObjs.nil, (Ee (EntE.cons (Ent.c kr hcl_f) (Ee (Ee EntE.nil))))⟩, keep0⟩
 refine Ct <| Sq <| Rg <| Aq (Ai v8) <| Aq (Ai v8) <| Ad <| Rt ?_
 try simp only [c_1, sbt] at hE1
 subst hE1
 have hM : m_q s' f = ((v8 : Nat) : Int) := by simp only [m_q, hR1, sbt]
 refine ⟨Or.inr rfl, ?_⟩
 rw [hM]
 exact Ec
 have hc1 : decide (((v8 : Nat) : Int) < ((s'.length : Nat) : Int)) = false := decide_eq_false (by omega)
 refine Awp.cond (t := false) (by rw [← hc1] <;> kernel_rfl) (Awp.exit ?_)
 rw [List.drop_eq_nil_of_le (hl1), m_t.eq_1] at hE1
 subst hE1
 refine Sq <| Rg <| Aq (AV.i .i64 (-1 : Int)) <| Ad <| Rt ?_
 have hM : m_q s' f = (-1 : Int) := by simp only [m_q, hR1, sbt]
 refine ⟨Or.inr rfl, ?_⟩
 rw [hM]
 exact Ec
theorem w_graph_Makes_1 (W : World) (e : DEdge) (name : ByteArray) : PureAt Go.Proofs.Tryz.prog W 93 [(DEdge.av e), (AV.pt (AV.s name).cells)] (AV.b (m_az e name)) [] := by
 refine pure_of_bodyC (fn := Go.Proofs.Tryz.f93) Go.Proofs.Tryz.func93 rfl (en93 W) (ts := [3]) rfl le <| Sq <| Rg <| Nn (AV.loc 0 0 0) ⟨76, 7, [(DEdge.av e)]⟩ <| Aq (AV.b false) <| Ad <| Sq <| Rg <| Aq (AV.loc 0 0 0) <| Aq ((slA 1 AV.s) e.outs) <| Aq (AV.s name) <| AOps.sc0 (vs := [((slA 1 AV.s) e.outs), (AV.s name)]) (r0 := (AV.b (m_z e.outs name))) kr kr (w_slices_Contains_string_string W e.outs name) kr le <| Aq (AV.b (m_z e.outs name)) <| Ad <| Rt ?_
 have hM : m_az e name = (m_z e.outs name) := by simp only [m_az, sbt]
 refine ⟨Or.inr rfl, ?_⟩
 rw [hM]
 exact Ec
theorem w_graph_Makes (W : World) (g : DGraph) (s' : ByteArray) : PureAt Go.Proofs.Tryz.prog W 51 [(AV.pt (DGraph.av g).cells), (AV.s s')] (AV.i .i64 (m_g g s')) [] := by
 refine pure_of_bodyC (fn := Go.Proofs.Tryz.f51) Go.Proofs.Tryz.func51 rfl (en51 W) (ts := [4]) rfl le <| Sq <| Rg <| Nn (AV.loc 0 0 0) ⟨9, 1, [(AV.s s')]⟩ <| Aq (AV.i .i64 (0 : Int)) <| Ad <| Sq <| Rg <| Aq (AV.pt (DGraph.av g).cells) <| Aq (AV.pt (DGraph.av g).cells) <| Aq (AV.pt ((DGraph.av g).cells.drop 0)) <| Aq ((slA 7 DEdge.av) g.edges) <| Aq (AV.fn 93 [(AV.loc 0 0 0)]) <| AOps.sfw (vs := [((slA 7 DEdge.av) g.edges), (AV.fn 93 [(AV.loc 0 0 0)])]) (ss := [((slA 7 DEdge.av) g.edges), (AV.fn 93 [(AV.pt (AV.s s').cells)])]) (r0 := (AV.i .i64 (m_q g.edges (fun z0 => m_az z0 s')))) kr (show SnapW _ _ _ from ⟨(SnapW.e kr), ⟨(EntK.w (EntK.cast (x' := (AV.fn 93 [(AV.loc 0 0 0)])) kr kr (EntK.fn (EntKs.cons (EntK.loc1 (id := 0) (j := 0) (ob := ⟨9, 1, [(AV.s s')]⟩) (x := (AV.s s')) rfl rfl rfl rfl (EntK.cr (x := (AV.s s')) kr)) EntKs.nil)))), trivial⟩⟩) (w_slices_IndexFunc_api_Edge_api_Edge W g.edges 93 [(AV.pt (AV.s s').cells)] (fun z0 => m_az z0 s') kr (fun z0 => (w_graph_Makes_1 W z0 s'))) rfl kr le <| Aq (AV.i .i64 (m_q g.edges (fun z0 => m_az z0 s'))) <| Ad <| Rt ?_
 have hM : m_g g s' = (m_q g.edges (fun z0 => m_az z0 s')) := by simp only [m_g, sbt]
 refine ⟨Or.inr rfl, ?_⟩
 rw [hM]
 exact Ec
theorem w_slices_IndexFunc_int_int (W : World) (s' : List Int) (f_f : FuncId) (c_f : List AV) (f : Int → Bool) (hcl_f : closedL c_f = true) (hp_f : ∀ (z0 : Int), PureAt Go.Proofs.Tryz.prog W f_f ((AV.i .i64 z0) :: c_f) (AV.b (f z0)) []) : PureAt Go.Proofs.Tryz.prog W 107 [((slA 1 (AV.i .i64)) s'), (AV.fn f_f c_f)] (AV.i .i64 (m_0 s' f)) [] := by
 refine pure_of_bodyC (fn := Go.Proofs.Tryz.f107) Go.Proofs.Tryz.func107 rfl (en107 W) (ts := [4]) rfl le <| Sq <| Rg <| Aq (AV.i .i64 (0 : Int)) <| Ad <| Sq <| Sq <| Rg <| Aq ((slA 1 (AV.i .i64)) s') <| Ap (Ai s'.length) (g_len (k := 1) (nl := false) (e := 3) (A := (AV.i .i64)) (xs := s') kr kr) <| Aq (AV.i .i64 (0 : Int)) <| Ad <| Awp.block <| Awp.lim 0 (x := ((slA 1 (AV.i .i64)) s')) kr fun hlm1 => ?_
 have hB1 : s'.length ≤ 281474976710656 := lim_slA hlm1
 obtain ⟨R1, hR1⟩ : ∃ R, m_ae f s' 0 = R := ⟨_, rfl⟩
 refine Awp.loopT (fun (v8 : Nat) => [(0, ((slA 1 (AV.i .i64)) s')), (1, (AV.fn f_f c_f)), (7, (Ai s'.length)), (8, (Ai v8))]) (fun (v8 : Nat) => ⟨0, []⟩) (fun (v8 : Nat) => v8 ≤ s'.length ∧ m_ae f (s'.drop v8) v8 = R1) (fun (v8 : Nat) => s'.length - v8) 0 ?_ ?_ ?_
 exact ⟨[], ⟨by decide, rfl, FitsObjs.nil, (Ee (EntE.cons (Ent.c kr hcl_f) (Ee (Ee EntE.nil))))⟩, keep0⟩
 exact ⟨od, hR1⟩
 rintro v8 ⟨hi1, hE1⟩
 try dsimp only
 refine Sq <| Rg <| Aq (AV.b (decide (((v8 : Nat) : Int) < ((s'.length : Nat) : Int)))) <| Ad <| Sq ?_
 rcases Nat.lt_or_ge v8 s'.length with hl1 | hl1
 have hc1 : decide (((v8 : Nat) : Int) < ((s'.length : Nat) : Int)) = true := decide_eq_true (by omega)
 refine Awp.cond (t := true) (by rw [← hc1] <;> kernel_rfl) (Awp.skip ?_)
 obtain ⟨x1, hx1⟩ : ∃ x, s'[v8]? = some x := ⟨_, List.getElem?_eq_getElem hl1⟩
 rw [drop_at hx1, m_ae.eq_2] at hE1
 refine Sq <| Awp.block <| Sq <| Rg <| Aq (Ai v8) <| Aq (Ai v8) <| Ad <| Sq <| Rg <| Aq (AV.fn f_f c_f) <| Aq ((slA 1 (AV.i .i64)) s') <| Aq (Ai v8) <| Ap (AV.pt ((AV.i .i64) x1).cells) (g_idx (k := 1) (nl := false) (e := 3) (kk := .i64) (A := (AV.i .i64)) (xs := s') (i := v8) kr kr kr ⟨by kernel_rfl, by decide⟩ hx1) <| Aq (AV.i .i64 x1) <| AOps.sc0 (vs := ((AV.i .i64 x1) :: c_f)) (r0 := (AV.b (f x1))) kr (by simp only [closedL, Bool.and_eq_true]; exact ⟨by kernel_rfl, hcl_f⟩) (hp_f x1) kr le <| Ad ?_
 cases c_1 : (f x1)
 refine Cf <| Awp.skip <| Rg <| Ap (Ai (v8 + 1)) (g_addN (i := v8) (m := 1) kr kr sd) <| Aq (Ai (v8 + 1)) <| Ad ?_
 try simp only [c_1, sbt] at hE1
 refine ⟨v8 + 1, od, ⟨od, hE1⟩, ?_⟩
 exact ⟨[], ⟨by decide, rfl, FitsObjs.nil, (Ee (EntE.cons (Ent.c kr hcl_f) (Ee (Ee EntE.nil))))⟩, keep0⟩
 refine Ct <| Sq <| Rg <| Aq (Ai v8) <| Aq (Ai v8) <| Ad <| Rt ?_
 try simp only [c_1, sbt] at hE1
 subst hE1
 have hM : m_0 s' f = ((v8 : Nat) : Int) := by simp only [m_0, hR1, sbt]
 refine ⟨Or.inr rfl, ?_⟩
 rw [hM]
 exact Ec
 have hc1 : decide (((v8 : Nat) : Int) < ((s'.length : Nat) : Int)) = false := decide_eq_false (by omega)
 refine Awp.cond (t := false) (by rw [← hc1] <;> kernel_rfl) (Awp.exit ?_)
 rw [List.drop_eq_nil_of_le (hl1), m_ae.eq_1] at hE1
 subst hE1
 refine Sq <| Rg <| Aq (AV.i .i64 (-1 : Int)) <| Ad <| Rt ?_
 have hM : m_0 s' f = (-1 : Int) := by simp only [m_0, hR1, sbt]
 refine ⟨Or.inr rfl, ?_⟩
 rw [hM]
 exact Ec
theorem w_slices_ContainsFunc_int_int (W : World) (s' : List Int) (f_f : FuncId) (c_f : List AV) (f : Int → Bool) (hcl_f : closedL c_f = true) (hp_f : ∀ (z0 : Int), PureAt Go.Proofs.Tryz.prog W f_f ((AV.i .i64 z0) :: c_f) (AV.b (f z0)) []) : PureAt Go.Proofs.Tryz.prog W 74 [((slA 1 (AV.i .i64)) s'), (AV.fn f_f c_f)] (AV.b (m_s s' f)) [] := by
 refine pure_of_bodyC (fn := Go.Proofs.Tryz.f74) Go.Proofs.Tryz.func74 rfl (en74 W) (ts := [4]) rfl le <| Sq <| Rg <| Aq (AV.b false) <| Ad <| Sq <| Rg <| Aq ((slA 1 (AV.i .i64)) s') <| Aq (AV.fn f_f c_f) <| AOps.sc0 (vs := [((slA 1 (AV.i .i64)) s'), (AV.fn f_f c_f)]) (r0 := (AV.i .i64 (m_0 s' f))) kr (by simp only [closedL, Bool.and_eq_true]; exact ⟨by kernel_rfl, hcl_f, trivial⟩) (w_slices_IndexFunc_int_int W s' f_f c_f f hcl_f hp_f) kr le <| Aq (AV.b (decide ((0 : Int) ≤ (m_0 s' f)))) <| Aq (AV.b (decide ((0 : Int) ≤ (m_0 s' f)))) <| Ad <| Rt ?_
 have hM : m_s s' f = decide ((0 : Int) ≤ (m_0 s' f)) := by simp only [m_s, sbt]
 refine ⟨Or.inr rfl, ?_⟩
 rw [hM]
 exact Ec
theorem w_grow0 (W : World) : PureAt Go.Proofs.Tryz.prog W 134 [(AV.sl 1 true []), (AV.i .i64 (0 : Int))] (AV.sl 1 true []) [] := by
 refine pure_of_bodyC (fn := Go.Proofs.Tryz.f134) Go.Proofs.Tryz.func134 rfl (en134 W) (ts := [4]) rfl le <| Sq <| Rg <| Aq (AV.sl 1 true []) <| Ad <| Sq <| Sq <| Rg <| Aq (AV.i .i64 (0 : Int)) <| Aq (AV.b false) <| Ad <| Cf <| Awp.skip <| Sq <| Sq <| Rg <| Aq (AV.i .i64 (0 : Int)) <| Aq (AV.sl 1 true []) <| Aq (AV.i .i64 (0 : Int)) <| Aq (AV.sl 1 true []) <| Aq (AV.i .i64 (0 : Int)) <| Aq (AV.i .i64 (0 : Int)) <| Aq (AV.i .i64 (0 : Int)) <| Aq (AV.i .i64 (0 : Int)) <| Ad <| Sq <| Rg <| Aq (AV.i .i64 (0 : Int)) <| Aq (AV.b false) <| Ad <| Cf <| Awp.skip <| Sq <| Rg <| Aq (AV.sl 1 true []) <| Aq (AV.sl 1 true []) <| Ad <| Rt ?_
 exact ⟨Or.inr rfl, Ent.c kr kr⟩
theorem wo_grow_string (W : World) (n' : Nat) (hn : 0 < n') (hz : n' ≤ 1048576) : PureAt Go.Proofs.Tryz.prog W 134 [(AV.sl 1 true []), (Ai n')] (.own 0 0 0) [⟨9, 1, (List.replicate n' (⟨#[]⟩ : ByteArray)).map AV.s⟩] := by
 refine pure_of_bodyR (fn := Go.Proofs.Tryz.f134) Go.Proofs.Tryz.func134 rfl (en134 W) (ts := [4]) rfl le (fun _ => rfl) <| Sq <| Rg <| Aq (AV.sl 1 true []) <| Ad <| Sq <| Sq <| Rg <| Aq (Ai n') <| Aq (AV.b (decide (((n' : Nat) : Int) < (0 : Int)))) <| Ad ?_
 cases c_1 : decide (((n' : Nat) : Int) < (0 : Int))
 have k_1 := of_decide_eq_false c_1
 refine Cf <| Awp.skip <| Sq <| Sq <| Rg <| Aq (Ai n') <| Aq (AV.sl 1 true []) <| Aq (AV.i .i64 (0 : Int)) <| Aq (AV.sl 1 true []) <| Aq (AV.i .i64 (0 : Int)) <| Aq (AV.i .i64 (0 : Int)) <| Ap (Ai n') (g_subN (i := n') (m := 0) kr kr sd sd) <| Aq (Ai n') <| Ad <| Sq <| Rg <| Aq (Ai n') <| Aq (AV.b (decide ((0 : Int) < ((n' : Nat) : Int)))) <| Ad ?_
 cases c_2 : decide ((0 : Int) < ((n' : Nat) : Int))
 have k_2 := of_decide_eq_false c_2
 refine Cf <| Awp.skip <| Sq <| Rg <| Aq (AV.sl 1 true []) <| Aq (AV.sl 1 true []) <| Ad <| Rt ?_
 have hM : m_grow_string n' = [] := by simp only [m_grow_string, c_1, c_2, sbt]
 exfalso
 omega
 have k_2 := of_decide_eq_true c_2
 refine Ct <| Rg <| Aq (AV.sl 1 true []) <| Aq (AV.sl 1 true []) <| Aq (AV.i .i64 (0 : Int)) <| Aq (AV.sl 1 true []) <| Aq (Ai n') <| AOps.se (x := (AV.own 0 0 n')) (h' := ⟨1, [(0, some ⟨9, 1, (List.replicate n' (⟨#[]⟩ : ByteArray)).map AV.s⟩)]⟩) (g_appZ (kn := .i64) (kk := .i64) (e := 9) (A := AV.s) (i := tI_9) (k := 1) (z := (⟨#[]⟩ : ByteArray)) (n := n') (by decide) kr kr kr kr kr sd ⟨by decide, by kernel_rfl⟩ kr (by show _ * 16 ≤ 140737488355328; first | omega | (simp only [List.length_append, List.length_cons, List.length_nil, List.length_set, List.length_replicate]; omega) | (simp; omega)) sd) le <| Aq (AV.sl 1 true []) <| Aq (AV.i .i64 (0 : Int)) <| Ap (AV.own 0 0 0) (g_cutO (e := 9) (id := 0) (len := n') (ob := ⟨9, 1, (List.replicate n' (⟨#[]⟩ : ByteArray)).map AV.s⟩) (l := none) (g := (some (0 : Int))) (b := 0) kr kr kr kr kr kr rfl rfl (by simp only [List.length_map, List.length_append, List.length_cons, List.length_nil]; omega)) <| Aq (AV.own 0 0 0) <| Ad <| Sq <| Rg <| Aq (AV.own 0 0 0) <| Aq (AV.own 0 0 0) <| Ad <| Rt ?_
 have hM : m_grow_string n' = ((List.replicate n' (⟨#[]⟩ : ByteArray)).take 0) := by simp only [m_grow_string, c_1, c_2, sbt]
 refine ⟨Or.inr rfl, 0, ?_, rfl⟩
 first | rfl | (show AV.own _ _ _ = AV.own _ _ _; congr 1; simp)
 have k_1 := of_decide_eq_true c_1
 refine Ct <| Rg ?_
 exfalso
 omega
theorem w_slices_Concat_string_string (W : World) (slices : List (List ByteArray)) (hz : (slices.flatten).length ≤ 1048576) : PureAt Go.Proofs.Tryz.prog W 105 [((slA 1 (slA 1 AV.s)) slices)] ((slA 1 AV.s) (m_b slices)) [] := by
 refine pure_of_bodyC (fn := Go.Proofs.Tryz.f105) Go.Proofs.Tryz.func105 rfl (en105 W) (ts := [2]) rfl le <| Sq <| Rg <| Aq (AV.sl 1 true []) <| Ad <| Sq <| Rg <| Aq (AV.i .i64 (0 : Int)) <| Ad <| Sq <| Sq <| Rg <| Aq ((slA 1 (slA 1 AV.s)) slices) <| Ap (Ai slices.length) (g_len (k := 1) (nl := false) (e := 24) (A := (slA 1 AV.s)) (xs := slices) kr kr) <| Aq (AV.i .i64 (0 : Int)) <| Ad <| Awp.block <| Awp.lim 0 (x := ((slA 1 (slA 1 AV.s)) slices)) kr fun hlm1 => ?_
 have hB1 : slices.length ≤ 281474976710656 := lim_slA hlm1
 obtain ⟨R1, hR1⟩ : ∃ R, m_p slices 0 0 = R := ⟨_, rfl⟩
 refine Awp.loopT (fun ((size, v11) : Nat × Nat) => [(0, ((slA 1 (slA 1 AV.s)) slices)), (9, ((slA 1 (slA 1 AV.s)) slices)), (10, (Ai slices.length)), (3, (Ai size)), (11, (Ai v11))]) (fun ((size, v11) : Nat × Nat) => ⟨0, []⟩) (fun ((size, v11) : Nat × Nat) => v11 ≤ slices.length ∧ size + ((slices.drop v11).flatten).length = (slices.flatten).length ∧ m_p (slices.drop v11) v11 size = R1) (fun ((size, v11) : Nat × Nat) => slices.length - v11) (0, 0) ?_ ?_ ?_
 exact ⟨[], ⟨by decide, rfl, FitsObjs.nil, (Ee (Ee (Ee (Ee (Ee EntE.nil)))))⟩, keep0⟩
 exact ⟨od, by (try dsimp only) <;> (simp), hR1⟩
 rintro ⟨size, v11⟩ ⟨hi1, hs, hE1⟩
 try dsimp only
 refine Sq <| Rg <| Aq (AV.b (decide (((v11 : Nat) : Int) < ((slices.length : Nat) : Int)))) <| Ad <| Sq ?_
 rcases Nat.lt_or_ge v11 slices.length with hl1 | hl1
 have hc1 : decide (((v11 : Nat) : Int) < ((slices.length : Nat) : Int)) = true := decide_eq_true (by omega)
 refine Awp.cond (t := true) (by rw [← hc1] <;> kernel_rfl) (Awp.skip ?_)
 obtain ⟨x1, hx1⟩ : ∃ x, slices[v11]? = some x := ⟨_, List.getElem?_eq_getElem hl1⟩
 rw [drop_at hx1, m_p.eq_2] at hE1
 rw [drop_at hx1] at hs
 simp only [List.flatten_cons, List.length_append] at hs
 refine Sq <| Awp.block <| Sq <| Rg <| Ap (AV.pt ((slA 1 AV.s) x1).cells) (g_idx (k := 1) (nl := false) (e := 24) (kk := .i64) (A := (slA 1 AV.s)) (xs := slices) (i := v11) kr kr kr ⟨by kernel_rfl, by decide⟩ hx1) <| Aq ((slA 1 AV.s) x1) <| Aq ((slA 1 AV.s) x1) <| Ad <| Sq <| Rg <| Aq (Ai size) <| Aq ((slA 1 AV.s) x1) <| Ap (Ai x1.length) (g_len (k := 1) (nl := false) (e := 9) (A := AV.s) (xs := x1) kr kr) <| Ap (Ai (size + x1.length)) (g_addN (i := size) (m := x1.length) kr kr sd) <| Aq (Ai (size + x1.length)) <| Ad <| Sq <| Rg <| Aq (Ai (size + x1.length)) <| Aq (AV.b (decide (((size + x1.length : Nat) : Int) < (0 : Int)))) <| Ad ?_
 cases c_1 : decide (((size + x1.length : Nat) : Int) < (0 : Int))
 have k_1 := of_decide_eq_false c_1
 refine Cf <| Awp.skip <| Rg <| Ap (Ai (v11 + 1)) (g_addN (i := v11) (m := 1) kr kr sd) <| Aq (Ai (v11 + 1)) <| Ad ?_
 try simp only [c_1, sbt] at hE1
 refine ⟨(size + x1.length, v11 + 1), od, ⟨od, by (try dsimp only) <;> (omega), hE1⟩, ?_⟩
 exact ⟨[], ⟨by decide, rfl, FitsObjs.nil, (Ee (Ee (Ee (Ee (Ee EntE.nil)))))⟩, keep0⟩
 have k_1 := of_decide_eq_true c_1
 refine Ct <| Rg ?_
 exfalso
 omega
 have hc1 : decide (((v11 : Nat) : Int) < ((slices.length : Nat) : Int)) = false := decide_eq_false (by omega)
 refine Awp.cond (t := false) (by rw [← hc1] <;> kernel_rfl) (Awp.exit ?_)
 rw [List.drop_eq_nil_of_le (hl1), m_p.eq_1] at hE1
 subst hE1
 refine Sq <| Rg <| Aq (Ai size) ?_
 by_cases z_2 : (List.replicate size (⟨#[]⟩ : ByteArray)) = []
 have hzz_2 : size = 0 := by simpa using z_2
 refine AOps.sc0 (vs := [(AV.sl 1 true []), (Ai size)]) (r0 := (AV.sl 1 true [])) kr kr (by rw [hzz_2]; exact w_grow0 W) kr le <| Aq (AV.sl 1 true []) <| Ad <| Sq <| Sq <| Rg <| Aq ((slA 1 (slA 1 AV.s)) slices) <| Ap (Ai slices.length) (g_len (k := 1) (nl := false) (e := 24) (A := (slA 1 AV.s)) (xs := slices) kr kr) <| Aq (AV.i .i64 (0 : Int)) <| Ad <| Awp.block <| Awp.lim 0 (x := ((slA 1 (slA 1 AV.s)) slices)) kr fun hlm2 => ?_
 have hB2 : slices.length ≤ 281474976710656 := lim_slA hlm2
 obtain ⟨R2, hR2⟩ : ∃ R, m_e slices 0 [] = R := ⟨_, rfl⟩
 refine Awp.loopT (fun ((b_newslice, newslice, v27) : Bool × (List ByteArray) × Nat) => [(25, ((slA 1 (slA 1 AV.s)) slices)), (26, (Ai slices.length)), (6, (accW 0 1 AV.s b_newslice newslice)), (27, (Ai v27))]) (fun ((b_newslice, newslice, v27) : Bool × (List ByteArray) × Nat) => ⟨1, [(0, accWO 9 1 AV.s b_newslice newslice)]⟩) (fun ((b_newslice, newslice, v27) : Bool × (List ByteArray) × Nat) => v27 ≤ slices.length ∧ (b_newslice = false → newslice = []) ∧ newslice.length + ((slices.drop v27).flatten).length ≤ (slices.flatten).length ∧ m_e (slices.drop v27) v27 newslice = R2) (fun ((b_newslice, newslice, v27) : Bool × (List ByteArray) × Nat) => slices.length - v27) (false, [], 0) ?_ ?_ ?_
 exact ⟨[1000000], ⟨by decide, rfl, (FitsObjs.cons rfl FitsObjs.nil), (Ee (Ee (Ee (Ee EntE.nil))))⟩, keep0⟩
 exact ⟨od, (by simp), by (try dsimp only) <;> (simp), hR2⟩
 rintro ⟨b_newslice, newslice, v27⟩ ⟨hi2, hn_newslice, ha, hE2⟩
 try dsimp only
 cases b_newslice
 have hz_newslice := hn_newslice rfl
 subst hz_newslice
 try dsimp only
 refine Sq <| Rg <| Aq (AV.b (decide (((v27 : Nat) : Int) < ((slices.length : Nat) : Int)))) <| Ad <| Sq ?_
 rcases Nat.lt_or_ge v27 slices.length with hl2 | hl2
 have hc2 : decide (((v27 : Nat) : Int) < ((slices.length : Nat) : Int)) = true := decide_eq_true (by omega)
 refine Awp.cond (t := true) (by rw [← hc2] <;> kernel_rfl) (Awp.skip ?_)
 obtain ⟨x2, hx2⟩ : ∃ x, slices[v27]? = some x := ⟨_, List.getElem?_eq_getElem hl2⟩
 rw [drop_at hx2, m_e.eq_2] at hE2
 rw [drop_at hx2] at ha
 simp only [List.flatten_cons, List.length_append] at ha
 refine Sq <| Awp.block <| Sq <| Rg <| Ap (AV.pt ((slA 1 AV.s) x2).cells) (g_idx (k := 1) (nl := false) (e := 24) (kk := .i64) (A := (slA 1 AV.s)) (xs := slices) (i := v27) kr kr kr ⟨by kernel_rfl, by decide⟩ hx2) <| Aq ((slA 1 AV.s) x2) <| Aq ((slA 1 AV.s) x2) <| Ad <| Rg <| Aq (AV.sl 1 true []) <| Aq ((slA 1 AV.s) x2) ?_
 by_cases z_3 : x2 = []
 refine AOps.se (x := (AV.sl 1 true [])) (h' := ⟨1, [(0, none)]⟩) (g_app0 (e := 9) (X := ((slA 1 AV.s) x2)) (A := AV.s) (i := tI_9) (k := 1) (ys := x2) kr kr kr (hx := kr) rfl z_3 ⟨by decide, by kernel_rfl⟩) le <| Aq (AV.sl 1 true []) <| Ad <| Rg <| Ap (Ai (v27 + 1)) (g_addN (i := v27) (m := 1) kr kr sd) <| Aq (Ai (v27 + 1)) <| Ad ?_
 try simp only [z_3, sbt] at hE2
 refine ⟨(false, [], v27 + 1), od, ⟨od, (by simp), by (try dsimp only) <;> (first | omega | (simp only [List.length_append]; omega)), hE2⟩, ?_⟩
 exact ⟨[1000000], ⟨by decide, rfl, (FitsObjs.cons rfl FitsObjs.nil), (Ee (Ee (Ee (Ee EntE.nil))))⟩, keep0⟩
 refine AOps.se (x := (AV.own 1 0 x2.length)) (h' := ⟨2, [(1, some ⟨9, 1, x2.map AV.s⟩), (0, none)]⟩) (g_app1 (e := 9) (X := ((slA 1 AV.s) x2)) (A := AV.s) (i := tI_9) (k := 1) (ys := x2) kr kr kr (hx := kr) rfl z_3 ⟨by decide, by kernel_rfl⟩ (by show _ * 16 ≤ 140737488355328; first | omega | (simp only [List.length_append, List.length_cons, List.length_nil, List.length_set, List.length_replicate]; omega) | (simp; omega)) sd) le <| Aq (AV.own 1 0 x2.length) <| Ad <| Rg <| Ap (Ai (v27 + 1)) (g_addN (i := v27) (m := 1) kr kr sd) <| Aq (Ai (v27 + 1)) <| Ad ?_
 refine ⟨(true, x2, v27 + 1), od, ⟨od, (by simp), by (try dsimp only) <;> (first | omega | (simp only [List.length_append]; omega)), hE2⟩, ?_⟩
 exact ⟨[1], ⟨by decide, rfl, (FitsObjs.cons (obj_row (fun _ => rfl) (e := 9) (k := 1) (A := AV.s) (xs := x2) rfl rfl) FitsObjs.nil), (Ee (Ee (EntE.cons (ent_keepO (by decide) rfl) (Ee EntE.nil))))⟩, keep0⟩
 have hc2 : decide (((v27 : Nat) : Int) < ((slices.length : Nat) : Int)) = false := decide_eq_false (by omega)
 refine Awp.cond (t := false) (by rw [← hc2] <;> kernel_rfl) (Awp.exit ?_)
 rw [List.drop_eq_nil_of_le (hl2), m_e.eq_1] at hE2
 subst hE2
 refine Sq <| Rg <| Aq (AV.sl 1 true []) <| Aq (AV.sl 1 true []) <| Ad <| Rt ?_
 have hM : m_b slices = [] := by simp only [m_b, hR1, z_2, hR2, sbt]
 refine ⟨Or.inr rfl, ?_⟩
 rw [hM]
 exact Ent.cast (x' := (AV.sl 1 true [])) (y' := ((slA 1 AV.s) [])) kr kr (Ent.w rfl (WeakC.nil 1))
 try dsimp only
 refine Sq <| Rg <| Aq (AV.b (decide (((v27 : Nat) : Int) < ((slices.length : Nat) : Int)))) <| Ad <| Sq ?_
 rcases Nat.lt_or_ge v27 slices.length with hl2 | hl2
 have hc2 : decide (((v27 : Nat) : Int) < ((slices.length : Nat) : Int)) = true := decide_eq_true (by omega)
 refine Awp.cond (t := true) (by rw [← hc2] <;> kernel_rfl) (Awp.skip ?_)
 obtain ⟨x2, hx2⟩ : ∃ x, slices[v27]? = some x := ⟨_, List.getElem?_eq_getElem hl2⟩
 rw [drop_at hx2, m_e.eq_2] at hE2
 rw [drop_at hx2] at ha
 simp only [List.flatten_cons, List.length_append] at ha
 refine Sq <| Awp.block <| Sq <| Rg <| Ap (AV.pt ((slA 1 AV.s) x2).cells) (g_idx (k := 1) (nl := false) (e := 24) (kk := .i64) (A := (slA 1 AV.s)) (xs := slices) (i := v27) kr kr kr ⟨by kernel_rfl, by decide⟩ hx2) <| Aq ((slA 1 AV.s) x2) <| Aq ((slA 1 AV.s) x2) <| Ad <| Rg <| Aq (AV.own 0 0 newslice.length) <| Aq ((slA 1 AV.s) x2) <| AOps.se (x := (AV.own 1 0 ((newslice ++ x2).length))) (h' := ⟨2, [(1, some ⟨9, 1, (newslice ++ x2).map AV.s⟩), (0, none)]⟩) (g_appR (len := newslice.length) (e := 9) (X := ((slA 1 AV.s) x2)) (A := AV.s) (i := tI_9) (p := 0) (xs := newslice) (ys := x2) kr kr kr (hx := kr) kr ⟨by decide, by kernel_rfl⟩ rfl rfl (by show _ * 16 ≤ 140737488355328; first | omega | (simp only [List.length_append, List.length_cons, List.length_nil, List.length_set, List.length_replicate]; omega) | (simp; omega)) sd) le <| Aq (AV.own 1 0 ((newslice ++ x2).length)) <| Ad <| Rg <| Ap (Ai (v27 + 1)) (g_addN (i := v27) (m := 1) kr kr sd) <| Aq (Ai (v27 + 1)) <| Ad ?_
 refine ⟨(true, (newslice ++ x2), v27 + 1), od, ⟨od, (by simp), by (try dsimp only) <;> (first | omega | (simp only [List.length_append]; omega)), hE2⟩, ?_⟩
 exact ⟨[1], ⟨by decide, rfl, (FitsObjs.cons (obj_row (fun _ => rfl) (e := 9) (k := 1) (A := AV.s) (xs := (newslice ++ x2)) rfl rfl) FitsObjs.nil), (Ee (Ee (EntE.cons (ent_keepO (by decide) rfl) (Ee EntE.nil))))⟩, keep0⟩
 have hc2 : decide (((v27 : Nat) : Int) < ((slices.length : Nat) : Int)) = false := decide_eq_false (by omega)
 refine Awp.cond (t := false) (by rw [← hc2] <;> kernel_rfl) (Awp.exit ?_)
 rw [List.drop_eq_nil_of_le (hl2), m_e.eq_1] at hE2
 subst hE2
 refine Sq <| Rg <| Aq (AV.own 0 0 newslice.length) <| Aq (AV.own 0 0 newslice.length) <| Ad <| Rt ?_
 have hM : m_b slices = newslice := by simp only [m_b, hR1, z_2, hR2, sbt]
 refine ⟨Or.inr rfl, ?_⟩
 rw [hM]
 exact Ent.cast (x' := (AV.own 0 0 newslice.length)) (y' := ((slA 1 AV.s) newslice)) kr kr (EntD.kk (x' := (AV.own 0 0 newslice.length)) kr kr rfl (EntK.row (fun _ => rfl) (A := AV.s) (id := 0) (e := 9) (k := 1) (xs := newslice) rfl rfl rfl sd))
 have hzz_2 : 0 < size := by have := z_2; simp only [ne_eq, List.replicate_eq_nil_iff] at this; omega
 refine AOps.scR (A := AV.s) (xs := (List.replicate size (⟨#[]⟩ : ByteArray))) (vs := [(AV.sl 1 true []), (Ai size)]) kr kr (wo_grow_string W size hzz_2 sd) (fun _ => rfl) le <| Aq (AV.own 0 0 0) <| Ad <| Sq <| Sq <| Rg <| Aq ((slA 1 (slA 1 AV.s)) slices) <| Ap (Ai slices.length) (g_len (k := 1) (nl := false) (e := 24) (A := (slA 1 AV.s)) (xs := slices) kr kr) <| Aq (AV.i .i64 (0 : Int)) <| Ad <| Awp.block <| Awp.lim 0 (x := ((slA 1 (slA 1 AV.s)) slices)) kr fun hlm2 => ?_
 have hB2 : slices.length ≤ 281474976710656 := lim_slA hlm2
 obtain ⟨R2, hR2⟩ : ∃ R, m_e slices 0 ((List.replicate size (⟨#[]⟩ : ByteArray)).take 0) = R := ⟨_, rfl⟩
 refine Awp.loopT (fun ((b_newslice2, newslice2, v272) : Bool × (List ByteArray) × Nat) => [(25, ((slA 1 (slA 1 AV.s)) slices)), (26, (Ai slices.length)), (6, (accW 0 1 AV.s b_newslice2 newslice2)), (27, (Ai v272))]) (fun ((b_newslice2, newslice2, v272) : Bool × (List ByteArray) × Nat) => ⟨1, [(0, accWO 9 1 AV.s b_newslice2 newslice2)]⟩) (fun ((b_newslice2, newslice2, v272) : Bool × (List ByteArray) × Nat) => v272 ≤ slices.length ∧ (b_newslice2 = false → newslice2 = []) ∧ newslice2.length + ((slices.drop v272).flatten).length ≤ (slices.flatten).length ∧ m_e (slices.drop v272) v272 newslice2 = R2) (fun ((b_newslice2, newslice2, v272) : Bool × (List ByteArray) × Nat) => slices.length - v272) (true, ((List.replicate size (⟨#[]⟩ : ByteArray)).take 0), 0) ?_ ?_ ?_
 exact ⟨[0], ⟨by decide, rfl, (FitsObjs.consW (obj_pre (fun _ => rfl) (fun _ => rfl) (e := 9) (k := 1) (A := AV.s) (xs := (List.replicate size (⟨#[]⟩ : ByteArray))) (ys := ((List.replicate size (⟨#[]⟩ : ByteArray)).take 0)) (take_pre _ _) rfl rfl) FitsObjs.nil), (Ee (Ee (EntE.cons (ent_keepO (by decide) (by simp)) (Ee EntE.nil))))⟩, keep0⟩
 exact ⟨od, (by simp), by (try dsimp only) <;> (simp), hR2⟩
 rintro ⟨b_newslice2, newslice2, v272⟩ ⟨hi2, hn_newslice2, ha, hE2⟩
 try dsimp only
 cases b_newslice2
 have hz_newslice2 := hn_newslice2 rfl
 subst hz_newslice2
 try dsimp only
 refine Sq <| Rg <| Aq (AV.b (decide (((v272 : Nat) : Int) < ((slices.length : Nat) : Int)))) <| Ad <| Sq ?_
 rcases Nat.lt_or_ge v272 slices.length with hl2 | hl2
 have hc2 : decide (((v272 : Nat) : Int) < ((slices.length : Nat) : Int)) = true := decide_eq_true (by omega)
 refine Awp.cond (t := true) (by rw [← hc2] <;> kernel_rfl) (Awp.skip ?_)
 obtain ⟨x22, hx2⟩ : ∃ x, slices[v272]? = some x := ⟨_, List.getElem?_eq_getElem hl2⟩
 rw [drop_at hx2, m_e.eq_2] at hE2
 rw [drop_at hx2] at ha
 simp only [List.flatten_cons, List.length_append] at ha
 refine Sq <| Awp.block <| Sq <| Rg <| Ap (AV.pt ((slA 1 AV.s) x22).cells) (g_idx (k := 1) (nl := false) (e := 24) (kk := .i64) (A := (slA 1 AV.s)) (xs := slices) (i := v272) kr kr kr ⟨by kernel_rfl, by decide⟩ hx2) <| Aq ((slA 1 AV.s) x22) <| Aq ((slA 1 AV.s) x22) <| Ad <| Rg <| Aq (AV.sl 1 true []) <| Aq ((slA 1 AV.s) x22) ?_
 by_cases z_4 : x22 = []
 refine AOps.se (x := (AV.sl 1 true [])) (h' := ⟨1, [(0, none)]⟩) (g_app0 (e := 9) (X := ((slA 1 AV.s) x22)) (A := AV.s) (i := tI_9) (k := 1) (ys := x22) kr kr kr (hx := kr) rfl z_4 ⟨by decide, by kernel_rfl⟩) le <| Aq (AV.sl 1 true []) <| Ad <| Rg <| Ap (Ai (v272 + 1)) (g_addN (i := v272) (m := 1) kr kr sd) <| Aq (Ai (v272 + 1)) <| Ad ?_
 try simp only [z_4, sbt] at hE2
 refine ⟨(false, [], v272 + 1), od, ⟨od, (by simp), by (try dsimp only) <;> (first | omega | (simp only [List.length_append]; omega)), hE2⟩, ?_⟩
 exact ⟨[1000000], ⟨by decide, rfl, (FitsObjs.cons rfl FitsObjs.nil), (Ee (Ee (Ee (Ee EntE.nil))))⟩, keep0⟩
 refine AOps.se (x := (AV.own 1 0 x22.length)) (h' := ⟨2, [(1, some ⟨9, 1, x22.map AV.s⟩), (0, none)]⟩) (g_app1 (e := 9) (X := ((slA 1 AV.s) x22)) (A := AV.s) (i := tI_9) (k := 1) (ys := x22) kr kr kr (hx := kr) rfl z_4 ⟨by decide, by kernel_rfl⟩ (by show _ * 16 ≤ 140737488355328; first | omega | (simp only [List.length_append, List.length_cons, List.length_nil, List.length_set, List.length_replicate]; omega) | (simp; omega)) sd) le <| Aq (AV.own 1 0 x22.length) <| Ad <| Rg <| Ap (Ai (v272 + 1)) (g_addN (i := v272) (m := 1) kr kr sd) <| Aq (Ai (v272 + 1)) <| Ad ?_
 refine ⟨(true, x22, v272 + 1), od, ⟨od, (by simp), by (try dsimp only) <;> (first | omega | (simp only [List.length_append]; omega)), hE2⟩, ?_⟩
 exact ⟨[1], ⟨by decide, rfl, (FitsObjs.cons (obj_row (fun _ => rfl) (e := 9) (k := 1) (A := AV.s) (xs := x22) rfl rfl) FitsObjs.nil), (Ee (Ee (EntE.cons (ent_keepO (by decide) rfl) (Ee EntE.nil))))⟩, keep0⟩
 have hc2 : decide (((v272 : Nat) : Int) < ((slices.length : Nat) : Int)) = false := decide_eq_false (by omega)
 refine Awp.cond (t := false) (by rw [← hc2] <;> kernel_rfl) (Awp.exit ?_)
 rw [List.drop_eq_nil_of_le (hl2), m_e.eq_1] at hE2
 subst hE2
 refine Sq <| Rg <| Aq (AV.sl 1 true []) <| Aq (AV.sl 1 true []) <| Ad <| Rt ?_
 have hM : m_b slices = [] := by simp only [m_b, hR1, hR2, sbt]
 refine ⟨Or.inr rfl, ?_⟩
 rw [hM]
 exact Ent.cast (x' := (AV.sl 1 true [])) (y' := ((slA 1 AV.s) [])) kr kr (Ent.w rfl (WeakC.nil 1))
 try dsimp only
 refine Sq <| Rg <| Aq (AV.b (decide (((v272 : Nat) : Int) < ((slices.length : Nat) : Int)))) <| Ad <| Sq ?_
 rcases Nat.lt_or_ge v272 slices.length with hl2 | hl2
 have hc2 : decide (((v272 : Nat) : Int) < ((slices.length : Nat) : Int)) = true := decide_eq_true (by omega)
 refine Awp.cond (t := true) (by rw [← hc2] <;> kernel_rfl) (Awp.skip ?_)
 obtain ⟨x22, hx2⟩ : ∃ x, slices[v272]? = some x := ⟨_, List.getElem?_eq_getElem hl2⟩
 rw [drop_at hx2, m_e.eq_2] at hE2
 rw [drop_at hx2] at ha
 simp only [List.flatten_cons, List.length_append] at ha
 refine Sq <| Awp.block <| Sq <| Rg <| Ap (AV.pt ((slA 1 AV.s) x22).cells) (g_idx (k := 1) (nl := false) (e := 24) (kk := .i64) (A := (slA 1 AV.s)) (xs := slices) (i := v272) kr kr kr ⟨by kernel_rfl, by decide⟩ hx2) <| Aq ((slA 1 AV.s) x22) <| Aq ((slA 1 AV.s) x22) <| Ad <| Rg <| Aq (AV.own 0 0 newslice2.length) <| Aq ((slA 1 AV.s) x22) <| AOps.se (x := (AV.own 1 0 ((newslice2 ++ x22).length))) (h' := ⟨2, [(1, some ⟨9, 1, (newslice2 ++ x22).map AV.s⟩), (0, none)]⟩) (g_appR (len := newslice2.length) (e := 9) (X := ((slA 1 AV.s) x22)) (A := AV.s) (i := tI_9) (p := 0) (xs := newslice2) (ys := x22) kr kr kr (hx := kr) kr ⟨by decide, by kernel_rfl⟩ rfl rfl (by show _ * 16 ≤ 140737488355328; first | omega | (simp only [List.length_append, List.length_cons, List.length_nil, List.length_set, List.length_replicate]; omega) | (simp; omega)) sd) le <| Aq (AV.own 1 0 ((newslice2 ++ x22).length)) <| Ad <| Rg <| Ap (Ai (v272 + 1)) (g_addN (i := v272) (m := 1) kr kr sd) <| Aq (Ai (v272 + 1)) <| Ad ?_
 refine ⟨(true, (newslice2 ++ x22), v272 + 1), od, ⟨od, (by simp), by (try dsimp only) <;> (first | omega | (simp only [List.length_append]; omega)), hE2⟩, ?_⟩
 exact ⟨[1], ⟨by decide, rfl, (FitsObjs.cons (obj_row (fun _ => rfl) (e := 9) (k := 1) (A := AV.s) (xs := (newslice2 ++ x22)) rfl rfl) FitsObjs.nil), (Ee (Ee (EntE.cons (ent_keepO (by decide) rfl) (Ee EntE.nil))))⟩, keep0⟩
 have hc2 : decide (((v272 : Nat) : Int) < ((slices.length : Nat) : Int)) = false := decide_eq_false (by omega)
 refine Awp.cond (t := false) (by rw [← hc2] <;> kernel_rfl) (Awp.exit ?_)
 rw [List.drop_eq_nil_of_le (hl2), m_e.eq_1] at hE2
 subst hE2
 refine Sq <| Rg <| Aq (AV.own 0 0 newslice2.length) <| Aq (AV.own 0 0 newslice2.length) <| Ad <| Rt ?_
 have hM : m_b slices = newslice2 := by simp only [m_b, hR1, hR2, sbt]
 refine ⟨Or.inr rfl, ?_⟩
 rw [hM]
 exact Ent.cast (x' := (AV.own 0 0 newslice2.length)) (y' := ((slA 1 AV.s) newslice2)) kr kr (EntD.kk (x' := (AV.own 0 0 newslice2.length)) kr kr rfl (EntK.row (fun _ => rfl) (A := AV.s) (id := 0) (e := 9) (k := 1) (xs := newslice2) rfl rfl rfl sd))
theorem wo_slices_Concat_string_string (W : World) (slices : List (List ByteArray)) (hz : (slices.flatten).length ≤ 1048576) (hne : m_b slices ≠ []) : PureAt Go.Proofs.Tryz.prog W 105 [((slA 1 (slA 1 AV.s)) slices)] (.own 0 0 (m_b slices).length) [⟨9, 1, (m_b slices).map AV.s⟩] := by
 refine pure_of_bodyR (fn := Go.Proofs.Tryz.f105) Go.Proofs.Tryz.func105 rfl (en105 W) (ts := [2]) rfl le (fun _ => rfl) <| Sq <| Rg <| Aq (AV.sl 1 true []) <| Ad <| Sq <| Rg <| Aq (AV.i .i64 (0 : Int)) <| Ad <| Sq <| Sq <| Rg <| Aq ((slA 1 (slA 1 AV.s)) slices) <| Ap (Ai slices.length) (g_len (k := 1) (nl := false) (e := 24) (A := (slA 1 AV.s)) (xs := slices) kr kr) <| Aq (AV.i .i64 (0 : Int)) <| Ad <| Awp.block <| Awp.lim 0 (x := ((slA 1 (slA 1 AV.s)) slices)) kr fun hlm1 => ?_
 have hB1 : slices.length ≤ 281474976710656 := lim_slA hlm1
 obtain ⟨R1, hR1⟩ : ∃ R, m_p slices 0 0 = R := ⟨_, rfl⟩
 refine Awp.loopT (fun ((size, v11) : Nat × Nat) => [(0, ((slA 1 (slA 1 AV.s)) slices)), (9, ((slA 1 (slA 1 AV.s)) slices)), (10, (Ai slices.length)), (3, (Ai size)), (11, (Ai v11))]) (fun ((size, v11) : Nat × Nat) => ⟨0, []⟩) (fun ((size, v11) : Nat × Nat) => v11 ≤ slices.length ∧ size + ((slices.drop v11).flatten).length = (slices.flatten).length ∧ m_p (slices.drop v11) v11 size = R1) (fun ((size, v11) : Nat × Nat) => slices.length - v11) (0, 0) ?_ ?_ ?_
 exact ⟨[], ⟨by decide, rfl, FitsObjs.nil, (Ee (Ee (Ee (Ee (Ee EntE.nil)))))⟩, keep0⟩
 exact ⟨od, by (try dsimp only) <;> (simp), hR1⟩
 rintro ⟨size, v11⟩ ⟨hi1, hs, hE1⟩
 try dsimp only
 refine Sq <| Rg <| Aq (AV.b (decide (((v11 : Nat) : Int) < ((slices.length : Nat) : Int)))) <| Ad <| Sq ?_
 rcases Nat.lt_or_ge v11 slices.length with hl1 | hl1
 have hc1 : decide (((v11 : Nat) : Int) < ((slices.length : Nat) : Int)) = true := decide_eq_true (by omega)
 refine Awp.cond (t := true) (by rw [← hc1] <;> kernel_rfl) (Awp.skip ?_)
 obtain ⟨x1, hx1⟩ : ∃ x, slices[v11]? = some x := ⟨_, List.getElem?_eq_getElem hl1⟩
 rw [drop_at hx1, m_p.eq_2] at hE1
 rw [drop_at hx1] at hs
 simp only [List.flatten_cons, List.length_append] at hs
 refine Sq <| Awp.block <| Sq <| Rg <| Ap (AV.pt ((slA 1 AV.s) x1).cells) (g_idx (k := 1) (nl := false) (e := 24) (kk := .i64) (A := (slA 1 AV.s)) (xs := slices) (i := v11) kr kr kr ⟨by kernel_rfl, by decide⟩ hx1) <| Aq ((slA 1 AV.s) x1) <| Aq ((slA 1 AV.s) x1) <| Ad <| Sq <| Rg <| Aq (Ai size) <| Aq ((slA 1 AV.s) x1) <| Ap (Ai x1.length) (g_len (k := 1) (nl := false) (e := 9) (A := AV.s) (xs := x1) kr kr) <| Ap (Ai (size + x1.length)) (g_addN (i := size) (m := x1.length) kr kr sd) <| Aq (Ai (size + x1.length)) <| Ad <| Sq <| Rg <| Aq (Ai (size + x1.length)) <| Aq (AV.b (decide (((size + x1.length : Nat) : Int) < (0 : Int)))) <| Ad ?_
 cases c_1 : decide (((size + x1.length : Nat) : Int) < (0 : Int))
 have k_1 := of_decide_eq_false c_1
 refine Cf <| Awp.skip <| Rg <| Ap (Ai (v11 + 1)) (g_addN (i := v11) (m := 1) kr kr sd) <| Aq (Ai (v11 + 1)) <| Ad ?_
 try simp only [c_1, sbt] at hE1
 refine ⟨(size + x1.length, v11 + 1), od, ⟨od, by (try dsimp only) <;> (omega), hE1⟩, ?_⟩
 exact ⟨[], ⟨by decide, rfl, FitsObjs.nil, (Ee (Ee (Ee (Ee (Ee EntE.nil)))))⟩, keep0⟩
 have k_1 := of_decide_eq_true c_1
 refine Ct <| Rg ?_
 exfalso
 omega
 have hc1 : decide (((v11 : Nat) : Int) < ((slices.length : Nat) : Int)) = false := decide_eq_false (by omega)
 refine Awp.cond (t := false) (by rw [← hc1] <;> kernel_rfl) (Awp.exit ?_)
 rw [List.drop_eq_nil_of_le (hl1), m_p.eq_1] at hE1
 subst hE1
 refine Sq <| Rg <| Aq (Ai size) ?_
 by_cases z_2 : (List.replicate size (⟨#[]⟩ : ByteArray)) = []
 have hzz_2 : size = 0 := by simpa using z_2
 refine AOps.sc0 (vs := [(AV.sl 1 true []), (Ai size)]) (r0 := (AV.sl 1 true [])) kr kr (by rw [hzz_2]; exact w_grow0 W) kr le <| Aq (AV.sl 1 true []) <| Ad <| Sq <| Sq <| Rg <| Aq ((slA 1 (slA 1 AV.s)) slices) <| Ap (Ai slices.length) (g_len (k := 1) (nl := false) (e := 24) (A := (slA 1 AV.s)) (xs := slices) kr kr) <| Aq (AV.i .i64 (0 : Int)) <| Ad <| Awp.block <| Awp.lim 0 (x := ((slA 1 (slA 1 AV.s)) slices)) kr fun hlm2 => ?_
 have hB2 : slices.length ≤ 281474976710656 := lim_slA hlm2
 obtain ⟨R2, hR2⟩ : ∃ R, m_e slices 0 [] = R := ⟨_, rfl⟩
 refine Awp.loopT (fun ((b_newslice, newslice, v27) : Bool × (List ByteArray) × Nat) => [(25, ((slA 1 (slA 1 AV.s)) slices)), (26, (Ai slices.length)), (6, (accW 0 1 AV.s b_newslice newslice)), (27, (Ai v27))]) (fun ((b_newslice, newslice, v27) : Bool × (List ByteArray) × Nat) => ⟨1, [(0, accWO 9 1 AV.s b_newslice newslice)]⟩) (fun ((b_newslice, newslice, v27) : Bool × (List ByteArray) × Nat) => v27 ≤ slices.length ∧ (b_newslice = false → newslice = []) ∧ newslice.length + ((slices.drop v27).flatten).length ≤ (slices.flatten).length ∧ m_e (slices.drop v27) v27 newslice = R2) (fun ((b_newslice, newslice, v27) : Bool × (List ByteArray) × Nat) => slices.length - v27) (false, [], 0) ?_ ?_ ?_
 exact ⟨[1000000], ⟨by decide, rfl, (FitsObjs.cons rfl FitsObjs.nil), (Ee (Ee (Ee (Ee EntE.nil))))⟩, keep0⟩
 exact ⟨od, (by simp), by (try dsimp only) <;> (simp), hR2⟩
 rintro ⟨b_newslice, newslice, v27⟩ ⟨hi2, hn_newslice, ha, hE2⟩
 try dsimp only
 cases b_newslice
 have hz_newslice := hn_newslice rfl
 subst hz_newslice
 try dsimp only
 refine Sq <| Rg <| Aq (AV.b (decide (((v27 : Nat) : Int) < ((slices.length : Nat) : Int)))) <| Ad <| Sq ?_
 rcases Nat.lt_or_ge v27 slices.length with hl2 | hl2
 have hc2 : decide (((v27 : Nat) : Int) < ((slices.length : Nat) : Int)) = true := decide_eq_true (by omega)
 refine Awp.cond (t := true) (by rw [← hc2] <;> kernel_rfl) (Awp.skip ?_)
 obtain ⟨x2, hx2⟩ : ∃ x, slices[v27]? = some x := ⟨_, List.getElem?_eq_getElem hl2⟩
 rw [drop_at hx2, m_e.eq_2] at hE2
 rw [drop_at hx2] at ha
 simp only [List.flatten_cons, List.length_append] at ha
 refine Sq <| Awp.block <| Sq <| Rg <| Ap (AV.pt ((slA 1 AV.s) x2).cells) (g_idx (k := 1) (nl := false) (e := 24) (kk := .i64) (A := (slA 1 AV.s)) (xs := slices) (i := v27) kr kr kr ⟨by kernel_rfl, by decide⟩ hx2) <| Aq ((slA 1 AV.s) x2) <| Aq ((slA 1 AV.s) x2) <| Ad <| Rg <| Aq (AV.sl 1 true []) <| Aq ((slA 1 AV.s) x2) ?_
 by_cases z_3 : x2 = []
 refine AOps.se (x := (AV.sl 1 true [])) (h' := ⟨1, [(0, none)]⟩) (g_app0 (e := 9) (X := ((slA 1 AV.s) x2)) (A := AV.s) (i := tI_9) (k := 1) (ys := x2) kr kr kr (hx := kr) rfl z_3 ⟨by decide, by kernel_rfl⟩) le <| Aq (AV.sl 1 true []) <| Ad <| Rg <| Ap (Ai (v27 + 1)) (g_addN (i := v27) (m := 1) kr kr sd) <| Aq (Ai (v27 + 1)) <| Ad ?_
 try simp only [z_3, sbt] at hE2
 refine ⟨(false, [], v27 + 1), od, ⟨od, (by simp), by (try dsimp only) <;> (first | omega | (simp only [List.length_append]; omega)), hE2⟩, ?_⟩
 exact ⟨[1000000], ⟨by decide, rfl, (FitsObjs.cons rfl FitsObjs.nil), (Ee (Ee (Ee (Ee EntE.nil))))⟩, keep0⟩
 refine AOps.se (x := (AV.own 1 0 x2.length)) (h' := ⟨2, [(1, some ⟨9, 1, x2.map AV.s⟩), (0, none)]⟩) (g_app1 (e := 9) (X := ((slA 1 AV.s) x2)) (A := AV.s) (i := tI_9) (k := 1) (ys := x2) kr kr kr (hx := kr) rfl z_3 ⟨by decide, by kernel_rfl⟩ (by show _ * 16 ≤ 140737488355328; first | omega | (simp only [List.length_append, List.length_cons, List.length_nil, List.length_set, List.length_replicate]; omega) | (simp; omega)) sd) le <| Aq (AV.own 1 0 x2.length) <| Ad <| Rg <| Ap (Ai (v27 + 1)) (g_addN (i := v27) (m := 1) kr kr sd) <| Aq (Ai (v27 + 1)) <| Ad ?_
 refine ⟨(true, x2, v27 + 1), od, ⟨od, (by simp), by (try dsimp only) <;> (first | omega | (simp only [List.length_append]; omega)), hE2⟩, ?_⟩
 exact ⟨[1], ⟨by decide, rfl, (FitsObjs.cons (obj_row (fun _ => rfl) (e := 9) (k := 1) (A := AV.s) (xs := x2) rfl rfl) FitsObjs.nil), (Ee (Ee (EntE.cons (ent_keepO (by decide) rfl) (Ee EntE.nil))))⟩, keep0⟩
 have hc2 : decide (((v27 : Nat) : Int) < ((slices.length : Nat) : Int)) = false := decide_eq_false (by omega)
 refine Awp.cond (t := false) (by rw [← hc2] <;> kernel_rfl) (Awp.exit ?_)
 rw [List.drop_eq_nil_of_le (hl2), m_e.eq_1] at hE2
 subst hE2
 refine Sq <| Rg <| Aq (AV.sl 1 true []) <| Aq (AV.sl 1 true []) <| Ad <| Rt ?_
 have hM : m_b slices = [] := by simp only [m_b, hR1, z_2, hR2, sbt]
 exact absurd hM hne
 try dsimp only
 refine Sq <| Rg <| Aq (AV.b (decide (((v27 : Nat) : Int) < ((slices.length : Nat) : Int)))) <| Ad <| Sq ?_
 rcases Nat.lt_or_ge v27 slices.length with hl2 | hl2
 have hc2 : decide (((v27 : Nat) : Int) < ((slices.length : Nat) : Int)) = true := decide_eq_true (by omega)
 refine Awp.cond (t := true) (by rw [← hc2] <;> kernel_rfl) (Awp.skip ?_)
 obtain ⟨x2, hx2⟩ : ∃ x, slices[v27]? = some x := ⟨_, List.getElem?_eq_getElem hl2⟩
 rw [drop_at hx2, m_e.eq_2] at hE2
 rw [drop_at hx2] at ha
 simp only [List.flatten_cons, List.length_append] at ha
 refine Sq <| Awp.block <| Sq <| Rg <| Ap (AV.pt ((slA 1 AV.s) x2).cells) (g_idx (k := 1) (nl := false) (e := 24) (kk := .i64) (A := (slA 1 AV.s)) (xs := slices) (i := v27) kr kr kr ⟨by kernel_rfl, by decide⟩ hx2) <| Aq ((slA 1 AV.s) x2) <| Aq ((slA 1 AV.s) x2) <| Ad <| Rg <| Aq (AV.own 0 0 newslice.length) <| Aq ((slA 1 AV.s) x2) <| AOps.se (x := (AV.own 1 0 ((newslice ++ x2).length))) (h' := ⟨2, [(1, some ⟨9, 1, (newslice ++ x2).map AV.s⟩), (0, none)]⟩) (g_appR (len := newslice.length) (e := 9) (X := ((slA 1 AV.s) x2)) (A := AV.s) (i := tI_9) (p := 0) (xs := newslice) (ys := x2) kr kr kr (hx := kr) kr ⟨by decide, by kernel_rfl⟩ rfl rfl (by show _ * 16 ≤ 140737488355328; first | omega | (simp only [List.length_append, List.length_cons, List.length_nil, List.length_set, List.length_replicate]; omega) | (simp; omega)) sd) le <| Aq (AV.own 1 0 ((newslice ++ x2).length)) <| Ad <| Rg <| Ap (Ai (v27 + 1)) (g_addN (i := v27) (m := 1) kr kr sd) <| Aq (Ai (v27 + 1)) <| Ad ?_
 refine ⟨(true, (newslice ++ x2), v27 + 1), od, ⟨od, (by simp), by (try dsimp only) <;> (first | omega | (simp only [List.length_append]; omega)), hE2⟩, ?_⟩
 exact ⟨[1], ⟨by decide, rfl, (FitsObjs.cons (obj_row (fun _ => rfl) (e := 9) (k := 1) (A := AV.s) (xs := (newslice ++ x2)) rfl rfl) FitsObjs.nil), (Ee (Ee (EntE.cons (ent_keepO (by decide) rfl) (Ee EntE.nil))))⟩, keep0⟩
 have hc2 : decide (((v27 : Nat) : Int) < ((slices.length : Nat) : Int)) = false := decide_eq_false (by omega)
 refine Awp.cond (t := false) (by rw [← hc2] <;> kernel_rfl) (Awp.exit ?_)
 rw [List.drop_eq_nil_of_le (hl2), m_e.eq_1] at hE2
 subst hE2
 refine Sq <| Rg <| Aq (AV.own 0 0 newslice.length) <| Aq (AV.own 0 0 newslice.length) <| Ad <| Rt ?_
 have hM : m_b slices = newslice := by simp only [m_b, hR1, z_2, hR2, sbt]
 rw [hM]
 refine ⟨Or.inr rfl, 0, ?_, rfl⟩
 first | rfl | (show AV.own _ _ _ = AV.own _ _ _; congr 1; simp)
 have hzz_2 : 0 < size := by have := z_2; simp only [ne_eq, List.replicate_eq_nil_iff] at this; omega
 refine AOps.scR (A := AV.s) (xs := (List.replicate size (⟨#[]⟩ : ByteArray))) (vs := [(AV.sl 1 true []), (Ai size)]) kr kr (wo_grow_string W size hzz_2 sd) (fun _ => rfl) le <| Aq (AV.own 0 0 0) <| Ad <| Sq <| Sq <| Rg <| Aq ((slA 1 (slA 1 AV.s)) slices) <| Ap (Ai slices.length) (g_len (k := 1) (nl := false) (e := 24) (A := (slA 1 AV.s)) (xs := slices) kr kr) <| Aq (AV.i .i64 (0 : Int)) <| Ad <| Awp.block <| Awp.lim 0 (x := ((slA 1 (slA 1 AV.s)) slices)) kr fun hlm2 => ?_
 have hB2 : slices.length ≤ 281474976710656 := lim_slA hlm2
 obtain ⟨R2, hR2⟩ : ∃ R, m_e slices 0 ((List.replicate size (⟨#[]⟩ : ByteArray)).take 0) = R := ⟨_, rfl⟩
 refine Awp.loopT (fun ((b_newslice2, newslice2, v272) : Bool × (List ByteArray) × Nat) => [(25, ((slA 1 (slA 1 AV.s)) slices)), (26, (Ai slices.length)), (6, (accW 0 1 AV.s b_newslice2 newslice2)), (27, (Ai v272))]) (fun ((b_newslice2, newslice2, v272) : Bool × (List ByteArray) × Nat) => ⟨1, [(0, accWO 9 1 AV.s b_newslice2 newslice2)]⟩) (fun ((b_newslice2, newslice2, v272) : Bool × (List ByteArray) × Nat) => v272 ≤ slices.length ∧ (b_newslice2 = false → newslice2 = []) ∧ newslice2.length + ((slices.drop v272).flatten).length ≤ (slices.flatten).length ∧ m_e (slices.drop v272) v272 newslice2 = R2) (fun ((b_newslice2, newslice2, v272) : Bool × (List ByteArray) × Nat) => slices.length - v272) (true, ((List.replicate size (⟨#[]⟩ : ByteArray)).take 0), 0) ?_ ?_ ?_
 exact ⟨[0], ⟨by decide, rfl, (FitsObjs.consW (obj_pre (fun _ => rfl) (fun _ => rfl) (e := 9) (k := 1) (A := AV.s) (xs := (List.replicate size (⟨#[]⟩ : ByteArray))) (ys := ((List.replicate size (⟨#[]⟩ : ByteArray)).take 0)) (take_pre _ _) rfl rfl) FitsObjs.nil), (Ee (Ee (EntE.cons (ent_keepO (by decide) (by simp)) (Ee EntE.nil))))⟩, keep0⟩
 exact ⟨od, (by simp), by (try dsimp only) <;> (simp), hR2⟩
 rintro ⟨b_newslice2, newslice2, v272⟩ ⟨hi2, hn_newslice2, ha, hE2⟩
 try dsimp only
 cases b_newslice2
 have hz_newslice2 := hn_newslice2 rfl
 subst hz_newslice2
 try dsimp only
 refine Sq <| Rg <| Aq (AV.b (decide (((v272 : Nat) : Int) < ((slices.length : Nat) : Int)))) <| Ad <| Sq ?_
 rcases Nat.lt_or_ge v272 slices.length with hl2 | hl2
 have hc2 : decide (((v272 : Nat) : Int) < ((slices.length : Nat) : Int)) = true := decide_eq_true (by omega)
 refine Awp.cond (t := true) (by rw [← hc2] <;> kernel_rfl) (Awp.skip ?_)
 obtain ⟨x22, hx2⟩ : ∃ x, slices[v272]? = some x := ⟨_, List.getElem?_eq_getElem hl2⟩
 rw [drop_at hx2, m_e.eq_2] at hE2
 rw [drop_at hx2] at ha
 simp only [List.flatten_cons, List.length_append] at ha
 refine Sq <| Awp.block <| Sq <| Rg <| Ap (AV.pt ((slA 1 AV.s) x22).cells) (g_idx (k := 1) (nl := false) (e := 24) (kk := .i64) (A := (slA 1 AV.s)) (xs := slices) (i := v272) kr kr kr ⟨by kernel_rfl, by decide⟩ hx2) <| Aq ((slA 1 AV.s) x22) <| Aq ((slA 1 AV.s) x22) <| Ad <| Rg <| Aq (AV.sl 1 true []) <| Aq ((slA 1 AV.s) x22) ?_
 by_cases z_4 : x22 = []
 refine AOps.se (x := (AV.sl 1 true [])) (h' := ⟨1, [(0, none)]⟩) (g_app0 (e := 9) (X := ((slA 1 AV.s) x22)) (A := AV.s) (i := tI_9) (k := 1) (ys := x22) kr kr kr (hx := kr) rfl z_4 ⟨by decide, by kernel_rfl⟩) le <| Aq (AV.sl 1 true []) <| Ad <| Rg <| Ap (Ai (v272 + 1)) (g_addN (i := v272) (m := 1) kr kr sd) <| Aq (Ai (v272 + 1)) <| Ad ?_
 try simp only [z_4, sbt] at hE2
 refine ⟨(false, [], v272 + 1), od, ⟨od, (by simp), by (try dsimp only) <;> (first | omega | (simp only [List.length_append]; omega)), hE2⟩, ?_⟩
 exact ⟨[1000000], ⟨by decide, rfl, (FitsObjs.cons rfl FitsObjs.nil), (Ee (Ee (Ee (Ee EntE.nil))))⟩, keep0⟩
 refine AOps.se (x := (AV.own 1 0 x22.length)) (h' := ⟨2, [(1, some ⟨9, 1, x22.map AV.s⟩), (0, none)]⟩) (g_app1 (e := 9) (X := ((slA 1 AV.s) x22)) (A := AV.s) (i := tI_9) (k := 1) (ys := x22) kr kr kr (hx := kr) rfl z_4 ⟨by decide, by kernel_rfl⟩ (by show _ * 16 ≤ 140737488355328; first | omega | (simp only [List.length_append, List.length_cons, List.length_nil, List.length_set, List.length_replicate]; omega) | (simp; omega)) sd) le <| Aq (AV.own 1 0 x22.length) <| Ad <| Rg <| Ap (Ai (v272 + 1)) (g_addN (i := v272) (m := 1) kr kr sd) <| Aq (Ai (v272 + 1)) <| Ad ?_
 refine ⟨(true, x22, v272 + 1), od, ⟨od, (by simp), by (try dsimp only) <;> (first | omega | (simp only [List.length_append]; omega)), hE2⟩, ?_⟩
 exact ⟨[1], ⟨by decide, rfl, (FitsObjs.cons (obj_row (fun _ => rfl) (e := 9) (k := 1) (A := AV.s) (xs := x22) rfl rfl) FitsObjs.nil), (Ee (Ee (EntE.cons (ent_keepO (by decide) rfl) (Ee EntE.nil))))⟩, keep0⟩
 have hc2 : decide (((v272 : Nat) : Int) < ((slices.length : Nat) : Int)) = false := decide_eq_false (by omega)
 refine Awp.cond (t := false) (by rw [← hc2] <;> kernel_rfl) (Awp.exit ?_)
 rw [List.drop_eq_nil_of_le (hl2), m_e.eq_1] at hE2
 subst hE2
 refine Sq <| Rg <| Aq (AV.sl 1 true []) <| Aq (AV.sl 1 true []) <| Ad <| Rt ?_
 have hM : m_b slices = [] := by simp only [m_b, hR1, hR2, sbt]
 exact absurd hM hne
 try dsimp only
 refine Sq <| Rg <| Aq (AV.b (decide (((v272 : Nat) : Int) < ((slices.length : Nat) : Int)))) <| Ad <| Sq ?_
 rcases Nat.lt_or_ge v272 slices.length with hl2 | hl2
 have hc2 : decide (((v272 : Nat) : Int) < ((slices.length : Nat) : Int)) = true := decide_eq_true (by omega)
 refine Awp.cond (t := true) (by rw [← hc2] <;> kernel_rfl) (Awp.skip ?_)
 obtain ⟨x22, hx2⟩ : ∃ x, slices[v272]? = some x := ⟨_, List.getElem?_eq_getElem hl2⟩
 rw [drop_at hx2, m_e.eq_2] at hE2
 rw [drop_at hx2] at ha
 simp only [List.flatten_cons, List.length_append] at ha
 refine Sq <| Awp.block <| Sq <| Rg <| Ap (AV.pt ((slA 1 AV.s) x22).cells) (g_idx (k := 1) (nl := false) (e := 24) (kk := .i64) (A := (slA 1 AV.s)) (xs := slices) (i := v272) kr kr kr ⟨by kernel_rfl, by decide⟩ hx2) <| Aq ((slA 1 AV.s) x22) <| Aq ((slA 1 AV.s) x22) <| Ad <| Rg <| Aq (AV.own 0 0 newslice2.length) <| Aq ((slA 1 AV.s) x22) <| AOps.se (x := (AV.own 1 0 ((newslice2 ++ x22).length))) (h' := ⟨2, [(1, some ⟨9, 1, (newslice2 ++ x22).map AV.s⟩), (0, none)]⟩) (g_appR (len := newslice2.length) (e := 9) (X := ((slA 1 AV.s) x22)) (A := AV.s) (i := tI_9) (p := 0) (xs := newslice2) (ys := x22) kr kr kr (hx := kr) kr ⟨by decide, by kernel_rfl⟩ rfl rfl (by show _ * 16 ≤ 140737488355328; first | omega | (simp only [List.length_append, List.length_cons, List.length_nil, List.length_set, List.length_replicate]; omega) | (simp; omega)) sd) le <| Aq (AV.own 1 0 ((newslice2 ++ x22).length)) <| Ad <| Rg <| Ap (Ai (v272 + 1)) (g_addN (i := v272) (m := 1) kr kr sd) <| Aq (Ai (v272 + 1)) <| Ad ?_
 refine ⟨(true, (newslice2 ++ x22), v272 + 1), od, ⟨od, (by simp), by (try dsimp only) <;> (first | omega | (simp only [List.length_append]; omega)), hE2⟩, ?_⟩
 exact ⟨[1], ⟨by decide, rfl, (FitsObjs.cons (obj_row (fun _ => rfl) (e := 9) (k := 1) (A := AV.s) (xs := (newslice2 ++ x22)) rfl rfl) FitsObjs.nil), (Ee (Ee (EntE.cons (ent_keepO (by decide) rfl) (Ee EntE.nil))))⟩, keep0⟩
 have hc2 : decide (((v272 : Nat) : Int) < ((slices.length : Nat) : Int)) = false := decide_eq_false (by omega)
 refine Awp.cond (t := false) (by rw [← hc2] <;> kernel_rfl) (Awp.exit ?_)
 rw [List.drop_eq_nil_of_le (hl2), m_e.eq_1] at hE2
 subst hE2
 refine Sq <| Rg <| Aq (AV.own 0 0 newslice2.length) <| Aq (AV.own 0 0 newslice2.length) <| Ad <| Rt ?_
 have hM : m_b slices = newslice2 := by simp only [m_b, hR1, hR2, sbt]
 rw [hM]
 refine ⟨Or.inr rfl, 0, ?_, rfl⟩
 first | rfl | (show AV.own _ _ _ = AV.own _ _ _; congr 1; simp)
theorem w_order_Needs (W : World) (g : DGraph) (edge : Int) (he : edge.toNat < g.edges.length ∧ 0 ≤ edge) (hz : needsN g edge ≤ 1048576) : PureAt Go.Proofs.Tryz.prog W 70 [(AV.pt (DGraph.av g).cells), (AV.i .i64 edge)] ((slA 1 (AV.i .i64)) (m_h g edge)) [] := by
 have hfl : ([(g.edges.getD edge.toNat default).ins, (g.edges.getD edge.toNat default).implicit, (g.edges.getD edge.toNat default).order].flatten).length ≤ 1048576 := by have hz' := hz; unfold needsN at hz'; simp only [List.flatten_cons, List.flatten_nil, List.append_nil, List.length_append]; omega
 have hlen : (m_b [(g.edges.getD edge.toNat default).ins, (g.edges.getD edge.toNat default).implicit, (g.edges.getD edge.toNat default).order]).length ≤ 1048576 := by rw [concat_eq]; exact hfl
 refine pure_of_bodyC (fn := Go.Proofs.Tryz.f70) Go.Proofs.Tryz.func70 rfl (en70 W) (ts := [4]) rfl le <| Sq <| Rg <| Aq (AV.sl 1 true []) <| Ad <| Sq <| Rg <| Aq (AV.sl 1 true []) <| Ad <| Sq <| Rg <| Aq (AV.pt (DGraph.av g).cells) <| Aq (AV.pt (DGraph.av g).cells) <| Aq (AV.pt ((DGraph.av g).cells.drop 0)) <| Aq ((slA 7 DEdge.av) g.edges) <| Aq (AV.i .i64 edge) <| Ap (AV.pt (DEdge.av (g.edges.getD edge.toNat default)).cells) (g_idxI (k := 7) (nl := false) (e := 76) (kk := .i64) (A := DEdge.av) (xs := g.edges) (n := edge) kr kr kr ⟨by kernel_rfl, by decide⟩ sd (getD_some sd)) <| Aq (AV.pt (DEdge.av (g.edges.getD edge.toNat default)).cells) <| Ad <| Sq ?_
 refine Awp.cut [(0, (AV.pt (DGraph.av g).cells)), (5, (AV.sl 1 true [])), (29, ((slA 1 AV.s) (m_b [(g.edges.getD edge.toNat default).ins, (g.edges.getD edge.toNat default).implicit, (g.edges.getD edge.toNat default).order]))), (30, (AV.i .i64 (((m_b [(g.edges.getD edge.toNat default).ins, (g.edges.getD edge.toNat default).implicit, (g.edges.getD edge.toNat default).order]).length : Nat) : Int))), (31, (AV.i .i64 (0 : Int)))] ⟨0, []⟩ ?_ ?_
 refine Awp.drawn tabS_ok mixed 16 kr le <| Dq (AV.pt (DEdge.av (g.edges.getD edge.toNat default)).cells) <| Dq (AV.pt (DEdge.av (g.edges.getD edge.toNat default)).cells) <| Dq (AV.pt ((DEdge.av (g.edges.getD edge.toNat default)).cells.drop 1)) <| Dq ((slA 1 AV.s) ((g.edges.getD edge.toNat default).ins)) <| Dq (AV.pt (DEdge.av (g.edges.getD edge.toNat default)).cells) <| Dq (AV.pt (DEdge.av (g.edges.getD edge.toNat default)).cells) <| Dq (AV.pt ((DEdge.av (g.edges.getD edge.toNat default)).cells.drop 2)) <| Dq ((slA 1 AV.s) ((g.edges.getD edge.toNat default).implicit)) <| Dq (AV.pt (DEdge.av (g.edges.getD edge.toNat default)).cells) <| Dq (AV.pt (DEdge.av (g.edges.getD edge.toNat default)).cells) <| Dq (AV.pt ((DEdge.av (g.edges.getD edge.toNat default)).cells.drop 3)) <| Dq ((slA 1 AV.s) ((g.edges.getD edge.toNat default).order)) <| AOpsD.sn (x := (AV.own 0 0 3)) (h' := ⟨1, [(0, some ⟨24, 1, [(g.edges.getD edge.toNat default).ins, (g.edges.getD edge.toNat default).implicit, (g.edges.getD edge.toNat default).order].map (slA 1 AV.s)⟩)]⟩) kr le ?_
 by_cases z_1 : (m_b [(g.edges.getD edge.toNat default).ins, (g.edges.getD edge.toNat default).implicit, (g.edges.getD edge.toNat default).order]) = []
 refine AOpsD.sfw (vs := [(AV.own 0 0 3)]) (ss := [((slA 1 (slA 1 AV.s)) [(g.edges.getD edge.toNat default).ins, (g.edges.getD edge.toNat default).implicit, (g.edges.getD edge.toNat default).order])]) (r0 := ((slA 1 AV.s) [])) kr (show SnapW _ _ _ from ⟨(EntK.w (EntK.cast (x' := (AV.own 0 0 3)) kr kr (EntK.row (fun _ => rfl) (A := (slA 1 AV.s)) (id := 0) (e := 24) (k := 1) (xs := [(g.edges.getD edge.toNat default).ins, (g.edges.getD edge.toNat default).implicit, (g.edges.getD edge.toNat default).order]) rfl rfl sd sd))), trivial⟩) (by rw [← show (m_b [(g.edges.getD edge.toNat default).ins, (g.edges.getD edge.toNat default).implicit, (g.edges.getD edge.toNat default).order]) = [] from z_1]; exact (w_slices_Concat_string_string W [(g.edges.getD edge.toNat default).ins, (g.edges.getD edge.toNat default).implicit, (g.edges.getD edge.toNat default).order] hfl)) rfl kr le <| Dp (AV.i .i64 (([].length : Nat) : Int)) (g_len (k := 1) (nl := false) (e := 9) (A := AV.s) (xs := []) kr kr) <| Dq (AV.i .i64 (0 : Int)) <| AOpsD.fin ?_
 rw [z_1]
 exact ⟨[], ⟨by decide, rfl, FitsObjs.nil, (Ee (Ee (Ee (Ee (Ee EntE.nil)))))⟩, keep0⟩
 refine AOpsD.sfR (A := AV.s) (xs := (m_b [(g.edges.getD edge.toNat default).ins, (g.edges.getD edge.toNat default).implicit, (g.edges.getD edge.toNat default).order])) (vs := [(AV.own 0 0 3)]) (ss := [((slA 1 (slA 1 AV.s)) [(g.edges.getD edge.toNat default).ins, (g.edges.getD edge.toNat default).implicit, (g.edges.getD edge.toNat default).order])]) kr (show SnapW _ _ _ from ⟨(EntK.w (EntK.cast (x' := (AV.own 0 0 3)) kr kr (EntK.row (fun _ => rfl) (A := (slA 1 AV.s)) (id := 0) (e := 24) (k := 1) (xs := [(g.edges.getD edge.toNat default).ins, (g.edges.getD edge.toNat default).implicit, (g.edges.getD edge.toNat default).order]) rfl rfl sd sd))), trivial⟩) (wo_slices_Concat_string_string W [(g.edges.getD edge.toNat default).ins, (g.edges.getD edge.toNat default).implicit, (g.edges.getD edge.toNat default).order] hfl z_1) (fun _ => rfl) (fun _ => rfl) le <| Dq (AV.i .i64 (((m_b [(g.edges.getD edge.toNat default).ins, (g.edges.getD edge.toNat default).implicit, (g.edges.getD edge.toNat default).order]).length : Nat) : Int)) <| Dq (AV.i .i64 (0 : Int)) <| AOpsD.fin ?_
 exact ⟨[], ⟨by decide, rfl, FitsObjs.nil, (Ee (Ee (EntE.cons (EntD.kk (x' := (AV.own 1 0 ((m_b [(g.edges.getD edge.toNat default).ins, (g.edges.getD edge.toNat default).implicit, (g.edges.getD edge.toNat default).order]).length))) kr kr rfl (EntK.row (fun _ => rfl) (A := AV.s) (id := 1) (e := 9) (k := 1) (xs := (m_b [(g.edges.getD edge.toNat default).ins, (g.edges.getD edge.toNat default).implicit, (g.edges.getD edge.toNat default).order])) rfl rfl rfl sd)) (Ee (Ee EntE.nil)))))⟩, keep0⟩
 refine Awp.block <| Awp.lim 29 (x := ((slA 1 AV.s) (m_b [(g.edges.getD edge.toNat default).ins, (g.edges.getD edge.toNat default).implicit, (g.edges.getD edge.toNat default).order]))) kr fun hlm1 => ?_
 have hB1 : (m_b [(g.edges.getD edge.toNat default).ins, (g.edges.getD edge.toNat default).implicit, (g.edges.getD edge.toNat default).order]).length ≤ 281474976710656 := lim_slA hlm1
 obtain ⟨R1, hR1⟩ : ∃ R, m_ai g (m_b [(g.edges.getD edge.toNat default).ins, (g.edges.getD edge.toNat default).implicit, (g.edges.getD edge.toNat default).order]) 0 [] = R := ⟨_, rfl⟩
 refine Awp.loopT (fun ((out, v31) : (List Int) × Nat) => [(0, (AV.pt (DGraph.av g).cells)), (29, ((slA 1 AV.s) (m_b [(g.edges.getD edge.toNat default).ins, (g.edges.getD edge.toNat default).implicit, (g.edges.getD edge.toNat default).order]))), (30, (AV.i .i64 (((m_b [(g.edges.getD edge.toNat default).ins, (g.edges.getD edge.toNat default).implicit, (g.edges.getD edge.toNat default).order]).length : Nat) : Int))), (5, (accV 0 1 (AV.i .i64) out)), (31, (Ai v31))]) (fun ((out, v31) : (List Int) × Nat) => ⟨1, [(0, accO 3 1 (AV.i .i64) out)]⟩) (fun ((out, v31) : (List Int) × Nat) => v31 ≤ (m_b [(g.edges.getD edge.toNat default).ins, (g.edges.getD edge.toNat default).implicit, (g.edges.getD edge.toNat default).order]).length ∧ out.length ≤ v31 ∧ m_ai g ((m_b [(g.edges.getD edge.toNat default).ins, (g.edges.getD edge.toNat default).implicit, (g.edges.getD edge.toNat default).order]).drop v31) v31 out = R1) (fun ((out, v31) : (List Int) × Nat) => (m_b [(g.edges.getD edge.toNat default).ins, (g.edges.getD edge.toNat default).implicit, (g.edges.getD edge.toNat default).order]).length - v31) ([], 0) ?_ ?_ ?_
 exact ⟨[1000000], ⟨by decide, rfl, (FitsObjs.cons rfl FitsObjs.nil), (Ee (Ee (Ee (Ee (Ee EntE.nil)))))⟩, keep0⟩
 exact ⟨od, sdd, hR1⟩
 rintro ⟨out, v31⟩ ⟨hi1, hl, hE1⟩
 try dsimp only
 refine Sq <| Rg <| Aq (AV.b (decide (((v31 : Nat) : Int) < (((m_b [(g.edges.getD edge.toNat default).ins, (g.edges.getD edge.toNat default).implicit, (g.edges.getD edge.toNat default).order]).length : Nat) : Int)))) <| Ad <| Sq ?_
 rcases Nat.lt_or_ge v31 (m_b [(g.edges.getD edge.toNat default).ins, (g.edges.getD edge.toNat default).implicit, (g.edges.getD edge.toNat default).order]).length with hl1 | hl1
 have hc1 : decide (((v31 : Nat) : Int) < (((m_b [(g.edges.getD edge.toNat default).ins, (g.edges.getD edge.toNat default).implicit, (g.edges.getD edge.toNat default).order]).length : Nat) : Int)) = true := decide_eq_true (by omega)
 refine Awp.cond (t := true) (by rw [← hc1] <;> kernel_rfl) (Awp.skip ?_)
 obtain ⟨x1, hx1⟩ : ∃ x, (m_b [(g.edges.getD edge.toNat default).ins, (g.edges.getD edge.toNat default).implicit, (g.edges.getD edge.toNat default).order])[v31]? = some x := ⟨_, List.getElem?_eq_getElem hl1⟩
 rw [drop_at hx1, m_ai.eq_2] at hE1
 refine Sq <| Awp.block <| Sq <| Rg <| Ap (AV.pt (AV.s x1).cells) (g_idx (k := 1) (nl := false) (e := 9) (kk := .i64) (A := AV.s) (xs := (m_b [(g.edges.getD edge.toNat default).ins, (g.edges.getD edge.toNat default).implicit, (g.edges.getD edge.toNat default).order])) (i := v31) kr kr kr ⟨by kernel_rfl, by decide⟩ hx1) <| Aq (AV.s x1) <| Aq (AV.s x1) <| Ad <| Sq <| Rg <| Aq (AV.pt (DGraph.av g).cells) <| Aq (AV.s x1) <| AOps.sc0 (vs := [(AV.pt (DGraph.av g).cells), (AV.s x1)]) (r0 := (AV.i .i64 (m_g g x1))) kr kr (w_graph_Makes W g x1) kr le <| Aq (AV.i .i64 (m_g g x1)) <| Ad <| Sq <| Rg <| Aq (AV.i .i64 (m_g g x1)) <| Aq (AV.b (decide ((0 : Int) ≤ (m_g g x1)))) <| Aq (AV.b (decide ((0 : Int) ≤ (m_g g x1)))) ?_
 cases c_2 : decide ((0 : Int) ≤ (m_g g x1))
 have k_2 := of_decide_eq_false c_2
 refine An <| An <| An <| An <| Aq (AV.b false) <| Ad <| Cf <| Awp.skip <| Rg <| Ap (Ai (v31 + 1)) (g_addN (i := v31) (m := 1) kr kr sd) <| Aq (Ai (v31 + 1)) <| Ad ?_
 try simp only [c_2, sbt] at hE1
 refine ⟨(out, v31 + 1), od, ⟨od, sdd, hE1⟩, ?_⟩
 exact ⟨[0], ⟨by decide, rfl, (FitsObjs.cons (obj_acc (fun _ => rfl) (e := 3) (k := 1) (A := (AV.i .i64)) (xs := out) rfl rfl) FitsObjs.nil), (Ee (Ee (Ee (EntE.cons (ent_keepA (by decide)) (Ee EntE.nil)))))⟩, keep0⟩
 have k_2 := of_decide_eq_true c_2
 refine Ay <| Aq (accV 0 1 (AV.i .i64) out) <| Ay <| Aq (AV.i .i64 (m_g g x1)) <| Ay <| AOps.sfw (vs := [(accV 0 1 (AV.i .i64) out), (AV.i .i64 (m_g g x1))]) (ss := [((slA 1 (AV.i .i64)) out), (AV.i .i64 (m_g g x1))]) (r0 := (AV.b (m_v out (m_g g x1)))) kr (show SnapW _ _ _ from ⟨(EntK.w (EntK.cast (x' := (accV 0 1 (AV.i .i64) out)) kr kr (EntK.acc (fun _ => rfl) (A := (AV.i .i64)) (e := 3) (k := 1) (id := 0) (xs := out) rfl rfl sd))), ⟨(SnapW.e kr), trivial⟩⟩) (w_slices_Contains_int_int W out (m_g g x1)) rfl kr le <| Ay <| Aq (AV.b (!(m_v out (m_g g x1)))) <| Aq (AV.b (!(m_v out (m_g g x1)))) <| Ad ?_
 cases c_3 : (!(m_v out (m_g g x1)))
 refine Cf <| Awp.skip <| Rg <| Ap (Ai (v31 + 1)) (g_addN (i := v31) (m := 1) kr kr sd) <| Aq (Ai (v31 + 1)) <| Ad ?_
 try simp only [c_2, c_3, sbt] at hE1
 refine ⟨(out, v31 + 1), od, ⟨od, sdd, hE1⟩, ?_⟩
 exact ⟨[0], ⟨by decide, rfl, (FitsObjs.cons (obj_acc (fun _ => rfl) (e := 3) (k := 1) (A := (AV.i .i64)) (xs := out) rfl rfl) FitsObjs.nil), (Ee (Ee (Ee (EntE.cons (ent_keepA (by decide)) (Ee EntE.nil)))))⟩, keep0⟩
 refine Ct <| Rg <| Aq (accV 0 1 (AV.i .i64) out) <| Aq (AV.i .i64 (m_g g x1)) <| Nn (AV.own 1 0 1) ⟨3, 1, [(m_g g x1)].map (AV.i .i64)⟩ <| AOps.se (x := (AV.own 2 0 ((out ++ [(m_g g x1)]).length))) (h' := ⟨3, [(2, some ⟨3, 1, (out ++ [(m_g g x1)]).map (AV.i .i64)⟩), (1, some ⟨3, 1, [(m_g g x1)].map (AV.i .i64)⟩), (0, none)]⟩) (g_app (e := 3) (X := (AV.own 1 0 1)) (A := (AV.i .i64)) (i := tI_3) (p := 0) (xs := out) (ys := [(m_g g x1)]) kr kr kr (hx := kr) kr (by simp) ⟨by decide, by kernel_rfl⟩ rfl (by intro q; first | (subst q; rfl) | (rw [q]; rfl) | (simp only [q]; rfl)) (by show _ * 8 ≤ 140737488355328; first | omega | (simp only [List.length_append, List.length_cons, List.length_nil, List.length_set, List.length_replicate]; omega) | (simp; omega)) sd) le <| Aq (AV.own 2 0 ((out ++ [(m_g g x1)]).length)) <| Ad <| Rg <| Ap (Ai (v31 + 1)) (g_addN (i := v31) (m := 1) kr kr sd) <| Aq (Ai (v31 + 1)) <| Ad ?_
 try simp only [c_2, c_3, sbt] at hE1
 refine ⟨((out ++ [(m_g g x1)]), v31 + 1), od, ⟨od, sdd, hE1⟩, ?_⟩
 exact ⟨[2], ⟨by decide, rfl, (FitsObjs.cons (obj_acc' (fun _ => rfl) (e := 3) (k := 1) (A := (AV.i .i64)) (xs := (out ++ [(m_g g x1)])) (by simp) rfl rfl) FitsObjs.nil), (Ee (Ee (Ee (EntE.cons (ent_keep (A := (AV.i .i64)) (xs := (out ++ [(m_g g x1)])) (by decide) (by simp) rfl) (Ee EntE.nil)))))⟩, keep0⟩
 have hc1 : decide (((v31 : Nat) : Int) < (((m_b [(g.edges.getD edge.toNat default).ins, (g.edges.getD edge.toNat default).implicit, (g.edges.getD edge.toNat default).order]).length : Nat) : Int)) = false := decide_eq_false (by omega)
 refine Awp.cond (t := false) (by rw [← hc1] <;> kernel_rfl) (Awp.exit ?_)
 rw [List.drop_eq_nil_of_le (hl1), m_ai.eq_1] at hE1
 subst hE1
 refine Sq <| Rg <| Aq (accV 0 1 (AV.i .i64) out) <| Aq (accV 0 1 (AV.i .i64) out) <| Ad <| Rt ?_
 have hM : m_h g edge = out := by simp only [m_h, hR1, sbt]
 refine ⟨Or.inr rfl, ?_⟩
 rw [hM]
 exact Ent.cast (x' := (accV 0 1 (AV.i .i64) out)) (y' := ((slA 1 (AV.i .i64)) out)) kr kr (Ent.cast (x' := (accV 0 1 (AV.i .i64) out)) (y' := slA 1 (AV.i .i64) out) kr kr (ent_acc (fun _ => rfl) (by decide) (by decide) (e := 3) (k := 1) rfl sd))
theorem w_order_Of_1 (W : World) (edge : Int) (out : List Int) : PureAt Go.Proofs.Tryz.prog W 71 [(AV.i .i64 edge), (AV.pt ((slA 1 (AV.i .i64)) out).cells)] (AV.b (m_ac edge out)) [] := by
 refine pure_of_bodyC (fn := Go.Proofs.Tryz.f71) Go.Proofs.Tryz.func71 rfl (en71 W) (ts := [3]) rfl le <| Sq <| Rg <| Aq (AV.b false) <| Ad <| Sq <| Rg <| Aq ((slA 1 (AV.i .i64)) out) <| Aq (AV.i .i64 edge) <| AOps.sc0 (vs := [((slA 1 (AV.i .i64)) out), (AV.i .i64 edge)]) (r0 := (AV.b (m_v out edge))) kr kr (w_slices_Contains_int_int W out edge) kr le <| Aq (AV.b (m_v out edge)) <| Ad <| Rt ?_
 have hM : m_ac edge out = (m_v out edge) := by simp only [m_ac, sbt]
 refine ⟨Or.inr rfl, ?_⟩
 rw [hM]
 exact Ec
theorem w_order_Of_2 (W : World) (edge : Int) (f_told : FuncId) (c_told : List AV) (told : Int → Bool) (hcl_told : closedL c_told = true) (hp_told : ∀ (z0 : Int), PureAt Go.Proofs.Tryz.prog W f_told ((AV.i .i64 z0) :: c_told) (AV.b (told z0)) []) : PureAt Go.Proofs.Tryz.prog W 73 [(AV.i .i64 edge), (AV.pt [(AV.fn f_told c_told)])] (AV.b (m_a5 edge told)) [] := by
 refine pure_of_bodyC (fn := Go.Proofs.Tryz.f73) Go.Proofs.Tryz.func73 rfl (en73 W) (ts := [3]) rfl le <| Sq <| Rg <| Aq (AV.b false) <| Ad <| Sq <| Rg <| Aq (AV.fn f_told c_told) <| Aq (AV.i .i64 edge) <| AOps.sc0 (vs := ((AV.i .i64 edge) :: c_told)) (r0 := (AV.b (told edge))) kr (by simp only [closedL, Bool.and_eq_true]; exact ⟨by kernel_rfl, hcl_told⟩) (hp_told edge) kr le <| Aq (AV.b (!(told edge))) <| Aq (AV.b (!(told edge))) <| Ad <| Rt ?_
 have hM : m_a5 edge told = (!(told edge)) := by simp only [m_a5, sbt]
 refine ⟨Or.inr rfl, ?_⟩
 rw [hM]
 exact Ec
theorem w_order_Of (W : World) {m0 : Int} (hW : W.cell? ⟨0, 0, none⟩ = some (.int .i64 m0)) (g : DGraph) (hz0 : g.sz ≤ 1048576) : PureAt Go.Proofs.Tryz.prog W 24 [(DGraph.av g)] (AV.tup [((slA 1 (AV.i .i64)) ((m_c g).1)), (AV.i .i64 ((m_c g).2))]) [] := by
 have hz : ∀ i, needsN g i ≤ 1048576 := fun i => Nat.le_trans (needsN_sz g i) hz0
 have hzo : outsN g.edges ≤ 1048576 := Nat.le_trans (outsN_sz g) hz0
 refine pure_of_bodyC (fn := Go.Proofs.Tryz.f24) Go.Proofs.Tryz.func24 rfl (en24 W) (ts := [2, 3]) rfl le <| Sq <| Rg <| Nn (AV.loc 0 0 0) ⟨26, 3, [(DGraph.av g)]⟩ <| Aq (AV.sl 1 true []) <| Aq (AV.i .i64 (0 : Int)) <| Ad <| Awp.fitsW [] (env' := [(0, (DGraph.av g)), (1, (AV.pt (DGraph.av g).cells)), (2, (AV.sl 1 true [])), (3, (AV.i .i64 (0 : Int)))]) (h' := ⟨0, []⟩) ⟨by decide, rfl, FitsObjs.nil, (Ee (EntE.cons (EntD.kk (x' := (AV.loc 0 0 0)) kr kr rfl (EntK.loc (id := 0) (j := 0) (o := 0) (ob := ⟨26, 3, [(DGraph.av g)]⟩) (x := (DGraph.av g)) rfl rfl rfl (EntKs.cons (EntK.cr (x := ((slA 7 DEdge.av) g.edges)) kr) (EntKs.cons (EntK.cr (x := ((slA 2 DPool.av) g.pools)) kr) (EntKs.cons (EntK.cr (x := ((slA 1 AV.s) g.defaults)) kr) EntKs.nil))))) (Ee (Ee EntE.nil))))⟩ keep0 <| Awp.scopeN <| Sq <| Sq <| Rg <| Aq (DGraph.av g) <| AOps.sc0 (vs := [(DGraph.av g)]) (r0 := (AV.i .i64 (m_6 g))) kr kr (w_graph_Check W hW g) kr le <| Aq (AV.b (!decide ((m_6 g) = (0 : Int)))) <| Ad ?_
 cases c_1 : (!decide ((m_6 g) = (0 : Int)))
 have k_1 := nde c_1
 have q_1 := check_len c_1
 refine Cf <| Awp.skip <| Sq <| Rg <| Nn (AV.loc 0 0 0) ⟨40, 1, [(AV.sl 1 true [])]⟩ <| Ad <| Sq <| Rg <| Aq (AV.pt ((DGraph.av g).cells.drop 0)) <| Aq ((slA 7 DEdge.av) g.edges) <| Ap (Ai g.edges.length) (g_len (k := 7) (nl := false) (e := 76) (A := DEdge.av) (xs := g.edges) kr kr) <| AOps.sn (x := (AV.own 1 0 g.edges.length)) (h' := ⟨2, [(1, some ⟨40, 1, (List.replicate g.edges.length ([] : List Int)).map (fun (_ : List Int) => AV.sl 1 true [])⟩), (0, some ⟨40, 1, [(AV.sl 1 true [])]⟩)]⟩) (g_make (e := 40) (i := tI_40) (A := (fun (_ : List Int) => AV.sl 1 true [])) (z := ([] : List Int)) (n := g.edges.length) kr kr kr kr ⟨by decide, by kernel_rfl⟩ kr (by show _ * 24 ≤ 140737488355328; first | omega | (simp only [List.length_append, List.length_cons, List.length_nil, List.length_set, List.length_replicate]; omega) | (simp; omega)) sd) le <| Aq (AV.own 1 0 g.edges.length) <| Ad <| Sq <| Sq <| Rg <| Aq (AV.own 1 0 g.edges.length) <| Aq (Ai g.edges.length) <| Aq (AV.i .i64 (0 : Int)) <| Ad <| Awp.block ?_
 have hB1 : g.edges.length ≤ 281474976710656 := by first | omega | (simp; done) | (simp; omega)
 obtain ⟨R1, hR1⟩ : ∃ R, m_bb g (List.replicate g.edges.length ([] : List Int)) 0 (List.replicate g.edges.length ([] : List Int)) = R := ⟨_, rfl⟩
 refine Awp.loopT (fun ((v20, row) : Nat × (List (List Int))) => [(1, (AV.pt (DGraph.av g).cells)), (4, (AV.loc 0 0 0)), (5, (AV.own 1 0 g.edges.length)), (19, (Ai g.edges.length)), (20, (Ai v20))]) (fun ((v20, row) : Nat × (List (List Int))) => ⟨2, [(0, some ⟨40, 1, [(AV.sl 1 true [])]⟩), (1, some ⟨40, 1, row.map (slA 1 (AV.i .i64))⟩)]⟩) (fun ((v20, row) : Nat × (List (List Int))) => v20 ≤ g.edges.length ∧ row.length = g.edges.length ∧ m_bb g ((List.replicate g.edges.length ([] : List Int)).drop v20) v20 row = R1) (fun ((v20, row) : Nat × (List (List Int))) => g.edges.length - v20) (0, (List.replicate g.edges.length ([] : List Int))) ?_ ?_ ?_
 exact ⟨[0, 1], ⟨by decide, rfl, (FitsObjs.cons kr (FitsObjs.consW (obj_nils rfl rfl) FitsObjs.nil)), (Ee (EntE.cons (Ent.f kr) (EntE.cons (Ent.f kr) (Ee (Ee EntE.nil)))))⟩, keep0⟩
 exact ⟨od, sdd, hR1⟩
 rintro ⟨v20, row⟩ ⟨hi1, hr, hE1⟩
 try dsimp only
 refine Sq <| Rg <| Aq (AV.b (decide (((v20 : Nat) : Int) < ((g.edges.length : Nat) : Int)))) <| Ad <| Sq ?_
 rcases Nat.lt_or_ge v20 g.edges.length with hl1 | hl1
 have hc1 : decide (((v20 : Nat) : Int) < ((g.edges.length : Nat) : Int)) = true := decide_eq_true (by omega)
 refine Awp.cond (t := true) (by rw [← hc1] <;> kernel_rfl) (Awp.skip ?_)
 obtain ⟨x1, hx1⟩ : ∃ x, (List.replicate g.edges.length ([] : List Int))[v20]? = some x := ⟨_, List.getElem?_eq_getElem (by first | (simpa using hl1) | omega)⟩
 rw [drop_at hx1, m_bb.eq_2] at hE1
 refine Sq <| Awp.block <| Sq <| Rg <| Aq (Ai v20) <| Aq (Ai v20) <| Ad <| Rg <| Aq (AV.own 1 0 g.edges.length) <| Aq (Ai v20) <| Aq (Ai v20) <| AOps.sc0 (vs := [(AV.pt (DGraph.av g).cells), (Ai v20)]) (r0 := ((slA 1 (AV.i .i64)) (m_h g ((v20 : Nat) : Int)))) kr kr (w_order_Needs W g ((v20 : Nat) : Int) ⟨by simp; omega, by omega⟩ (hz _)) kr le <| Ap (AV.loc 1 v20 0) (g_oidx (e := 40) (id := 1) (len := g.edges.length) (kk := .i64) (ob := ⟨40, 1, row.map (slA 1 (AV.i .i64))⟩) (i := v20) kr kr kr rfl kr sd) <| AOps.st (x := AV.und) (h' := ⟨2, [(0, some ⟨40, 1, [(AV.sl 1 true [])]⟩), (1, some ⟨40, 1, (row.set v20 (m_h g ((v20 : Nat) : Int))).map (slA 1 (AV.i .i64))⟩)]⟩) (g_set (e := 40) (k := 1) (i := tI_40) (id := 1) (A := (slA 1 (AV.i .i64))) (xs := row) (y := (m_h g ((v20 : Nat) : Int))) (j := v20) kr kr kr rfl sd (fun _ => rfl) kr (fun _ => rfl) (fun _ => rfl)) <| Ad <| Rg <| Ap (Ai (v20 + 1)) (g_addN (i := v20) (m := 1) kr kr sd) <| Aq (Ai (v20 + 1)) <| Ad ?_
 refine ⟨(v20 + 1, (row.set v20 (m_h g ((v20 : Nat) : Int)))), od, ⟨od, sdd, hE1⟩, ?_⟩
 exact ⟨[0, 1], ⟨by decide, rfl, (FitsObjs.cons kr (FitsObjs.cons (obj_row (fun _ => rfl) (e := 40) (k := 1) (A := (slA 1 (AV.i .i64))) (xs := (row.set v20 (m_h g ((v20 : Nat) : Int)))) rfl rfl) FitsObjs.nil)), (Ee (EntE.cons (Ent.f kr) (EntE.cons (Ent.f kr) (Ee (Ee EntE.nil)))))⟩, keep0⟩
 have hc1 : decide (((v20 : Nat) : Int) < ((g.edges.length : Nat) : Int)) = false := decide_eq_false (by omega)
 refine Awp.cond (t := false) (by rw [← hc1] <;> kernel_rfl) (Awp.exit ?_)
 rw [List.drop_eq_nil_of_le (by first | (simpa using hl1) | omega), m_bb.eq_1] at hE1
 subst hE1
 refine Sq <| Rg <| Aq (AV.fn 71 [(AV.loc 0 0 0)]) <| Nn (AV.loc 2 0 0) ⟨106, 1, [AV.nilf]⟩ <| Sp 2 ⟨106, 1, [(AV.fn 71 [(AV.loc 0 0 0)])]⟩ <| Ad <| Sq <| Rg <| Aq (AV.fn 73 [(AV.loc 2 0 0)]) <| Aq (AV.fn 73 [(AV.loc 2 0 0)]) <| Ad <| Sq <| Awp.label <| Sq <| Awp.block ?_
 obtain ⟨R2, hR2⟩ : ∃ R, m_bi g row (g.edges.length - 0 + 1) [] = R := ⟨_, rfl⟩
 refine Awp.loopT (fun ((kf2, cell) : Nat × (List Int)) => [(4, (AV.loc 0 0 0)), (5, (AV.own 2 0 g.edges.length)), (7, (AV.loc 3 0 0)), (8, (AV.fn 73 [(AV.loc 3 0 0)]))]) (fun ((kf2, cell) : Nat × (List Int)) => ⟨4, [(1, accO 3 1 (AV.i .i64) cell), (0, some ⟨40, 1, [(accV 1 1 (AV.i .i64) cell)]⟩), (2, some ⟨40, 1, row.map (slA 1 (AV.i .i64))⟩), (3, some ⟨106, 1, [(AV.fn 71 [(AV.loc 0 0 0)])]⟩)]⟩) (fun ((kf2, cell) : Nat × (List Int)) => g.edges.length - cell.length < kf2 ∧ cell.length ≤ g.edges.length ∧ m_bi g row kf2 cell = R2) (fun ((kf2, cell) : Nat × (List Int)) => kf2) (g.edges.length - 0 + 1, []) ?_ ?_ ?_
 exact ⟨[0, 1000001, 1, 2], ⟨by decide, rfl, (FitsObjs.cons rfl (FitsObjs.cons rfl (FitsObjs.cons (obj_row (fun _ => rfl) (e := 40) (k := 1) (A := (slA 1 (AV.i .i64))) (xs := row) rfl rfl) (FitsObjs.cons kr FitsObjs.nil)))), (EntE.cons (Ent.f kr) (EntE.cons (Ent.f kr) (EntE.cons (Ent.f kr) (EntE.cons (Ent.f kr) EntE.nil))))⟩, keep0⟩
 exact ⟨od, sdd, hR2⟩
 rintro ⟨kf2, cell⟩ ⟨hi2, hcl, hE2⟩
 try dsimp only
 rcases kf2 with _ | kf2
 exact absurd hi2 (Nat.not_lt_zero _)
 rw [m_bi.eq_2] at hE2
 refine Sq <| Sq <| Rg <| Ap (accV 1 1 (AV.i .i64) cell) (g_loadC (i := tI_40) (id := 0) (j := 0) (ob := ⟨40, 1, [(accV 1 1 (AV.i .i64) cell)]⟩) (x := (accV 1 1 (AV.i .i64) cell)) kr kr kr kr acc_cells rfl) <| Ap (Ai cell.length) (g_lenAcc (e := 3) (A := (AV.i .i64)) (xs := cell) (p := 1) (k := 1) kr kr (fun q => acc_some (e := 3) (k := 1) (A := (AV.i .i64)) q rfl)) <| Aq (AV.own 2 0 g.edges.length) <| Aq (Ai g.edges.length) <| Aq (AV.b (decide (((cell.length : Nat) : Int) < ((g.edges.length : Nat) : Int)))) <| Ad ?_
 cases c_2 : decide (((cell.length : Nat) : Int) < ((g.edges.length : Nat) : Int))
 have k_2 := of_decide_eq_false c_2
 refine Cf <| Awp.exit ?_
 try simp only [c_2, sbt] at hE2
 subst hE2
 refine Sq <| Rg <| Ap (accV 1 1 (AV.i .i64) cell) (g_loadC (i := tI_40) (id := 0) (j := 0) (ob := ⟨40, 1, [(accV 1 1 (AV.i .i64) cell)]⟩) (x := (accV 1 1 (AV.i .i64) cell)) kr kr kr kr acc_cells rfl) <| Aq (accV 1 1 (AV.i .i64) cell) <| Aq (AV.i .i64 (0 : Int)) <| Ad <| Rt ?_
 have hM : m_c g = (cell, (0 : Int)) := by simp only [m_c, c_1, hR1, hR2, sbt]
 refine ⟨Or.inr rfl, ?_⟩
 rw [hM]
 exact Ent.cast (x' := (AV.tup [(accV 1 1 (AV.i .i64) cell), (AV.i .i64 (0 : Int))])) (y' := (AV.tup [((slA 1 (AV.i .i64)) ((cell, (0 : Int)).1)), (AV.i .i64 ((cell, (0 : Int)).2))])) kr kr (Ent.tup ⟨(Ent.cast (x' := (accV 1 1 (AV.i .i64) cell)) (y' := slA 1 (AV.i .i64) cell) kr kr (ent_acc (fun _ => rfl) (by decide) (by decide) (e := 3) (k := 1) rfl sd)), ⟨Ec, trivial⟩⟩ kr)
 have k_2 := of_decide_eq_true c_2
 refine Ct <| Awp.skip <| Awp.block <| Sq <| Sq <| Rg <| Aq (AV.own 2 0 g.edges.length) <| Aq (Ai g.edges.length) <| Aq (AV.i .i64 (0 : Int)) <| Ad <| Awp.block ?_
 have hB3 : g.edges.length ≤ 281474976710656 := by first | omega | (simp; done) | (simp; omega)
 obtain ⟨R3, hR3⟩ : ∃ R, m_bc row 0 cell = R := ⟨_, rfl⟩
 refine Awp.loopT (fun ((v38, cell2) : Nat × (List Int)) => [(4, (AV.loc 0 0 0)), (5, (AV.own 2 0 g.edges.length)), (7, (AV.loc 3 0 0)), (8, (AV.fn 73 [(AV.loc 3 0 0)])), (36, (AV.own 2 0 g.edges.length)), (37, (Ai g.edges.length)), (38, (Ai v38))]) (fun ((v38, cell2) : Nat × (List Int)) => ⟨4, [(1, accO 3 1 (AV.i .i64) cell2), (0, some ⟨40, 1, [(accV 1 1 (AV.i .i64) cell2)]⟩), (2, some ⟨40, 1, row.map (slA 1 (AV.i .i64))⟩), (3, some ⟨106, 1, [(AV.fn 71 [(AV.loc 0 0 0)])]⟩)]⟩) (fun ((v38, cell2) : Nat × (List Int)) => v38 ≤ g.edges.length ∧ cell2.length = cell.length ∧ m_bc (row.drop v38) v38 cell2 = R3) (fun ((v38, cell2) : Nat × (List Int)) => g.edges.length - v38) (0, cell) ?_ ?_ ?_
 exact ⟨[0, 1, 2, 3], ⟨by decide, rfl, (FitsObjs.cons (boxAA (A := (AV.i .i64)) (e := 40) (k := 1) (ek := 1) (xs := cell) rfl (by decide) rfl) (FitsObjs.cons (obj_acc (fun _ => rfl) (e := 3) (k := 1) (A := (AV.i .i64)) (xs := cell) rfl rfl) (FitsObjs.cons (obj_row (fun _ => rfl) (e := 40) (k := 1) (A := (slA 1 (AV.i .i64))) (xs := row) rfl rfl) (FitsObjs.cons kr FitsObjs.nil)))), (EntE.cons (Ent.f kr) (EntE.cons (Ent.f kr) (EntE.cons (Ent.f kr) (EntE.cons (Ent.f kr) (EntE.cons (Ent.f kr) (Ee (Ee EntE.nil)))))))⟩, keep0⟩
 exact ⟨od, sdd, hR3⟩
 rintro ⟨v38, cell2⟩ ⟨hi3, hcm, hE3⟩
 try dsimp only
 refine Sq <| Rg <| Aq (AV.b (decide (((v38 : Nat) : Int) < ((g.edges.length : Nat) : Int)))) <| Ad <| Sq ?_
 rcases Nat.lt_or_ge v38 g.edges.length with hl3 | hl3
 have hc3 : decide (((v38 : Nat) : Int) < ((g.edges.length : Nat) : Int)) = true := decide_eq_true (by omega)
 refine Awp.cond (t := true) (by rw [← hc3] <;> kernel_rfl) (Awp.skip ?_)
 obtain ⟨x3, hx3⟩ : ∃ x, row[v38]? = some x := ⟨_, List.getElem?_eq_getElem (by first | (simpa using hl3) | omega)⟩
 rw [drop_at hx3, m_bc.eq_2] at hE3
 refine Sq <| Awp.block <| Sq <| Rg <| Aq (Ai v38) <| Ap (AV.loc 2 v38 0) (g_oidx (e := 40) (id := 2) (len := g.edges.length) (kk := .i64) (ob := ⟨40, 1, row.map (slA 1 (AV.i .i64))⟩) (i := v38) kr kr kr rfl kr sd) <| Ap ((slA 1 (AV.i .i64)) x3) (g_oload (e := 40) (k := 1) (i := tI_40) (id := 2) (xs := row) (A := (slA 1 (AV.i .i64))) (j := v38) kr kr rfl hx3 kr) <| Aq (Ai v38) <| Aq ((slA 1 (AV.i .i64)) x3) <| Ad <| Sq <| Rg <| Aq (AV.fn 71 [(AV.loc 0 0 0)]) <| Aq (Ai v38) <| AOps.sfw (vs := [(Ai v38), (AV.loc 0 0 0)]) (ss := [(Ai v38), (AV.pt ((slA 1 (AV.i .i64)) cell2).cells)]) (r0 := (AV.b (m_ac ((v38 : Nat) : Int) cell2))) kr (show SnapW _ _ _ from ⟨(SnapW.e kr), ⟨(EntK.w (EntK.cast (x' := (AV.loc 0 0 0)) kr kr (EntK.loc1 (id := 0) (j := 0) (ob := ⟨40, 1, [(accV 1 1 (AV.i .i64) cell2)]⟩) (x := (accV 1 1 (AV.i .i64) cell2)) rfl rfl rfl acc_cells (EntK.acc (fun _ => rfl) (A := (AV.i .i64)) (e := 3) (k := 1) (id := 1) (xs := cell2) rfl rfl sd)))), trivial⟩⟩) (w_order_Of_1 W ((v38 : Nat) : Int) cell2) rfl kr le <| Aq (AV.b (!(m_ac ((v38 : Nat) : Int) cell2))) <| Aq (AV.b (!(m_ac ((v38 : Nat) : Int) cell2))) ?_
 cases c_3 : (!(m_ac ((v38 : Nat) : Int) cell2))
 refine An <| An <| An <| An <| Aq (AV.b false) <| Ad <| Cf <| Awp.skip <| Rg <| Ap (Ai (v38 + 1)) (g_addN (i := v38) (m := 1) kr kr sd) <| Aq (Ai (v38 + 1)) <| Ad ?_
 try simp only [c_3, sbt] at hE3
 refine ⟨(v38 + 1, cell2), od, ⟨od, sdd, hE3⟩, ?_⟩
 exact ⟨[0, 1, 2, 3], ⟨by decide, rfl, (FitsObjs.cons (boxAA (A := (AV.i .i64)) (e := 40) (k := 1) (ek := 1) (xs := cell2) rfl (by decide) rfl) (FitsObjs.cons (obj_acc (fun _ => rfl) (e := 3) (k := 1) (A := (AV.i .i64)) (xs := cell2) rfl rfl) (FitsObjs.cons (obj_row (fun _ => rfl) (e := 40) (k := 1) (A := (slA 1 (AV.i .i64))) (xs := row) rfl rfl) (FitsObjs.cons kr FitsObjs.nil)))), (EntE.cons (Ent.f kr) (EntE.cons (Ent.f kr) (EntE.cons (Ent.f kr) (EntE.cons (Ent.f kr) (EntE.cons (Ent.f kr) (Ee (Ee EntE.nil)))))))⟩, keep0⟩
 refine Ay <| Aq ((slA 1 (AV.i .i64)) x3) <| Ay <| Aq (AV.fn 73 [(AV.loc 3 0 0)]) <| Ay <| AOps.sfw (vs := [((slA 1 (AV.i .i64)) x3), (AV.fn 73 [(AV.loc 3 0 0)])]) (ss := [((slA 1 (AV.i .i64)) x3), (AV.fn 73 [(AV.pt [AV.fn 71 [(AV.pt ((slA 1 (AV.i .i64)) cell2).cells)]])])]) (r0 := (AV.b (m_s x3 (fun z0 => m_a5 z0 (fun z0 => m_ac z0 cell2))))) kr (show SnapW _ _ _ from ⟨(SnapW.e kr), ⟨(EntK.w (EntK.cast (x' := (AV.fn 73 [(AV.loc 3 0 0)])) kr kr (EntK.fn (EntKs.cons (EntK.loc1 (id := 3) (j := 0) (ob := ⟨106, 1, [(AV.fn 71 [(AV.loc 0 0 0)])]⟩) (x := (AV.fn 71 [(AV.loc 0 0 0)])) rfl rfl rfl rfl (EntK.fn (EntKs.cons (EntK.loc1 (id := 0) (j := 0) (ob := ⟨40, 1, [(accV 1 1 (AV.i .i64) cell2)]⟩) (x := (accV 1 1 (AV.i .i64) cell2)) rfl rfl rfl acc_cells (EntK.acc (fun _ => rfl) (A := (AV.i .i64)) (e := 3) (k := 1) (id := 1) (xs := cell2) rfl rfl sd)) EntKs.nil))) EntKs.nil)))), trivial⟩⟩) (w_slices_ContainsFunc_int_int W x3 73 [(AV.pt [AV.fn 71 [(AV.pt ((slA 1 (AV.i .i64)) cell2).cells)]])] (fun z0 => m_a5 z0 (fun z0 => m_ac z0 cell2)) kr (fun z0 => (w_order_Of_2 W z0 71 [(AV.pt ((slA 1 (AV.i .i64)) cell2).cells)] (fun z0 => m_ac z0 cell2) kr (fun z0 => (w_order_Of_1 W z0 cell2))))) rfl kr le <| Ay <| Aq (AV.b (!(m_s x3 (fun z0 => m_a5 z0 (fun z0 => m_ac z0 cell2))))) <| Aq (AV.b (!(m_s x3 (fun z0 => m_a5 z0 (fun z0 => m_ac z0 cell2))))) ?_
 refine Ad ?_
 cases c_4 : (!(m_s x3 (fun z0 => m_a5 z0 (fun z0 => m_ac z0 cell2))))
 refine Cf <| Awp.skip <| Rg <| Ap (Ai (v38 + 1)) (g_addN (i := v38) (m := 1) kr kr sd) <| Aq (Ai (v38 + 1)) <| Ad ?_
 try simp only [c_3, c_4, sbt] at hE3
 refine ⟨(v38 + 1, cell2), od, ⟨od, sdd, hE3⟩, ?_⟩
 exact ⟨[0, 1, 2, 3], ⟨by decide, rfl, (FitsObjs.cons (boxAA (A := (AV.i .i64)) (e := 40) (k := 1) (ek := 1) (xs := cell2) rfl (by decide) rfl) (FitsObjs.cons (obj_acc (fun _ => rfl) (e := 3) (k := 1) (A := (AV.i .i64)) (xs := cell2) rfl rfl) (FitsObjs.cons (obj_row (fun _ => rfl) (e := 40) (k := 1) (A := (slA 1 (AV.i .i64))) (xs := row) rfl rfl) (FitsObjs.cons kr FitsObjs.nil)))), (EntE.cons (Ent.f kr) (EntE.cons (Ent.f kr) (EntE.cons (Ent.f kr) (EntE.cons (Ent.f kr) (EntE.cons (Ent.f kr) (Ee (Ee EntE.nil)))))))⟩, keep0⟩
 refine Ct <| Sq <| Rg <| Ap (accV 1 1 (AV.i .i64) cell2) (g_loadC (i := tI_40) (id := 0) (j := 0) (ob := ⟨40, 1, [(accV 1 1 (AV.i .i64) cell2)]⟩) (x := (accV 1 1 (AV.i .i64) cell2)) kr kr kr kr acc_cells rfl) <| Aq (Ai v38) <| Nn (AV.own 4 0 1) ⟨3, 1, [((v38 : Nat) : Int)].map (AV.i .i64)⟩ <| AOps.se (x := (AV.own 5 0 ((cell2 ++ [((v38 : Nat) : Int)]).length))) (h' := ⟨6, [(5, some ⟨3, 1, (cell2 ++ [((v38 : Nat) : Int)]).map (AV.i .i64)⟩), (4, some ⟨3, 1, [((v38 : Nat) : Int)].map (AV.i .i64)⟩), (1, none), (0, some ⟨40, 1, [(accV 1 1 (AV.i .i64) cell2)]⟩), (2, some ⟨40, 1, row.map (slA 1 (AV.i .i64))⟩), (3, some ⟨106, 1, [(AV.fn 71 [(AV.loc 0 0 0)])]⟩)]⟩) (g_app (e := 3) (X := (AV.own 4 0 1)) (A := (AV.i .i64)) (i := tI_3) (p := 1) (xs := cell2) (ys := [((v38 : Nat) : Int)]) kr kr kr (hx := kr) kr (by simp) ⟨by decide, by kernel_rfl⟩ rfl (by intro q; first | (subst q; rfl) | (rw [q]; rfl) | (simp only [q]; rfl)) (by show _ * 8 ≤ 140737488355328; first | omega | (simp only [List.length_append, List.length_cons, List.length_nil, List.length_set, List.length_replicate]; omega) | (simp; omega)) sd) le <| AOps.st (x := AV.und) (h' := ⟨6, [(5, some ⟨3, 1, (cell2 ++ [((v38 : Nat) : Int)]).map (AV.i .i64)⟩), (4, some ⟨3, 1, [((v38 : Nat) : Int)].map (AV.i .i64)⟩), (1, none), (0, some ⟨40, 1, [(AV.own 5 0 ((cell2 ++ [((v38 : Nat) : Int)]).length))]⟩), (2, some ⟨40, 1, row.map (slA 1 (AV.i .i64))⟩), (3, some ⟨106, 1, [(AV.fn 71 [(AV.loc 0 0 0)])]⟩)]⟩) (g_setC (i := tI_40) (id := 0) (j := 0) (e := 40) (k := 1) (els := [(accV 1 1 (AV.i .i64) cell2)]) (x := (accV 1 1 (AV.i .i64) cell2)) (y := (AV.own 5 0 ((cell2 ++ [((v38 : Nat) : Int)]).length))) kr kr kr kr kr Cell.acc rfl (by intro fs hh; cases hh) kr kr) ?_
 refine Ad <| Awp.exit ?_
 try simp only [c_3, c_4, sbt] at hE3
 subst hE3
 try simp only [c_2, hR3, sbt] at hE2
 refine ⟨(kf2, (cell2 ++ [((v38 : Nat) : Int)])), od, ⟨sdd, sdd, hE2⟩, ?_⟩
 exact ⟨[0, 5, 2, 3], ⟨by decide, rfl, (FitsObjs.cons (boxA (A := (AV.i .i64)) (e := 40) (k := 1) (ek := 1) (xs := (cell2 ++ [((v38 : Nat) : Int)])) (by simp) rfl (by decide) (by simp) rfl) (FitsObjs.cons (obj_acc' (fun _ => rfl) (e := 3) (k := 1) (A := (AV.i .i64)) (xs := (cell2 ++ [((v38 : Nat) : Int)])) (by simp) rfl rfl) (FitsObjs.cons (obj_row (fun _ => rfl) (e := 40) (k := 1) (A := (slA 1 (AV.i .i64))) (xs := row) rfl rfl) (FitsObjs.cons kr FitsObjs.nil)))), (EntE.cons (Ent.f kr) (EntE.cons (Ent.f kr) (EntE.cons (Ent.f kr) (EntE.cons (Ent.f kr) EntE.nil))))⟩, keep0⟩
 have hc3 : decide (((v38 : Nat) : Int) < ((g.edges.length : Nat) : Int)) = false := decide_eq_false (by omega)
 refine Awp.cond (t := false) (by rw [← hc3] <;> kernel_rfl) (Awp.exit ?_)
 rw [List.drop_eq_nil_of_le (by first | (simpa using hl3) | omega), m_bc.eq_1] at hE3
 subst hE3
 refine Sq <| Rg <| Aq (AV.sl 1 true []) <| Aq (AV.i .i64 (1001 : Int)) <| Ad <| Rt ?_
 try simp only [c_2, hR3, sbt] at hE2
 subst hE2
 have hM : m_c g = (([] : List Int), (1001 : Int)) := by simp only [m_c, c_1, hR1, hR2, sbt]
 refine ⟨Or.inr rfl, ?_⟩
 rw [hM]
 exact Ent.cast (x' := (AV.tup [(AV.sl 1 true []), (AV.i .i64 (1001 : Int))])) (y' := (AV.tup [((slA 1 (AV.i .i64)) ((([] : List Int), (1001 : Int)).1)), (AV.i .i64 ((([] : List Int), (1001 : Int)).2))])) kr kr (Ent.tup ⟨(Ent.w rfl (WeakC.nil 1)), ⟨Ec, trivial⟩⟩ kr)
 have k_1 := ndt c_1
 refine Ct <| Sq <| Rg <| Aq (AV.sl 1 true []) <| Aq (AV.i .i64 (1000 : Int)) <| Ad <| Rt ?_
 have hM : m_c g = (([] : List Int), (1000 : Int)) := by simp only [m_c, c_1, sbt]
 refine ⟨Or.inr rfl, ?_⟩
 rw [hM]
 exact Ent.cast (x' := (AV.tup [(AV.sl 1 true []), (AV.i .i64 (1000 : Int))])) (y' := (AV.tup [((slA 1 (AV.i .i64)) ((([] : List Int), (1000 : Int)).1)), (AV.i .i64 ((([] : List Int), (1000 : Int)).2))])) kr kr (Ent.tup ⟨(Ent.w rfl (WeakC.nil 1)), ⟨Ec, trivial⟩⟩ kr)
theorem w_ref12_Want (W : World) (g : DGraph) (names : List ByteArray) (hz0 : g.sz ≤ 1048576) (hzn : names.length ≤ 1048576) : PureAt Go.Proofs.Tryz.prog W 31 [(DGraph.av g), ((slA 1 AV.s) names)] (AV.tup [((slA 1 AV.b) ((m_m g names).1)), (AV.i .i64 ((m_m g names).2))]) [] := by
 have hz : ∀ i, needsN g i ≤ 1048576 := fun i => Nat.le_trans (needsN_sz g i) hz0
 have hzo : outsN g.edges ≤ 1048576 := Nat.le_trans (outsN_sz g) hz0
 have hgl : g.edges.length ≤ 1048576 := Nat.le_trans g.sz_len hz0
 have hol := rorder_len g
 refine pure_of_bodyC (fn := Go.Proofs.Tryz.f31) Go.Proofs.Tryz.func31 rfl (en31 W) (ts := [4, 5]) rfl le <| Sq <| Rg <| Nn (AV.loc 0 0 0) ⟨26, 3, [(DGraph.av g)]⟩ <| Aq (AV.sl 1 true []) <| Aq (AV.i .i64 (0 : Int)) <| Ad <| Sq <| Rg <| Aq (DGraph.av g) <| AOps.sc0 (vs := [(DGraph.av g)]) (r0 := (AV.tup [((slA 1 (AV.i .i64)) ((m_f g).1)), (AV.i .i64 ((m_f g).2))])) kr kr (w_ref1_Order W g sd) kr le <| Aq (AV.tup [((slA 1 (AV.i .i64)) ((m_f g).1)), (AV.i .i64 ((m_f g).2))]) <| Aq ((slA 1 (AV.i .i64)) ((m_f g).1)) <| Aq (AV.i .i64 ((m_f g).2)) <| Aq ((slA 1 (AV.i .i64)) ((m_f g).1)) <| Aq (AV.i .i64 ((m_f g).2)) <| Ad <| Sq <| Sq <| Rg <| Aq (AV.i .i64 ((m_f g).2)) <| Aq (AV.b (!decide ((m_f g).2 = (0 : Int)))) <| Aq (AV.b (!decide ((m_f g).2 = (0 : Int)))) ?_
 cases c_1 : (!decide ((m_f g).2 = (0 : Int)))
 have k_1 := nde c_1
 refine Ay <| Aq ((slA 1 AV.s) names) <| Ay <| AOps.sc0 (vs := [((slA 1 AV.s) names)]) (r0 := (AV.b (m_n names))) kr kr (w_ref1_PathsMay W names) kr le <| Ay <| Aq (AV.b (!(m_n names))) <| Aq (AV.b (!(m_n names))) <| Ad ?_
 cases c_2 : (!(m_n names))
 refine Cf <| Awp.skip ?_
 refine Awp.cut [(1, ((slA 1 AV.s) (bif decide (((names.length : Nat) : Int) = (0 : Int)) then g.defaults else names))), (2, (AV.loc 0 0 0)), (6, ((slA 1 (AV.i .i64)) ((m_f g).1)))] ⟨1, [(0, some ⟨26, 3, [(AV.st [((slA 7 DEdge.av) g.edges), ((slA 2 DPool.av) g.pools), ((slA 1 AV.s) g.defaults)])]⟩)]⟩ ?_ ?_
 refine Sq <| Rg <| Aq ((slA 1 AV.s) names) <| Ap (Ai names.length) (g_len (k := 1) (nl := false) (e := 9) (A := AV.s) (xs := names) kr kr) <| Aq (AV.b (decide (((names.length : Nat) : Int) = (0 : Int)))) <| Ad ?_
 cases c_3 : decide (((names.length : Nat) : Int) = (0 : Int))
 have k_3 := of_decide_eq_false c_3
 refine Cf <| Awp.skip ?_
 exact ⟨[0], ⟨by decide, rfl, (FitsObjs.cons kr FitsObjs.nil), (Ee (EntE.cons (Ent.f kr) (Ee EntE.nil)))⟩, keep0⟩
 have k_3 := of_decide_eq_true c_3
 refine Ct <| Rg <| Aq (AV.loc 0 0 2) <| Aq ((slA 1 AV.s) g.defaults) <| Aq ((slA 1 AV.s) g.defaults) <| Ad ?_
 exact ⟨[0], ⟨by decide, rfl, (FitsObjs.cons kr FitsObjs.nil), (Ee (EntE.cons (Ent.f kr) (Ee EntE.nil)))⟩, keep0⟩
 refine Sq <| Rg <| Aq (AV.loc 0 0 0) <| Aq ((slA 7 DEdge.av) g.edges) <| Ap (Ai g.edges.length) (g_len (k := 7) (nl := false) (e := 76) (A := DEdge.av) (xs := g.edges) kr kr) <| AOps.sn (x := (AV.own 1 0 g.edges.length)) (h' := ⟨2, [(1, some ⟨4, 1, (List.replicate g.edges.length false).map AV.b⟩), (0, some ⟨26, 3, [(AV.st [((slA 7 DEdge.av) g.edges), ((slA 2 DPool.av) g.pools), ((slA 1 AV.s) g.defaults)])]⟩)]⟩) (g_make (e := 4) (i := tI_4) (A := AV.b) (z := false) (n := g.edges.length) kr kr kr kr ⟨by decide, by kernel_rfl⟩ kr (by show _ * 1 ≤ 140737488355328; first | omega | (simp only [List.length_append, List.length_cons, List.length_nil, List.length_set, List.length_replicate]; omega) | (simp; omega)) sd) le <| Aq (AV.own 1 0 g.edges.length) <| Ad <| Sq <| Sq <| Rg <| Aq (AV.i .i64 (0 : Int)) <| Ad <| Awp.block <| Awp.lim 33 (x := ((slA 7 DEdge.av) g.edges)) kr fun hlm1 => ?_
 have hB1 : g.edges.length ≤ 281474976710656 := lim_slA hlm1
 obtain ⟨R1, hR1⟩ : ∃ R, m_a0 names g g.edges 0 (List.replicate g.edges.length false) = R := ⟨_, rfl⟩
 refine Awp.loopT (fun ((i, row) : Nat × (List Bool)) => [(1, ((slA 1 AV.s) (bif decide (((names.length : Nat) : Int) = (0 : Int)) then g.defaults else names))), (2, (AV.loc 0 0 0)), (6, ((slA 1 (AV.i .i64)) ((m_f g).1))), (8, (AV.own 1 0 g.edges.length)), (9, (Ai i))]) (fun ((i, row) : Nat × (List Bool)) => ⟨2, [(0, some ⟨26, 3, [(AV.st [((slA 7 DEdge.av) g.edges), ((slA 2 DPool.av) g.pools), ((slA 1 AV.s) g.defaults)])]⟩), (1, some ⟨4, 1, row.map AV.b⟩)]⟩) (fun ((i, row) : Nat × (List Bool)) => i ≤ g.edges.length ∧ row.length = g.edges.length ∧ m_a0 names g (g.edges.drop i) i row = R1) (fun ((i, row) : Nat × (List Bool)) => g.edges.length - i) (0, (List.replicate g.edges.length false)) ?_ ?_ ?_
 exact ⟨[0, 1], ⟨by decide, rfl, (FitsObjs.cons kr (FitsObjs.cons (obj_row (fun _ => rfl) (e := 4) (k := 1) (A := AV.b) (xs := (List.replicate g.edges.length false)) rfl rfl) FitsObjs.nil)), (Ee (EntE.cons (Ent.f kr) (Ee (EntE.cons (Ent.f kr) (Ee EntE.nil)))))⟩, keep0⟩
 exact ⟨od, sdd, hR1⟩
 rintro ⟨i, row⟩ ⟨hi1, hr, hE1⟩
 try dsimp only
 refine Sq <| Sq <| Rg <| Aq (Ai i) <| Aq (AV.loc 0 0 0) <| Aq ((slA 7 DEdge.av) g.edges) <| Ap (Ai g.edges.length) (g_len (k := 7) (nl := false) (e := 76) (A := DEdge.av) (xs := g.edges) kr kr) <| Aq (AV.b (decide (((i : Nat) : Int) < ((g.edges.length : Nat) : Int)))) <| Ad ?_
 rcases Nat.lt_or_ge i g.edges.length with hl1 | hl1
 have hc1 : decide (((i : Nat) : Int) < ((g.edges.length : Nat) : Int)) = true := decide_eq_true (by omega)
 refine Awp.cond (t := true) (by rw [← hc1] <;> kernel_rfl) (Awp.skip ?_)
 obtain ⟨x1, hx1⟩ : ∃ x, g.edges[i]? = some x := ⟨_, List.getElem?_eq_getElem hl1⟩
 rw [drop_at hx1, m_a0.eq_2] at hE1
 refine Sq <| Awp.block <| Rg <| Aq (AV.own 1 0 g.edges.length) <| Aq (Ai i) <| Aq ((slA 1 AV.s) (bif decide (((names.length : Nat) : Int) = (0 : Int)) then g.defaults else names)) <| Ap (AV.i .i64 (((bif decide (((names.length : Nat) : Int) = (0 : Int)) then g.defaults else names).length : Nat) : Int)) (g_len (k := 1) (nl := false) (e := 9) (A := AV.s) (xs := (bif decide (((names.length : Nat) : Int) = (0 : Int)) then g.defaults else names)) kr kr) <| Aq (AV.b (decide ((((bif decide (((names.length : Nat) : Int) = (0 : Int)) then g.defaults else names).length : Nat) : Int) = (0 : Int)))) <| Ap (AV.loc 1 i 0) (g_oidx (e := 4) (id := 1) (len := g.edges.length) (kk := .i64) (ob := ⟨4, 1, row.map AV.b⟩) (i := i) kr kr kr rfl kr sd) <| AOps.st (x := AV.und) (h' := ⟨2, [(0, some ⟨26, 3, [(AV.st [((slA 7 DEdge.av) g.edges), ((slA 2 DPool.av) g.pools), ((slA 1 AV.s) g.defaults)])]⟩), (1, some ⟨4, 1, (row.set i (decide ((((bif decide (((names.length : Nat) : Int) = (0 : Int)) then g.defaults else names).length : Nat) : Int) = (0 : Int)))).map AV.b⟩)]⟩) (g_set (e := 4) (k := 1) (i := tI_4) (id := 1) (A := AV.b) (xs := row) (y := (decide ((((bif decide (((names.length : Nat) : Int) = (0 : Int)) then g.defaults else names).length : Nat) : Int) = (0 : Int)))) (j := i) kr kr kr rfl sd (fun _ => rfl) kr (fun _ => rfl) (fun _ => rfl)) <| Ad <| Rg <| Aq (Ai i) <| Ap (Ai (i + 1)) (g_addN (i := i) (m := 1) kr kr sd) <| Aq (Ai (i + 1)) <| Ad ?_
 refine ⟨(i + 1, (row.set i (decide ((((bif decide (((names.length : Nat) : Int) = (0 : Int)) then g.defaults else names).length : Nat) : Int) = (0 : Int))))), od, ⟨od, sdd, hE1⟩, ?_⟩
 exact ⟨[0, 1], ⟨by decide, rfl, (FitsObjs.cons kr (FitsObjs.cons (obj_row (fun _ => rfl) (e := 4) (k := 1) (A := AV.b) (xs := (row.set i (decide ((((bif decide (((names.length : Nat) : Int) = (0 : Int)) then g.defaults else names).length : Nat) : Int) = (0 : Int))))) rfl rfl) FitsObjs.nil)), (Ee (EntE.cons (Ent.f kr) (Ee (EntE.cons (Ent.f kr) (Ee EntE.nil)))))⟩, keep0⟩
 have hc1 : decide (((i : Nat) : Int) < ((g.edges.length : Nat) : Int)) = false := decide_eq_false (by omega)
 refine Awp.cond (t := false) (by rw [← hc1] <;> kernel_rfl) (Awp.exit ?_)
 rw [List.drop_eq_nil_of_le (hl1), m_a0.eq_1] at hE1
 subst hE1
 refine Sq <| Sq <| Rg <| Aq (AV.i .i64 (0 : Int)) <| Ad <| Awp.block <| Awp.lim 1 (x := ((slA 1 AV.s) (bif decide (((names.length : Nat) : Int) = (0 : Int)) then g.defaults else names))) kr fun hlm2 => ?_
 have hB2 : (bif decide (((names.length : Nat) : Int) = (0 : Int)) then g.defaults else names).length ≤ 281474976710656 := lim_slA hlm2
 obtain ⟨R2, hR2⟩ : ∃ R, m_a6 g (bif decide (((names.length : Nat) : Int) = (0 : Int)) then g.defaults else names) 0 row = R := ⟨_, rfl⟩
 refine Awp.loopT (fun ((i2, row2) : Nat × (List Bool)) => [(1, ((slA 1 AV.s) (bif decide (((names.length : Nat) : Int) = (0 : Int)) then g.defaults else names))), (2, (AV.loc 0 0 0)), (6, ((slA 1 (AV.i .i64)) ((m_f g).1))), (8, (AV.own 1 0 g.edges.length)), (10, (Ai i2))]) (fun ((i2, row2) : Nat × (List Bool)) => ⟨2, [(0, some ⟨26, 3, [(AV.st [((slA 7 DEdge.av) g.edges), ((slA 2 DPool.av) g.pools), ((slA 1 AV.s) g.defaults)])]⟩), (1, some ⟨4, 1, row2.map AV.b⟩)]⟩) (fun ((i2, row2) : Nat × (List Bool)) => i2 ≤ (bif decide (((names.length : Nat) : Int) = (0 : Int)) then g.defaults else names).length ∧ row2.length = g.edges.length ∧ m_a6 g ((bif decide (((names.length : Nat) : Int) = (0 : Int)) then g.defaults else names).drop i2) i2 row2 = R2) (fun ((i2, row2) : Nat × (List Bool)) => (bif decide (((names.length : Nat) : Int) = (0 : Int)) then g.defaults else names).length - i2) (0, row) ?_ ?_ ?_
 exact ⟨[0, 1], ⟨by decide, rfl, (FitsObjs.cons kr (FitsObjs.cons (obj_row (fun _ => rfl) (e := 4) (k := 1) (A := AV.b) (xs := row) rfl rfl) FitsObjs.nil)), (Ee (EntE.cons (Ent.f kr) (Ee (EntE.cons (Ent.f kr) (Ee EntE.nil)))))⟩, keep0⟩
 exact ⟨od, sdd, hR2⟩
 rintro ⟨i2, row2⟩ ⟨hi2, hr, hE2⟩
 try dsimp only
 refine Sq <| Sq <| Rg <| Aq (Ai i2) <| Aq ((slA 1 AV.s) (bif decide (((names.length : Nat) : Int) = (0 : Int)) then g.defaults else names)) <| Ap (AV.i .i64 (((bif decide (((names.length : Nat) : Int) = (0 : Int)) then g.defaults else names).length : Nat) : Int)) (g_len (k := 1) (nl := false) (e := 9) (A := AV.s) (xs := (bif decide (((names.length : Nat) : Int) = (0 : Int)) then g.defaults else names)) kr kr) <| Aq (AV.b (decide (((i2 : Nat) : Int) < (((bif decide (((names.length : Nat) : Int) = (0 : Int)) then g.defaults else names).length : Nat) : Int)))) <| Ad ?_
 rcases Nat.lt_or_ge i2 (bif decide (((names.length : Nat) : Int) = (0 : Int)) then g.defaults else names).length with hl2 | hl2
 have hc2 : decide (((i2 : Nat) : Int) < (((bif decide (((names.length : Nat) : Int) = (0 : Int)) then g.defaults else names).length : Nat) : Int)) = true := decide_eq_true (by omega)
 refine Awp.cond (t := true) (by rw [← hc2] <;> kernel_rfl) (Awp.skip ?_)
 obtain ⟨x2, hx2⟩ : ∃ x, (bif decide (((names.length : Nat) : Int) = (0 : Int)) then g.defaults else names)[i2]? = some x := ⟨_, List.getElem?_eq_getElem hl2⟩
 rw [drop_at hx2, m_a6.eq_2] at hE2
 have hmk : m_o (⟨g.edges, g.pools, g.defaults⟩ : DGraph) x2 < (g.edges.length : Int) := makerOf_lt g x2
 refine Sq <| Awp.block <| Sq <| Awp.drawn tabS_ok mixed 5 kr le <| Dq (AV.st [((slA 7 DEdge.av) g.edges), ((slA 2 DPool.av) g.pools), ((slA 1 AV.s) g.defaults)]) <| Dq ((slA 1 AV.s) (bif decide (((names.length : Nat) : Int) = (0 : Int)) then g.defaults else names)) <| Dq (Ai i2) <| Dp (AV.pt (AV.s x2).cells) (g_idx (k := 1) (nl := false) (e := 9) (kk := .i64) (A := AV.s) (xs := (bif decide (((names.length : Nat) : Int) = (0 : Int)) then g.defaults else names)) (i := i2) kr kr kr ⟨by kernel_rfl, by decide⟩ hx2) <| Dq (AV.s x2) <| AOpsD.sc0 (vs := [(AV.st [((slA 7 DEdge.av) g.edges), ((slA 2 DPool.av) g.pools), ((slA 1 AV.s) g.defaults)]), (AV.s x2)]) (r0 := (AV.i .i64 (m_o (⟨g.edges, g.pools, g.defaults⟩ : DGraph) x2))) kr kr (w_ref1_MakerOf W (⟨g.edges, g.pools, g.defaults⟩ : DGraph) x2) kr le <| Dq (AV.i .i64 (m_o (⟨g.edges, g.pools, g.defaults⟩ : DGraph) x2)) <| AOpsD.fin <| Sq <| Sq <| Rg <| Aq (AV.i .i64 (m_o (⟨g.edges, g.pools, g.defaults⟩ : DGraph) x2)) <| Aq (AV.b (decide ((m_o (⟨g.edges, g.pools, g.defaults⟩ : DGraph) x2) < (0 : Int)))) <| Ad ?_
 cases c_4 : decide ((m_o (⟨g.edges, g.pools, g.defaults⟩ : DGraph) x2) < (0 : Int))
 have k_4 := of_decide_eq_false c_4
 refine Cf <| Awp.skip <| Rg <| Aq (AV.own 1 0 g.edges.length) <| Aq (AV.i .i64 (m_o (⟨g.edges, g.pools, g.defaults⟩ : DGraph) x2)) <| Ap (AV.loc 1 ((m_o (⟨g.edges, g.pools, g.defaults⟩ : DGraph) x2).toNat) 0) (g_oidxI (e := 4) (id := 1) (len := g.edges.length) (kk := .i64) (ob := ⟨4, 1, row2.map AV.b⟩) (n := (m_o (⟨g.edges, g.pools, g.defaults⟩ : DGraph) x2)) kr kr kr rfl kr sd sd) <| AOps.st (x := AV.und) (h' := ⟨2, [(0, some ⟨26, 3, [(AV.st [((slA 7 DEdge.av) g.edges), ((slA 2 DPool.av) g.pools), ((slA 1 AV.s) g.defaults)])]⟩), (1, some ⟨4, 1, (row2.set (m_o (⟨g.edges, g.pools, g.defaults⟩ : DGraph) x2).toNat true).map AV.b⟩)]⟩) (g_set (e := 4) (k := 1) (i := tI_4) (id := 1) (A := AV.b) (xs := row2) (y := true) (j := (m_o (⟨g.edges, g.pools, g.defaults⟩ : DGraph) x2).toNat) kr kr kr rfl sd (fun _ => rfl) kr (fun _ => rfl) (fun _ => rfl)) <| Ad <| Rg <| Aq (Ai i2) <| Ap (Ai (i2 + 1)) (g_addN (i := i2) (m := 1) kr kr sd) <| Aq (Ai (i2 + 1)) <| Ad ?_
 try simp only [c_4, sbt] at hE2
 refine ⟨(i2 + 1, (row2.set (m_o (⟨g.edges, g.pools, g.defaults⟩ : DGraph) x2).toNat true)), od, ⟨od, sdd, hE2⟩, ?_⟩
 exact ⟨[0, 1], ⟨by decide, rfl, (FitsObjs.cons kr (FitsObjs.cons (obj_row (fun _ => rfl) (e := 4) (k := 1) (A := AV.b) (xs := (row2.set (m_o (⟨g.edges, g.pools, g.defaults⟩ : DGraph) x2).toNat true)) rfl rfl) FitsObjs.nil)), (Ee (EntE.cons (Ent.f kr) (Ee (EntE.cons (Ent.f kr) (Ee EntE.nil)))))⟩, keep0⟩
 have k_4 := of_decide_eq_true c_4
 refine Ct <| Sq <| Rg <| Aq (AV.sl 1 true []) <| Aq (AV.i .i64 (2001 : Int)) <| Ad <| Rt ?_
 try simp only [c_4, sbt] at hE2
 subst hE2
 have hM : m_m g names = (([] : List Bool), (2001 : Int)) := by simp only [m_m, c_1, c_2, hR1, hR2, sbt]
 refine ⟨Or.inr rfl, ?_⟩
 rw [hM]
 exact Ent.cast (x' := (AV.tup [(AV.sl 1 true []), (AV.i .i64 (2001 : Int))])) (y' := (AV.tup [((slA 1 AV.b) ((([] : List Bool), (2001 : Int)).1)), (AV.i .i64 ((([] : List Bool), (2001 : Int)).2))])) kr kr (Ent.tup ⟨(Ent.w rfl (WeakC.nil 1)), ⟨Ec, trivial⟩⟩ kr)
 have hc2 : decide (((i2 : Nat) : Int) < (((bif decide (((names.length : Nat) : Int) = (0 : Int)) then g.defaults else names).length : Nat) : Int)) = false := decide_eq_false (by omega)
 refine Awp.cond (t := false) (by rw [← hc2] <;> kernel_rfl) (Awp.exit ?_)
 rw [List.drop_eq_nil_of_le (hl2), m_a6.eq_1] at hE2
 subst hE2
 refine Sq <| Sq <| Rg <| Aq ((slA 1 (AV.i .i64)) ((m_f g).1)) <| Ap (AV.i .i64 ((((m_f g).1).length : Nat) : Int)) (g_len (k := 1) (nl := false) (e := 3) (A := (AV.i .i64)) (xs := ((m_f g).1)) kr kr) <| Ap (AV.i .i64 (((((m_f g).1).length : Nat) : Int) - (1 : Int))) (g_subI (a := ((((m_f g).1).length : Nat) : Int)) (b := (1 : Int)) kr kr sd sd) <| Aq (AV.i .i64 (((((m_f g).1).length : Nat) : Int) - (1 : Int))) <| Ad <| Awp.block ?_
 obtain ⟨R3, hR3⟩ : ∃ R, m_a7 g (((((((m_f g).1).length : Nat) : Int) - (1 : Int)) + 1).toNat + 1) (((((m_f g).1).length : Nat) : Int) - (1 : Int)) row2 = R := ⟨_, rfl⟩
 refine Awp.loopT (fun ((kf3, (i3, row3)) : Nat × (Int × (List Bool))) => [(2, (AV.loc 0 0 0)), (6, ((slA 1 (AV.i .i64)) ((m_f g).1))), (8, (AV.own 1 0 g.edges.length)), (12, (AV.i .i64 i3))]) (fun ((kf3, (i3, row3)) : Nat × (Int × (List Bool))) => ⟨2, [(0, some ⟨26, 3, [(AV.st [((slA 7 DEdge.av) g.edges), ((slA 2 DPool.av) g.pools), ((slA 1 AV.s) g.defaults)])]⟩), (1, some ⟨4, 1, row3.map AV.b⟩)]⟩) (fun ((kf3, (i3, row3)) : Nat × (Int × (List Bool))) => (i3 + 1).toNat < kf3 ∧ -1 ≤ i3 ∧ i3 < (((m_f g).1.length : Nat) : Int) ∧ row3.length = g.edges.length ∧ m_a7 g kf3 i3 row3 = R3) (fun ((kf3, (i3, row3)) : Nat × (Int × (List Bool))) => kf3) (((((((m_f g).1).length : Nat) : Int) - (1 : Int)) + 1).toNat + 1, ((((((m_f g).1).length : Nat) : Int) - (1 : Int)), row2)) ?_ ?_ ?_
 exact ⟨[0, 1], ⟨by decide, rfl, (FitsObjs.cons kr (FitsObjs.cons (obj_row (fun _ => rfl) (e := 4) (k := 1) (A := AV.b) (xs := row2) rfl rfl) FitsObjs.nil)), (EntE.cons (Ent.f kr) (Ee (EntE.cons (Ent.f kr) (Ee EntE.nil))))⟩, keep0⟩
 exact ⟨od, sdd, sdd, sdd, hR3⟩
 rintro ⟨kf3, i3, row3⟩ ⟨hi3, hk, hk2, hr2, hE3⟩
 try dsimp only
 rcases kf3 with _ | kf3
 exact absurd hi3 (Nat.not_lt_zero _)
 rw [m_a7.eq_2] at hE3
 refine Sq <| Sq <| Rg <| Aq (AV.i .i64 i3) <| Aq (AV.b (decide ((0 : Int) ≤ i3))) <| Ad ?_
 cases c_5 : decide ((0 : Int) ≤ i3)
 have k_5 := of_decide_eq_false c_5
 refine Cf <| Awp.exit ?_
 try simp only [c_5, sbt] at hE3
 subst hE3
 refine Sq <| Rg <| Aq (AV.own 1 0 g.edges.length) <| Aq (AV.own 1 0 g.edges.length) <| Aq (AV.i .i64 (0 : Int)) <| Ad <| Rt ?_
 have hM : m_m g names = (row3, (0 : Int)) := by simp only [m_m, c_1, c_2, hR1, hR2, hR3, sbt]
 refine ⟨Or.inr rfl, ?_⟩
 rw [hM]
 exact Ent.cast (x' := (AV.tup [(AV.own 1 0 g.edges.length), (AV.i .i64 (0 : Int))])) (y' := (AV.tup [((slA 1 AV.b) ((row3, (0 : Int)).1)), (AV.i .i64 ((row3, (0 : Int)).2))])) kr kr (Ent.tup ⟨(EntD.kk (x' := (AV.own 1 0 g.edges.length)) kr kr rfl (EntK.row (fun _ => rfl) (A := AV.b) (id := 1) (e := 4) (k := 1) (xs := row3) rfl rfl sd sd)), ⟨Ec, trivial⟩⟩ kr)
 have k_5 := of_decide_eq_true c_5
 have q_5 := rorder_get (g := g) (k := i3) (by omega) (by omega)
 refine Ct <| Awp.skip <| Sq <| Awp.block <| Sq <| Awp.drawn tabS_ok mixed 5 kr le <| Dq (AV.st [((slA 7 DEdge.av) g.edges), ((slA 2 DPool.av) g.pools), ((slA 1 AV.s) g.defaults)]) <| Dq ((slA 1 (AV.i .i64)) ((m_f g).1)) <| Dq (AV.i .i64 i3) <| Dp (AV.pt ((AV.i .i64) (((m_f g).1).getD i3.toNat default)).cells) (g_idxI (k := 1) (nl := false) (e := 3) (kk := .i64) (A := (AV.i .i64)) (xs := ((m_f g).1)) (n := i3) kr kr kr ⟨by kernel_rfl, by decide⟩ sd (getD_some sd)) <| Dq (AV.i .i64 (((m_f g).1).getD i3.toNat default)) <| AOpsD.sc0 (vs := [(AV.st [((slA 7 DEdge.av) g.edges), ((slA 2 DPool.av) g.pools), ((slA 1 AV.s) g.defaults)]), (AV.i .i64 (((m_f g).1).getD i3.toNat default))]) (r0 := ((slA 1 (AV.i .i64)) (m_l (⟨g.edges, g.pools, g.defaults⟩ : DGraph) (((m_f g).1).getD i3.toNat default)))) kr kr (w_ref1_Needs W (⟨g.edges, g.pools, g.defaults⟩ : DGraph) (((m_f g).1).getD i3.toNat default) ⟨by show _ < g.edges.length; omega, by omega⟩ (hz _)) kr le <| Dq ((slA 1 (AV.i .i64)) (m_l (⟨g.edges, g.pools, g.defaults⟩ : DGraph) (((m_f g).1).getD i3.toNat default))) <| AOpsD.fin <| Sq <| Rg <| Aq (AV.i .i64 (0 : Int)) <| Ad <| Awp.block <| Awp.lim 78 (x := ((slA 1 (AV.i .i64)) (m_l (⟨g.edges, g.pools, g.defaults⟩ : DGraph) (((m_f g).1).getD i3.toNat default)))) kr fun hlm4 => ?_
 have hB4 : (m_l (⟨g.edges, g.pools, g.defaults⟩ : DGraph) (((m_f g).1).getD i3.toNat default)).length ≤ 281474976710656 := lim_slA hlm4
 obtain ⟨R4, hR4⟩ : ∃ R, m_av g i3 (m_l (⟨g.edges, g.pools, g.defaults⟩ : DGraph) (((m_f g).1).getD i3.toNat default)) 0 row3 = R := ⟨_, rfl⟩
 refine Awp.loopT (fun ((k, row4) : Nat × (List Bool)) => [(2, (AV.loc 0 0 0)), (6, ((slA 1 (AV.i .i64)) ((m_f g).1))), (8, (AV.own 1 0 g.edges.length)), (12, (AV.i .i64 i3)), (13, ((slA 1 (AV.i .i64)) (m_l (⟨g.edges, g.pools, g.defaults⟩ : DGraph) (((m_f g).1).getD i3.toNat default)))), (14, (Ai k))]) (fun ((k, row4) : Nat × (List Bool)) => ⟨2, [(0, some ⟨26, 3, [(AV.st [((slA 7 DEdge.av) g.edges), ((slA 2 DPool.av) g.pools), ((slA 1 AV.s) g.defaults)])]⟩), (1, some ⟨4, 1, row4.map AV.b⟩)]⟩) (fun ((k, row4) : Nat × (List Bool)) => k ≤ (m_l (⟨g.edges, g.pools, g.defaults⟩ : DGraph) (((m_f g).1).getD i3.toNat default)).length ∧ row4.length = g.edges.length ∧ m_av g i3 ((m_l (⟨g.edges, g.pools, g.defaults⟩ : DGraph) (((m_f g).1).getD i3.toNat default)).drop k) k row4 = R4) (fun ((k, row4) : Nat × (List Bool)) => (m_l (⟨g.edges, g.pools, g.defaults⟩ : DGraph) (((m_f g).1).getD i3.toNat default)).length - k) (0, row3) ?_ ?_ ?_
 exact ⟨[0, 1], ⟨by decide, rfl, (FitsObjs.cons kr (FitsObjs.cons (obj_row (fun _ => rfl) (e := 4) (k := 1) (A := AV.b) (xs := row3) rfl rfl) FitsObjs.nil)), (EntE.cons (Ent.f kr) (Ee (EntE.cons (Ent.f kr) (Ee (Ee (Ee EntE.nil))))))⟩, keep0⟩
 exact ⟨od, sdd, hR4⟩
 rintro ⟨k, row4⟩ ⟨hi4, hr3, hE4⟩
 try dsimp only
 refine Sq <| Sq <| Rg <| Aq (Ai k) <| Aq ((slA 1 (AV.i .i64)) (m_l (⟨g.edges, g.pools, g.defaults⟩ : DGraph) (((m_f g).1).getD i3.toNat default))) <| Ap (AV.i .i64 (((m_l (⟨g.edges, g.pools, g.defaults⟩ : DGraph) (((m_f g).1).getD i3.toNat default)).length : Nat) : Int)) (g_len (k := 1) (nl := false) (e := 3) (A := (AV.i .i64)) (xs := (m_l (⟨g.edges, g.pools, g.defaults⟩ : DGraph) (((m_f g).1).getD i3.toNat default))) kr kr) <| Aq (AV.b (decide (((k : Nat) : Int) < (((m_l (⟨g.edges, g.pools, g.defaults⟩ : DGraph) (((m_f g).1).getD i3.toNat default)).length : Nat) : Int)))) <| Ad ?_
 rcases Nat.lt_or_ge k (m_l (⟨g.edges, g.pools, g.defaults⟩ : DGraph) (((m_f g).1).getD i3.toNat default)).length with hl4 | hl4
 have hc4 : decide (((k : Nat) : Int) < (((m_l (⟨g.edges, g.pools, g.defaults⟩ : DGraph) (((m_f g).1).getD i3.toNat default)).length : Nat) : Int)) = true := decide_eq_true (by omega)
 refine Awp.cond (t := true) (by rw [← hc4] <;> kernel_rfl) (Awp.skip ?_)
 obtain ⟨x4, hx4⟩ : ∃ x, (m_l (⟨g.edges, g.pools, g.defaults⟩ : DGraph) (((m_f g).1).getD i3.toNat default))[k]? = some x := ⟨_, List.getElem?_eq_getElem hl4⟩
 rw [drop_at hx4, m_av.eq_2] at hE4
 have hnm : 0 ≤ x4 ∧ x4.toNat < g.edges.length := rneeds_mem (g := g) (List.mem_of_getElem? hx4)
 refine Sq <| Awp.block <| Awp.drawn tabS_ok mixed 21 kr le <| Dq (AV.own 1 0 g.edges.length) <| Dq ((slA 1 (AV.i .i64)) (m_l (⟨g.edges, g.pools, g.defaults⟩ : DGraph) (((m_f g).1).getD i3.toNat default))) <| Dq (Ai k) <| Dp (AV.pt ((AV.i .i64) x4).cells) (g_idx (k := 1) (nl := false) (e := 3) (kk := .i64) (A := (AV.i .i64)) (xs := (m_l (⟨g.edges, g.pools, g.defaults⟩ : DGraph) (((m_f g).1).getD i3.toNat default))) (i := k) kr kr kr ⟨by kernel_rfl, by decide⟩ hx4) <| Dq (AV.i .i64 x4) <| Dq (AV.own 1 0 g.edges.length) <| Dq ((slA 1 (AV.i .i64)) (m_l (⟨g.edges, g.pools, g.defaults⟩ : DGraph) (((m_f g).1).getD i3.toNat default))) <| Dq (Ai k) <| Dp (AV.pt ((AV.i .i64) x4).cells) (g_idx (k := 1) (nl := false) (e := 3) (kk := .i64) (A := (AV.i .i64)) (xs := (m_l (⟨g.edges, g.pools, g.defaults⟩ : DGraph) (((m_f g).1).getD i3.toNat default))) (i := k) kr kr kr ⟨by kernel_rfl, by decide⟩ hx4) <| Dq (AV.i .i64 x4) <| Dp (AV.loc 1 x4.toNat 0) (g_oidxI (e := 4) (id := 1) (len := g.edges.length) (kk := .i64) (ob := ⟨4, 1, row4.map AV.b⟩) (n := x4) kr kr kr rfl kr sd sd) <| Dp (AV.b (row4.getD x4.toNat default)) (g_oload (e := 4) (k := 1) (i := tI_4) (id := 1) (xs := row4) (A := AV.b) (j := x4.toNat) kr kr rfl (getD_some sd) kr) <| Dq (AV.b (row4.getD x4.toNat default)) ?_
 cases c_6 : (row4.getD x4.toNat default)
 refine Dy <| Dq (AV.own 1 0 g.edges.length) <| Dy <| Dq ((slA 1 (AV.i .i64)) ((m_f g).1)) <| Dy <| Dq (AV.i .i64 i3) <| Dy <| Dp (AV.pt ((AV.i .i64) (((m_f g).1).getD i3.toNat default)).cells) (g_idxI (k := 1) (nl := false) (e := 3) (kk := .i64) (A := (AV.i .i64)) (xs := ((m_f g).1)) (n := i3) kr kr kr ⟨by kernel_rfl, by decide⟩ sd (getD_some sd)) <| Dy <| Dq (AV.i .i64 (((m_f g).1).getD i3.toNat default)) <| Dy <| Dp (AV.loc 1 ((((m_f g).1).getD i3.toNat default).toNat) 0) (g_oidxI (e := 4) (id := 1) (len := g.edges.length) (kk := .i64) (ob := ⟨4, 1, row4.map AV.b⟩) (n := (((m_f g).1).getD i3.toNat default)) kr kr kr rfl kr sd sd) <| Dy <| Dp (AV.b (row4.getD ((((m_f g).1).getD i3.toNat default).toNat) default)) (g_oload (e := 4) (k := 1) (i := tI_4) (id := 1) (xs := row4) (A := AV.b) (j := (((m_f g).1).getD i3.toNat default).toNat) kr kr rfl (getD_some sd) kr) <| Dq (AV.b (row4.getD ((((m_f g).1).getD i3.toNat default).toNat) default)) <| Dp (AV.loc 1 x4.toNat 0) (g_oidxI (e := 4) (id := 1) (len := g.edges.length) (kk := .i64) (ob := ⟨4, 1, row4.map AV.b⟩) (n := x4) kr kr kr rfl kr sd sd) <| AOpsD.st (by decide) (x := AV.und) (h' := ⟨2, [(0, some ⟨26, 3, [(AV.st [((slA 7 DEdge.av) g.edges), ((slA 2 DPool.av) g.pools), ((slA 1 AV.s) g.defaults)])]⟩), (1, some ⟨4, 1, (row4.set x4.toNat (row4.getD ((((m_f g).1).getD i3.toNat default).toNat) default)).map AV.b⟩)]⟩) (g_set (e := 4) (k := 1) (i := tI_4) (id := 1) (A := AV.b) (xs := row4) (y := (row4.getD ((((m_f g).1).getD i3.toNat default).toNat) default)) (j := x4.toNat) kr kr kr rfl sd (fun _ => rfl) kr (fun _ => rfl) (fun _ => rfl)) ?_
 refine AOpsD.fin <| Rg <| Aq (Ai k) <| Ap (Ai (k + 1)) (g_addN (i := k) (m := 1) kr kr sd) <| Aq (Ai (k + 1)) <| Ad ?_
 try simp only [c_6, sbt] at hE4
 refine ⟨(k + 1, (row4.set x4.toNat (row4.getD ((((m_f g).1).getD i3.toNat default).toNat) default))), od, ⟨od, sdd, hE4⟩, ?_⟩
 exact ⟨[0, 1], ⟨by decide, rfl, (FitsObjs.cons kr (FitsObjs.cons (obj_row (fun _ => rfl) (e := 4) (k := 1) (A := AV.b) (xs := (row4.set x4.toNat (row4.getD ((((m_f g).1).getD i3.toNat default).toNat) default))) rfl rfl) FitsObjs.nil)), (EntE.cons (Ent.f kr) (Ee (EntE.cons (Ent.f kr) (Ee (Ee (Ee EntE.nil))))))⟩, keep0⟩
 refine Dn <| Dn <| Dn <| Dn <| Dn <| Dn <| Dn <| Dq (AV.b true) <| Dp (AV.loc 1 x4.toNat 0) (g_oidxI (e := 4) (id := 1) (len := g.edges.length) (kk := .i64) (ob := ⟨4, 1, row4.map AV.b⟩) (n := x4) kr kr kr rfl kr sd sd) <| AOpsD.st (by decide) (x := AV.und) (h' := ⟨2, [(0, some ⟨26, 3, [(AV.st [((slA 7 DEdge.av) g.edges), ((slA 2 DPool.av) g.pools), ((slA 1 AV.s) g.defaults)])]⟩), (1, some ⟨4, 1, (row4.set x4.toNat true).map AV.b⟩)]⟩) (g_set (e := 4) (k := 1) (i := tI_4) (id := 1) (A := AV.b) (xs := row4) (y := true) (j := x4.toNat) kr kr kr rfl sd (fun _ => rfl) kr (fun _ => rfl) (fun _ => rfl)) <| AOpsD.fin <| Rg <| Aq (Ai k) <| Ap (Ai (k + 1)) (g_addN (i := k) (m := 1) kr kr sd) <| Aq (Ai (k + 1)) <| Ad ?_
 try simp only [c_6, sbt] at hE4
 refine ⟨(k + 1, (row4.set x4.toNat true)), od, ⟨od, sdd, hE4⟩, ?_⟩
 exact ⟨[0, 1], ⟨by decide, rfl, (FitsObjs.cons kr (FitsObjs.cons (obj_row (fun _ => rfl) (e := 4) (k := 1) (A := AV.b) (xs := (row4.set x4.toNat true)) rfl rfl) FitsObjs.nil)), (EntE.cons (Ent.f kr) (Ee (EntE.cons (Ent.f kr) (Ee (Ee (Ee EntE.nil))))))⟩, keep0⟩
 have hc4 : decide (((k : Nat) : Int) < (((m_l (⟨g.edges, g.pools, g.defaults⟩ : DGraph) (((m_f g).1).getD i3.toNat default)).length : Nat) : Int)) = false := decide_eq_false (by omega)
 refine Awp.cond (t := false) (by rw [← hc4] <;> kernel_rfl) (Awp.exit ?_)
 rw [List.drop_eq_nil_of_le (hl4), m_av.eq_1] at hE4
 subst hE4
 refine Rg <| Aq (AV.i .i64 i3) <| Ap (AV.i .i64 (i3 - (1 : Int))) (g_subI (a := i3) (b := (1 : Int)) kr kr sd sd) <| Aq (AV.i .i64 (i3 - (1 : Int))) <| Ad ?_
 try simp only [c_5, hR4, sbt] at hE3
 refine ⟨(kf3, ((i3 - (1 : Int)), row4)), od, ⟨sdd, sdd, sdd, sdd, hE3⟩, ?_⟩
 exact ⟨[0, 1], ⟨by decide, rfl, (FitsObjs.cons kr (FitsObjs.cons (obj_row (fun _ => rfl) (e := 4) (k := 1) (A := AV.b) (xs := row4) rfl rfl) FitsObjs.nil)), (EntE.cons (Ent.f kr) (Ee (EntE.cons (Ent.f kr) (Ee EntE.nil))))⟩, keep0⟩
 refine Ct <| Sq <| Rg <| Aq (AV.sl 1 true []) <| Aq (AV.i .i64 (2000 : Int)) <| Ad <| Rt ?_
 have hM : m_m g names = (([] : List Bool), (2000 : Int)) := by simp only [m_m, c_1, c_2, sbt]
 refine ⟨Or.inr rfl, ?_⟩
 rw [hM]
 exact Ent.cast (x' := (AV.tup [(AV.sl 1 true []), (AV.i .i64 (2000 : Int))])) (y' := (AV.tup [((slA 1 AV.b) ((([] : List Bool), (2000 : Int)).1)), (AV.i .i64 ((([] : List Bool), (2000 : Int)).2))])) kr kr (Ent.tup ⟨(Ent.w rfl (WeakC.nil 1)), ⟨Ec, trivial⟩⟩ kr)
 have k_1 := ndt c_1
 refine An <| An <| An <| Aq (AV.b true) <| Ad <| Ct <| Sq <| Rg <| Aq (AV.sl 1 true []) <| Aq (AV.i .i64 (2000 : Int)) <| Ad <| Rt ?_
 have hM : m_m g names = (([] : List Bool), (2000 : Int)) := by simp only [m_m, c_1, sbt]
 refine ⟨Or.inr rfl, ?_⟩
 rw [hM]
 exact Ent.cast (x' := (AV.tup [(AV.sl 1 true []), (AV.i .i64 (2000 : Int))])) (y' := (AV.tup [((slA 1 AV.b) ((([] : List Bool), (2000 : Int)).1)), (AV.i .i64 ((([] : List Bool), (2000 : Int)).2))])) kr kr (Ent.tup ⟨(Ent.w rfl (WeakC.nil 1)), ⟨Ec, trivial⟩⟩ kr)
end
end Go.Lift
