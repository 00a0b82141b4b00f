/-
  Lemmas of this claim: a layer over the kit's calls, contracts of the functions that the law reaches, and the law's row. No condition of its own.
-/
import Derived.Test.YthagoaoenalmbaaGreatDoorSaReadyTable
import Derived.Test.YthagoaoenalmbaaGreatDoorLbReadyTable
import Derived.Test.YthagoaoenalmbaaGreatDoorScReadyTable
namespace Go.Lift
noncomputable section
open Go Go.RowKit
set_option linter.unusedSimpArgs false
set_option linter.unusedVariables false
set_option linter.unusedSectionVars false
set_option maxRecDepth 20000
theorem gOf_av (g : DGraph) : (gOf g).av = DGraph.av g := by
  have h1 : EdgeD.av ∘ eOf = DEdge.av := rfl
  have h2 : PoolD.av ∘ pOf = DPool.av := rfl
  simp only [GraphD.av, gOf, DGraph.av, slA, List.map_map, h1, h2, Strs.av]
theorem Rg {W : World} {n N : Nat} {env : Env} {h : Store} {Q : Post} {id : Nat} {ops : Array Oper} (k : AOps Go.Proofs.Tryz.prog W tabS n ops ops.toList env h (Q .normal)) : Awp Go.Proofs.Tryz.prog W n N (.region id ops false) env h Q := Awp.region tabS_ok k
theorem w_path_Clean (W : World) {m0 : Int} (hW : W.cell? ⟨0, 0, none⟩ = some (.int .i64 m0)) (s : ByteArray) : PureAt Go.Proofs.Tryz.prog W 132 [.s s] (.tup [.s (cleanS s).1, .i .i64 (cleanS s).2]) [] := path_clean W hW s
theorem w_graph_Check (W : World) {m0 : Int} (hW : W.cell? ⟨0, 0, none⟩ = some (.int .i64 m0)) (g : DGraph) : PureAt Go.Proofs.Tryz.prog W 18 [DGraph.av g] (.i .i64 (m_ad g)) [] := by
  rw [← gOf_av]; exact graph_check W hW (gOf g)
theorem w_path_Is (W : World) {m0 : Int} (hW : W.cell? ⟨0, 0, none⟩ = some (.int .i64 m0)) (s' : ByteArray) : PureAt Go.Proofs.Tryz.prog W 101 [(AV.s s')] (AV.b (m_4 s')) [] := by
 refine pure_of_bodyC (fn := Go.Proofs.Tryz.f101) Go.Proofs.Tryz.func101 rfl (en101 W) (ts := [2]) rfl le <| Sq <| Rg <| Aq (AV.b false) <| Ad <| Sq <| Rg <| Aq (AV.s s') <| AOps.sc0 (vs := [(AV.s s')]) (r0 := (AV.tup [(AV.s ((cleanS s').1)), (AV.i .i64 ((cleanS s').2))])) kr kr (w_path_Clean W hW s') kr le <| Aq (AV.tup [(AV.s ((cleanS s').1)), (AV.i .i64 ((cleanS s').2))]) <| Aq (AV.s ((cleanS s').1)) <| Aq (AV.i .i64 ((cleanS s').2)) <| Aq (AV.s ((cleanS s').1)) <| Aq (AV.i .i64 ((cleanS s').2)) <| Ad <| Sq <| Rg <| Aq (AV.i .i64 ((cleanS s').2)) <| Aq (AV.b (decide ((cleanS s').2 = (0 : Int)))) <| Aq (AV.b (decide ((cleanS s').2 = (0 : Int)))) ?_
 cases c_1 : decide ((cleanS s').2 = (0 : Int))
 have k_1 := of_decide_eq_false c_1
 refine An <| An <| An <| Aq (AV.b false) <| Aq (AV.b false) <| Ad <| Rt ?_
 have hM : m_4 s' = false := by simp only [m_4, c_1, sbt]
 refine ⟨Or.inr rfl, ?_⟩
 rw [hM]
 exact Ec
 have k_1 := of_decide_eq_true c_1
 refine Ay <| Aq (AV.s ((cleanS s').1)) <| Ay <| Aq (AV.s s') <| Ay <| Aq (AV.b (decide ((cleanS s').1 = s'))) <| Aq (AV.b (decide ((cleanS s').1 = s'))) <| Aq (AV.b (decide ((cleanS s').1 = s'))) <| Ad <| Rt ?_
 have hM : m_4 s' = decide ((cleanS s').1 = s') := by simp only [m_4, c_1, sbt]
 refine ⟨Or.inr rfl, ?_⟩
 rw [hM]
 exact Ec
theorem w_path_All (W : World) {m0 : Int} (hW : W.cell? ⟨0, 0, none⟩ = some (.int .i64 m0)) (ss : List ByteArray) (most' : Int) : PureAt Go.Proofs.Tryz.prog W 61 [((slA 1 AV.s) ss), (AV.i .i64 most')] (AV.b (m_at ss most')) [] := by
 refine pure_of_bodyC (fn := Go.Proofs.Tryz.f61) Go.Proofs.Tryz.func61 rfl (en61 W) (ts := [4]) rfl le <| Sq <| Rg <| Aq (AV.b false) <| Ad <| Sq <| Sq <| Rg <| Aq ((slA 1 AV.s) ss) <| Ap (Ai ss.length) (g_len (k := 1) (nl := false) (e := 9) (A := AV.s) (xs := ss) kr kr) <| Aq (AV.i .i64 (0 : Int)) <| Ad <| Awp.block <| Awp.lim 0 (x := ((slA 1 AV.s) ss)) kr fun hlm1 => ?_
 have hB1 : ss.length ≤ 281474976710656 := lim_slA hlm1
 obtain ⟨R1, hR1⟩ : ∃ R, m_bb ss 0 = R := ⟨_, rfl⟩
 refine Awp.loopT (fun (v9 : Nat) => [(0, ((slA 1 AV.s) ss)), (1, (AV.i .i64 most')), (7, ((slA 1 AV.s) ss)), (8, (Ai ss.length)), (9, (Ai v9))]) (fun (v9 : Nat) => ⟨0, []⟩) (fun (v9 : Nat) => v9 ≤ ss.length ∧ m_bb (ss.drop v9) v9 = R1) (fun (v9 : Nat) => ss.length - v9) 0 ?_ ?_ ?_
 exact ⟨[], ⟨by decide, rfl, FitsObjs.nil, (Ee (Ee (Ee (Ee (Ee EntE.nil)))))⟩, keep0⟩
 exact ⟨od, hR1⟩
 rintro v9 ⟨hi1, hE1⟩
 try dsimp only
 refine Sq <| Rg <| Aq (AV.b (decide (((v9 : Nat) : Int) < ((ss.length : Nat) : Int)))) <| Ad <| Sq ?_
 rcases Nat.lt_or_ge v9 ss.length with hl1 | hl1
 have hc1 : decide (((v9 : Nat) : Int) < ((ss.length : Nat) : Int)) = true := decide_eq_true (by omega)
 refine Awp.cond (t := true) (by rw [← hc1] <;> kernel_rfl) (Awp.skip ?_)
 obtain ⟨x1, hx1⟩ : ∃ x, ss[v9]? = some x := ⟨_, List.getElem?_eq_getElem hl1⟩
 rw [drop_at hx1, m_bb.eq_2] at hE1
 refine Sq <| Awp.block <| Sq <| Rg <| Ap (AV.pt (AV.s x1).cells) (g_idx (k := 1) (nl := false) (e := 9) (kk := .i64) (A := AV.s) (xs := ss) (i := v9) kr kr kr ⟨by kernel_rfl, by decide⟩ hx1) <| Aq (AV.s x1) <| Aq (AV.s x1) <| Ad <| Sq <| Rg <| Aq (AV.s x1) <| AOps.sc0 (vs := [(AV.s x1)]) (r0 := (AV.b (m_4 x1))) kr kr (w_path_Is W hW x1) kr le <| Aq (AV.b (!(m_4 x1))) <| Ad ?_
 cases c_1 : (!(m_4 x1))
 refine Cf <| Awp.skip <| Rg <| Ap (Ai (v9 + 1)) (g_addN (i := v9) (m := 1) kr kr sd) <| Aq (Ai (v9 + 1)) <| Ad ?_
 try simp only [c_1, sbt] at hE1
 refine ⟨v9 + 1, od, ⟨od, hE1⟩, ?_⟩
 exact ⟨[], ⟨by decide, rfl, FitsObjs.nil, (Ee (Ee (Ee (Ee (Ee EntE.nil)))))⟩, keep0⟩
 refine Ct <| Sq <| Rg <| Aq (AV.b false) <| Ad <| Rt ?_
 try simp only [c_1, sbt] at hE1
 subst hE1
 have hM : m_at ss most' = false := by simp only [m_at, hR1, sbt]
 refine ⟨Or.inr rfl, ?_⟩
 rw [hM]
 exact Ec
 have hc1 : decide (((v9 : Nat) : Int) < ((ss.length : Nat) : Int)) = false := decide_eq_false (by omega)
 refine Awp.cond (t := false) (by rw [← hc1] <;> kernel_rfl) (Awp.exit ?_)
 rw [List.drop_eq_nil_of_le (hl1), m_bb.eq_1] at hE1
 subst hE1
 refine Sq <| Rg <| Aq ((slA 1 AV.s) ss) <| Ap (Ai ss.length) (g_len (k := 1) (nl := false) (e := 9) (A := AV.s) (xs := ss) kr kr) <| Aq (AV.i .i64 most') <| Aq (AV.b (decide (((ss.length : Nat) : Int) ≤ most'))) <| Aq (AV.b (decide (((ss.length : Nat) : Int) ≤ most'))) <| Ad <| Rt ?_
 have hM : m_at ss most' = decide (((ss.length : Nat) : Int) ≤ most') := by simp only [m_at, hR1, sbt]
 refine ⟨Or.inr rfl, ?_⟩
 rw [hM]
 exact Ec
theorem w_name_Plain (W : World) (s' : ByteArray) (most' : Int) : PureAt Go.Proofs.Tryz.prog W 128 [(AV.s s'), (AV.i .i64 most')] (AV.b (m_af s' most')) [] := by
 refine pure_of_bodyC (fn := Go.Proofs.Tryz.f128) Go.Proofs.Tryz.func128 rfl (en128 W) (ts := [4]) rfl le <| Sq <| Rg <| Aq (AV.b false) <| Ad <| Sq <| Sq <| Rg <| Aq (AV.s s') <| Aq (Ai s'.size) <| Aq (AV.i .i64 (0 : Int)) <| Ad <| Awp.block <| Awp.lim 0 (x := (AV.s s')) kr fun hlm1 => ?_
 have hB1 : s'.size ≤ 281474976710656 := lim_s hlm1
 obtain ⟨R1, hR1⟩ : ∃ R, m_a3 s'.data.toList 0 = R := ⟨_, rfl⟩
 refine Awp.loopT (fun (v8 : Nat) => [(0, (AV.s s')), (1, (AV.i .i64 most')), (7, (Ai s'.size)), (8, (Ai v8))]) (fun (v8 : Nat) => ⟨0, []⟩) (fun (v8 : Nat) => v8 ≤ s'.size ∧ m_a3 (s'.data.toList.drop v8) v8 = R1) (fun (v8 : Nat) => s'.size - v8) 0 ?_ ?_ ?_
 exact ⟨[], ⟨by decide, rfl, FitsObjs.nil, (Ee (Ee (Ee (Ee EntE.nil))))⟩, keep0⟩
 exact ⟨od, hR1⟩
 rintro v8 ⟨hi1, hE1⟩
 try dsimp only
 refine Sq <| Rg <| Aq (AV.b (decide (((v8 : Nat) : Int) < ((s'.size : Nat) : Int)))) <| Ad <| Sq ?_
 rcases Nat.lt_or_ge v8 s'.size with hl1 | hl1
 have hc1 : decide (((v8 : Nat) : Int) < ((s'.size : Nat) : Int)) = true := decide_eq_true (by omega)
 refine Awp.cond (t := true) (by rw [← hc1] <;> kernel_rfl) (Awp.skip ?_)
 obtain ⟨x1, hx1, hx1l⟩ := data_get hl1
 rw [drop_at hx1l, m_a3.eq_2] at hE1
 refine Sq <| Awp.block <| Sq <| Rg <| Aq (Ai v8) <| Aq (Ai v8) <| Ad <| Sq <| Rg <| Aq (AV.s s') <| Aq (Ai v8) <| Ap (AV.i .u8 (x1.toNat : Int)) (g_str (kk := .i64) (s := s') (i := v8) (b := x1) kr kr kr hx1) <| Aq (AV.b (decide ((x1.toNat : Int) < (32 : Int)))) <| Aq (AV.b (decide ((x1.toNat : Int) < (32 : Int)))) ?_
 cases c_1 : decide ((x1.toNat : Int) < (32 : Int))
 have k_1 := of_decide_eq_false c_1
 refine Ay <| Aq (AV.s s') <| Ay <| Aq (Ai v8) <| Ay <| Ap (AV.i .u8 (x1.toNat : Int)) (g_str (kk := .i64) (s := s') (i := v8) (b := x1) kr kr kr hx1) <| Ay <| Aq (AV.b (decide ((126 : Int) < (x1.toNat : Int)))) <| Aq (AV.b (decide ((126 : Int) < (x1.toNat : Int)))) <| Ad ?_
 cases c_2 : decide ((126 : Int) < (x1.toNat : Int))
 have k_2 := of_decide_eq_false c_2
 refine Cf <| Awp.skip <| Rg <| Ap (Ai (v8 + 1)) (g_addN (i := v8) (m := 1) kr kr sd) <| Aq (Ai (v8 + 1)) <| Ad ?_
 try simp only [c_1, c_2, sbt] at hE1
 refine ⟨v8 + 1, od, ⟨od, hE1⟩, ?_⟩
 exact ⟨[], ⟨by decide, rfl, FitsObjs.nil, (Ee (Ee (Ee (Ee EntE.nil))))⟩, keep0⟩
 have k_2 := of_decide_eq_true c_2
 refine Ct <| Sq <| Rg <| Aq (AV.b false) <| Ad <| Rt ?_
 try simp only [c_1, c_2, sbt] at hE1
 subst hE1
 have hM : m_af s' most' = false := by simp only [m_af, hR1, sbt]
 refine ⟨Or.inr rfl, ?_⟩
 rw [hM]
 exact Ec
 have k_1 := of_decide_eq_true c_1
 refine An <| An <| An <| An <| Aq (AV.b true) <| Ad <| Ct <| Sq <| Rg <| Aq (AV.b false) <| Ad <| Rt ?_
 try simp only [c_1, sbt] at hE1
 subst hE1
 have hM : m_af s' most' = false := by simp only [m_af, hR1, sbt]
 refine ⟨Or.inr rfl, ?_⟩
 rw [hM]
 exact Ec
 have hc1 : decide (((v8 : Nat) : Int) < ((s'.size : Nat) : Int)) = false := decide_eq_false (by omega)
 refine Awp.cond (t := false) (by rw [← hc1] <;> kernel_rfl) (Awp.exit ?_)
 rw [List.drop_eq_nil_of_le (bytes_le hl1), m_a3.eq_1] at hE1
 subst hE1
 refine Sq <| Rg <| Aq (AV.s s') <| Aq (Ai s'.size) <| Aq (AV.i .i64 most') <| Aq (AV.b (decide (((s'.size : Nat) : Int) ≤ most'))) <| Aq (AV.b (decide (((s'.size : Nat) : Int) ≤ most'))) <| Ad <| Rt ?_
 have hM : m_af s' most' = decide (((s'.size : Nat) : Int) ≤ most') := by simp only [m_af, hR1, sbt]
 refine ⟨Or.inr rfl, ?_⟩
 rw [hM]
 exact Ec
theorem w_graph_Command (W : World) (s' : ByteArray) : PureAt Go.Proofs.Tryz.prog W 97 [(AV.s s')] (AV.b (m_aj s')) [] := by
 refine pure_of_bodyC (fn := Go.Proofs.Tryz.f97) Go.Proofs.Tryz.func97 rfl (en97 W) (ts := [2]) rfl le <| Sq <| Rg <| Aq (AV.b false) <| Ad <| Sq <| Rg <| Aq (AV.s s') <| Aq (AV.b (!decide (s' = (⟨#[]⟩ : ByteArray)))) <| Aq (AV.b (!decide (s' = (⟨#[]⟩ : ByteArray)))) ?_
 cases c_1 : (!decide (s' = (⟨#[]⟩ : ByteArray)))
 refine An <| An <| Aq (AV.b false) <| Aq (AV.b false) <| Ad <| Rt ?_
 have hM : m_aj s' = false := by simp only [m_aj, c_1, sbt]
 refine ⟨Or.inr rfl, ?_⟩
 rw [hM]
 exact Ec
 refine Ay <| Aq (AV.s s') <| Ay <| AOps.sc0 (vs := [(AV.s s'), (AV.i .i64 (256 : Int))]) (r0 := (AV.b (m_af s' (256 : Int)))) kr kr (w_name_Plain W s' (256 : Int)) kr le <| Aq (AV.b (m_af s' (256 : Int))) <| Aq (AV.b (m_af s' (256 : Int))) <| Ad <| Rt ?_
 have hM : m_aj s' = (m_af s' (256 : Int)) := by simp only [m_aj, c_1, sbt]
 refine ⟨Or.inr rfl, ?_⟩
 rw [hM]
 exact Ec
theorem w_slices_Index_int_int (W : World) (s' : List Int) (v : Int) : PureAt Go.Proofs.Tryz.prog W 106 [((slA 1 (AV.i .i64)) s'), (AV.i .i64 v)] (AV.i .i64 (m_1 s' v)) [] := by
 refine pure_of_bodyC (fn := Go.Proofs.Tryz.f106) Go.Proofs.Tryz.func106 rfl (en106 W) (ts := [4]) rfl le <| Sq <| Rg <| Aq (AV.i .i64 (0 : Int)) <| Ad <| Sq <| Sq <| Rg <| Aq ((slA 1 (AV.i .i64)) s') <| Ap (Ai s'.length) (g_len (k := 1) (nl := false) (e := 3) (A := (AV.i .i64)) (xs := s') kr kr) <| Aq (AV.i .i64 (0 : Int)) <| Ad <| Awp.block <| Awp.lim 0 (x := ((slA 1 (AV.i .i64)) s')) kr fun hlm1 => ?_
 have hB1 : s'.length ≤ 281474976710656 := lim_slA hlm1
 obtain ⟨R1, hR1⟩ : ∃ R, m_ae v s' 0 = R := ⟨_, rfl⟩
 refine Awp.loopT (fun (v8 : Nat) => [(0, ((slA 1 (AV.i .i64)) s')), (1, (AV.i .i64 v)), (7, (Ai s'.length)), (8, (Ai v8))]) (fun (v8 : Nat) => ⟨0, []⟩) (fun (v8 : Nat) => v8 ≤ s'.length ∧ m_ae v (s'.drop v8) v8 = R1) (fun (v8 : Nat) => s'.length - v8) 0 ?_ ?_ ?_
 exact ⟨[], ⟨by decide, rfl, FitsObjs.nil, (Ee (Ee (Ee (Ee EntE.nil))))⟩, keep0⟩
 exact ⟨od, hR1⟩
 rintro v8 ⟨hi1, hE1⟩
 try dsimp only
 refine Sq <| Rg <| Aq (AV.b (decide (((v8 : Nat) : Int) < ((s'.length : Nat) : Int)))) <| Ad <| Sq ?_
 rcases Nat.lt_or_ge v8 s'.length with hl1 | hl1
 have hc1 : decide (((v8 : Nat) : Int) < ((s'.length : Nat) : Int)) = true := decide_eq_true (by omega)
 refine Awp.cond (t := true) (by rw [← hc1] <;> kernel_rfl) (Awp.skip ?_)
 obtain ⟨x1, hx1⟩ : ∃ x, s'[v8]? = some x := ⟨_, List.getElem?_eq_getElem hl1⟩
 rw [drop_at hx1, m_ae.eq_2] at hE1
 refine Sq <| Awp.block <| Sq <| Rg <| Aq (Ai v8) <| Aq (Ai v8) <| Ad <| Sq <| Rg <| Aq (AV.i .i64 v) <| Aq ((slA 1 (AV.i .i64)) s') <| Aq (Ai v8) <| Ap (AV.pt ((AV.i .i64) x1).cells) (g_idx (k := 1) (nl := false) (e := 3) (kk := .i64) (A := (AV.i .i64)) (xs := s') (i := v8) kr kr kr ⟨by kernel_rfl, by decide⟩ hx1) <| Aq (AV.i .i64 x1) <| Aq (AV.b (decide (v = x1))) <| Ad ?_
 cases c_1 : decide (v = x1)
 have k_1 := of_decide_eq_false c_1
 refine Cf <| Awp.skip <| Rg <| Ap (Ai (v8 + 1)) (g_addN (i := v8) (m := 1) kr kr sd) <| Aq (Ai (v8 + 1)) <| Ad ?_
 try simp only [c_1, sbt] at hE1
 refine ⟨v8 + 1, od, ⟨od, hE1⟩, ?_⟩
 exact ⟨[], ⟨by decide, rfl, FitsObjs.nil, (Ee (Ee (Ee (Ee EntE.nil))))⟩, keep0⟩
 have k_1 := of_decide_eq_true c_1
 refine Ct <| Sq <| Rg <| Aq (Ai v8) <| Aq (Ai v8) <| Ad <| Rt ?_
 try simp only [c_1, sbt] at hE1
 subst hE1
 have hM : m_1 s' v = ((v8 : Nat) : Int) := by simp only [m_1, hR1, sbt]
 refine ⟨Or.inr rfl, ?_⟩
 rw [hM]
 exact Ec
 have hc1 : decide (((v8 : Nat) : Int) < ((s'.length : Nat) : Int)) = false := decide_eq_false (by omega)
 refine Awp.cond (t := false) (by rw [← hc1] <;> kernel_rfl) (Awp.exit ?_)
 rw [List.drop_eq_nil_of_le (hl1), m_ae.eq_1] at hE1
 subst hE1
 refine Sq <| Rg <| Aq (AV.i .i64 (-1 : Int)) <| Ad <| Rt ?_
 have hM : m_1 s' v = (-1 : Int) := by simp only [m_1, hR1, sbt]
 refine ⟨Or.inr rfl, ?_⟩
 rw [hM]
 exact Ec
theorem w_slices_Contains_int_int (W : World) (s' : List Int) (v : Int) : PureAt Go.Proofs.Tryz.prog W 72 [((slA 1 (AV.i .i64)) s'), (AV.i .i64 v)] (AV.b (m_q s' v)) [] := by
 refine pure_of_bodyC (fn := Go.Proofs.Tryz.f72) Go.Proofs.Tryz.func72 rfl (en72 W) (ts := [4]) rfl le <| Sq <| Rg <| Aq (AV.b false) <| Ad <| Sq <| Rg <| Aq ((slA 1 (AV.i .i64)) s') <| Aq (AV.i .i64 v) <| AOps.sc0 (vs := [((slA 1 (AV.i .i64)) s'), (AV.i .i64 v)]) (r0 := (AV.i .i64 (m_1 s' v))) kr kr (w_slices_Index_int_int W s' v) kr le <| Aq (AV.b (decide ((0 : Int) ≤ (m_1 s' v)))) <| Aq (AV.b (decide ((0 : Int) ≤ (m_1 s' v)))) <| Ad <| Rt ?_
 have hM : m_q s' v = decide ((0 : Int) ≤ (m_1 s' v)) := by simp only [m_q, sbt]
 refine ⟨Or.inr rfl, ?_⟩
 rw [hM]
 exact Ec
theorem w_slices_Index_string_string (W : World) (s' : List ByteArray) (v : ByteArray) : PureAt Go.Proofs.Tryz.prog W 116 [((slA 1 AV.s) s'), (AV.s v)] (AV.i .i64 (m_t s' v)) [] := by
 refine pure_of_bodyC (fn := Go.Proofs.Tryz.f116) Go.Proofs.Tryz.func116 rfl (en116 W) (ts := [4]) rfl le <| Sq <| Rg <| Aq (AV.i .i64 (0 : Int)) <| Ad <| Sq <| Sq <| Rg <| Aq ((slA 1 AV.s) s') <| Ap (Ai s'.length) (g_len (k := 1) (nl := false) (e := 9) (A := AV.s) (xs := s') kr kr) <| Aq (AV.i .i64 (0 : Int)) <| Ad <| Awp.block <| Awp.lim 0 (x := ((slA 1 AV.s) s')) kr fun hlm1 => ?_
 have hB1 : s'.length ≤ 281474976710656 := lim_slA hlm1
 obtain ⟨R1, hR1⟩ : ∃ R, m_5 v s' 0 = R := ⟨_, rfl⟩
 refine Awp.loopT (fun (v8 : Nat) => [(0, ((slA 1 AV.s) s')), (1, (AV.s v)), (7, (Ai s'.length)), (8, (Ai v8))]) (fun (v8 : Nat) => ⟨0, []⟩) (fun (v8 : Nat) => v8 ≤ s'.length ∧ m_5 v (s'.drop v8) v8 = R1) (fun (v8 : Nat) => s'.length - v8) 0 ?_ ?_ ?_
 exact ⟨[], ⟨by decide, rfl, FitsObjs.nil, (Ee (Ee (Ee (Ee EntE.nil))))⟩, keep0⟩
 exact ⟨od, hR1⟩
 rintro v8 ⟨hi1, hE1⟩
 try dsimp only
 refine Sq <| Rg <| Aq (AV.b (decide (((v8 : Nat) : Int) < ((s'.length : Nat) : Int)))) <| Ad <| Sq ?_
 rcases Nat.lt_or_ge v8 s'.length with hl1 | hl1
 have hc1 : decide (((v8 : Nat) : Int) < ((s'.length : Nat) : Int)) = true := decide_eq_true (by omega)
 refine Awp.cond (t := true) (by rw [← hc1] <;> kernel_rfl) (Awp.skip ?_)
 obtain ⟨x1, hx1⟩ : ∃ x, s'[v8]? = some x := ⟨_, List.getElem?_eq_getElem hl1⟩
 rw [drop_at hx1, m_5.eq_2] at hE1
 refine Sq <| Awp.block <| Sq <| Rg <| Aq (Ai v8) <| Aq (Ai v8) <| Ad <| Sq <| Rg <| Aq (AV.s v) <| Aq ((slA 1 AV.s) s') <| Aq (Ai v8) <| Ap (AV.pt (AV.s x1).cells) (g_idx (k := 1) (nl := false) (e := 9) (kk := .i64) (A := AV.s) (xs := s') (i := v8) kr kr kr ⟨by kernel_rfl, by decide⟩ hx1) <| Aq (AV.s x1) <| Aq (AV.b (decide (v = x1))) <| Ad ?_
 cases c_1 : decide (v = x1)
 have k_1 := of_decide_eq_false c_1
 refine Cf <| Awp.skip <| Rg <| Ap (Ai (v8 + 1)) (g_addN (i := v8) (m := 1) kr kr sd) <| Aq (Ai (v8 + 1)) <| Ad ?_
 try simp only [c_1, sbt] at hE1
 refine ⟨v8 + 1, od, ⟨od, hE1⟩, ?_⟩
 exact ⟨[], ⟨by decide, rfl, FitsObjs.nil, (Ee (Ee (Ee (Ee EntE.nil))))⟩, keep0⟩
 have k_1 := of_decide_eq_true c_1
 refine Ct <| Sq <| Rg <| Aq (Ai v8) <| Aq (Ai v8) <| Ad <| Rt ?_
 try simp only [c_1, sbt] at hE1
 subst hE1
 have hM : m_t s' v = ((v8 : Nat) : Int) := by simp only [m_t, hR1, sbt]
 refine ⟨Or.inr rfl, ?_⟩
 rw [hM]
 exact Ec
 have hc1 : decide (((v8 : Nat) : Int) < ((s'.length : Nat) : Int)) = false := decide_eq_false (by omega)
 refine Awp.cond (t := false) (by rw [← hc1] <;> kernel_rfl) (Awp.exit ?_)
 rw [List.drop_eq_nil_of_le (hl1), m_5.eq_1] at hE1
 subst hE1
 refine Sq <| Rg <| Aq (AV.i .i64 (-1 : Int)) <| Ad <| Rt ?_
 have hM : m_t s' v = (-1 : Int) := by simp only [m_t, hR1, sbt]
 refine ⟨Or.inr rfl, ?_⟩
 rw [hM]
 exact Ec
theorem w_slices_Contains_string_string (W : World) (s' : List ByteArray) (v : ByteArray) : PureAt Go.Proofs.Tryz.prog W 94 [((slA 1 AV.s) s'), (AV.s v)] (AV.b (m_x s' v)) [] := by
 refine pure_of_bodyC (fn := Go.Proofs.Tryz.f94) Go.Proofs.Tryz.func94 rfl (en94 W) (ts := [4]) rfl le <| Sq <| Rg <| Aq (AV.b false) <| Ad <| Sq <| Rg <| Aq ((slA 1 AV.s) s') <| Aq (AV.s v) <| AOps.sc0 (vs := [((slA 1 AV.s) s'), (AV.s v)]) (r0 := (AV.i .i64 (m_t s' v))) kr kr (w_slices_Index_string_string W s' v) kr le <| Aq (AV.b (decide ((0 : Int) ≤ (m_t s' v)))) <| Aq (AV.b (decide ((0 : Int) ≤ (m_t s' v)))) <| Ad <| Rt ?_
 have hM : m_x s' v = decide ((0 : Int) ≤ (m_t s' v)) := by simp only [m_x, sbt]
 refine ⟨Or.inr rfl, ?_⟩
 rw [hM]
 exact Ec
theorem w_slices_IndexFunc_api_Edge_api_Edge (W : World) (s' : List DEdge) (f_f : FuncId) (c_f : List AV) (f : DEdge → Bool) (hcl_f : closedL c_f = true) (hp_f : ∀ (z0 : DEdge), PureAt Go.Proofs.Tryz.prog W f_f ((DEdge.av z0) :: c_f) (AV.b (f z0)) []) : PureAt Go.Proofs.Tryz.prog W 92 [((slA 7 DEdge.av) s'), (AV.fn f_f c_f)] (AV.i .i64 (m_l s' f)) [] := by
 refine pure_of_bodyC (fn := Go.Proofs.Tryz.f92) Go.Proofs.Tryz.func92 rfl (en92 W) (ts := [4]) rfl le <| Sq <| Rg <| Aq (AV.i .i64 (0 : Int)) <| Ad <| Sq <| Sq <| Rg <| Aq ((slA 7 DEdge.av) s') <| Ap (Ai s'.length) (g_len (k := 7) (nl := false) (e := 76) (A := DEdge.av) (xs := s') kr kr) <| Aq (AV.i .i64 (0 : Int)) <| Ad <| Awp.block <| Awp.lim 0 (x := ((slA 7 DEdge.av) s')) kr fun hlm1 => ?_
 have hB1 : s'.length ≤ 281474976710656 := lim_slA hlm1
 obtain ⟨R1, hR1⟩ : ∃ R, m_p f s' 0 = R := ⟨_, rfl⟩
 refine Awp.loopT (fun (v8 : Nat) => [(0, ((slA 7 DEdge.av) s')), (1, (AV.fn f_f c_f)), (7, (Ai s'.length)), (8, (Ai v8))]) (fun (v8 : Nat) => ⟨0, []⟩) (fun (v8 : Nat) => v8 ≤ s'.length ∧ m_p f (s'.drop v8) v8 = R1) (fun (v8 : Nat) => s'.length - v8) 0 ?_ ?_ ?_
 exact ⟨[], ⟨by decide, rfl, FitsObjs.nil, (Ee (EntE.cons (Ent.c kr hcl_f) (Ee (Ee EntE.nil))))⟩, keep0⟩
 exact ⟨od, hR1⟩
 rintro v8 ⟨hi1, hE1⟩
 try dsimp only
 refine Sq <| Rg <| Aq (AV.b (decide (((v8 : Nat) : Int) < ((s'.length : Nat) : Int)))) <| Ad <| Sq ?_
 rcases Nat.lt_or_ge v8 s'.length with hl1 | hl1
 have hc1 : decide (((v8 : Nat) : Int) < ((s'.length : Nat) : Int)) = true := decide_eq_true (by omega)
 refine Awp.cond (t := true) (by rw [← hc1] <;> kernel_rfl) (Awp.skip ?_)
 obtain ⟨x1, hx1⟩ : ∃ x, s'[v8]? = some x := ⟨_, List.getElem?_eq_getElem hl1⟩
 rw [drop_at hx1, m_p.eq_2] at hE1
 refine Sq <| Awp.block <| Sq <| Rg <| Aq (Ai v8) <| Aq (Ai v8) <| Ad <| Sq <| Rg <| Aq (AV.fn f_f c_f) <| Aq ((slA 7 DEdge.av) s') <| Aq (Ai v8) <| Ap (AV.pt (DEdge.av x1).cells) (g_idx (k := 7) (nl := false) (e := 76) (kk := .i64) (A := DEdge.av) (xs := s') (i := v8) kr kr kr ⟨by kernel_rfl, by decide⟩ hx1) <| Aq (DEdge.av x1) <| AOps.sc0 (vs := ((DEdge.av x1) :: c_f)) (r0 := (AV.b (f x1))) kr (by simp only [closedL, Bool.and_eq_true]; exact ⟨by kernel_rfl, hcl_f⟩) (hp_f x1) kr le <| Ad ?_
 cases c_1 : (f x1)
 refine Cf <| Awp.skip <| Rg <| Ap (Ai (v8 + 1)) (g_addN (i := v8) (m := 1) kr kr sd) <| Aq (Ai (v8 + 1)) <| Ad ?_
 try simp only [c_1, sbt] at hE1
 refine ⟨v8 + 1, od, ⟨od, hE1⟩, ?_⟩
 exact ⟨[], ⟨by decide, rfl, FitsObjs.nil, (Ee (EntE.cons (Ent.c kr hcl_f) (Ee (Ee EntE.nil))))⟩, keep0⟩
 refine Ct <| Sq <| Rg <| Aq (Ai v8) <| Aq (Ai v8) <| Ad <| Rt ?_
 try simp only [c_1, sbt] at hE1
 subst hE1
 have hM : m_l s' f = ((v8 : Nat) : Int) := by simp only [m_l, hR1, sbt]
 refine ⟨Or.inr rfl, ?_⟩
 rw [hM]
 exact Ec
 have hc1 : decide (((v8 : Nat) : Int) < ((s'.length : Nat) : Int)) = false := decide_eq_false (by omega)
 refine Awp.cond (t := false) (by rw [← hc1] <;> kernel_rfl) (Awp.exit ?_)
 rw [List.drop_eq_nil_of_le (hl1), m_p.eq_1] at hE1
 subst hE1
 refine Sq <| Rg <| Aq (AV.i .i64 (-1 : Int)) <| Ad <| Rt ?_
 have hM : m_l s' f = (-1 : Int) := by simp only [m_l, hR1, sbt]
 refine ⟨Or.inr rfl, ?_⟩
 rw [hM]
 exact Ec
theorem w_graph_Makes_1 (W : World) (e : DEdge) (name : ByteArray) : PureAt Go.Proofs.Tryz.prog W 93 [(DEdge.av e), (AV.pt (AV.s name).cells)] (AV.b (m_ak e name)) [] := by
 refine pure_of_bodyC (fn := Go.Proofs.Tryz.f93) Go.Proofs.Tryz.func93 rfl (en93 W) (ts := [3]) rfl le <| Sq <| Rg <| Nn (AV.loc 0 0 0) ⟨76, 7, [(DEdge.av e)]⟩ <| Aq (AV.b false) <| Ad <| Sq <| Rg <| Aq (AV.loc 0 0 0) <| Aq ((slA 1 AV.s) e.outs) <| Aq (AV.s name) <| AOps.sc0 (vs := [((slA 1 AV.s) e.outs), (AV.s name)]) (r0 := (AV.b (m_x e.outs name))) kr kr (w_slices_Contains_string_string W e.outs name) kr le <| Aq (AV.b (m_x e.outs name)) <| Ad <| Rt ?_
 have hM : m_ak e name = (m_x e.outs name) := by simp only [m_ak, sbt]
 refine ⟨Or.inr rfl, ?_⟩
 rw [hM]
 exact Ec
theorem w_graph_Makes (W : World) (g : DGraph) (s' : ByteArray) : PureAt Go.Proofs.Tryz.prog W 51 [(AV.pt (DGraph.av g).cells), (AV.s s')] (AV.i .i64 (m_o g s')) [] := by
 refine pure_of_bodyC (fn := Go.Proofs.Tryz.f51) Go.Proofs.Tryz.func51 rfl (en51 W) (ts := [4]) rfl le <| Sq <| Rg <| Nn (AV.loc 0 0 0) ⟨9, 1, [(AV.s s')]⟩ <| Aq (AV.i .i64 (0 : Int)) <| Ad <| Sq <| Rg <| Aq (AV.pt (DGraph.av g).cells) <| Aq (AV.pt (DGraph.av g).cells) <| Aq (AV.pt ((DGraph.av g).cells.drop 0)) <| Aq ((slA 7 DEdge.av) g.edges) <| Aq (AV.fn 93 [(AV.loc 0 0 0)]) <| AOps.sfw (vs := [((slA 7 DEdge.av) g.edges), (AV.fn 93 [(AV.loc 0 0 0)])]) (ss := [((slA 7 DEdge.av) g.edges), (AV.fn 93 [(AV.pt (AV.s s').cells)])]) (r0 := (AV.i .i64 (m_l g.edges (fun z0 => m_ak z0 s')))) kr (show SnapW _ _ _ from ⟨(SnapW.e kr), ⟨(EntK.w (EntK.cast (x' := (AV.fn 93 [(AV.loc 0 0 0)])) kr kr (EntK.fn (EntKs.cons (EntK.loc1 (id := 0) (j := 0) (ob := ⟨9, 1, [(AV.s s')]⟩) (x := (AV.s s')) rfl rfl rfl rfl (EntK.cr (x := (AV.s s')) kr)) EntKs.nil)))), trivial⟩⟩) (w_slices_IndexFunc_api_Edge_api_Edge W g.edges 93 [(AV.pt (AV.s s').cells)] (fun z0 => m_ak z0 s') kr (fun z0 => (w_graph_Makes_1 W z0 s'))) rfl kr le <| Aq (AV.i .i64 (m_l g.edges (fun z0 => m_ak z0 s'))) <| Ad <| Rt ?_
 have hM : m_o g s' = (m_l g.edges (fun z0 => m_ak z0 s')) := by simp only [m_o, sbt]
 refine ⟨Or.inr rfl, ?_⟩
 rw [hM]
 exact Ec
theorem w_slices_IndexFunc_int_int (W : World) (s' : List Int) (f_f : FuncId) (c_f : List AV) (f : Int → Bool) (hcl_f : closedL c_f = true) (hp_f : ∀ (z0 : Int), PureAt Go.Proofs.Tryz.prog W f_f ((AV.i .i64 z0) :: c_f) (AV.b (f z0)) []) : PureAt Go.Proofs.Tryz.prog W 107 [((slA 1 (AV.i .i64)) s'), (AV.fn f_f c_f)] (AV.i .i64 (m_f s' f)) [] := by
 refine pure_of_bodyC (fn := Go.Proofs.Tryz.f107) Go.Proofs.Tryz.func107 rfl (en107 W) (ts := [4]) rfl le <| Sq <| Rg <| Aq (AV.i .i64 (0 : Int)) <| Ad <| Sq <| Sq <| Rg <| Aq ((slA 1 (AV.i .i64)) s') <| Ap (Ai s'.length) (g_len (k := 1) (nl := false) (e := 3) (A := (AV.i .i64)) (xs := s') kr kr) <| Aq (AV.i .i64 (0 : Int)) <| Ad <| Awp.block <| Awp.lim 0 (x := ((slA 1 (AV.i .i64)) s')) kr fun hlm1 => ?_
 have hB1 : s'.length ≤ 281474976710656 := lim_slA hlm1
 obtain ⟨R1, hR1⟩ : ∃ R, m_u f s' 0 = R := ⟨_, rfl⟩
 refine Awp.loopT (fun (v8 : Nat) => [(0, ((slA 1 (AV.i .i64)) s')), (1, (AV.fn f_f c_f)), (7, (Ai s'.length)), (8, (Ai v8))]) (fun (v8 : Nat) => ⟨0, []⟩) (fun (v8 : Nat) => v8 ≤ s'.length ∧ m_u f (s'.drop v8) v8 = R1) (fun (v8 : Nat) => s'.length - v8) 0 ?_ ?_ ?_
 exact ⟨[], ⟨by decide, rfl, FitsObjs.nil, (Ee (EntE.cons (Ent.c kr hcl_f) (Ee (Ee EntE.nil))))⟩, keep0⟩
 exact ⟨od, hR1⟩
 rintro v8 ⟨hi1, hE1⟩
 try dsimp only
 refine Sq <| Rg <| Aq (AV.b (decide (((v8 : Nat) : Int) < ((s'.length : Nat) : Int)))) <| Ad <| Sq ?_
 rcases Nat.lt_or_ge v8 s'.length with hl1 | hl1
 have hc1 : decide (((v8 : Nat) : Int) < ((s'.length : Nat) : Int)) = true := decide_eq_true (by omega)
 refine Awp.cond (t := true) (by rw [← hc1] <;> kernel_rfl) (Awp.skip ?_)
 obtain ⟨x1, hx1⟩ : ∃ x, s'[v8]? = some x := ⟨_, List.getElem?_eq_getElem hl1⟩
 rw [drop_at hx1, m_u.eq_2] at hE1
 refine Sq <| Awp.block <| Sq <| Rg <| Aq (Ai v8) <| Aq (Ai v8) <| Ad <| Sq <| Rg <| Aq (AV.fn f_f c_f) <| Aq ((slA 1 (AV.i .i64)) s') <| Aq (Ai v8) <| Ap (AV.pt ((AV.i .i64) x1).cells) (g_idx (k := 1) (nl := false) (e := 3) (kk := .i64) (A := (AV.i .i64)) (xs := s') (i := v8) kr kr kr ⟨by kernel_rfl, by decide⟩ hx1) <| Aq (AV.i .i64 x1) <| AOps.sc0 (vs := ((AV.i .i64 x1) :: c_f)) (r0 := (AV.b (f x1))) kr (by simp only [closedL, Bool.and_eq_true]; exact ⟨by kernel_rfl, hcl_f⟩) (hp_f x1) kr le <| Ad ?_
 cases c_1 : (f x1)
 refine Cf <| Awp.skip <| Rg <| Ap (Ai (v8 + 1)) (g_addN (i := v8) (m := 1) kr kr sd) <| Aq (Ai (v8 + 1)) <| Ad ?_
 try simp only [c_1, sbt] at hE1
 refine ⟨v8 + 1, od, ⟨od, hE1⟩, ?_⟩
 exact ⟨[], ⟨by decide, rfl, FitsObjs.nil, (Ee (EntE.cons (Ent.c kr hcl_f) (Ee (Ee EntE.nil))))⟩, keep0⟩
 refine Ct <| Sq <| Rg <| Aq (Ai v8) <| Aq (Ai v8) <| Ad <| Rt ?_
 try simp only [c_1, sbt] at hE1
 subst hE1
 have hM : m_f s' f = ((v8 : Nat) : Int) := by simp only [m_f, hR1, sbt]
 refine ⟨Or.inr rfl, ?_⟩
 rw [hM]
 exact Ec
 have hc1 : decide (((v8 : Nat) : Int) < ((s'.length : Nat) : Int)) = false := decide_eq_false (by omega)
 refine Awp.cond (t := false) (by rw [← hc1] <;> kernel_rfl) (Awp.exit ?_)
 rw [List.drop_eq_nil_of_le (hl1), m_u.eq_1] at hE1
 subst hE1
 refine Sq <| Rg <| Aq (AV.i .i64 (-1 : Int)) <| Ad <| Rt ?_
 have hM : m_f s' f = (-1 : Int) := by simp only [m_f, hR1, sbt]
 refine ⟨Or.inr rfl, ?_⟩
 rw [hM]
 exact Ec
theorem w_slices_IndexFunc_int_int_dom (W : World) (s' : List Int) (f_f : FuncId) (c_f : List AV) (f : Int → Bool) (hcl_f : closedL c_f = true) (hp_f : ∀ (z0 : Int), z0 ∈ s' → PureAt Go.Proofs.Tryz.prog W f_f ((AV.i .i64 z0) :: c_f) (AV.b (f z0)) []) : PureAt Go.Proofs.Tryz.prog W 107 [((slA 1 (AV.i .i64)) s'), (AV.fn f_f c_f)] (AV.i .i64 (m_f s' f)) [] := by
 refine pure_of_bodyC (fn := Go.Proofs.Tryz.f107) Go.Proofs.Tryz.func107 rfl (en107 W) (ts := [4]) rfl le <| Sq <| Rg <| Aq (AV.i .i64 (0 : Int)) <| Ad <| Sq <| Sq <| Rg <| Aq ((slA 1 (AV.i .i64)) s') <| Ap (Ai s'.length) (g_len (k := 1) (nl := false) (e := 3) (A := (AV.i .i64)) (xs := s') kr kr) <| Aq (AV.i .i64 (0 : Int)) <| Ad <| Awp.block <| Awp.lim 0 (x := ((slA 1 (AV.i .i64)) s')) kr fun hlm1 => ?_
 have hB1 : s'.length ≤ 281474976710656 := lim_slA hlm1
 obtain ⟨R1, hR1⟩ : ∃ R, m_u f s' 0 = R := ⟨_, rfl⟩
 refine Awp.loopT (fun (v8 : Nat) => [(0, ((slA 1 (AV.i .i64)) s')), (1, (AV.fn f_f c_f)), (7, (Ai s'.length)), (8, (Ai v8))]) (fun (v8 : Nat) => ⟨0, []⟩) (fun (v8 : Nat) => v8 ≤ s'.length ∧ m_u f (s'.drop v8) v8 = R1) (fun (v8 : Nat) => s'.length - v8) 0 ?_ ?_ ?_
 exact ⟨[], ⟨by decide, rfl, FitsObjs.nil, (Ee (EntE.cons (Ent.c kr hcl_f) (Ee (Ee EntE.nil))))⟩, keep0⟩
 exact ⟨od, hR1⟩
 rintro v8 ⟨hi1, hE1⟩
 try dsimp only
 refine Sq <| Rg <| Aq (AV.b (decide (((v8 : Nat) : Int) < ((s'.length : Nat) : Int)))) <| Ad <| Sq ?_
 rcases Nat.lt_or_ge v8 s'.length with hl1 | hl1
 have hc1 : decide (((v8 : Nat) : Int) < ((s'.length : Nat) : Int)) = true := decide_eq_true (by omega)
 refine Awp.cond (t := true) (by rw [← hc1] <;> kernel_rfl) (Awp.skip ?_)
 obtain ⟨x1, hx1⟩ : ∃ x, s'[v8]? = some x := ⟨_, List.getElem?_eq_getElem hl1⟩
 rw [drop_at hx1, m_u.eq_2] at hE1
 refine Sq <| Awp.block <| Sq <| Rg <| Aq (Ai v8) <| Aq (Ai v8) <| Ad <| Sq <| Rg <| Aq (AV.fn f_f c_f) <| Aq ((slA 1 (AV.i .i64)) s') <| Aq (Ai v8) <| Ap (AV.pt ((AV.i .i64) x1).cells) (g_idx (k := 1) (nl := false) (e := 3) (kk := .i64) (A := (AV.i .i64)) (xs := s') (i := v8) kr kr kr ⟨by kernel_rfl, by decide⟩ hx1) <| Aq (AV.i .i64 x1) <| AOps.sc0 (vs := ((AV.i .i64 x1) :: c_f)) (r0 := (AV.b (f x1))) kr (by simp only [closedL, Bool.and_eq_true]; exact ⟨by kernel_rfl, hcl_f⟩) (hp_f x1 (List.mem_of_getElem? hx1)) kr le <| Ad ?_
 cases c_1 : (f x1)
 refine Cf <| Awp.skip <| Rg <| Ap (Ai (v8 + 1)) (g_addN (i := v8) (m := 1) kr kr sd) <| Aq (Ai (v8 + 1)) <| Ad ?_
 try simp only [c_1, sbt] at hE1
 refine ⟨v8 + 1, od, ⟨od, hE1⟩, ?_⟩
 exact ⟨[], ⟨by decide, rfl, FitsObjs.nil, (Ee (EntE.cons (Ent.c kr hcl_f) (Ee (Ee EntE.nil))))⟩, keep0⟩
 refine Ct <| Sq <| Rg <| Aq (Ai v8) <| Aq (Ai v8) <| Ad <| Rt ?_
 try simp only [c_1, sbt] at hE1
 subst hE1
 have hM : m_f s' f = ((v8 : Nat) : Int) := by simp only [m_f, hR1, sbt]
 refine ⟨Or.inr rfl, ?_⟩
 rw [hM]
 exact Ec
 have hc1 : decide (((v8 : Nat) : Int) < ((s'.length : Nat) : Int)) = false := decide_eq_false (by omega)
 refine Awp.cond (t := false) (by rw [← hc1] <;> kernel_rfl) (Awp.exit ?_)
 rw [List.drop_eq_nil_of_le (hl1), m_u.eq_1] at hE1
 subst hE1
 refine Sq <| Rg <| Aq (AV.i .i64 (-1 : Int)) <| Ad <| Rt ?_
 have hM : m_f s' f = (-1 : Int) := by simp only [m_f, hR1, sbt]
 refine ⟨Or.inr rfl, ?_⟩
 rw [hM]
 exact Ec
theorem w_slices_ContainsFunc_int_int (W : World) (s' : List Int) (f_f : FuncId) (c_f : List AV) (f : Int → Bool) (hcl_f : closedL c_f = true) (hp_f : ∀ (z0 : Int), PureAt Go.Proofs.Tryz.prog W f_f ((AV.i .i64 z0) :: c_f) (AV.b (f z0)) []) : PureAt Go.Proofs.Tryz.prog W 74 [((slA 1 (AV.i .i64)) s'), (AV.fn f_f c_f)] (AV.b (m_e s' f)) [] := by
 refine pure_of_bodyC (fn := Go.Proofs.Tryz.f74) Go.Proofs.Tryz.func74 rfl (en74 W) (ts := [4]) rfl le <| Sq <| Rg <| Aq (AV.b false) <| Ad <| Sq <| Rg <| Aq ((slA 1 (AV.i .i64)) s') <| Aq (AV.fn f_f c_f) <| AOps.sc0 (vs := [((slA 1 (AV.i .i64)) s'), (AV.fn f_f c_f)]) (r0 := (AV.i .i64 (m_f s' f))) kr (by simp only [closedL, Bool.and_eq_true]; exact ⟨by kernel_rfl, hcl_f, trivial⟩) (w_slices_IndexFunc_int_int W s' f_f c_f f hcl_f hp_f) kr le <| Aq (AV.b (decide ((0 : Int) ≤ (m_f s' f)))) <| Aq (AV.b (decide ((0 : Int) ≤ (m_f s' f)))) <| Ad <| Rt ?_
 have hM : m_e s' f = decide ((0 : Int) ≤ (m_f s' f)) := by simp only [m_e, sbt]
 refine ⟨Or.inr rfl, ?_⟩
 rw [hM]
 exact Ec
theorem w_slices_ContainsFunc_int_int_dom (W : World) (s' : List Int) (f_f : FuncId) (c_f : List AV) (f : Int → Bool) (hcl_f : closedL c_f = true) (hp_f : ∀ (z0 : Int), z0 ∈ s' → PureAt Go.Proofs.Tryz.prog W f_f ((AV.i .i64 z0) :: c_f) (AV.b (f z0)) []) : PureAt Go.Proofs.Tryz.prog W 74 [((slA 1 (AV.i .i64)) s'), (AV.fn f_f c_f)] (AV.b (m_e s' f)) [] := by
 refine pure_of_bodyC (fn := Go.Proofs.Tryz.f74) Go.Proofs.Tryz.func74 rfl (en74 W) (ts := [4]) rfl le <| Sq <| Rg <| Aq (AV.b false) <| Ad <| Sq <| Rg <| Aq ((slA 1 (AV.i .i64)) s') <| Aq (AV.fn f_f c_f) <| AOps.sc0 (vs := [((slA 1 (AV.i .i64)) s'), (AV.fn f_f c_f)]) (r0 := (AV.i .i64 (m_f s' f))) kr (by simp only [closedL, Bool.and_eq_true]; exact ⟨by kernel_rfl, hcl_f, trivial⟩) (w_slices_IndexFunc_int_int_dom W s' f_f c_f f hcl_f hp_f) kr le <| Aq (AV.b (decide ((0 : Int) ≤ (m_f s' f)))) <| Aq (AV.b (decide ((0 : Int) ≤ (m_f s' f)))) <| Ad <| Rt ?_
 have hM : m_e s' f = decide ((0 : Int) ≤ (m_f s' f)) := by simp only [m_e, sbt]
 refine ⟨Or.inr rfl, ?_⟩
 rw [hM]
 exact Ec
theorem w_grow0 (W : World) : PureAt Go.Proofs.Tryz.prog W 134 [(AV.sl 1 true []), (AV.i .i64 (0 : Int))] (AV.sl 1 true []) [] := by
 refine pure_of_bodyC (fn := Go.Proofs.Tryz.f134) Go.Proofs.Tryz.func134 rfl (en134 W) (ts := [4]) rfl le <| Sq <| Rg <| Aq (AV.sl 1 true []) <| Ad <| Sq <| Sq <| Rg <| Aq (AV.i .i64 (0 : Int)) <| Aq (AV.b false) <| Ad <| Cf <| Awp.skip <| Sq <| Sq <| Rg <| Aq (AV.i .i64 (0 : Int)) <| Aq (AV.sl 1 true []) <| Aq (AV.i .i64 (0 : Int)) <| Aq (AV.sl 1 true []) <| Aq (AV.i .i64 (0 : Int)) <| Aq (AV.i .i64 (0 : Int)) <| Aq (AV.i .i64 (0 : Int)) <| Aq (AV.i .i64 (0 : Int)) <| Ad <| Sq <| Rg <| Aq (AV.i .i64 (0 : Int)) <| Aq (AV.b false) <| Ad <| Cf <| Awp.skip <| Sq <| Rg <| Aq (AV.sl 1 true []) <| Aq (AV.sl 1 true []) <| Ad <| Rt ?_
 exact ⟨Or.inr rfl, Ent.c kr kr⟩
theorem wo_grow_string (W : World) (n' : Nat) (hn : 0 < n') (hz : n' ≤ 1048576) : PureAt Go.Proofs.Tryz.prog W 134 [(AV.sl 1 true []), (Ai n')] (.own 0 0 0) [⟨9, 1, (List.replicate n' (⟨#[]⟩ : ByteArray)).map AV.s⟩] := by
 refine pure_of_bodyR (fn := Go.Proofs.Tryz.f134) Go.Proofs.Tryz.func134 rfl (en134 W) (ts := [4]) rfl le (fun _ => rfl) <| Sq <| Rg <| Aq (AV.sl 1 true []) <| Ad <| Sq <| Sq <| Rg <| Aq (Ai n') <| Aq (AV.b (decide (((n' : Nat) : Int) < (0 : Int)))) <| Ad ?_
 cases c_1 : decide (((n' : Nat) : Int) < (0 : Int))
 have k_1 := of_decide_eq_false c_1
 refine Cf <| Awp.skip <| Sq <| Sq <| Rg <| Aq (Ai n') <| Aq (AV.sl 1 true []) <| Aq (AV.i .i64 (0 : Int)) <| Aq (AV.sl 1 true []) <| Aq (AV.i .i64 (0 : Int)) <| Aq (AV.i .i64 (0 : Int)) <| Ap (Ai n') (g_subN (i := n') (m := 0) kr kr sd sd) <| Aq (Ai n') <| Ad <| Sq <| Rg <| Aq (Ai n') <| Aq (AV.b (decide ((0 : Int) < ((n' : Nat) : Int)))) <| Ad ?_
 cases c_2 : decide ((0 : Int) < ((n' : Nat) : Int))
 have k_2 := of_decide_eq_false c_2
 refine Cf <| Awp.skip <| Sq <| Rg <| Aq (AV.sl 1 true []) <| Aq (AV.sl 1 true []) <| Ad <| Rt ?_
 have hM : m_grow_string n' = [] := by simp only [m_grow_string, c_1, c_2, sbt]
 exfalso
 omega
 have k_2 := of_decide_eq_true c_2
 refine Ct <| Rg <| Aq (AV.sl 1 true []) <| Aq (AV.sl 1 true []) <| Aq (AV.i .i64 (0 : Int)) <| Aq (AV.sl 1 true []) <| Aq (Ai n') <| AOps.se (x := (AV.own 0 0 n')) (h' := ⟨1, [(0, some ⟨9, 1, (List.replicate n' (⟨#[]⟩ : ByteArray)).map AV.s⟩)]⟩) (g_appZ (kn := .i64) (kk := .i64) (e := 9) (A := AV.s) (i := tI_9) (k := 1) (z := (⟨#[]⟩ : ByteArray)) (n := n') (by decide) kr kr kr kr kr sd ⟨by decide, by kernel_rfl⟩ kr (by show _ * 16 ≤ 140737488355328; first | omega | (simp only [List.length_append, List.length_cons, List.length_nil, List.length_set, List.length_replicate]; omega) | (simp; omega)) sd) le <| Aq (AV.sl 1 true []) <| Aq (AV.i .i64 (0 : Int)) <| Ap (AV.own 0 0 0) (g_cutO (e := 9) (id := 0) (len := n') (ob := ⟨9, 1, (List.replicate n' (⟨#[]⟩ : ByteArray)).map AV.s⟩) (l := none) (g := (some (0 : Int))) (b := 0) kr kr kr kr kr kr rfl rfl (by simp only [List.length_map, List.length_cons, List.length_nil]; omega)) <| Aq (AV.own 0 0 0) <| Ad <| Sq <| Rg <| Aq (AV.own 0 0 0) <| Aq (AV.own 0 0 0) <| Ad <| Rt ?_
 have hM : m_grow_string n' = ((List.replicate n' (⟨#[]⟩ : ByteArray)).take 0) := by simp only [m_grow_string, c_1, c_2, sbt]
 refine ⟨Or.inr rfl, 0, ?_, rfl⟩
 first | rfl | (show AV.own _ _ _ = AV.own _ _ _; congr 1; simp)
 have k_1 := of_decide_eq_true c_1
 refine Ct <| Rg ?_
 exfalso
 omega
theorem w_slices_Concat_string_string (W : World) (slices : List (List ByteArray)) (hz : (slices.flatten).length ≤ 1048576) : PureAt Go.Proofs.Tryz.prog W 105 [((slA 1 (slA 1 AV.s)) slices)] ((slA 1 AV.s) (m_a slices)) [] := by
 refine pure_of_bodyC (fn := Go.Proofs.Tryz.f105) Go.Proofs.Tryz.func105 rfl (en105 W) (ts := [2]) rfl le <| Sq <| Rg <| Aq (AV.sl 1 true []) <| Ad <| Sq <| Rg <| Aq (AV.i .i64 (0 : Int)) <| Ad <| Sq <| Sq <| Rg <| Aq ((slA 1 (slA 1 AV.s)) slices) <| Ap (Ai slices.length) (g_len (k := 1) (nl := false) (e := 24) (A := (slA 1 AV.s)) (xs := slices) kr kr) <| Aq (AV.i .i64 (0 : Int)) <| Ad <| Awp.block <| Awp.lim 0 (x := ((slA 1 (slA 1 AV.s)) slices)) kr fun hlm1 => ?_
 have hB1 : slices.length ≤ 281474976710656 := lim_slA hlm1
 obtain ⟨R1, hR1⟩ : ∃ R, m_i slices 0 0 = R := ⟨_, rfl⟩
 refine Awp.loopT (fun ((size, v11) : Nat × Nat) => [(0, ((slA 1 (slA 1 AV.s)) slices)), (9, ((slA 1 (slA 1 AV.s)) slices)), (10, (Ai slices.length)), (3, (Ai size)), (11, (Ai v11))]) (fun ((size, v11) : Nat × Nat) => ⟨0, []⟩) (fun ((size, v11) : Nat × Nat) => v11 ≤ slices.length ∧ size + ((slices.drop v11).flatten).length = (slices.flatten).length ∧ m_i (slices.drop v11) v11 size = R1) (fun ((size, v11) : Nat × Nat) => slices.length - v11) (0, 0) ?_ ?_ ?_
 exact ⟨[], ⟨by decide, rfl, FitsObjs.nil, (Ee (Ee (Ee (Ee (Ee EntE.nil)))))⟩, keep0⟩
 exact ⟨od, by (try dsimp only) <;> (simp), hR1⟩
 rintro ⟨size, v11⟩ ⟨hi1, hs, hE1⟩
 try dsimp only
 refine Sq <| Rg <| Aq (AV.b (decide (((v11 : Nat) : Int) < ((slices.length : Nat) : Int)))) <| Ad <| Sq ?_
 rcases Nat.lt_or_ge v11 slices.length with hl1 | hl1
 have hc1 : decide (((v11 : Nat) : Int) < ((slices.length : Nat) : Int)) = true := decide_eq_true (by omega)
 refine Awp.cond (t := true) (by rw [← hc1] <;> kernel_rfl) (Awp.skip ?_)
 obtain ⟨x1, hx1⟩ : ∃ x, slices[v11]? = some x := ⟨_, List.getElem?_eq_getElem hl1⟩
 rw [drop_at hx1, m_i.eq_2] at hE1
 rw [drop_at hx1] at hs
 simp only [List.flatten_cons, List.length_append] at hs
 refine Sq <| Awp.block <| Sq <| Rg <| Ap (AV.pt ((slA 1 AV.s) x1).cells) (g_idx (k := 1) (nl := false) (e := 24) (kk := .i64) (A := (slA 1 AV.s)) (xs := slices) (i := v11) kr kr kr ⟨by kernel_rfl, by decide⟩ hx1) <| Aq ((slA 1 AV.s) x1) <| Aq ((slA 1 AV.s) x1) <| Ad <| Sq <| Rg <| Aq (Ai size) <| Aq ((slA 1 AV.s) x1) <| Ap (Ai x1.length) (g_len (k := 1) (nl := false) (e := 9) (A := AV.s) (xs := x1) kr kr) <| Ap (Ai (size + x1.length)) (g_addN (i := size) (m := x1.length) kr kr sd) <| Aq (Ai (size + x1.length)) <| Ad <| Sq <| Rg <| Aq (Ai (size + x1.length)) <| Aq (AV.b (decide (((size + x1.length : Nat) : Int) < (0 : Int)))) <| Ad ?_
 cases c_1 : decide (((size + x1.length : Nat) : Int) < (0 : Int))
 have k_1 := of_decide_eq_false c_1
 refine Cf <| Awp.skip <| Rg <| Ap (Ai (v11 + 1)) (g_addN (i := v11) (m := 1) kr kr sd) <| Aq (Ai (v11 + 1)) <| Ad ?_
 try simp only [c_1, sbt] at hE1
 refine ⟨(size + x1.length, v11 + 1), od, ⟨od, by (try dsimp only) <;> (omega), hE1⟩, ?_⟩
 exact ⟨[], ⟨by decide, rfl, FitsObjs.nil, (Ee (Ee (Ee (Ee (Ee EntE.nil)))))⟩, keep0⟩
 have k_1 := of_decide_eq_true c_1
 refine Ct <| Rg ?_
 exfalso
 omega
 have hc1 : decide (((v11 : Nat) : Int) < ((slices.length : Nat) : Int)) = false := decide_eq_false (by omega)
 refine Awp.cond (t := false) (by rw [← hc1] <;> kernel_rfl) (Awp.exit ?_)
 rw [List.drop_eq_nil_of_le (hl1), m_i.eq_1] at hE1
 subst hE1
 refine Sq <| Rg <| Aq (Ai size) ?_
 by_cases z_2 : (List.replicate size (⟨#[]⟩ : ByteArray)) = []
 have hzz_2 : size = 0 := by simpa using z_2
 refine AOps.sc0 (vs := [(AV.sl 1 true []), (Ai size)]) (r0 := (AV.sl 1 true [])) kr kr (by rw [hzz_2]; exact w_grow0 W) kr le <| Aq (AV.sl 1 true []) <| Ad <| Sq <| Sq <| Rg <| Aq ((slA 1 (slA 1 AV.s)) slices) <| Ap (Ai slices.length) (g_len (k := 1) (nl := false) (e := 24) (A := (slA 1 AV.s)) (xs := slices) kr kr) <| Aq (AV.i .i64 (0 : Int)) <| Ad <| Awp.block <| Awp.lim 0 (x := ((slA 1 (slA 1 AV.s)) slices)) kr fun hlm2 => ?_
 have hB2 : slices.length ≤ 281474976710656 := lim_slA hlm2
 obtain ⟨R2, hR2⟩ : ∃ R, m_c slices 0 [] = R := ⟨_, rfl⟩
 refine Awp.loopT (fun ((b_newslice, newslice, v27) : Bool × (List ByteArray) × Nat) => [(25, ((slA 1 (slA 1 AV.s)) slices)), (26, (Ai slices.length)), (6, (accW 0 1 AV.s b_newslice newslice)), (27, (Ai v27))]) (fun ((b_newslice, newslice, v27) : Bool × (List ByteArray) × Nat) => ⟨1, [(0, accWO 9 1 AV.s b_newslice newslice)]⟩) (fun ((b_newslice, newslice, v27) : Bool × (List ByteArray) × Nat) => v27 ≤ slices.length ∧ (b_newslice = false → newslice = []) ∧ newslice.length + ((slices.drop v27).flatten).length ≤ (slices.flatten).length ∧ m_c (slices.drop v27) v27 newslice = R2) (fun ((b_newslice, newslice, v27) : Bool × (List ByteArray) × Nat) => slices.length - v27) (false, [], 0) ?_ ?_ ?_
 exact ⟨[1000000], ⟨by decide, rfl, (FitsObjs.cons rfl FitsObjs.nil), (Ee (Ee (Ee (Ee EntE.nil))))⟩, keep0⟩
 exact ⟨od, (by simp), by (try dsimp only) <;> (simp), hR2⟩
 rintro ⟨b_newslice, newslice, v27⟩ ⟨hi2, hn_newslice, ha, hE2⟩
 try dsimp only
 cases b_newslice
 have hz_newslice := hn_newslice rfl
 subst hz_newslice
 try dsimp only
 refine Sq <| Rg <| Aq (AV.b (decide (((v27 : Nat) : Int) < ((slices.length : Nat) : Int)))) <| Ad <| Sq ?_
 rcases Nat.lt_or_ge v27 slices.length with hl2 | hl2
 have hc2 : decide (((v27 : Nat) : Int) < ((slices.length : Nat) : Int)) = true := decide_eq_true (by omega)
 refine Awp.cond (t := true) (by rw [← hc2] <;> kernel_rfl) (Awp.skip ?_)
 obtain ⟨x2, hx2⟩ : ∃ x, slices[v27]? = some x := ⟨_, List.getElem?_eq_getElem hl2⟩
 rw [drop_at hx2, m_c.eq_2] at hE2
 rw [drop_at hx2] at ha
 simp only [List.flatten_cons, List.length_append] at ha
 refine Sq <| Awp.block <| Sq <| Rg <| Ap (AV.pt ((slA 1 AV.s) x2).cells) (g_idx (k := 1) (nl := false) (e := 24) (kk := .i64) (A := (slA 1 AV.s)) (xs := slices) (i := v27) kr kr kr ⟨by kernel_rfl, by decide⟩ hx2) <| Aq ((slA 1 AV.s) x2) <| Aq ((slA 1 AV.s) x2) <| Ad <| Rg <| Aq (AV.sl 1 true []) <| Aq ((slA 1 AV.s) x2) ?_
 by_cases z_3 : x2 = []
 refine AOps.se (x := (AV.sl 1 true [])) (h' := ⟨1, [(0, none)]⟩) (g_app0 (e := 9) (X := ((slA 1 AV.s) x2)) (A := AV.s) (i := tI_9) (k := 1) (ys := x2) kr kr kr (hx := kr) rfl z_3 ⟨by decide, by kernel_rfl⟩) le <| Aq (AV.sl 1 true []) <| Ad <| Rg <| Ap (Ai (v27 + 1)) (g_addN (i := v27) (m := 1) kr kr sd) <| Aq (Ai (v27 + 1)) <| Ad ?_
 try simp only [z_3, sbt] at hE2
 refine ⟨(false, [], v27 + 1), od, ⟨od, (by simp), by (try dsimp only) <;> (first | omega | (simp only [List.length_append]; omega)), hE2⟩, ?_⟩
 exact ⟨[1000000], ⟨by decide, rfl, (FitsObjs.cons rfl FitsObjs.nil), (Ee (Ee (Ee (Ee EntE.nil))))⟩, keep0⟩
 refine AOps.se (x := (AV.own 1 0 x2.length)) (h' := ⟨2, [(1, some ⟨9, 1, x2.map AV.s⟩), (0, none)]⟩) (g_app1 (e := 9) (X := ((slA 1 AV.s) x2)) (A := AV.s) (i := tI_9) (k := 1) (ys := x2) kr kr kr (hx := kr) rfl z_3 ⟨by decide, by kernel_rfl⟩ (by show _ * 16 ≤ 140737488355328; first | omega | (simp only [List.length_append, List.length_cons, List.length_nil, List.length_set, List.length_replicate]; omega) | (simp; omega)) sd) le <| Aq (AV.own 1 0 x2.length) <| Ad <| Rg <| Ap (Ai (v27 + 1)) (g_addN (i := v27) (m := 1) kr kr sd) <| Aq (Ai (v27 + 1)) <| Ad ?_
 refine ⟨(true, x2, v27 + 1), od, ⟨od, (by simp), by (try dsimp only) <;> (first | omega | (simp only [List.length_append]; omega)), hE2⟩, ?_⟩
 exact ⟨[1], ⟨by decide, rfl, (FitsObjs.cons (obj_row (fun _ => rfl) (e := 9) (k := 1) (A := AV.s) (xs := x2) rfl rfl) FitsObjs.nil), (Ee (Ee (EntE.cons (ent_keepO (by decide) rfl) (Ee EntE.nil))))⟩, keep0⟩
 have hc2 : decide (((v27 : Nat) : Int) < ((slices.length : Nat) : Int)) = false := decide_eq_false (by omega)
 refine Awp.cond (t := false) (by rw [← hc2] <;> kernel_rfl) (Awp.exit ?_)
 rw [List.drop_eq_nil_of_le (hl2), m_c.eq_1] at hE2
 subst hE2
 refine Sq <| Rg <| Aq (AV.sl 1 true []) <| Aq (AV.sl 1 true []) <| Ad <| Rt ?_
 have hM : m_a slices = [] := by simp only [m_a, hR1, z_2, hR2, sbt]
 refine ⟨Or.inr rfl, ?_⟩
 rw [hM]
 exact Ent.cast (x' := (AV.sl 1 true [])) (y' := ((slA 1 AV.s) [])) kr kr (Ent.w rfl (WeakC.nil 1))
 try dsimp only
 refine Sq <| Rg <| Aq (AV.b (decide (((v27 : Nat) : Int) < ((slices.length : Nat) : Int)))) <| Ad <| Sq ?_
 rcases Nat.lt_or_ge v27 slices.length with hl2 | hl2
 have hc2 : decide (((v27 : Nat) : Int) < ((slices.length : Nat) : Int)) = true := decide_eq_true (by omega)
 refine Awp.cond (t := true) (by rw [← hc2] <;> kernel_rfl) (Awp.skip ?_)
 obtain ⟨x2, hx2⟩ : ∃ x, slices[v27]? = some x := ⟨_, List.getElem?_eq_getElem hl2⟩
 rw [drop_at hx2, m_c.eq_2] at hE2
 rw [drop_at hx2] at ha
 simp only [List.flatten_cons, List.length_append] at ha
 refine Sq <| Awp.block <| Sq <| Rg <| Ap (AV.pt ((slA 1 AV.s) x2).cells) (g_idx (k := 1) (nl := false) (e := 24) (kk := .i64) (A := (slA 1 AV.s)) (xs := slices) (i := v27) kr kr kr ⟨by kernel_rfl, by decide⟩ hx2) <| Aq ((slA 1 AV.s) x2) <| Aq ((slA 1 AV.s) x2) <| Ad <| Rg <| Aq (AV.own 0 0 newslice.length) <| Aq ((slA 1 AV.s) x2) <| AOps.se (x := (AV.own 1 0 ((newslice ++ x2).length))) (h' := ⟨2, [(1, some ⟨9, 1, (newslice ++ x2).map AV.s⟩), (0, none)]⟩) (g_appR (len := newslice.length) (e := 9) (X := ((slA 1 AV.s) x2)) (A := AV.s) (i := tI_9) (p := 0) (xs := newslice) (ys := x2) kr kr kr (hx := kr) kr ⟨by decide, by kernel_rfl⟩ rfl rfl (by show _ * 16 ≤ 140737488355328; first | omega | (simp only [List.length_append, List.length_cons, List.length_nil, List.length_set, List.length_replicate]; omega) | (simp; omega)) sd) le <| Aq (AV.own 1 0 ((newslice ++ x2).length)) <| Ad <| Rg <| Ap (Ai (v27 + 1)) (g_addN (i := v27) (m := 1) kr kr sd) <| Aq (Ai (v27 + 1)) <| Ad ?_
 refine ⟨(true, (newslice ++ x2), v27 + 1), od, ⟨od, (by simp), by (try dsimp only) <;> (first | omega | (simp only [List.length_append]; omega)), hE2⟩, ?_⟩
 exact ⟨[1], ⟨by decide, rfl, (FitsObjs.cons (obj_row (fun _ => rfl) (e := 9) (k := 1) (A := AV.s) (xs := (newslice ++ x2)) rfl rfl) FitsObjs.nil), (Ee (Ee (EntE.cons (ent_keepO (by decide) rfl) (Ee EntE.nil))))⟩, keep0⟩
 have hc2 : decide (((v27 : Nat) : Int) < ((slices.length : Nat) : Int)) = false := decide_eq_false (by omega)
 refine Awp.cond (t := false) (by rw [← hc2] <;> kernel_rfl) (Awp.exit ?_)
 rw [List.drop_eq_nil_of_le (hl2), m_c.eq_1] at hE2
 subst hE2
 refine Sq <| Rg <| Aq (AV.own 0 0 newslice.length) <| Aq (AV.own 0 0 newslice.length) <| Ad <| Rt ?_
 have hM : m_a slices = newslice := by simp only [m_a, hR1, z_2, hR2, sbt]
 refine ⟨Or.inr rfl, ?_⟩
 rw [hM]
 exact Ent.cast (x' := (AV.own 0 0 newslice.length)) (y' := ((slA 1 AV.s) newslice)) kr kr (EntD.kk (x' := (AV.own 0 0 newslice.length)) kr kr rfl (EntK.row (fun _ => rfl) (A := AV.s) (id := 0) (e := 9) (k := 1) (xs := newslice) rfl rfl rfl sd))
 have hzz_2 : 0 < size := by have := z_2; simp only [ne_eq, List.replicate_eq_nil_iff] at this; omega
 refine AOps.scR (A := AV.s) (xs := (List.replicate size (⟨#[]⟩ : ByteArray))) (vs := [(AV.sl 1 true []), (Ai size)]) kr kr (wo_grow_string W size hzz_2 sd) (fun _ => rfl) le <| Aq (AV.own 0 0 0) <| Ad <| Sq <| Sq <| Rg <| Aq ((slA 1 (slA 1 AV.s)) slices) <| Ap (Ai slices.length) (g_len (k := 1) (nl := false) (e := 24) (A := (slA 1 AV.s)) (xs := slices) kr kr) <| Aq (AV.i .i64 (0 : Int)) <| Ad <| Awp.block <| Awp.lim 0 (x := ((slA 1 (slA 1 AV.s)) slices)) kr fun hlm2 => ?_
 have hB2 : slices.length ≤ 281474976710656 := lim_slA hlm2
 obtain ⟨R2, hR2⟩ : ∃ R, m_c slices 0 ((List.replicate size (⟨#[]⟩ : ByteArray)).take 0) = R := ⟨_, rfl⟩
 refine Awp.loopT (fun ((b_newslice2, newslice2, v272) : Bool × (List ByteArray) × Nat) => [(25, ((slA 1 (slA 1 AV.s)) slices)), (26, (Ai slices.length)), (6, (accW 0 1 AV.s b_newslice2 newslice2)), (27, (Ai v272))]) (fun ((b_newslice2, newslice2, v272) : Bool × (List ByteArray) × Nat) => ⟨1, [(0, accWO 9 1 AV.s b_newslice2 newslice2)]⟩) (fun ((b_newslice2, newslice2, v272) : Bool × (List ByteArray) × Nat) => v272 ≤ slices.length ∧ (b_newslice2 = false → newslice2 = []) ∧ newslice2.length + ((slices.drop v272).flatten).length ≤ (slices.flatten).length ∧ m_c (slices.drop v272) v272 newslice2 = R2) (fun ((b_newslice2, newslice2, v272) : Bool × (List ByteArray) × Nat) => slices.length - v272) (true, ((List.replicate size (⟨#[]⟩ : ByteArray)).take 0), 0) ?_ ?_ ?_
 exact ⟨[0], ⟨by decide, rfl, (FitsObjs.consW (obj_pre (fun _ => rfl) (fun _ => rfl) (e := 9) (k := 1) (A := AV.s) (xs := (List.replicate size (⟨#[]⟩ : ByteArray))) (ys := ((List.replicate size (⟨#[]⟩ : ByteArray)).take 0)) (take_pre _ _) rfl rfl) FitsObjs.nil), (Ee (Ee (EntE.cons (ent_keepO (by decide) (by simp)) (Ee EntE.nil))))⟩, keep0⟩
 exact ⟨od, (by simp), by (try dsimp only) <;> (simp), hR2⟩
 rintro ⟨b_newslice2, newslice2, v272⟩ ⟨hi2, hn_newslice2, ha, hE2⟩
 try dsimp only
 cases b_newslice2
 have hz_newslice2 := hn_newslice2 rfl
 subst hz_newslice2
 try dsimp only
 refine Sq <| Rg <| Aq (AV.b (decide (((v272 : Nat) : Int) < ((slices.length : Nat) : Int)))) <| Ad <| Sq ?_
 rcases Nat.lt_or_ge v272 slices.length with hl2 | hl2
 have hc2 : decide (((v272 : Nat) : Int) < ((slices.length : Nat) : Int)) = true := decide_eq_true (by omega)
 refine Awp.cond (t := true) (by rw [← hc2] <;> kernel_rfl) (Awp.skip ?_)
 obtain ⟨x22, hx2⟩ : ∃ x, slices[v272]? = some x := ⟨_, List.getElem?_eq_getElem hl2⟩
 rw [drop_at hx2, m_c.eq_2] at hE2
 rw [drop_at hx2] at ha
 simp only [List.flatten_cons, List.length_append] at ha
 refine Sq <| Awp.block <| Sq <| Rg <| Ap (AV.pt ((slA 1 AV.s) x22).cells) (g_idx (k := 1) (nl := false) (e := 24) (kk := .i64) (A := (slA 1 AV.s)) (xs := slices) (i := v272) kr kr kr ⟨by kernel_rfl, by decide⟩ hx2) <| Aq ((slA 1 AV.s) x22) <| Aq ((slA 1 AV.s) x22) <| Ad <| Rg <| Aq (AV.sl 1 true []) <| Aq ((slA 1 AV.s) x22) ?_
 by_cases z_4 : x22 = []
 refine AOps.se (x := (AV.sl 1 true [])) (h' := ⟨1, [(0, none)]⟩) (g_app0 (e := 9) (X := ((slA 1 AV.s) x22)) (A := AV.s) (i := tI_9) (k := 1) (ys := x22) kr kr kr (hx := kr) rfl z_4 ⟨by decide, by kernel_rfl⟩) le <| Aq (AV.sl 1 true []) <| Ad <| Rg <| Ap (Ai (v272 + 1)) (g_addN (i := v272) (m := 1) kr kr sd) <| Aq (Ai (v272 + 1)) <| Ad ?_
 try simp only [z_4, sbt] at hE2
 refine ⟨(false, [], v272 + 1), od, ⟨od, (by simp), by (try dsimp only) <;> (first | omega | (simp only [List.length_append]; omega)), hE2⟩, ?_⟩
 exact ⟨[1000000], ⟨by decide, rfl, (FitsObjs.cons rfl FitsObjs.nil), (Ee (Ee (Ee (Ee EntE.nil))))⟩, keep0⟩
 refine AOps.se (x := (AV.own 1 0 x22.length)) (h' := ⟨2, [(1, some ⟨9, 1, x22.map AV.s⟩), (0, none)]⟩) (g_app1 (e := 9) (X := ((slA 1 AV.s) x22)) (A := AV.s) (i := tI_9) (k := 1) (ys := x22) kr kr kr (hx := kr) rfl z_4 ⟨by decide, by kernel_rfl⟩ (by show _ * 16 ≤ 140737488355328; first | omega | (simp only [List.length_append, List.length_cons, List.length_nil, List.length_set, List.length_replicate]; omega) | (simp; omega)) sd) le <| Aq (AV.own 1 0 x22.length) <| Ad <| Rg <| Ap (Ai (v272 + 1)) (g_addN (i := v272) (m := 1) kr kr sd) <| Aq (Ai (v272 + 1)) <| Ad ?_
 refine ⟨(true, x22, v272 + 1), od, ⟨od, (by simp), by (try dsimp only) <;> (first | omega | (simp only [List.length_append]; omega)), hE2⟩, ?_⟩
 exact ⟨[1], ⟨by decide, rfl, (FitsObjs.cons (obj_row (fun _ => rfl) (e := 9) (k := 1) (A := AV.s) (xs := x22) rfl rfl) FitsObjs.nil), (Ee (Ee (EntE.cons (ent_keepO (by decide) rfl) (Ee EntE.nil))))⟩, keep0⟩
 have hc2 : decide (((v272 : Nat) : Int) < ((slices.length : Nat) : Int)) = false := decide_eq_false (by omega)
 refine Awp.cond (t := false) (by rw [← hc2] <;> kernel_rfl) (Awp.exit ?_)
 rw [List.drop_eq_nil_of_le (hl2), m_c.eq_1] at hE2
 subst hE2
 refine Sq <| Rg <| Aq (AV.sl 1 true []) <| Aq (AV.sl 1 true []) <| Ad <| Rt ?_
 have hM : m_a slices = [] := by simp only [m_a, hR1, hR2, sbt]
 refine ⟨Or.inr rfl, ?_⟩
 rw [hM]
 exact Ent.cast (x' := (AV.sl 1 true [])) (y' := ((slA 1 AV.s) [])) kr kr (Ent.w rfl (WeakC.nil 1))
 try dsimp only
 refine Sq <| Rg <| Aq (AV.b (decide (((v272 : Nat) : Int) < ((slices.length : Nat) : Int)))) <| Ad <| Sq ?_
 rcases Nat.lt_or_ge v272 slices.length with hl2 | hl2
 have hc2 : decide (((v272 : Nat) : Int) < ((slices.length : Nat) : Int)) = true := decide_eq_true (by omega)
 refine Awp.cond (t := true) (by rw [← hc2] <;> kernel_rfl) (Awp.skip ?_)
 obtain ⟨x22, hx2⟩ : ∃ x, slices[v272]? = some x := ⟨_, List.getElem?_eq_getElem hl2⟩
 rw [drop_at hx2, m_c.eq_2] at hE2
 rw [drop_at hx2] at ha
 simp only [List.flatten_cons, List.length_append] at ha
 refine Sq <| Awp.block <| Sq <| Rg <| Ap (AV.pt ((slA 1 AV.s) x22).cells) (g_idx (k := 1) (nl := false) (e := 24) (kk := .i64) (A := (slA 1 AV.s)) (xs := slices) (i := v272) kr kr kr ⟨by kernel_rfl, by decide⟩ hx2) <| Aq ((slA 1 AV.s) x22) <| Aq ((slA 1 AV.s) x22) <| Ad <| Rg <| Aq (AV.own 0 0 newslice2.length) <| Aq ((slA 1 AV.s) x22) <| AOps.se (x := (AV.own 1 0 ((newslice2 ++ x22).length))) (h' := ⟨2, [(1, some ⟨9, 1, (newslice2 ++ x22).map AV.s⟩), (0, none)]⟩) (g_appR (len := newslice2.length) (e := 9) (X := ((slA 1 AV.s) x22)) (A := AV.s) (i := tI_9) (p := 0) (xs := newslice2) (ys := x22) kr kr kr (hx := kr) kr ⟨by decide, by kernel_rfl⟩ rfl rfl (by show _ * 16 ≤ 140737488355328; first | omega | (simp only [List.length_append, List.length_cons, List.length_nil, List.length_set, List.length_replicate]; omega) | (simp; omega)) sd) le <| Aq (AV.own 1 0 ((newslice2 ++ x22).length)) <| Ad <| Rg <| Ap (Ai (v272 + 1)) (g_addN (i := v272) (m := 1) kr kr sd) <| Aq (Ai (v272 + 1)) <| Ad ?_
 refine ⟨(true, (newslice2 ++ x22), v272 + 1), od, ⟨od, (by simp), by (try dsimp only) <;> (first | omega | (simp only [List.length_append]; omega)), hE2⟩, ?_⟩
 exact ⟨[1], ⟨by decide, rfl, (FitsObjs.cons (obj_row (fun _ => rfl) (e := 9) (k := 1) (A := AV.s) (xs := (newslice2 ++ x22)) rfl rfl) FitsObjs.nil), (Ee (Ee (EntE.cons (ent_keepO (by decide) rfl) (Ee EntE.nil))))⟩, keep0⟩
 have hc2 : decide (((v272 : Nat) : Int) < ((slices.length : Nat) : Int)) = false := decide_eq_false (by omega)
 refine Awp.cond (t := false) (by rw [← hc2] <;> kernel_rfl) (Awp.exit ?_)
 rw [List.drop_eq_nil_of_le (hl2), m_c.eq_1] at hE2
 subst hE2
 refine Sq <| Rg <| Aq (AV.own 0 0 newslice2.length) <| Aq (AV.own 0 0 newslice2.length) <| Ad <| Rt ?_
 have hM : m_a slices = newslice2 := by simp only [m_a, hR1, hR2, sbt]
 refine ⟨Or.inr rfl, ?_⟩
 rw [hM]
 exact Ent.cast (x' := (AV.own 0 0 newslice2.length)) (y' := ((slA 1 AV.s) newslice2)) kr kr (EntD.kk (x' := (AV.own 0 0 newslice2.length)) kr kr rfl (EntK.row (fun _ => rfl) (A := AV.s) (id := 0) (e := 9) (k := 1) (xs := newslice2) rfl rfl rfl sd))
theorem wo_slices_Concat_string_string (W : World) (slices : List (List ByteArray)) (hz : (slices.flatten).length ≤ 1048576) (hne : m_a slices ≠ []) : PureAt Go.Proofs.Tryz.prog W 105 [((slA 1 (slA 1 AV.s)) slices)] (.own 0 0 (m_a slices).length) [⟨9, 1, (m_a slices).map AV.s⟩] := by
 refine pure_of_bodyR (fn := Go.Proofs.Tryz.f105) Go.Proofs.Tryz.func105 rfl (en105 W) (ts := [2]) rfl le (fun _ => rfl) <| Sq <| Rg <| Aq (AV.sl 1 true []) <| Ad <| Sq <| Rg <| Aq (AV.i .i64 (0 : Int)) <| Ad <| Sq <| Sq <| Rg <| Aq ((slA 1 (slA 1 AV.s)) slices) <| Ap (Ai slices.length) (g_len (k := 1) (nl := false) (e := 24) (A := (slA 1 AV.s)) (xs := slices) kr kr) <| Aq (AV.i .i64 (0 : Int)) <| Ad <| Awp.block <| Awp.lim 0 (x := ((slA 1 (slA 1 AV.s)) slices)) kr fun hlm1 => ?_
 have hB1 : slices.length ≤ 281474976710656 := lim_slA hlm1
 obtain ⟨R1, hR1⟩ : ∃ R, m_i slices 0 0 = R := ⟨_, rfl⟩
 refine Awp.loopT (fun ((size, v11) : Nat × Nat) => [(0, ((slA 1 (slA 1 AV.s)) slices)), (9, ((slA 1 (slA 1 AV.s)) slices)), (10, (Ai slices.length)), (3, (Ai size)), (11, (Ai v11))]) (fun ((size, v11) : Nat × Nat) => ⟨0, []⟩) (fun ((size, v11) : Nat × Nat) => v11 ≤ slices.length ∧ size + ((slices.drop v11).flatten).length = (slices.flatten).length ∧ m_i (slices.drop v11) v11 size = R1) (fun ((size, v11) : Nat × Nat) => slices.length - v11) (0, 0) ?_ ?_ ?_
 exact ⟨[], ⟨by decide, rfl, FitsObjs.nil, (Ee (Ee (Ee (Ee (Ee EntE.nil)))))⟩, keep0⟩
 exact ⟨od, by (try dsimp only) <;> (simp), hR1⟩
 rintro ⟨size, v11⟩ ⟨hi1, hs, hE1⟩
 try dsimp only
 refine Sq <| Rg <| Aq (AV.b (decide (((v11 : Nat) : Int) < ((slices.length : Nat) : Int)))) <| Ad <| Sq ?_
 rcases Nat.lt_or_ge v11 slices.length with hl1 | hl1
 have hc1 : decide (((v11 : Nat) : Int) < ((slices.length : Nat) : Int)) = true := decide_eq_true (by omega)
 refine Awp.cond (t := true) (by rw [← hc1] <;> kernel_rfl) (Awp.skip ?_)
 obtain ⟨x1, hx1⟩ : ∃ x, slices[v11]? = some x := ⟨_, List.getElem?_eq_getElem hl1⟩
 rw [drop_at hx1, m_i.eq_2] at hE1
 rw [drop_at hx1] at hs
 simp only [List.flatten_cons, List.length_append] at hs
 refine Sq <| Awp.block <| Sq <| Rg <| Ap (AV.pt ((slA 1 AV.s) x1).cells) (g_idx (k := 1) (nl := false) (e := 24) (kk := .i64) (A := (slA 1 AV.s)) (xs := slices) (i := v11) kr kr kr ⟨by kernel_rfl, by decide⟩ hx1) <| Aq ((slA 1 AV.s) x1) <| Aq ((slA 1 AV.s) x1) <| Ad <| Sq <| Rg <| Aq (Ai size) <| Aq ((slA 1 AV.s) x1) <| Ap (Ai x1.length) (g_len (k := 1) (nl := false) (e := 9) (A := AV.s) (xs := x1) kr kr) <| Ap (Ai (size + x1.length)) (g_addN (i := size) (m := x1.length) kr kr sd) <| Aq (Ai (size + x1.length)) <| Ad <| Sq <| Rg <| Aq (Ai (size + x1.length)) <| Aq (AV.b (decide (((size + x1.length : Nat) : Int) < (0 : Int)))) <| Ad ?_
 cases c_1 : decide (((size + x1.length : Nat) : Int) < (0 : Int))
 have k_1 := of_decide_eq_false c_1
 refine Cf <| Awp.skip <| Rg <| Ap (Ai (v11 + 1)) (g_addN (i := v11) (m := 1) kr kr sd) <| Aq (Ai (v11 + 1)) <| Ad ?_
 try simp only [c_1, sbt] at hE1
 refine ⟨(size + x1.length, v11 + 1), od, ⟨od, by (try dsimp only) <;> (omega), hE1⟩, ?_⟩
 exact ⟨[], ⟨by decide, rfl, FitsObjs.nil, (Ee (Ee (Ee (Ee (Ee EntE.nil)))))⟩, keep0⟩
 have k_1 := of_decide_eq_true c_1
 refine Ct <| Rg ?_
 exfalso
 omega
 have hc1 : decide (((v11 : Nat) : Int) < ((slices.length : Nat) : Int)) = false := decide_eq_false (by omega)
 refine Awp.cond (t := false) (by rw [← hc1] <;> kernel_rfl) (Awp.exit ?_)
 rw [List.drop_eq_nil_of_le (hl1), m_i.eq_1] at hE1
 subst hE1
 refine Sq <| Rg <| Aq (Ai size) ?_
 by_cases z_2 : (List.replicate size (⟨#[]⟩ : ByteArray)) = []
 have hzz_2 : size = 0 := by simpa using z_2
 refine AOps.sc0 (vs := [(AV.sl 1 true []), (Ai size)]) (r0 := (AV.sl 1 true [])) kr kr (by rw [hzz_2]; exact w_grow0 W) kr le <| Aq (AV.sl 1 true []) <| Ad <| Sq <| Sq <| Rg <| Aq ((slA 1 (slA 1 AV.s)) slices) <| Ap (Ai slices.length) (g_len (k := 1) (nl := false) (e := 24) (A := (slA 1 AV.s)) (xs := slices) kr kr) <| Aq (AV.i .i64 (0 : Int)) <| Ad <| Awp.block <| Awp.lim 0 (x := ((slA 1 (slA 1 AV.s)) slices)) kr fun hlm2 => ?_
 have hB2 : slices.length ≤ 281474976710656 := lim_slA hlm2
 obtain ⟨R2, hR2⟩ : ∃ R, m_c slices 0 [] = R := ⟨_, rfl⟩
 refine Awp.loopT (fun ((b_newslice, newslice, v27) : Bool × (List ByteArray) × Nat) => [(25, ((slA 1 (slA 1 AV.s)) slices)), (26, (Ai slices.length)), (6, (accW 0 1 AV.s b_newslice newslice)), (27, (Ai v27))]) (fun ((b_newslice, newslice, v27) : Bool × (List ByteArray) × Nat) => ⟨1, [(0, accWO 9 1 AV.s b_newslice newslice)]⟩) (fun ((b_newslice, newslice, v27) : Bool × (List ByteArray) × Nat) => v27 ≤ slices.length ∧ (b_newslice = false → newslice = []) ∧ newslice.length + ((slices.drop v27).flatten).length ≤ (slices.flatten).length ∧ m_c (slices.drop v27) v27 newslice = R2) (fun ((b_newslice, newslice, v27) : Bool × (List ByteArray) × Nat) => slices.length - v27) (false, [], 0) ?_ ?_ ?_
 exact ⟨[1000000], ⟨by decide, rfl, (FitsObjs.cons rfl FitsObjs.nil), (Ee (Ee (Ee (Ee EntE.nil))))⟩, keep0⟩
 exact ⟨od, (by simp), by (try dsimp only) <;> (simp), hR2⟩
 rintro ⟨b_newslice, newslice, v27⟩ ⟨hi2, hn_newslice, ha, hE2⟩
 try dsimp only
 cases b_newslice
 have hz_newslice := hn_newslice rfl
 subst hz_newslice
 try dsimp only
 refine Sq <| Rg <| Aq (AV.b (decide (((v27 : Nat) : Int) < ((slices.length : Nat) : Int)))) <| Ad <| Sq ?_
 rcases Nat.lt_or_ge v27 slices.length with hl2 | hl2
 have hc2 : decide (((v27 : Nat) : Int) < ((slices.length : Nat) : Int)) = true := decide_eq_true (by omega)
 refine Awp.cond (t := true) (by rw [← hc2] <;> kernel_rfl) (Awp.skip ?_)
 obtain ⟨x2, hx2⟩ : ∃ x, slices[v27]? = some x := ⟨_, List.getElem?_eq_getElem hl2⟩
 rw [drop_at hx2, m_c.eq_2] at hE2
 rw [drop_at hx2] at ha
 simp only [List.flatten_cons, List.length_append] at ha
 refine Sq <| Awp.block <| Sq <| Rg <| Ap (AV.pt ((slA 1 AV.s) x2).cells) (g_idx (k := 1) (nl := false) (e := 24) (kk := .i64) (A := (slA 1 AV.s)) (xs := slices) (i := v27) kr kr kr ⟨by kernel_rfl, by decide⟩ hx2) <| Aq ((slA 1 AV.s) x2) <| Aq ((slA 1 AV.s) x2) <| Ad <| Rg <| Aq (AV.sl 1 true []) <| Aq ((slA 1 AV.s) x2) ?_
 by_cases z_3 : x2 = []
 refine AOps.se (x := (AV.sl 1 true [])) (h' := ⟨1, [(0, none)]⟩) (g_app0 (e := 9) (X := ((slA 1 AV.s) x2)) (A := AV.s) (i := tI_9) (k := 1) (ys := x2) kr kr kr (hx := kr) rfl z_3 ⟨by decide, by kernel_rfl⟩) le <| Aq (AV.sl 1 true []) <| Ad <| Rg <| Ap (Ai (v27 + 1)) (g_addN (i := v27) (m := 1) kr kr sd) <| Aq (Ai (v27 + 1)) <| Ad ?_
 try simp only [z_3, sbt] at hE2
 refine ⟨(false, [], v27 + 1), od, ⟨od, (by simp), by (try dsimp only) <;> (first | omega | (simp only [List.length_append]; omega)), hE2⟩, ?_⟩
 exact ⟨[1000000], ⟨by decide, rfl, (FitsObjs.cons rfl FitsObjs.nil), (Ee (Ee (Ee (Ee EntE.nil))))⟩, keep0⟩
 refine AOps.se (x := (AV.own 1 0 x2.length)) (h' := ⟨2, [(1, some ⟨9, 1, x2.map AV.s⟩), (0, none)]⟩) (g_app1 (e := 9) (X := ((slA 1 AV.s) x2)) (A := AV.s) (i := tI_9) (k := 1) (ys := x2) kr kr kr (hx := kr) rfl z_3 ⟨by decide, by kernel_rfl⟩ (by show _ * 16 ≤ 140737488355328; first | omega | (simp only [List.length_append, List.length_cons, List.length_nil, List.length_set, List.length_replicate]; omega) | (simp; omega)) sd) le <| Aq (AV.own 1 0 x2.length) <| Ad <| Rg <| Ap (Ai (v27 + 1)) (g_addN (i := v27) (m := 1) kr kr sd) <| Aq (Ai (v27 + 1)) <| Ad ?_
 refine ⟨(true, x2, v27 + 1), od, ⟨od, (by simp), by (try dsimp only) <;> (first | omega | (simp only [List.length_append]; omega)), hE2⟩, ?_⟩
 exact ⟨[1], ⟨by decide, rfl, (FitsObjs.cons (obj_row (fun _ => rfl) (e := 9) (k := 1) (A := AV.s) (xs := x2) rfl rfl) FitsObjs.nil), (Ee (Ee (EntE.cons (ent_keepO (by decide) rfl) (Ee EntE.nil))))⟩, keep0⟩
 have hc2 : decide (((v27 : Nat) : Int) < ((slices.length : Nat) : Int)) = false := decide_eq_false (by omega)
 refine Awp.cond (t := false) (by rw [← hc2] <;> kernel_rfl) (Awp.exit ?_)
 rw [List.drop_eq_nil_of_le (hl2), m_c.eq_1] at hE2
 subst hE2
 refine Sq <| Rg <| Aq (AV.sl 1 true []) <| Aq (AV.sl 1 true []) <| Ad <| Rt ?_
 have hM : m_a slices = [] := by simp only [m_a, hR1, z_2, hR2, sbt]
 exact absurd hM hne
 try dsimp only
 refine Sq <| Rg <| Aq (AV.b (decide (((v27 : Nat) : Int) < ((slices.length : Nat) : Int)))) <| Ad <| Sq ?_
 rcases Nat.lt_or_ge v27 slices.length with hl2 | hl2
 have hc2 : decide (((v27 : Nat) : Int) < ((slices.length : Nat) : Int)) = true := decide_eq_true (by omega)
 refine Awp.cond (t := true) (by rw [← hc2] <;> kernel_rfl) (Awp.skip ?_)
 obtain ⟨x2, hx2⟩ : ∃ x, slices[v27]? = some x := ⟨_, List.getElem?_eq_getElem hl2⟩
 rw [drop_at hx2, m_c.eq_2] at hE2
 rw [drop_at hx2] at ha
 simp only [List.flatten_cons, List.length_append] at ha
 refine Sq <| Awp.block <| Sq <| Rg <| Ap (AV.pt ((slA 1 AV.s) x2).cells) (g_idx (k := 1) (nl := false) (e := 24) (kk := .i64) (A := (slA 1 AV.s)) (xs := slices) (i := v27) kr kr kr ⟨by kernel_rfl, by decide⟩ hx2) <| Aq ((slA 1 AV.s) x2) <| Aq ((slA 1 AV.s) x2) <| Ad <| Rg <| Aq (AV.own 0 0 newslice.length) <| Aq ((slA 1 AV.s) x2) <| AOps.se (x := (AV.own 1 0 ((newslice ++ x2).length))) (h' := ⟨2, [(1, some ⟨9, 1, (newslice ++ x2).map AV.s⟩), (0, none)]⟩) (g_appR (len := newslice.length) (e := 9) (X := ((slA 1 AV.s) x2)) (A := AV.s) (i := tI_9) (p := 0) (xs := newslice) (ys := x2) kr kr kr (hx := kr) kr ⟨by decide, by kernel_rfl⟩ rfl rfl (by show _ * 16 ≤ 140737488355328; first | omega | (simp only [List.length_append, List.length_cons, List.length_nil, List.length_set, List.length_replicate]; omega) | (simp; omega)) sd) le <| Aq (AV.own 1 0 ((newslice ++ x2).length)) <| Ad <| Rg <| Ap (Ai (v27 + 1)) (g_addN (i := v27) (m := 1) kr kr sd) <| Aq (Ai (v27 + 1)) <| Ad ?_
 refine ⟨(true, (newslice ++ x2), v27 + 1), od, ⟨od, (by simp), by (try dsimp only) <;> (first | omega | (simp only [List.length_append]; omega)), hE2⟩, ?_⟩
 exact ⟨[1], ⟨by decide, rfl, (FitsObjs.cons (obj_row (fun _ => rfl) (e := 9) (k := 1) (A := AV.s) (xs := (newslice ++ x2)) rfl rfl) FitsObjs.nil), (Ee (Ee (EntE.cons (ent_keepO (by decide) rfl) (Ee EntE.nil))))⟩, keep0⟩
 have hc2 : decide (((v27 : Nat) : Int) < ((slices.length : Nat) : Int)) = false := decide_eq_false (by omega)
 refine Awp.cond (t := false) (by rw [← hc2] <;> kernel_rfl) (Awp.exit ?_)
 rw [List.drop_eq_nil_of_le (hl2), m_c.eq_1] at hE2
 subst hE2
 refine Sq <| Rg <| Aq (AV.own 0 0 newslice.length) <| Aq (AV.own 0 0 newslice.length) <| Ad <| Rt ?_
 have hM : m_a slices = newslice := by simp only [m_a, hR1, z_2, hR2, sbt]
 rw [hM]
 refine ⟨Or.inr rfl, 0, ?_, rfl⟩
 first | rfl | (show AV.own _ _ _ = AV.own _ _ _; congr 1; simp)
 have hzz_2 : 0 < size := by have := z_2; simp only [ne_eq, List.replicate_eq_nil_iff] at this; omega
 refine AOps.scR (A := AV.s) (xs := (List.replicate size (⟨#[]⟩ : ByteArray))) (vs := [(AV.sl 1 true []), (Ai size)]) kr kr (wo_grow_string W size hzz_2 sd) (fun _ => rfl) le <| Aq (AV.own 0 0 0) <| Ad <| Sq <| Sq <| Rg <| Aq ((slA 1 (slA 1 AV.s)) slices) <| Ap (Ai slices.length) (g_len (k := 1) (nl := false) (e := 24) (A := (slA 1 AV.s)) (xs := slices) kr kr) <| Aq (AV.i .i64 (0 : Int)) <| Ad <| Awp.block <| Awp.lim 0 (x := ((slA 1 (slA 1 AV.s)) slices)) kr fun hlm2 => ?_
 have hB2 : slices.length ≤ 281474976710656 := lim_slA hlm2
 obtain ⟨R2, hR2⟩ : ∃ R, m_c slices 0 ((List.replicate size (⟨#[]⟩ : ByteArray)).take 0) = R := ⟨_, rfl⟩
 refine Awp.loopT (fun ((b_newslice2, newslice2, v272) : Bool × (List ByteArray) × Nat) => [(25, ((slA 1 (slA 1 AV.s)) slices)), (26, (Ai slices.length)), (6, (accW 0 1 AV.s b_newslice2 newslice2)), (27, (Ai v272))]) (fun ((b_newslice2, newslice2, v272) : Bool × (List ByteArray) × Nat) => ⟨1, [(0, accWO 9 1 AV.s b_newslice2 newslice2)]⟩) (fun ((b_newslice2, newslice2, v272) : Bool × (List ByteArray) × Nat) => v272 ≤ slices.length ∧ (b_newslice2 = false → newslice2 = []) ∧ newslice2.length + ((slices.drop v272).flatten).length ≤ (slices.flatten).length ∧ m_c (slices.drop v272) v272 newslice2 = R2) (fun ((b_newslice2, newslice2, v272) : Bool × (List ByteArray) × Nat) => slices.length - v272) (true, ((List.replicate size (⟨#[]⟩ : ByteArray)).take 0), 0) ?_ ?_ ?_
 exact ⟨[0], ⟨by decide, rfl, (FitsObjs.consW (obj_pre (fun _ => rfl) (fun _ => rfl) (e := 9) (k := 1) (A := AV.s) (xs := (List.replicate size (⟨#[]⟩ : ByteArray))) (ys := ((List.replicate size (⟨#[]⟩ : ByteArray)).take 0)) (take_pre _ _) rfl rfl) FitsObjs.nil), (Ee (Ee (EntE.cons (ent_keepO (by decide) (by simp)) (Ee EntE.nil))))⟩, keep0⟩
 exact ⟨od, (by simp), by (try dsimp only) <;> (simp), hR2⟩
 rintro ⟨b_newslice2, newslice2, v272⟩ ⟨hi2, hn_newslice2, ha, hE2⟩
 try dsimp only
 cases b_newslice2
 have hz_newslice2 := hn_newslice2 rfl
 subst hz_newslice2
 try dsimp only
 refine Sq <| Rg <| Aq (AV.b (decide (((v272 : Nat) : Int) < ((slices.length : Nat) : Int)))) <| Ad <| Sq ?_
 rcases Nat.lt_or_ge v272 slices.length with hl2 | hl2
 have hc2 : decide (((v272 : Nat) : Int) < ((slices.length : Nat) : Int)) = true := decide_eq_true (by omega)
 refine Awp.cond (t := true) (by rw [← hc2] <;> kernel_rfl) (Awp.skip ?_)
 obtain ⟨x22, hx2⟩ : ∃ x, slices[v272]? = some x := ⟨_, List.getElem?_eq_getElem hl2⟩
 rw [drop_at hx2, m_c.eq_2] at hE2
 rw [drop_at hx2] at ha
 simp only [List.flatten_cons, List.length_append] at ha
 refine Sq <| Awp.block <| Sq <| Rg <| Ap (AV.pt ((slA 1 AV.s) x22).cells) (g_idx (k := 1) (nl := false) (e := 24) (kk := .i64) (A := (slA 1 AV.s)) (xs := slices) (i := v272) kr kr kr ⟨by kernel_rfl, by decide⟩ hx2) <| Aq ((slA 1 AV.s) x22) <| Aq ((slA 1 AV.s) x22) <| Ad <| Rg <| Aq (AV.sl 1 true []) <| Aq ((slA 1 AV.s) x22) ?_
 by_cases z_4 : x22 = []
 refine AOps.se (x := (AV.sl 1 true [])) (h' := ⟨1, [(0, none)]⟩) (g_app0 (e := 9) (X := ((slA 1 AV.s) x22)) (A := AV.s) (i := tI_9) (k := 1) (ys := x22) kr kr kr (hx := kr) rfl z_4 ⟨by decide, by kernel_rfl⟩) le <| Aq (AV.sl 1 true []) <| Ad <| Rg <| Ap (Ai (v272 + 1)) (g_addN (i := v272) (m := 1) kr kr sd) <| Aq (Ai (v272 + 1)) <| Ad ?_
 try simp only [z_4, sbt] at hE2
 refine ⟨(false, [], v272 + 1), od, ⟨od, (by simp), by (try dsimp only) <;> (first | omega | (simp only [List.length_append]; omega)), hE2⟩, ?_⟩
 exact ⟨[1000000], ⟨by decide, rfl, (FitsObjs.cons rfl FitsObjs.nil), (Ee (Ee (Ee (Ee EntE.nil))))⟩, keep0⟩
 refine AOps.se (x := (AV.own 1 0 x22.length)) (h' := ⟨2, [(1, some ⟨9, 1, x22.map AV.s⟩), (0, none)]⟩) (g_app1 (e := 9) (X := ((slA 1 AV.s) x22)) (A := AV.s) (i := tI_9) (k := 1) (ys := x22) kr kr kr (hx := kr) rfl z_4 ⟨by decide, by kernel_rfl⟩ (by show _ * 16 ≤ 140737488355328; first | omega | (simp only [List.length_append, List.length_cons, List.length_nil, List.length_set, List.length_replicate]; omega) | (simp; omega)) sd) le <| Aq (AV.own 1 0 x22.length) <| Ad <| Rg <| Ap (Ai (v272 + 1)) (g_addN (i := v272) (m := 1) kr kr sd) <| Aq (Ai (v272 + 1)) <| Ad ?_
 refine ⟨(true, x22, v272 + 1), od, ⟨od, (by simp), by (try dsimp only) <;> (first | omega | (simp only [List.length_append]; omega)), hE2⟩, ?_⟩
 exact ⟨[1], ⟨by decide, rfl, (FitsObjs.cons (obj_row (fun _ => rfl) (e := 9) (k := 1) (A := AV.s) (xs := x22) rfl rfl) FitsObjs.nil), (Ee (Ee (EntE.cons (ent_keepO (by decide) rfl) (Ee EntE.nil))))⟩, keep0⟩
 have hc2 : decide (((v272 : Nat) : Int) < ((slices.length : Nat) : Int)) = false := decide_eq_false (by omega)
 refine Awp.cond (t := false) (by rw [← hc2] <;> kernel_rfl) (Awp.exit ?_)
 rw [List.drop_eq_nil_of_le (hl2), m_c.eq_1] at hE2
 subst hE2
 refine Sq <| Rg <| Aq (AV.sl 1 true []) <| Aq (AV.sl 1 true []) <| Ad <| Rt ?_
 have hM : m_a slices = [] := by simp only [m_a, hR1, hR2, sbt]
 exact absurd hM hne
 try dsimp only
 refine Sq <| Rg <| Aq (AV.b (decide (((v272 : Nat) : Int) < ((slices.length : Nat) : Int)))) <| Ad <| Sq ?_
 rcases Nat.lt_or_ge v272 slices.length with hl2 | hl2
 have hc2 : decide (((v272 : Nat) : Int) < ((slices.length : Nat) : Int)) = true := decide_eq_true (by omega)
 refine Awp.cond (t := true) (by rw [← hc2] <;> kernel_rfl) (Awp.skip ?_)
 obtain ⟨x22, hx2⟩ : ∃ x, slices[v272]? = some x := ⟨_, List.getElem?_eq_getElem hl2⟩
 rw [drop_at hx2, m_c.eq_2] at hE2
 rw [drop_at hx2] at ha
 simp only [List.flatten_cons, List.length_append] at ha
 refine Sq <| Awp.block <| Sq <| Rg <| Ap (AV.pt ((slA 1 AV.s) x22).cells) (g_idx (k := 1) (nl := false) (e := 24) (kk := .i64) (A := (slA 1 AV.s)) (xs := slices) (i := v272) kr kr kr ⟨by kernel_rfl, by decide⟩ hx2) <| Aq ((slA 1 AV.s) x22) <| Aq ((slA 1 AV.s) x22) <| Ad <| Rg <| Aq (AV.own 0 0 newslice2.length) <| Aq ((slA 1 AV.s) x22) <| AOps.se (x := (AV.own 1 0 ((newslice2 ++ x22).length))) (h' := ⟨2, [(1, some ⟨9, 1, (newslice2 ++ x22).map AV.s⟩), (0, none)]⟩) (g_appR (len := newslice2.length) (e := 9) (X := ((slA 1 AV.s) x22)) (A := AV.s) (i := tI_9) (p := 0) (xs := newslice2) (ys := x22) kr kr kr (hx := kr) kr ⟨by decide, by kernel_rfl⟩ rfl rfl (by show _ * 16 ≤ 140737488355328; first | omega | (simp only [List.length_append, List.length_cons, List.length_nil, List.length_set, List.length_replicate]; omega) | (simp; omega)) sd) le <| Aq (AV.own 1 0 ((newslice2 ++ x22).length)) <| Ad <| Rg <| Ap (Ai (v272 + 1)) (g_addN (i := v272) (m := 1) kr kr sd) <| Aq (Ai (v272 + 1)) <| Ad ?_
 refine ⟨(true, (newslice2 ++ x22), v272 + 1), od, ⟨od, (by simp), by (try dsimp only) <;> (first | omega | (simp only [List.length_append]; omega)), hE2⟩, ?_⟩
 exact ⟨[1], ⟨by decide, rfl, (FitsObjs.cons (obj_row (fun _ => rfl) (e := 9) (k := 1) (A := AV.s) (xs := (newslice2 ++ x22)) rfl rfl) FitsObjs.nil), (Ee (Ee (EntE.cons (ent_keepO (by decide) rfl) (Ee EntE.nil))))⟩, keep0⟩
 have hc2 : decide (((v272 : Nat) : Int) < ((slices.length : Nat) : Int)) = false := decide_eq_false (by omega)
 refine Awp.cond (t := false) (by rw [← hc2] <;> kernel_rfl) (Awp.exit ?_)
 rw [List.drop_eq_nil_of_le (hl2), m_c.eq_1] at hE2
 subst hE2
 refine Sq <| Rg <| Aq (AV.own 0 0 newslice2.length) <| Aq (AV.own 0 0 newslice2.length) <| Ad <| Rt ?_
 have hM : m_a slices = newslice2 := by simp only [m_a, hR1, hR2, sbt]
 rw [hM]
 refine ⟨Or.inr rfl, 0, ?_, rfl⟩
 first | rfl | (show AV.own _ _ _ = AV.own _ _ _; congr 1; simp)
theorem w_order_Needs (W : World) (g : DGraph) (edge : Int) (he : edge.toNat < g.edges.length ∧ 0 ≤ edge) (hz : needsN g edge ≤ 1048576) : PureAt Go.Proofs.Tryz.prog W 70 [(AV.pt (DGraph.av g).cells), (AV.i .i64 edge)] ((slA 1 (AV.i .i64)) (m_s g edge)) [] := by
 have hfl : ([(g.edges.getD edge.toNat default).ins, (g.edges.getD edge.toNat default).implicit, (g.edges.getD edge.toNat default).order].flatten).length ≤ 1048576 := by have hz' := hz; unfold needsN at hz'; simp only [List.flatten_cons, List.flatten_nil, List.append_nil, List.length_append]; omega
 have hlen : (m_a [(g.edges.getD edge.toNat default).ins, (g.edges.getD edge.toNat default).implicit, (g.edges.getD edge.toNat default).order]).length ≤ 1048576 := by rw [concat_eq]; exact hfl
 refine pure_of_bodyC (fn := Go.Proofs.Tryz.f70) Go.Proofs.Tryz.func70 rfl (en70 W) (ts := [4]) rfl le <| Sq <| Rg <| Aq (AV.sl 1 true []) <| Ad <| Sq <| Rg <| Aq (AV.sl 1 true []) <| Ad <| Sq <| Rg <| Aq (AV.pt (DGraph.av g).cells) <| Aq (AV.pt (DGraph.av g).cells) <| Aq (AV.pt ((DGraph.av g).cells.drop 0)) <| Aq ((slA 7 DEdge.av) g.edges) <| Aq (AV.i .i64 edge) <| Ap (AV.pt (DEdge.av (g.edges.getD edge.toNat default)).cells) (g_idxI (k := 7) (nl := false) (e := 76) (kk := .i64) (A := DEdge.av) (xs := g.edges) (n := edge) kr kr kr ⟨by kernel_rfl, by decide⟩ sd (getD_some sd)) <| Aq (AV.pt (DEdge.av (g.edges.getD edge.toNat default)).cells) <| Ad <| Sq ?_
 refine Awp.cut [(0, (AV.pt (DGraph.av g).cells)), (5, (AV.sl 1 true [])), (29, ((slA 1 AV.s) (m_a [(g.edges.getD edge.toNat default).ins, (g.edges.getD edge.toNat default).implicit, (g.edges.getD edge.toNat default).order]))), (30, (AV.i .i64 (((m_a [(g.edges.getD edge.toNat default).ins, (g.edges.getD edge.toNat default).implicit, (g.edges.getD edge.toNat default).order]).length : Nat) : Int))), (31, (AV.i .i64 (0 : Int)))] ⟨0, []⟩ ?_ ?_
 refine Awp.drawn tabS_ok mixed 16 kr le <| Dq (AV.pt (DEdge.av (g.edges.getD edge.toNat default)).cells) <| Dq (AV.pt (DEdge.av (g.edges.getD edge.toNat default)).cells) <| Dq (AV.pt ((DEdge.av (g.edges.getD edge.toNat default)).cells.drop 1)) <| Dq ((slA 1 AV.s) ((g.edges.getD edge.toNat default).ins)) <| Dq (AV.pt (DEdge.av (g.edges.getD edge.toNat default)).cells) <| Dq (AV.pt (DEdge.av (g.edges.getD edge.toNat default)).cells) <| Dq (AV.pt ((DEdge.av (g.edges.getD edge.toNat default)).cells.drop 2)) <| Dq ((slA 1 AV.s) ((g.edges.getD edge.toNat default).implicit)) <| Dq (AV.pt (DEdge.av (g.edges.getD edge.toNat default)).cells) <| Dq (AV.pt (DEdge.av (g.edges.getD edge.toNat default)).cells) <| Dq (AV.pt ((DEdge.av (g.edges.getD edge.toNat default)).cells.drop 3)) <| Dq ((slA 1 AV.s) ((g.edges.getD edge.toNat default).order)) <| AOpsD.sn (x := (AV.own 0 0 3)) (h' := ⟨1, [(0, some ⟨24, 1, [(g.edges.getD edge.toNat default).ins, (g.edges.getD edge.toNat default).implicit, (g.edges.getD edge.toNat default).order].map (slA 1 AV.s)⟩)]⟩) kr le ?_
 by_cases z_1 : (m_a [(g.edges.getD edge.toNat default).ins, (g.edges.getD edge.toNat default).implicit, (g.edges.getD edge.toNat default).order]) = []
 refine AOpsD.sfw (vs := [(AV.own 0 0 3)]) (ss := [((slA 1 (slA 1 AV.s)) [(g.edges.getD edge.toNat default).ins, (g.edges.getD edge.toNat default).implicit, (g.edges.getD edge.toNat default).order])]) (r0 := ((slA 1 AV.s) [])) kr (show SnapW _ _ _ from ⟨(EntK.w (EntK.cast (x' := (AV.own 0 0 3)) kr kr (EntK.row (fun _ => rfl) (A := (slA 1 AV.s)) (id := 0) (e := 24) (k := 1) (xs := [(g.edges.getD edge.toNat default).ins, (g.edges.getD edge.toNat default).implicit, (g.edges.getD edge.toNat default).order]) rfl rfl sd sd))), trivial⟩) (by rw [← show (m_a [(g.edges.getD edge.toNat default).ins, (g.edges.getD edge.toNat default).implicit, (g.edges.getD edge.toNat default).order]) = [] from z_1]; exact (w_slices_Concat_string_string W [(g.edges.getD edge.toNat default).ins, (g.edges.getD edge.toNat default).implicit, (g.edges.getD edge.toNat default).order] hfl)) rfl kr le <| Dp (AV.i .i64 (([].length : Nat) : Int)) (g_len (k := 1) (nl := false) (e := 9) (A := AV.s) (xs := []) kr kr) <| Dq (AV.i .i64 (0 : Int)) <| AOpsD.fin ?_
 rw [z_1]
 exact ⟨[], ⟨by decide, rfl, FitsObjs.nil, (Ee (Ee (Ee (Ee (Ee EntE.nil)))))⟩, keep0⟩
 refine AOpsD.sfR (A := AV.s) (xs := (m_a [(g.edges.getD edge.toNat default).ins, (g.edges.getD edge.toNat default).implicit, (g.edges.getD edge.toNat default).order])) (vs := [(AV.own 0 0 3)]) (ss := [((slA 1 (slA 1 AV.s)) [(g.edges.getD edge.toNat default).ins, (g.edges.getD edge.toNat default).implicit, (g.edges.getD edge.toNat default).order])]) kr (show SnapW _ _ _ from ⟨(EntK.w (EntK.cast (x' := (AV.own 0 0 3)) kr kr (EntK.row (fun _ => rfl) (A := (slA 1 AV.s)) (id := 0) (e := 24) (k := 1) (xs := [(g.edges.getD edge.toNat default).ins, (g.edges.getD edge.toNat default).implicit, (g.edges.getD edge.toNat default).order]) rfl rfl sd sd))), trivial⟩) (wo_slices_Concat_string_string W [(g.edges.getD edge.toNat default).ins, (g.edges.getD edge.toNat default).implicit, (g.edges.getD edge.toNat default).order] hfl z_1) (fun _ => rfl) (fun _ => rfl) le <| Dq (AV.i .i64 (((m_a [(g.edges.getD edge.toNat default).ins, (g.edges.getD edge.toNat default).implicit, (g.edges.getD edge.toNat default).order]).length : Nat) : Int)) <| Dq (AV.i .i64 (0 : Int)) <| AOpsD.fin ?_
 exact ⟨[], ⟨by decide, rfl, FitsObjs.nil, (Ee (Ee (EntE.cons (EntD.kk (x' := (AV.own 1 0 ((m_a [(g.edges.getD edge.toNat default).ins, (g.edges.getD edge.toNat default).implicit, (g.edges.getD edge.toNat default).order]).length))) kr kr rfl (EntK.row (fun _ => rfl) (A := AV.s) (id := 1) (e := 9) (k := 1) (xs := (m_a [(g.edges.getD edge.toNat default).ins, (g.edges.getD edge.toNat default).implicit, (g.edges.getD edge.toNat default).order])) rfl rfl rfl sd)) (Ee (Ee EntE.nil)))))⟩, keep0⟩
 refine Awp.block <| Awp.lim 29 (x := ((slA 1 AV.s) (m_a [(g.edges.getD edge.toNat default).ins, (g.edges.getD edge.toNat default).implicit, (g.edges.getD edge.toNat default).order]))) kr fun hlm1 => ?_
 have hB1 : (m_a [(g.edges.getD edge.toNat default).ins, (g.edges.getD edge.toNat default).implicit, (g.edges.getD edge.toNat default).order]).length ≤ 281474976710656 := lim_slA hlm1
 obtain ⟨R1, hR1⟩ : ∃ R, m_ac g (m_a [(g.edges.getD edge.toNat default).ins, (g.edges.getD edge.toNat default).implicit, (g.edges.getD edge.toNat default).order]) 0 [] = R := ⟨_, rfl⟩
 refine Awp.loopT (fun ((out, v31) : (List Int) × Nat) => [(0, (AV.pt (DGraph.av g).cells)), (29, ((slA 1 AV.s) (m_a [(g.edges.getD edge.toNat default).ins, (g.edges.getD edge.toNat default).implicit, (g.edges.getD edge.toNat default).order]))), (30, (AV.i .i64 (((m_a [(g.edges.getD edge.toNat default).ins, (g.edges.getD edge.toNat default).implicit, (g.edges.getD edge.toNat default).order]).length : Nat) : Int))), (5, (accV 0 1 (AV.i .i64) out)), (31, (Ai v31))]) (fun ((out, v31) : (List Int) × Nat) => ⟨1, [(0, accO 3 1 (AV.i .i64) out)]⟩) (fun ((out, v31) : (List Int) × Nat) => v31 ≤ (m_a [(g.edges.getD edge.toNat default).ins, (g.edges.getD edge.toNat default).implicit, (g.edges.getD edge.toNat default).order]).length ∧ out.length ≤ v31 ∧ m_ac g ((m_a [(g.edges.getD edge.toNat default).ins, (g.edges.getD edge.toNat default).implicit, (g.edges.getD edge.toNat default).order]).drop v31) v31 out = R1) (fun ((out, v31) : (List Int) × Nat) => (m_a [(g.edges.getD edge.toNat default).ins, (g.edges.getD edge.toNat default).implicit, (g.edges.getD edge.toNat default).order]).length - v31) ([], 0) ?_ ?_ ?_
 exact ⟨[1000000], ⟨by decide, rfl, (FitsObjs.cons rfl FitsObjs.nil), (Ee (Ee (Ee (Ee (Ee EntE.nil)))))⟩, keep0⟩
 exact ⟨od, sdd, hR1⟩
 rintro ⟨out, v31⟩ ⟨hi1, hl, hE1⟩
 try dsimp only
 refine Sq <| Rg <| Aq (AV.b (decide (((v31 : Nat) : Int) < (((m_a [(g.edges.getD edge.toNat default).ins, (g.edges.getD edge.toNat default).implicit, (g.edges.getD edge.toNat default).order]).length : Nat) : Int)))) <| Ad <| Sq ?_
 rcases Nat.lt_or_ge v31 (m_a [(g.edges.getD edge.toNat default).ins, (g.edges.getD edge.toNat default).implicit, (g.edges.getD edge.toNat default).order]).length with hl1 | hl1
 have hc1 : decide (((v31 : Nat) : Int) < (((m_a [(g.edges.getD edge.toNat default).ins, (g.edges.getD edge.toNat default).implicit, (g.edges.getD edge.toNat default).order]).length : Nat) : Int)) = true := decide_eq_true (by omega)
 refine Awp.cond (t := true) (by rw [← hc1] <;> kernel_rfl) (Awp.skip ?_)
 obtain ⟨x1, hx1⟩ : ∃ x, (m_a [(g.edges.getD edge.toNat default).ins, (g.edges.getD edge.toNat default).implicit, (g.edges.getD edge.toNat default).order])[v31]? = some x := ⟨_, List.getElem?_eq_getElem hl1⟩
 rw [drop_at hx1, m_ac.eq_2] at hE1
 refine Sq <| Awp.block <| Sq <| Rg <| Ap (AV.pt (AV.s x1).cells) (g_idx (k := 1) (nl := false) (e := 9) (kk := .i64) (A := AV.s) (xs := (m_a [(g.edges.getD edge.toNat default).ins, (g.edges.getD edge.toNat default).implicit, (g.edges.getD edge.toNat default).order])) (i := v31) kr kr kr ⟨by kernel_rfl, by decide⟩ hx1) <| Aq (AV.s x1) <| Aq (AV.s x1) <| Ad <| Sq <| Rg <| Aq (AV.pt (DGraph.av g).cells) <| Aq (AV.s x1) <| AOps.sc0 (vs := [(AV.pt (DGraph.av g).cells), (AV.s x1)]) (r0 := (AV.i .i64 (m_o g x1))) kr kr (w_graph_Makes W g x1) kr le <| Aq (AV.i .i64 (m_o g x1)) <| Ad <| Sq <| Rg <| Aq (AV.i .i64 (m_o g x1)) <| Aq (AV.b (decide ((0 : Int) ≤ (m_o g x1)))) <| Aq (AV.b (decide ((0 : Int) ≤ (m_o g x1)))) ?_
 cases c_2 : decide ((0 : Int) ≤ (m_o g x1))
 have k_2 := of_decide_eq_false c_2
 refine An <| An <| An <| An <| Aq (AV.b false) <| Ad <| Cf <| Awp.skip <| Rg <| Ap (Ai (v31 + 1)) (g_addN (i := v31) (m := 1) kr kr sd) <| Aq (Ai (v31 + 1)) <| Ad ?_
 try simp only [c_2, sbt] at hE1
 refine ⟨(out, v31 + 1), od, ⟨od, sdd, hE1⟩, ?_⟩
 exact ⟨[0], ⟨by decide, rfl, (FitsObjs.cons (obj_acc (fun _ => rfl) (e := 3) (k := 1) (A := (AV.i .i64)) (xs := out) rfl rfl) FitsObjs.nil), (Ee (Ee (Ee (EntE.cons (ent_keepA (by decide)) (Ee EntE.nil)))))⟩, keep0⟩
 have k_2 := of_decide_eq_true c_2
 refine Ay <| Aq (accV 0 1 (AV.i .i64) out) <| Ay <| Aq (AV.i .i64 (m_o g x1)) <| Ay <| AOps.sfw (vs := [(accV 0 1 (AV.i .i64) out), (AV.i .i64 (m_o g x1))]) (ss := [((slA 1 (AV.i .i64)) out), (AV.i .i64 (m_o g x1))]) (r0 := (AV.b (m_q out (m_o g x1)))) kr (show SnapW _ _ _ from ⟨(EntK.w (EntK.cast (x' := (accV 0 1 (AV.i .i64) out)) kr kr (EntK.acc (fun _ => rfl) (A := (AV.i .i64)) (e := 3) (k := 1) (id := 0) (xs := out) rfl rfl sd))), ⟨(SnapW.e kr), trivial⟩⟩) (w_slices_Contains_int_int W out (m_o g x1)) rfl kr le <| Ay <| Aq (AV.b (!(m_q out (m_o g x1)))) <| Aq (AV.b (!(m_q out (m_o g x1)))) <| Ad ?_
 cases c_3 : (!(m_q out (m_o g x1)))
 refine Cf <| Awp.skip <| Rg <| Ap (Ai (v31 + 1)) (g_addN (i := v31) (m := 1) kr kr sd) <| Aq (Ai (v31 + 1)) <| Ad ?_
 try simp only [c_2, c_3, sbt] at hE1
 refine ⟨(out, v31 + 1), od, ⟨od, sdd, hE1⟩, ?_⟩
 exact ⟨[0], ⟨by decide, rfl, (FitsObjs.cons (obj_acc (fun _ => rfl) (e := 3) (k := 1) (A := (AV.i .i64)) (xs := out) rfl rfl) FitsObjs.nil), (Ee (Ee (Ee (EntE.cons (ent_keepA (by decide)) (Ee EntE.nil)))))⟩, keep0⟩
 refine Ct <| Rg <| Aq (accV 0 1 (AV.i .i64) out) <| Aq (AV.i .i64 (m_o g x1)) <| Nn (AV.own 1 0 1) ⟨3, 1, [(m_o g x1)].map (AV.i .i64)⟩ <| AOps.se (x := (AV.own 2 0 ((out ++ [(m_o g x1)]).length))) (h' := ⟨3, [(2, some ⟨3, 1, (out ++ [(m_o g x1)]).map (AV.i .i64)⟩), (1, some ⟨3, 1, [(m_o g x1)].map (AV.i .i64)⟩), (0, none)]⟩) (g_app (e := 3) (X := (AV.own 1 0 1)) (A := (AV.i .i64)) (i := tI_3) (p := 0) (xs := out) (ys := [(m_o g x1)]) kr kr kr (hx := kr) kr (by simp) ⟨by decide, by kernel_rfl⟩ rfl (by intro q; first | (subst q; rfl) | (rw [q]; rfl) | (simp only [q]; rfl)) (by show _ * 8 ≤ 140737488355328; first | omega | (simp only [List.length_append, List.length_cons, List.length_nil, List.length_set, List.length_replicate]; omega) | (simp; omega)) sd) le <| Aq (AV.own 2 0 ((out ++ [(m_o g x1)]).length)) <| Ad <| Rg <| Ap (Ai (v31 + 1)) (g_addN (i := v31) (m := 1) kr kr sd) <| Aq (Ai (v31 + 1)) <| Ad ?_
 try simp only [c_2, c_3, sbt] at hE1
 refine ⟨((out ++ [(m_o g x1)]), v31 + 1), od, ⟨od, sdd, hE1⟩, ?_⟩
 exact ⟨[2], ⟨by decide, rfl, (FitsObjs.cons (obj_acc' (fun _ => rfl) (e := 3) (k := 1) (A := (AV.i .i64)) (xs := (out ++ [(m_o g x1)])) (by simp) rfl rfl) FitsObjs.nil), (Ee (Ee (Ee (EntE.cons (ent_keep (A := (AV.i .i64)) (xs := (out ++ [(m_o g x1)])) (by decide) (by simp) rfl) (Ee EntE.nil)))))⟩, keep0⟩
 have hc1 : decide (((v31 : Nat) : Int) < (((m_a [(g.edges.getD edge.toNat default).ins, (g.edges.getD edge.toNat default).implicit, (g.edges.getD edge.toNat default).order]).length : Nat) : Int)) = false := decide_eq_false (by omega)
 refine Awp.cond (t := false) (by rw [← hc1] <;> kernel_rfl) (Awp.exit ?_)
 rw [List.drop_eq_nil_of_le (hl1), m_ac.eq_1] at hE1
 subst hE1
 refine Sq <| Rg <| Aq (accV 0 1 (AV.i .i64) out) <| Aq (accV 0 1 (AV.i .i64) out) <| Ad <| Rt ?_
 have hM : m_s g edge = out := by simp only [m_s, hR1, sbt]
 refine ⟨Or.inr rfl, ?_⟩
 rw [hM]
 exact Ent.cast (x' := (accV 0 1 (AV.i .i64) out)) (y' := ((slA 1 (AV.i .i64)) out)) kr kr (Ent.cast (x' := (accV 0 1 (AV.i .i64) out)) (y' := slA 1 (AV.i .i64) out) kr kr (ent_acc (fun _ => rfl) (by decide) (by decide) (e := 3) (k := 1) rfl sd))
theorem w_order_Of_1 (W : World) (edge : Int) (out : List Int) : PureAt Go.Proofs.Tryz.prog W 71 [(AV.i .i64 edge), (AV.pt ((slA 1 (AV.i .i64)) out).cells)] (AV.b (m_8 edge out)) [] := by
 refine pure_of_bodyC (fn := Go.Proofs.Tryz.f71) Go.Proofs.Tryz.func71 rfl (en71 W) (ts := [3]) rfl le <| Sq <| Rg <| Aq (AV.b false) <| Ad <| Sq <| Rg <| Aq ((slA 1 (AV.i .i64)) out) <| Aq (AV.i .i64 edge) <| AOps.sc0 (vs := [((slA 1 (AV.i .i64)) out), (AV.i .i64 edge)]) (r0 := (AV.b (m_q out edge))) kr kr (w_slices_Contains_int_int W out edge) kr le <| Aq (AV.b (m_q out edge)) <| Ad <| Rt ?_
 have hM : m_8 edge out = (m_q out edge) := by simp only [m_8, sbt]
 refine ⟨Or.inr rfl, ?_⟩
 rw [hM]
 exact Ec
theorem w_order_Of_2 (W : World) (edge : Int) (f_told : FuncId) (c_told : List AV) (told : Int → Bool) (hcl_told : closedL c_told = true) (hp_told : ∀ (z0 : Int), PureAt Go.Proofs.Tryz.prog W f_told ((AV.i .i64 z0) :: c_told) (AV.b (told z0)) []) : PureAt Go.Proofs.Tryz.prog W 73 [(AV.i .i64 edge), (AV.pt [(AV.fn f_told c_told)])] (AV.b (m_as edge told)) [] := by
 refine pure_of_bodyC (fn := Go.Proofs.Tryz.f73) Go.Proofs.Tryz.func73 rfl (en73 W) (ts := [3]) rfl le <| Sq <| Rg <| Aq (AV.b false) <| Ad <| Sq <| Rg <| Aq (AV.fn f_told c_told) <| Aq (AV.i .i64 edge) <| AOps.sc0 (vs := ((AV.i .i64 edge) :: c_told)) (r0 := (AV.b (told edge))) kr (by simp only [closedL, Bool.and_eq_true]; exact ⟨by kernel_rfl, hcl_told⟩) (hp_told edge) kr le <| Aq (AV.b (!(told edge))) <| Aq (AV.b (!(told edge))) <| Ad <| Rt ?_
 have hM : m_as edge told = (!(told edge)) := by simp only [m_as, sbt]
 refine ⟨Or.inr rfl, ?_⟩
 rw [hM]
 exact Ec
theorem w_order_Of (W : World) {m0 : Int} (hW : W.cell? ⟨0, 0, none⟩ = some (.int .i64 m0)) (g : DGraph) (hz0 : g.sz ≤ 1048576) : PureAt Go.Proofs.Tryz.prog W 24 [(DGraph.av g)] (AV.tup [((slA 1 (AV.i .i64)) ((m_9 g).1)), (AV.i .i64 ((m_9 g).2))]) [] := by
 have hz : ∀ i, needsN g i ≤ 1048576 := fun i => Nat.le_trans (needsN_sz g i) hz0
 have hzo : outsN g.edges ≤ 1048576 := Nat.le_trans (outsN_sz g) hz0
 refine pure_of_bodyC (fn := Go.Proofs.Tryz.f24) Go.Proofs.Tryz.func24 rfl (en24 W) (ts := [2, 3]) rfl le <| Sq <| Rg <| Nn (AV.loc 0 0 0) ⟨26, 3, [(DGraph.av g)]⟩ <| Aq (AV.sl 1 true []) <| Aq (AV.i .i64 (0 : Int)) <| Ad <| Awp.fitsW [] (env' := [(0, (DGraph.av g)), (1, (AV.pt (DGraph.av g).cells)), (2, (AV.sl 1 true [])), (3, (AV.i .i64 (0 : Int)))]) (h' := ⟨0, []⟩) ⟨by decide, rfl, FitsObjs.nil, (Ee (EntE.cons (EntD.kk (x' := (AV.loc 0 0 0)) kr kr rfl (EntK.loc (id := 0) (j := 0) (o := 0) (ob := ⟨26, 3, [(DGraph.av g)]⟩) (x := (DGraph.av g)) rfl rfl rfl (EntKs.cons (EntK.cr (x := ((slA 7 DEdge.av) g.edges)) kr) (EntKs.cons (EntK.cr (x := ((slA 2 DPool.av) g.pools)) kr) (EntKs.cons (EntK.cr (x := ((slA 1 AV.s) g.defaults)) kr) EntKs.nil))))) (Ee (Ee EntE.nil))))⟩ keep0 <| Awp.scopeN <| Sq <| Sq <| Rg <| Aq (DGraph.av g) <| AOps.sc0 (vs := [(DGraph.av g)]) (r0 := (AV.i .i64 (m_ad g))) kr kr (w_graph_Check W hW g) kr le <| Aq (AV.b (!decide ((m_ad g) = (0 : Int)))) <| Ad ?_
 cases c_1 : (!decide ((m_ad g) = (0 : Int)))
 have k_1 := nde c_1
 have q_1 := check_len c_1
 refine Cf <| Awp.skip <| Sq <| Rg <| Nn (AV.loc 0 0 0) ⟨40, 1, [(AV.sl 1 true [])]⟩ <| Ad <| Sq <| Rg <| Aq (AV.pt ((DGraph.av g).cells.drop 0)) <| Aq ((slA 7 DEdge.av) g.edges) <| Ap (Ai g.edges.length) (g_len (k := 7) (nl := false) (e := 76) (A := DEdge.av) (xs := g.edges) kr kr) <| AOps.sn (x := (AV.own 1 0 g.edges.length)) (h' := ⟨2, [(1, some ⟨40, 1, (List.replicate g.edges.length ([] : List Int)).map (fun (_ : List Int) => AV.sl 1 true [])⟩), (0, some ⟨40, 1, [(AV.sl 1 true [])]⟩)]⟩) (g_make (e := 40) (i := tI_40) (A := (fun (_ : List Int) => AV.sl 1 true [])) (z := ([] : List Int)) (n := g.edges.length) kr kr kr kr ⟨by decide, by kernel_rfl⟩ kr (by show _ * 24 ≤ 140737488355328; first | omega | (simp only [List.length_append, List.length_cons, List.length_nil, List.length_set, List.length_replicate]; omega) | (simp; omega)) sd) le <| Aq (AV.own 1 0 g.edges.length) <| Ad <| Sq <| Sq <| Rg <| Aq (AV.own 1 0 g.edges.length) <| Aq (Ai g.edges.length) <| Aq (AV.i .i64 (0 : Int)) <| Ad <| Awp.block ?_
 have hB1 : g.edges.length ≤ 281474976710656 := by first | omega | (simp; done) | (simp; omega)
 obtain ⟨R1, hR1⟩ : ∃ R, m_aw g (List.replicate g.edges.length ([] : List Int)) 0 (List.replicate g.edges.length ([] : List Int)) = R := ⟨_, rfl⟩
 refine Awp.loopT (fun ((v20, row) : Nat × (List (List Int))) => [(1, (AV.pt (DGraph.av g).cells)), (4, (AV.loc 0 0 0)), (5, (AV.own 1 0 g.edges.length)), (19, (Ai g.edges.length)), (20, (Ai v20))]) (fun ((v20, row) : Nat × (List (List Int))) => ⟨2, [(0, some ⟨40, 1, [(AV.sl 1 true [])]⟩), (1, some ⟨40, 1, row.map (slA 1 (AV.i .i64))⟩)]⟩) (fun ((v20, row) : Nat × (List (List Int))) => v20 ≤ g.edges.length ∧ row.length = g.edges.length ∧ m_aw g ((List.replicate g.edges.length ([] : List Int)).drop v20) v20 row = R1) (fun ((v20, row) : Nat × (List (List Int))) => g.edges.length - v20) (0, (List.replicate g.edges.length ([] : List Int))) ?_ ?_ ?_
 exact ⟨[0, 1], ⟨by decide, rfl, (FitsObjs.cons kr (FitsObjs.consW (obj_nils rfl rfl) FitsObjs.nil)), (Ee (EntE.cons (Ent.f kr) (EntE.cons (Ent.f kr) (Ee (Ee EntE.nil)))))⟩, keep0⟩
 exact ⟨od, sdd, hR1⟩
 rintro ⟨v20, row⟩ ⟨hi1, hr, hE1⟩
 try dsimp only
 refine Sq <| Rg <| Aq (AV.b (decide (((v20 : Nat) : Int) < ((g.edges.length : Nat) : Int)))) <| Ad <| Sq ?_
 rcases Nat.lt_or_ge v20 g.edges.length with hl1 | hl1
 have hc1 : decide (((v20 : Nat) : Int) < ((g.edges.length : Nat) : Int)) = true := decide_eq_true (by omega)
 refine Awp.cond (t := true) (by rw [← hc1] <;> kernel_rfl) (Awp.skip ?_)
 obtain ⟨x1, hx1⟩ : ∃ x, (List.replicate g.edges.length ([] : List Int))[v20]? = some x := ⟨_, List.getElem?_eq_getElem (by first | (simpa using hl1) | omega)⟩
 rw [drop_at hx1, m_aw.eq_2] at hE1
 refine Sq <| Awp.block <| Sq <| Rg <| Aq (Ai v20) <| Aq (Ai v20) <| Ad <| Rg <| Aq (AV.own 1 0 g.edges.length) <| Aq (Ai v20) <| Aq (Ai v20) <| AOps.sc0 (vs := [(AV.pt (DGraph.av g).cells), (Ai v20)]) (r0 := ((slA 1 (AV.i .i64)) (m_s g ((v20 : Nat) : Int)))) kr kr (w_order_Needs W g ((v20 : Nat) : Int) ⟨by simp; omega, by omega⟩ (hz _)) kr le <| Ap (AV.loc 1 v20 0) (g_oidx (e := 40) (id := 1) (len := g.edges.length) (kk := .i64) (ob := ⟨40, 1, row.map (slA 1 (AV.i .i64))⟩) (i := v20) kr kr kr rfl kr sd) <| AOps.st (x := AV.und) (h' := ⟨2, [(0, some ⟨40, 1, [(AV.sl 1 true [])]⟩), (1, some ⟨40, 1, (row.set v20 (m_s g ((v20 : Nat) : Int))).map (slA 1 (AV.i .i64))⟩)]⟩) (g_set (e := 40) (k := 1) (i := tI_40) (id := 1) (A := (slA 1 (AV.i .i64))) (xs := row) (y := (m_s g ((v20 : Nat) : Int))) (j := v20) kr kr kr rfl sd (fun _ => rfl) kr (fun _ => rfl) (fun _ => rfl)) <| Ad <| Rg <| Ap (Ai (v20 + 1)) (g_addN (i := v20) (m := 1) kr kr sd) <| Aq (Ai (v20 + 1)) <| Ad ?_
 refine ⟨(v20 + 1, (row.set v20 (m_s g ((v20 : Nat) : Int)))), od, ⟨od, sdd, hE1⟩, ?_⟩
 exact ⟨[0, 1], ⟨by decide, rfl, (FitsObjs.cons kr (FitsObjs.cons (obj_row (fun _ => rfl) (e := 40) (k := 1) (A := (slA 1 (AV.i .i64))) (xs := (row.set v20 (m_s g ((v20 : Nat) : Int)))) rfl rfl) FitsObjs.nil)), (Ee (EntE.cons (Ent.f kr) (EntE.cons (Ent.f kr) (Ee (Ee EntE.nil)))))⟩, keep0⟩
 have hc1 : decide (((v20 : Nat) : Int) < ((g.edges.length : Nat) : Int)) = false := decide_eq_false (by omega)
 refine Awp.cond (t := false) (by rw [← hc1] <;> kernel_rfl) (Awp.exit ?_)
 rw [List.drop_eq_nil_of_le (by first | (simpa using hl1) | omega), m_aw.eq_1] at hE1
 subst hE1
 refine Sq <| Rg <| Aq (AV.fn 71 [(AV.loc 0 0 0)]) <| Nn (AV.loc 2 0 0) ⟨106, 1, [AV.nilf]⟩ <| Sp 2 ⟨106, 1, [(AV.fn 71 [(AV.loc 0 0 0)])]⟩ <| Ad <| Sq <| Rg <| Aq (AV.fn 73 [(AV.loc 2 0 0)]) <| Aq (AV.fn 73 [(AV.loc 2 0 0)]) <| Ad <| Sq <| Awp.label <| Sq <| Awp.block ?_
 obtain ⟨R2, hR2⟩ : ∃ R, m_a5 g row (g.edges.length - 0 + 1) [] = R := ⟨_, rfl⟩
 refine Awp.loopT (fun ((kf2, cell) : Nat × (List Int)) => [(4, (AV.loc 0 0 0)), (5, (AV.own 2 0 g.edges.length)), (7, (AV.loc 3 0 0)), (8, (AV.fn 73 [(AV.loc 3 0 0)]))]) (fun ((kf2, cell) : Nat × (List Int)) => ⟨4, [(1, accO 3 1 (AV.i .i64) cell), (0, some ⟨40, 1, [(accV 1 1 (AV.i .i64) cell)]⟩), (2, some ⟨40, 1, row.map (slA 1 (AV.i .i64))⟩), (3, some ⟨106, 1, [(AV.fn 71 [(AV.loc 0 0 0)])]⟩)]⟩) (fun ((kf2, cell) : Nat × (List Int)) => g.edges.length - cell.length < kf2 ∧ cell.length ≤ g.edges.length ∧ m_a5 g row kf2 cell = R2) (fun ((kf2, cell) : Nat × (List Int)) => kf2) (g.edges.length - 0 + 1, []) ?_ ?_ ?_
 exact ⟨[0, 1000001, 1, 2], ⟨by decide, rfl, (FitsObjs.cons rfl (FitsObjs.cons rfl (FitsObjs.cons (obj_row (fun _ => rfl) (e := 40) (k := 1) (A := (slA 1 (AV.i .i64))) (xs := row) rfl rfl) (FitsObjs.cons kr FitsObjs.nil)))), (EntE.cons (Ent.f kr) (EntE.cons (Ent.f kr) (EntE.cons (Ent.f kr) (EntE.cons (Ent.f kr) EntE.nil))))⟩, keep0⟩
 exact ⟨od, sdd, hR2⟩
 rintro ⟨kf2, cell⟩ ⟨hi2, hcl, hE2⟩
 try dsimp only
 rcases kf2 with _ | kf2
 exact absurd hi2 (Nat.not_lt_zero _)
 rw [m_a5.eq_2] at hE2
 refine Sq <| Sq <| Rg <| Ap (accV 1 1 (AV.i .i64) cell) (g_loadC (i := tI_40) (id := 0) (j := 0) (ob := ⟨40, 1, [(accV 1 1 (AV.i .i64) cell)]⟩) (x := (accV 1 1 (AV.i .i64) cell)) kr kr kr kr acc_cells rfl) <| Ap (Ai cell.length) (g_lenAcc (e := 3) (A := (AV.i .i64)) (xs := cell) (p := 1) (k := 1) kr kr (fun q => acc_some (e := 3) (k := 1) (A := (AV.i .i64)) q rfl)) <| Aq (AV.own 2 0 g.edges.length) <| Aq (Ai g.edges.length) <| Aq (AV.b (decide (((cell.length : Nat) : Int) < ((g.edges.length : Nat) : Int)))) <| Ad ?_
 cases c_2 : decide (((cell.length : Nat) : Int) < ((g.edges.length : Nat) : Int))
 have k_2 := of_decide_eq_false c_2
 refine Cf <| Awp.exit ?_
 try simp only [c_2, sbt] at hE2
 subst hE2
 refine Sq <| Rg <| Ap (accV 1 1 (AV.i .i64) cell) (g_loadC (i := tI_40) (id := 0) (j := 0) (ob := ⟨40, 1, [(accV 1 1 (AV.i .i64) cell)]⟩) (x := (accV 1 1 (AV.i .i64) cell)) kr kr kr kr acc_cells rfl) <| Aq (accV 1 1 (AV.i .i64) cell) <| Aq (AV.i .i64 (0 : Int)) <| Ad <| Rt ?_
 have hM : m_9 g = (cell, (0 : Int)) := by simp only [m_9, c_1, hR1, hR2, sbt]
 refine ⟨Or.inr rfl, ?_⟩
 rw [hM]
 exact Ent.cast (x' := (AV.tup [(accV 1 1 (AV.i .i64) cell), (AV.i .i64 (0 : Int))])) (y' := (AV.tup [((slA 1 (AV.i .i64)) ((cell, (0 : Int)).1)), (AV.i .i64 ((cell, (0 : Int)).2))])) kr kr (Ent.tup ⟨(Ent.cast (x' := (accV 1 1 (AV.i .i64) cell)) (y' := slA 1 (AV.i .i64) cell) kr kr (ent_acc (fun _ => rfl) (by decide) (by decide) (e := 3) (k := 1) rfl sd)), ⟨Ec, trivial⟩⟩ kr)
 have k_2 := of_decide_eq_true c_2
 refine Ct <| Awp.skip <| Awp.block <| Sq <| Sq <| Rg <| Aq (AV.own 2 0 g.edges.length) <| Aq (Ai g.edges.length) <| Aq (AV.i .i64 (0 : Int)) <| Ad <| Awp.block ?_
 have hB3 : g.edges.length ≤ 281474976710656 := by first | omega | (simp; done) | (simp; omega)
 obtain ⟨R3, hR3⟩ : ∃ R, m_ax row 0 cell = R := ⟨_, rfl⟩
 refine Awp.loopT (fun ((v38, cell2) : Nat × (List Int)) => [(4, (AV.loc 0 0 0)), (5, (AV.own 2 0 g.edges.length)), (7, (AV.loc 3 0 0)), (8, (AV.fn 73 [(AV.loc 3 0 0)])), (36, (AV.own 2 0 g.edges.length)), (37, (Ai g.edges.length)), (38, (Ai v38))]) (fun ((v38, cell2) : Nat × (List Int)) => ⟨4, [(1, accO 3 1 (AV.i .i64) cell2), (0, some ⟨40, 1, [(accV 1 1 (AV.i .i64) cell2)]⟩), (2, some ⟨40, 1, row.map (slA 1 (AV.i .i64))⟩), (3, some ⟨106, 1, [(AV.fn 71 [(AV.loc 0 0 0)])]⟩)]⟩) (fun ((v38, cell2) : Nat × (List Int)) => v38 ≤ g.edges.length ∧ cell2.length = cell.length ∧ m_ax (row.drop v38) v38 cell2 = R3) (fun ((v38, cell2) : Nat × (List Int)) => g.edges.length - v38) (0, cell) ?_ ?_ ?_
 exact ⟨[0, 1, 2, 3], ⟨by decide, rfl, (FitsObjs.cons (boxAA (A := (AV.i .i64)) (e := 40) (k := 1) (ek := 1) (xs := cell) rfl (by decide) rfl) (FitsObjs.cons (obj_acc (fun _ => rfl) (e := 3) (k := 1) (A := (AV.i .i64)) (xs := cell) rfl rfl) (FitsObjs.cons (obj_row (fun _ => rfl) (e := 40) (k := 1) (A := (slA 1 (AV.i .i64))) (xs := row) rfl rfl) (FitsObjs.cons kr FitsObjs.nil)))), (EntE.cons (Ent.f kr) (EntE.cons (Ent.f kr) (EntE.cons (Ent.f kr) (EntE.cons (Ent.f kr) (EntE.cons (Ent.f kr) (Ee (Ee EntE.nil)))))))⟩, keep0⟩
 exact ⟨od, sdd, hR3⟩
 rintro ⟨v38, cell2⟩ ⟨hi3, hcm, hE3⟩
 try dsimp only
 refine Sq <| Rg <| Aq (AV.b (decide (((v38 : Nat) : Int) < ((g.edges.length : Nat) : Int)))) <| Ad <| Sq ?_
 rcases Nat.lt_or_ge v38 g.edges.length with hl3 | hl3
 have hc3 : decide (((v38 : Nat) : Int) < ((g.edges.length : Nat) : Int)) = true := decide_eq_true (by omega)
 refine Awp.cond (t := true) (by rw [← hc3] <;> kernel_rfl) (Awp.skip ?_)
 obtain ⟨x3, hx3⟩ : ∃ x, row[v38]? = some x := ⟨_, List.getElem?_eq_getElem (by first | (simpa using hl3) | omega)⟩
 rw [drop_at hx3, m_ax.eq_2] at hE3
 refine Sq <| Awp.block <| Sq <| Rg <| Aq (Ai v38) <| Ap (AV.loc 2 v38 0) (g_oidx (e := 40) (id := 2) (len := g.edges.length) (kk := .i64) (ob := ⟨40, 1, row.map (slA 1 (AV.i .i64))⟩) (i := v38) kr kr kr rfl kr sd) <| Ap ((slA 1 (AV.i .i64)) x3) (g_oload (e := 40) (k := 1) (i := tI_40) (id := 2) (xs := row) (A := (slA 1 (AV.i .i64))) (j := v38) kr kr rfl hx3 kr) <| Aq (Ai v38) <| Aq ((slA 1 (AV.i .i64)) x3) <| Ad <| Sq <| Rg <| Aq (AV.fn 71 [(AV.loc 0 0 0)]) <| Aq (Ai v38) <| AOps.sfw (vs := [(Ai v38), (AV.loc 0 0 0)]) (ss := [(Ai v38), (AV.pt ((slA 1 (AV.i .i64)) cell2).cells)]) (r0 := (AV.b (m_8 ((v38 : Nat) : Int) cell2))) kr (show SnapW _ _ _ from ⟨(SnapW.e kr), ⟨(EntK.w (EntK.cast (x' := (AV.loc 0 0 0)) kr kr (EntK.loc1 (id := 0) (j := 0) (ob := ⟨40, 1, [(accV 1 1 (AV.i .i64) cell2)]⟩) (x := (accV 1 1 (AV.i .i64) cell2)) rfl rfl rfl acc_cells (EntK.acc (fun _ => rfl) (A := (AV.i .i64)) (e := 3) (k := 1) (id := 1) (xs := cell2) rfl rfl sd)))), trivial⟩⟩) (w_order_Of_1 W ((v38 : Nat) : Int) cell2) rfl kr le <| Aq (AV.b (!(m_8 ((v38 : Nat) : Int) cell2))) <| Aq (AV.b (!(m_8 ((v38 : Nat) : Int) cell2))) ?_
 cases c_3 : (!(m_8 ((v38 : Nat) : Int) cell2))
 refine An <| An <| An <| An <| Aq (AV.b false) <| Ad <| Cf <| Awp.skip <| Rg <| Ap (Ai (v38 + 1)) (g_addN (i := v38) (m := 1) kr kr sd) <| Aq (Ai (v38 + 1)) <| Ad ?_
 try simp only [c_3, sbt] at hE3
 refine ⟨(v38 + 1, cell2), od, ⟨od, sdd, hE3⟩, ?_⟩
 exact ⟨[0, 1, 2, 3], ⟨by decide, rfl, (FitsObjs.cons (boxAA (A := (AV.i .i64)) (e := 40) (k := 1) (ek := 1) (xs := cell2) rfl (by decide) rfl) (FitsObjs.cons (obj_acc (fun _ => rfl) (e := 3) (k := 1) (A := (AV.i .i64)) (xs := cell2) rfl rfl) (FitsObjs.cons (obj_row (fun _ => rfl) (e := 40) (k := 1) (A := (slA 1 (AV.i .i64))) (xs := row) rfl rfl) (FitsObjs.cons kr FitsObjs.nil)))), (EntE.cons (Ent.f kr) (EntE.cons (Ent.f kr) (EntE.cons (Ent.f kr) (EntE.cons (Ent.f kr) (EntE.cons (Ent.f kr) (Ee (Ee EntE.nil)))))))⟩, keep0⟩
 refine Ay <| Aq ((slA 1 (AV.i .i64)) x3) <| Ay <| Aq (AV.fn 73 [(AV.loc 3 0 0)]) <| Ay <| AOps.sfw (vs := [((slA 1 (AV.i .i64)) x3), (AV.fn 73 [(AV.loc 3 0 0)])]) (ss := [((slA 1 (AV.i .i64)) x3), (AV.fn 73 [(AV.pt [AV.fn 71 [(AV.pt ((slA 1 (AV.i .i64)) cell2).cells)]])])]) (r0 := (AV.b (m_e x3 (fun z0 => m_as z0 (fun z0 => m_8 z0 cell2))))) kr (show SnapW _ _ _ from ⟨(SnapW.e kr), ⟨(EntK.w (EntK.cast (x' := (AV.fn 73 [(AV.loc 3 0 0)])) kr kr (EntK.fn (EntKs.cons (EntK.loc1 (id := 3) (j := 0) (ob := ⟨106, 1, [(AV.fn 71 [(AV.loc 0 0 0)])]⟩) (x := (AV.fn 71 [(AV.loc 0 0 0)])) rfl rfl rfl rfl (EntK.fn (EntKs.cons (EntK.loc1 (id := 0) (j := 0) (ob := ⟨40, 1, [(accV 1 1 (AV.i .i64) cell2)]⟩) (x := (accV 1 1 (AV.i .i64) cell2)) rfl rfl rfl acc_cells (EntK.acc (fun _ => rfl) (A := (AV.i .i64)) (e := 3) (k := 1) (id := 1) (xs := cell2) rfl rfl sd)) EntKs.nil))) EntKs.nil)))), trivial⟩⟩) (w_slices_ContainsFunc_int_int W x3 73 [(AV.pt [AV.fn 71 [(AV.pt ((slA 1 (AV.i .i64)) cell2).cells)]])] (fun z0 => m_as z0 (fun z0 => m_8 z0 cell2)) kr (fun z0 => (w_order_Of_2 W z0 71 [(AV.pt ((slA 1 (AV.i .i64)) cell2).cells)] (fun z0 => m_8 z0 cell2) kr (fun z0 => (w_order_Of_1 W z0 cell2))))) rfl kr le <| Ay <| Aq (AV.b (!(m_e x3 (fun z0 => m_as z0 (fun z0 => m_8 z0 cell2))))) <| Aq (AV.b (!(m_e x3 (fun z0 => m_as z0 (fun z0 => m_8 z0 cell2))))) ?_
 refine Ad ?_
 cases c_4 : (!(m_e x3 (fun z0 => m_as z0 (fun z0 => m_8 z0 cell2))))
 refine Cf <| Awp.skip <| Rg <| Ap (Ai (v38 + 1)) (g_addN (i := v38) (m := 1) kr kr sd) <| Aq (Ai (v38 + 1)) <| Ad ?_
 try simp only [c_3, c_4, sbt] at hE3
 refine ⟨(v38 + 1, cell2), od, ⟨od, sdd, hE3⟩, ?_⟩
 exact ⟨[0, 1, 2, 3], ⟨by decide, rfl, (FitsObjs.cons (boxAA (A := (AV.i .i64)) (e := 40) (k := 1) (ek := 1) (xs := cell2) rfl (by decide) rfl) (FitsObjs.cons (obj_acc (fun _ => rfl) (e := 3) (k := 1) (A := (AV.i .i64)) (xs := cell2) rfl rfl) (FitsObjs.cons (obj_row (fun _ => rfl) (e := 40) (k := 1) (A := (slA 1 (AV.i .i64))) (xs := row) rfl rfl) (FitsObjs.cons kr FitsObjs.nil)))), (EntE.cons (Ent.f kr) (EntE.cons (Ent.f kr) (EntE.cons (Ent.f kr) (EntE.cons (Ent.f kr) (EntE.cons (Ent.f kr) (Ee (Ee EntE.nil)))))))⟩, keep0⟩
 refine Ct <| Sq <| Rg <| Ap (accV 1 1 (AV.i .i64) cell2) (g_loadC (i := tI_40) (id := 0) (j := 0) (ob := ⟨40, 1, [(accV 1 1 (AV.i .i64) cell2)]⟩) (x := (accV 1 1 (AV.i .i64) cell2)) kr kr kr kr acc_cells rfl) <| Aq (Ai v38) <| Nn (AV.own 4 0 1) ⟨3, 1, [((v38 : Nat) : Int)].map (AV.i .i64)⟩ <| AOps.se (x := (AV.own 5 0 ((cell2 ++ [((v38 : Nat) : Int)]).length))) (h' := ⟨6, [(5, some ⟨3, 1, (cell2 ++ [((v38 : Nat) : Int)]).map (AV.i .i64)⟩), (4, some ⟨3, 1, [((v38 : Nat) : Int)].map (AV.i .i64)⟩), (1, none), (0, some ⟨40, 1, [(accV 1 1 (AV.i .i64) cell2)]⟩), (2, some ⟨40, 1, row.map (slA 1 (AV.i .i64))⟩), (3, some ⟨106, 1, [(AV.fn 71 [(AV.loc 0 0 0)])]⟩)]⟩) (g_app (e := 3) (X := (AV.own 4 0 1)) (A := (AV.i .i64)) (i := tI_3) (p := 1) (xs := cell2) (ys := [((v38 : Nat) : Int)]) kr kr kr (hx := kr) kr (by simp) ⟨by decide, by kernel_rfl⟩ rfl (by intro q; first | (subst q; rfl) | (rw [q]; rfl) | (simp only [q]; rfl)) (by show _ * 8 ≤ 140737488355328; first | omega | (simp only [List.length_append, List.length_cons, List.length_nil, List.length_set, List.length_replicate]; omega) | (simp; omega)) sd) le <| AOps.st (x := AV.und) (h' := ⟨6, [(5, some ⟨3, 1, (cell2 ++ [((v38 : Nat) : Int)]).map (AV.i .i64)⟩), (4, some ⟨3, 1, [((v38 : Nat) : Int)].map (AV.i .i64)⟩), (1, none), (0, some ⟨40, 1, [(AV.own 5 0 ((cell2 ++ [((v38 : Nat) : Int)]).length))]⟩), (2, some ⟨40, 1, row.map (slA 1 (AV.i .i64))⟩), (3, some ⟨106, 1, [(AV.fn 71 [(AV.loc 0 0 0)])]⟩)]⟩) (g_setC (i := tI_40) (id := 0) (j := 0) (e := 40) (k := 1) (els := [(accV 1 1 (AV.i .i64) cell2)]) (x := (accV 1 1 (AV.i .i64) cell2)) (y := (AV.own 5 0 ((cell2 ++ [((v38 : Nat) : Int)]).length))) kr kr kr kr kr Cell.acc rfl (by intro fs hh; cases hh) kr kr) ?_
 refine Ad <| Awp.exit ?_
 try simp only [c_3, c_4, sbt] at hE3
 subst hE3
 try simp only [c_2, hR3, sbt] at hE2
 refine ⟨(kf2, (cell2 ++ [((v38 : Nat) : Int)])), od, ⟨sdd, sdd, hE2⟩, ?_⟩
 exact ⟨[0, 5, 2, 3], ⟨by decide, rfl, (FitsObjs.cons (boxA (A := (AV.i .i64)) (e := 40) (k := 1) (ek := 1) (xs := (cell2 ++ [((v38 : Nat) : Int)])) (by simp) rfl (by decide) (by simp) rfl) (FitsObjs.cons (obj_acc' (fun _ => rfl) (e := 3) (k := 1) (A := (AV.i .i64)) (xs := (cell2 ++ [((v38 : Nat) : Int)])) (by simp) rfl rfl) (FitsObjs.cons (obj_row (fun _ => rfl) (e := 40) (k := 1) (A := (slA 1 (AV.i .i64))) (xs := row) rfl rfl) (FitsObjs.cons kr FitsObjs.nil)))), (EntE.cons (Ent.f kr) (EntE.cons (Ent.f kr) (EntE.cons (Ent.f kr) (EntE.cons (Ent.f kr) EntE.nil))))⟩, keep0⟩
 have hc3 : decide (((v38 : Nat) : Int) < ((g.edges.length : Nat) : Int)) = false := decide_eq_false (by omega)
 refine Awp.cond (t := false) (by rw [← hc3] <;> kernel_rfl) (Awp.exit ?_)
 rw [List.drop_eq_nil_of_le (by first | (simpa using hl3) | omega), m_ax.eq_1] at hE3
 subst hE3
 refine Sq <| Rg <| Aq (AV.sl 1 true []) <| Aq (AV.i .i64 (1001 : Int)) <| Ad <| Rt ?_
 try simp only [c_2, hR3, sbt] at hE2
 subst hE2
 have hM : m_9 g = (([] : List Int), (1001 : Int)) := by simp only [m_9, c_1, hR1, hR2, sbt]
 refine ⟨Or.inr rfl, ?_⟩
 rw [hM]
 exact Ent.cast (x' := (AV.tup [(AV.sl 1 true []), (AV.i .i64 (1001 : Int))])) (y' := (AV.tup [((slA 1 (AV.i .i64)) ((([] : List Int), (1001 : Int)).1)), (AV.i .i64 ((([] : List Int), (1001 : Int)).2))])) kr kr (Ent.tup ⟨(Ent.w rfl (WeakC.nil 1)), ⟨Ec, trivial⟩⟩ kr)
 have k_1 := ndt c_1
 refine Ct <| Sq <| Rg <| Aq (AV.sl 1 true []) <| Aq (AV.i .i64 (1000 : Int)) <| Ad <| Rt ?_
 have hM : m_9 g = (([] : List Int), (1000 : Int)) := by simp only [m_9, c_1, sbt]
 refine ⟨Or.inr rfl, ?_⟩
 rw [hM]
 exact Ent.cast (x' := (AV.tup [(AV.sl 1 true []), (AV.i .i64 (1000 : Int))])) (y' := (AV.tup [((slA 1 (AV.i .i64)) ((([] : List Int), (1000 : Int)).1)), (AV.i .i64 ((([] : List Int), (1000 : Int)).2))])) kr kr (Ent.tup ⟨(Ent.w rfl (WeakC.nil 1)), ⟨Ec, trivial⟩⟩ kr)
theorem w_law0_Num (W : World) (e : Int) : PureAt Go.Proofs.Tryz.prog W 17 [(AV.i .i64 e)] (AV.i .i64 (m_z e)) [] := by
 refine pure_of_bodyC (fn := Go.Proofs.Tryz.f17) Go.Proofs.Tryz.func17 rfl (en17 W) (ts := [2]) rfl le <| Sq <| Rg <| Aq (AV.i .i64 (0 : Int)) <| Ad <| Sq <| Rg <| Aq (AV.i .i64 e) <| Aq (AV.i .i64 e) <| Ad <| Rt ?_
 have hM : m_z e = e := by simp only [m_z, sbt]
 refine ⟨Or.inr rfl, ?_⟩
 rw [hM]
 exact Ec
theorem w_command_odd (W : World) {m0 : Int} (hW : W.cell? ⟨0, 0, none⟩ = some (.int .i64 m0)) (a : DAction) : PureAt Go.Proofs.Tryz.prog W 164 [(DAction.av a)] (AV.b (m_am a)) [] := by
 refine pure_of_bodyC (fn := Go.Proofs.Tryz.f164) Go.Proofs.Tryz.func164 rfl (en164 W) (ts := [2]) rfl le <| Sq <| Rg <| Nn (AV.loc 0 0 0) ⟨121, 3, [(DAction.av a)]⟩ <| Aq (AV.b false) <| Ad <| Sq <| Rg <| Aq (AV.loc 0 0 0) <| Aq (AV.s a.command) <| AOps.sc0 (vs := [(AV.s a.command)]) (r0 := (AV.b (m_aj a.command))) kr kr (w_graph_Command W a.command) kr le <| Aq (AV.b (!(m_aj a.command))) <| Aq (AV.b (!(m_aj a.command))) ?_
 cases c_1 : (!(m_aj a.command))
 refine Ay <| Aq (AV.loc 0 0 1) <| Ay <| Aq ((slA 1 AV.s) a.reads) <| Ay <| AOps.sc0 (vs := [((slA 1 AV.s) a.reads), (AV.i .i64 (8 : Int))]) (r0 := (AV.b (m_at a.reads (8 : Int)))) kr kr (w_path_All W hW a.reads (8 : Int)) kr le <| Ay <| Aq (AV.b (!(m_at a.reads (8 : Int)))) <| Aq (AV.b (!(m_at a.reads (8 : Int)))) <| Aq (AV.b (!(m_at a.reads (8 : Int)))) <| Ad <| Rt ?_
 have hM : m_am a = (!(m_at a.reads (8 : Int))) := by simp only [m_am, c_1, sbt]
 refine ⟨Or.inr rfl, ?_⟩
 rw [hM]
 exact Ec
 refine An <| An <| An <| An <| Aq (AV.b true) <| Aq (AV.b true) <| Ad <| Rt ?_
 have hM : m_am a = true := by simp only [m_am, c_1, sbt]
 refine ⟨Or.inr rfl, ?_⟩
 rw [hM]
 exact Ec
theorem w_slices_IndexFunc_api_Action_api_Action (W : World) (s' : List DAction) (f_f : FuncId) (c_f : List AV) (f : DAction → Bool) (hcl_f : closedL c_f = true) (hp_f : ∀ (z0 : DAction), PureAt Go.Proofs.Tryz.prog W f_f ((DAction.av z0) :: c_f) (AV.b (f z0)) []) : PureAt Go.Proofs.Tryz.prog W 181 [((slA 3 DAction.av) s'), (AV.fn f_f c_f)] (AV.i .i64 (m_g s' f)) [] := by
 refine pure_of_bodyC (fn := Go.Proofs.Tryz.f181) Go.Proofs.Tryz.func181 rfl (en181 W) (ts := [4]) rfl le <| Sq <| Rg <| Aq (AV.i .i64 (0 : Int)) <| Ad <| Sq <| Sq <| Rg <| Aq ((slA 3 DAction.av) s') <| Ap (Ai s'.length) (g_len (k := 3) (nl := false) (e := 121) (A := DAction.av) (xs := s') kr kr) <| Aq (AV.i .i64 (0 : Int)) <| Ad <| Awp.block <| Awp.lim 0 (x := ((slA 3 DAction.av) s')) kr fun hlm1 => ?_
 have hB1 : s'.length ≤ 281474976710656 := lim_slA hlm1
 obtain ⟨R1, hR1⟩ : ∃ R, m_v f s' 0 = R := ⟨_, rfl⟩
 refine Awp.loopT (fun (v8 : Nat) => [(0, ((slA 3 DAction.av) s')), (1, (AV.fn f_f c_f)), (7, (Ai s'.length)), (8, (Ai v8))]) (fun (v8 : Nat) => ⟨0, []⟩) (fun (v8 : Nat) => v8 ≤ s'.length ∧ m_v f (s'.drop v8) v8 = R1) (fun (v8 : Nat) => s'.length - v8) 0 ?_ ?_ ?_
 exact ⟨[], ⟨by decide, rfl, FitsObjs.nil, (Ee (EntE.cons (Ent.c kr hcl_f) (Ee (Ee EntE.nil))))⟩, keep0⟩
 exact ⟨od, hR1⟩
 rintro v8 ⟨hi1, hE1⟩
 try dsimp only
 refine Sq <| Rg <| Aq (AV.b (decide (((v8 : Nat) : Int) < ((s'.length : Nat) : Int)))) <| Ad <| Sq ?_
 rcases Nat.lt_or_ge v8 s'.length with hl1 | hl1
 have hc1 : decide (((v8 : Nat) : Int) < ((s'.length : Nat) : Int)) = true := decide_eq_true (by omega)
 refine Awp.cond (t := true) (by rw [← hc1] <;> kernel_rfl) (Awp.skip ?_)
 obtain ⟨x1, hx1⟩ : ∃ x, s'[v8]? = some x := ⟨_, List.getElem?_eq_getElem hl1⟩
 rw [drop_at hx1, m_v.eq_2] at hE1
 refine Sq <| Awp.block <| Sq <| Rg <| Aq (Ai v8) <| Aq (Ai v8) <| Ad <| Sq <| Rg <| Aq (AV.fn f_f c_f) <| Aq ((slA 3 DAction.av) s') <| Aq (Ai v8) <| Ap (AV.pt (DAction.av x1).cells) (g_idx (k := 3) (nl := false) (e := 121) (kk := .i64) (A := DAction.av) (xs := s') (i := v8) kr kr kr ⟨by kernel_rfl, by decide⟩ hx1) <| Aq (DAction.av x1) <| AOps.sc0 (vs := ((DAction.av x1) :: c_f)) (r0 := (AV.b (f x1))) kr (by simp only [closedL, Bool.and_eq_true]; exact ⟨by kernel_rfl, hcl_f⟩) (hp_f x1) kr le <| Ad ?_
 cases c_1 : (f x1)
 refine Cf <| Awp.skip <| Rg <| Ap (Ai (v8 + 1)) (g_addN (i := v8) (m := 1) kr kr sd) <| Aq (Ai (v8 + 1)) <| Ad ?_
 try simp only [c_1, sbt] at hE1
 refine ⟨v8 + 1, od, ⟨od, hE1⟩, ?_⟩
 exact ⟨[], ⟨by decide, rfl, FitsObjs.nil, (Ee (EntE.cons (Ent.c kr hcl_f) (Ee (Ee EntE.nil))))⟩, keep0⟩
 refine Ct <| Sq <| Rg <| Aq (Ai v8) <| Aq (Ai v8) <| Ad <| Rt ?_
 try simp only [c_1, sbt] at hE1
 subst hE1
 have hM : m_g s' f = ((v8 : Nat) : Int) := by simp only [m_g, hR1, sbt]
 refine ⟨Or.inr rfl, ?_⟩
 rw [hM]
 exact Ec
 have hc1 : decide (((v8 : Nat) : Int) < ((s'.length : Nat) : Int)) = false := decide_eq_false (by omega)
 refine Awp.cond (t := false) (by rw [← hc1] <;> kernel_rfl) (Awp.exit ?_)
 rw [List.drop_eq_nil_of_le (hl1), m_v.eq_1] at hE1
 subst hE1
 refine Sq <| Rg <| Aq (AV.i .i64 (-1 : Int)) <| Ad <| Rt ?_
 have hM : m_g s' f = (-1 : Int) := by simp only [m_g, hR1, sbt]
 refine ⟨Or.inr rfl, ?_⟩
 rw [hM]
 exact Ec
theorem w_slices_ContainsFunc_api_Action_api_Action (W : World) (s' : List DAction) (f_f : FuncId) (c_f : List AV) (f : DAction → Bool) (hcl_f : closedL c_f = true) (hp_f : ∀ (z0 : DAction), PureAt Go.Proofs.Tryz.prog W f_f ((DAction.av z0) :: c_f) (AV.b (f z0)) []) : PureAt Go.Proofs.Tryz.prog W 163 [((slA 3 DAction.av) s'), (AV.fn f_f c_f)] (AV.b (m_j s' f)) [] := by
 refine pure_of_bodyC (fn := Go.Proofs.Tryz.f163) Go.Proofs.Tryz.func163 rfl (en163 W) (ts := [4]) rfl le <| Sq <| Rg <| Aq (AV.b false) <| Ad <| Sq <| Rg <| Aq ((slA 3 DAction.av) s') <| Aq (AV.fn f_f c_f) <| AOps.sc0 (vs := [((slA 3 DAction.av) s'), (AV.fn f_f c_f)]) (r0 := (AV.i .i64 (m_g s' f))) kr (by simp only [closedL, Bool.and_eq_true]; exact ⟨by kernel_rfl, hcl_f, trivial⟩) (w_slices_IndexFunc_api_Action_api_Action W s' f_f c_f f hcl_f hp_f) kr le <| Aq (AV.b (decide ((0 : Int) ≤ (m_g s' f)))) <| Aq (AV.b (decide ((0 : Int) ≤ (m_g s' f)))) <| Ad <| Rt ?_
 have hM : m_j s' f = decide ((0 : Int) ≤ (m_g s' f)) := by simp only [m_j, sbt]
 refine ⟨Or.inr rfl, ?_⟩
 rw [hM]
 exact Ec
theorem w_command_May (W : World) {m0 : Int} (hW : W.cell? ⟨0, 0, none⟩ = some (.int .i64 m0)) (as' : List DAction) : PureAt Go.Proofs.Tryz.prog W 152 [((slA 3 DAction.av) as')] (AV.b (m_au as')) [] := by
 refine pure_of_bodyC (fn := Go.Proofs.Tryz.f152) Go.Proofs.Tryz.func152 rfl (en152 W) (ts := [2]) rfl le <| Sq <| Rg <| Aq (AV.b false) <| Ad <| Sq <| Rg <| Aq ((slA 3 DAction.av) as') <| Ap (Ai as'.length) (g_len (k := 3) (nl := false) (e := 121) (A := DAction.av) (xs := as') kr kr) <| Aq (AV.b (decide (((as'.length : Nat) : Int) ≤ (16 : Int)))) <| Aq (AV.b (decide (((as'.length : Nat) : Int) ≤ (16 : Int)))) ?_
 cases c_1 : decide (((as'.length : Nat) : Int) ≤ (16 : Int))
 have k_1 := of_decide_eq_false c_1
 refine An <| An <| An <| Aq (AV.b false) <| Aq (AV.b false) <| Ad <| Rt ?_
 have hM : m_au as' = false := by simp only [m_au, c_1, sbt]
 refine ⟨Or.inr rfl, ?_⟩
 rw [hM]
 exact Ec
 have k_1 := of_decide_eq_true c_1
 refine Ay <| Aq ((slA 3 DAction.av) as') <| Ay <| AOps.sc0 (vs := [((slA 3 DAction.av) as'), (AV.fn 164 [])]) (r0 := (AV.b (m_j as' (fun z0 => m_am z0)))) kr (by simp only [closedL, Bool.and_eq_true]; exact ⟨by kernel_rfl, kr, trivial⟩) (w_slices_ContainsFunc_api_Action_api_Action W as' 164 [] (fun z0 => m_am z0) kr (fun z0 => (w_command_odd W hW z0))) kr le <| Ay <| Aq (AV.b (!(m_j as' (fun z0 => m_am z0)))) <| Aq (AV.b (!(m_j as' (fun z0 => m_am z0)))) <| Aq (AV.b (!(m_j as' (fun z0 => m_am z0)))) <| Ad <| Rt ?_
 have hM : m_au as' = (!(m_j as' (fun z0 => m_am z0))) := by simp only [m_au, c_1, sbt]
 refine ⟨Or.inr rfl, ?_⟩
 rw [hM]
 exact Ec
theorem w_logline_Time (W : World) (x' : Int) : PureAt Go.Proofs.Tryz.prog W 182 [(AV.i .i64 x')] (AV.b (m_ab x')) [] := by
 refine pure_of_bodyC (fn := Go.Proofs.Tryz.f182) Go.Proofs.Tryz.func182 rfl (en182 W) (ts := [2]) rfl le <| Sq <| Rg <| Aq (AV.b false) <| Ad <| Sq <| Rg <| Aq (AV.i .i64 x') <| Aq (AV.b (decide ((1 : Int) ≤ x'))) <| Aq (AV.b (decide ((1 : Int) ≤ x'))) ?_
 cases c_1 : decide ((1 : Int) ≤ x')
 have k_1 := of_decide_eq_false c_1
 refine An <| An <| Aq (AV.b false) <| Aq (AV.b false) <| Ad <| Rt ?_
 have hM : m_ab x' = false := by simp only [m_ab, c_1, sbt]
 refine ⟨Or.inr rfl, ?_⟩
 rw [hM]
 exact Ec
 have k_1 := of_decide_eq_true c_1
 refine Ay <| Aq (AV.i .i64 x') <| Ay <| Aq (AV.b (decide (x' ≤ (1048576 : Int)))) <| Aq (AV.b (decide (x' ≤ (1048576 : Int)))) <| Aq (AV.b (decide (x' ≤ (1048576 : Int)))) <| Ad <| Rt ?_
 have hM : m_ab x' = decide (x' ≤ (1048576 : Int)) := by simp only [m_ab, c_1, sbt]
 refine ⟨Or.inr rfl, ?_⟩
 rw [hM]
 exact Ec
theorem w_logline_May (W : World) {m0 : Int} (hW : W.cell? ⟨0, 0, none⟩ = some (.int .i64 m0)) (r : DRecord) : PureAt Go.Proofs.Tryz.prog W 167 [(DRecord.av r)] (AV.b (m_ag r)) [] := by
 refine pure_of_bodyC (fn := Go.Proofs.Tryz.f167) Go.Proofs.Tryz.func167 rfl (en167 W) (ts := [2]) rfl le <| Sq <| Rg <| Nn (AV.loc 0 0 0) ⟨138, 3, [(DRecord.av r)]⟩ <| Aq (AV.b false) <| Ad <| Sq <| Rg <| Aq (AV.loc 0 0 0) <| Aq (AV.s r.out) <| AOps.sc0 (vs := [(AV.s r.out)]) (r0 := (AV.b (m_4 r.out))) kr kr (w_path_Is W hW r.out) kr le <| Aq (AV.b (m_4 r.out)) ?_
 cases c_1 : (m_4 r.out)
 refine An <| An <| An <| Aq (AV.b false) <| Aq (AV.b false) <| An <| An <| An <| Aq (AV.b false) <| Aq (AV.b false) <| An <| An <| An <| Aq (AV.b false) <| Aq (AV.b false) <| Ad <| Rt ?_
 have hM : m_ag r = false := by simp only [m_ag, c_1, sbt]
 refine ⟨Or.inr rfl, ?_⟩
 rw [hM]
 exact Ec
 refine Ay <| Aq (AV.loc 0 0 1) <| Ay <| Aq (AV.i .i64 r.time) <| Ay <| AOps.sc0 (vs := [(AV.i .i64 r.time)]) (r0 := (AV.b (m_ab r.time))) kr kr (w_logline_Time W r.time) kr le <| Aq (AV.b (m_ab r.time)) <| Aq (AV.b (m_ab r.time)) ?_
 cases c_2 : (m_ab r.time)
 refine An <| An <| An <| Aq (AV.b false) <| Aq (AV.b false) <| An <| An <| An <| Aq (AV.b false) <| Aq (AV.b false) <| Ad <| Rt ?_
 have hM : m_ag r = false := by simp only [m_ag, c_1, c_2, sbt]
 refine ⟨Or.inr rfl, ?_⟩
 rw [hM]
 exact Ec
 refine Ay <| Aq (AV.loc 0 0 2) <| Ay <| Aq (AV.s r.sign) <| Ay <| Aq (AV.b (!decide (r.sign = (⟨#[]⟩ : ByteArray)))) <| Aq (AV.b (!decide (r.sign = (⟨#[]⟩ : ByteArray)))) <| Aq (AV.b (!decide (r.sign = (⟨#[]⟩ : ByteArray)))) ?_
 cases c_3 : (!decide (r.sign = (⟨#[]⟩ : ByteArray)))
 refine An <| An <| An <| Aq (AV.b false) <| Aq (AV.b false) <| Ad <| Rt ?_
 have hM : m_ag r = false := by simp only [m_ag, c_1, c_2, c_3, sbt]
 refine ⟨Or.inr rfl, ?_⟩
 rw [hM]
 exact Ec
 refine Ay <| Aq (AV.loc 0 0 2) <| Ay <| Aq (AV.s r.sign) <| Ay <| AOps.sc0 (vs := [(AV.s r.sign), (AV.i .i64 (2048 : Int))]) (r0 := (AV.b (m_af r.sign (2048 : Int)))) kr kr (w_name_Plain W r.sign (2048 : Int)) kr le <| Aq (AV.b (m_af r.sign (2048 : Int))) <| Aq (AV.b (m_af r.sign (2048 : Int))) <| Ad <| Rt ?_
 have hM : m_ag r = (m_af r.sign (2048 : Int)) := by simp only [m_ag, c_1, c_2, c_3, sbt]
 refine ⟨Or.inr rfl, ?_⟩
 rw [hM]
 exact Ec
theorem w_log_May_1 (W : World) {m0 : Int} (hW : W.cell? ⟨0, 0, none⟩ = some (.int .i64 m0)) (r : DRecord) : PureAt Go.Proofs.Tryz.prog W 166 [(DRecord.av r)] (AV.b (m_a2 r)) [] := by
 refine pure_of_bodyC (fn := Go.Proofs.Tryz.f166) Go.Proofs.Tryz.func166 rfl (en166 W) (ts := [2]) rfl le <| Sq <| Rg <| Nn (AV.loc 0 0 0) ⟨138, 3, [(DRecord.av r)]⟩ <| Aq (AV.b false) <| Ad <| Sq <| Rg <| Aq (DRecord.av r) <| AOps.sc0 (vs := [(DRecord.av r)]) (r0 := (AV.b (m_ag r))) kr kr (w_logline_May W hW r) kr le <| Aq (AV.b (!(m_ag r))) <| Aq (AV.b (!(m_ag r))) <| Ad <| Rt ?_
 have hM : m_a2 r = (!(m_ag r)) := by simp only [m_a2, sbt]
 refine ⟨Or.inr rfl, ?_⟩
 rw [hM]
 exact Ec
theorem w_slices_IndexFunc_api_Record_api_Record (W : World) (s' : List DRecord) (f_f : FuncId) (c_f : List AV) (f : DRecord → Bool) (hcl_f : closedL c_f = true) (hp_f : ∀ (z0 : DRecord), PureAt Go.Proofs.Tryz.prog W f_f ((DRecord.av z0) :: c_f) (AV.b (f z0)) []) : PureAt Go.Proofs.Tryz.prog W 183 [((slA 3 DRecord.av) s'), (AV.fn f_f c_f)] (AV.i .i64 (m_h s' f)) [] := by
 refine pure_of_bodyC (fn := Go.Proofs.Tryz.f183) Go.Proofs.Tryz.func183 rfl (en183 W) (ts := [4]) rfl le <| Sq <| Rg <| Aq (AV.i .i64 (0 : Int)) <| Ad <| Sq <| Sq <| Rg <| Aq ((slA 3 DRecord.av) s') <| Ap (Ai s'.length) (g_len (k := 3) (nl := false) (e := 138) (A := DRecord.av) (xs := s') kr kr) <| Aq (AV.i .i64 (0 : Int)) <| Ad <| Awp.block <| Awp.lim 0 (x := ((slA 3 DRecord.av) s')) kr fun hlm1 => ?_
 have hB1 : s'.length ≤ 281474976710656 := lim_slA hlm1
 obtain ⟨R1, hR1⟩ : ∃ R, m_w f s' 0 = R := ⟨_, rfl⟩
 refine Awp.loopT (fun (v8 : Nat) => [(0, ((slA 3 DRecord.av) s')), (1, (AV.fn f_f c_f)), (7, (Ai s'.length)), (8, (Ai v8))]) (fun (v8 : Nat) => ⟨0, []⟩) (fun (v8 : Nat) => v8 ≤ s'.length ∧ m_w f (s'.drop v8) v8 = R1) (fun (v8 : Nat) => s'.length - v8) 0 ?_ ?_ ?_
 exact ⟨[], ⟨by decide, rfl, FitsObjs.nil, (Ee (EntE.cons (Ent.c kr hcl_f) (Ee (Ee EntE.nil))))⟩, keep0⟩
 exact ⟨od, hR1⟩
 rintro v8 ⟨hi1, hE1⟩
 try dsimp only
 refine Sq <| Rg <| Aq (AV.b (decide (((v8 : Nat) : Int) < ((s'.length : Nat) : Int)))) <| Ad <| Sq ?_
 rcases Nat.lt_or_ge v8 s'.length with hl1 | hl1
 have hc1 : decide (((v8 : Nat) : Int) < ((s'.length : Nat) : Int)) = true := decide_eq_true (by omega)
 refine Awp.cond (t := true) (by rw [← hc1] <;> kernel_rfl) (Awp.skip ?_)
 obtain ⟨x1, hx1⟩ : ∃ x, s'[v8]? = some x := ⟨_, List.getElem?_eq_getElem hl1⟩
 rw [drop_at hx1, m_w.eq_2] at hE1
 refine Sq <| Awp.block <| Sq <| Rg <| Aq (Ai v8) <| Aq (Ai v8) <| Ad <| Sq <| Rg <| Aq (AV.fn f_f c_f) <| Aq ((slA 3 DRecord.av) s') <| Aq (Ai v8) <| Ap (AV.pt (DRecord.av x1).cells) (g_idx (k := 3) (nl := false) (e := 138) (kk := .i64) (A := DRecord.av) (xs := s') (i := v8) kr kr kr ⟨by kernel_rfl, by decide⟩ hx1) <| Aq (DRecord.av x1) <| AOps.sc0 (vs := ((DRecord.av x1) :: c_f)) (r0 := (AV.b (f x1))) kr (by simp only [closedL, Bool.and_eq_true]; exact ⟨by kernel_rfl, hcl_f⟩) (hp_f x1) kr le <| Ad ?_
 cases c_1 : (f x1)
 refine Cf <| Awp.skip <| Rg <| Ap (Ai (v8 + 1)) (g_addN (i := v8) (m := 1) kr kr sd) <| Aq (Ai (v8 + 1)) <| Ad ?_
 try simp only [c_1, sbt] at hE1
 refine ⟨v8 + 1, od, ⟨od, hE1⟩, ?_⟩
 exact ⟨[], ⟨by decide, rfl, FitsObjs.nil, (Ee (EntE.cons (Ent.c kr hcl_f) (Ee (Ee EntE.nil))))⟩, keep0⟩
 refine Ct <| Sq <| Rg <| Aq (Ai v8) <| Aq (Ai v8) <| Ad <| Rt ?_
 try simp only [c_1, sbt] at hE1
 subst hE1
 have hM : m_h s' f = ((v8 : Nat) : Int) := by simp only [m_h, hR1, sbt]
 refine ⟨Or.inr rfl, ?_⟩
 rw [hM]
 exact Ec
 have hc1 : decide (((v8 : Nat) : Int) < ((s'.length : Nat) : Int)) = false := decide_eq_false (by omega)
 refine Awp.cond (t := false) (by rw [← hc1] <;> kernel_rfl) (Awp.exit ?_)
 rw [List.drop_eq_nil_of_le (hl1), m_w.eq_1] at hE1
 subst hE1
 refine Sq <| Rg <| Aq (AV.i .i64 (-1 : Int)) <| Ad <| Rt ?_
 have hM : m_h s' f = (-1 : Int) := by simp only [m_h, hR1, sbt]
 refine ⟨Or.inr rfl, ?_⟩
 rw [hM]
 exact Ec
theorem w_slices_ContainsFunc_api_Record_api_Record (W : World) (s' : List DRecord) (f_f : FuncId) (c_f : List AV) (f : DRecord → Bool) (hcl_f : closedL c_f = true) (hp_f : ∀ (z0 : DRecord), PureAt Go.Proofs.Tryz.prog W f_f ((DRecord.av z0) :: c_f) (AV.b (f z0)) []) : PureAt Go.Proofs.Tryz.prog W 168 [((slA 3 DRecord.av) s'), (AV.fn f_f c_f)] (AV.b (m_k s' f)) [] := by
 refine pure_of_bodyC (fn := Go.Proofs.Tryz.f168) Go.Proofs.Tryz.func168 rfl (en168 W) (ts := [4]) rfl le <| Sq <| Rg <| Aq (AV.b false) <| Ad <| Sq <| Rg <| Aq ((slA 3 DRecord.av) s') <| Aq (AV.fn f_f c_f) <| AOps.sc0 (vs := [((slA 3 DRecord.av) s'), (AV.fn f_f c_f)]) (r0 := (AV.i .i64 (m_h s' f))) kr (by simp only [closedL, Bool.and_eq_true]; exact ⟨by kernel_rfl, hcl_f, trivial⟩) (w_slices_IndexFunc_api_Record_api_Record W s' f_f c_f f hcl_f hp_f) kr le <| Aq (AV.b (decide ((0 : Int) ≤ (m_h s' f)))) <| Aq (AV.b (decide ((0 : Int) ≤ (m_h s' f)))) <| Ad <| Rt ?_
 have hM : m_k s' f = decide ((0 : Int) ≤ (m_h s' f)) := by simp only [m_k, sbt]
 refine ⟨Or.inr rfl, ?_⟩
 rw [hM]
 exact Ec
theorem w_log_May (W : World) {m0 : Int} (hW : W.cell? ⟨0, 0, none⟩ = some (.int .i64 m0)) (rs : List DRecord) : PureAt Go.Proofs.Tryz.prog W 154 [((slA 3 DRecord.av) rs)] (AV.b (m_log_May rs)) [] := by
 refine pure_of_bodyC (fn := Go.Proofs.Tryz.f154) Go.Proofs.Tryz.func154 rfl (en154 W) (ts := [2]) rfl le <| Sq <| Rg <| Aq (AV.b false) <| Ad <| Sq <| Rg <| Aq (AV.fn 166 []) <| Ad <| Sq <| Rg <| Aq ((slA 3 DRecord.av) rs) <| Ap (Ai rs.length) (g_len (k := 3) (nl := false) (e := 138) (A := DRecord.av) (xs := rs) kr kr) <| Aq (AV.b (decide (((rs.length : Nat) : Int) ≤ (256 : Int)))) <| Aq (AV.b (decide (((rs.length : Nat) : Int) ≤ (256 : Int)))) ?_
 cases c_1 : decide (((rs.length : Nat) : Int) ≤ (256 : Int))
 have k_1 := of_decide_eq_false c_1
 refine An <| An <| An <| An <| Aq (AV.b false) <| Aq (AV.b false) <| Ad <| Rt ?_
 have hM : m_log_May rs = false := by simp only [m_log_May, c_1, sbt]
 refine ⟨Or.inr rfl, ?_⟩
 rw [hM]
 exact Ec
 have k_1 := of_decide_eq_true c_1
 refine Ay <| Aq ((slA 3 DRecord.av) rs) <| Ay <| Aq (AV.fn 166 []) <| Ay <| AOps.sc0 (vs := [((slA 3 DRecord.av) rs), (AV.fn 166 [])]) (r0 := (AV.b (m_k rs (fun z0 => m_a2 z0)))) kr (by simp only [closedL, Bool.and_eq_true]; exact ⟨by kernel_rfl, kr, trivial⟩) (w_slices_ContainsFunc_api_Record_api_Record W rs 166 [] (fun z0 => m_a2 z0) kr (fun z0 => (w_log_May_1 W hW z0))) kr le <| Ay <| Aq (AV.b (!(m_k rs (fun z0 => m_a2 z0)))) <| Aq (AV.b (!(m_k rs (fun z0 => m_a2 z0)))) <| Aq (AV.b (!(m_k rs (fun z0 => m_a2 z0)))) <| Ad <| Rt ?_
 have hM : m_log_May rs = (!(m_k rs (fun z0 => m_a2 z0))) := by simp only [m_log_May, c_1, sbt]
 refine ⟨Or.inr rfl, ?_⟩
 rw [hM]
 exact Ec
theorem w_deprec_May (W : World) {m0 : Int} (hW : W.cell? ⟨0, 0, none⟩ = some (.int .i64 m0)) (f : DFound) : PureAt Go.Proofs.Tryz.prog W 170 [(DFound.av f)] (AV.b (m_ar f)) [] := by
 refine pure_of_bodyC (fn := Go.Proofs.Tryz.f170) Go.Proofs.Tryz.func170 rfl (en170 W) (ts := [2]) rfl le <| Sq <| Rg <| Nn (AV.loc 0 0 0) ⟨134, 3, [(DFound.av f)]⟩ <| Aq (AV.b false) <| Ad <| Sq <| Rg <| Aq (AV.loc 0 0 0) <| Aq (AV.s f.out) <| AOps.sc0 (vs := [(AV.s f.out)]) (r0 := (AV.b (m_4 f.out))) kr kr (w_path_Is W hW f.out) kr le <| Aq (AV.b (m_4 f.out)) ?_
 cases c_1 : (m_4 f.out)
 refine An <| An <| An <| Aq (AV.b false) <| Aq (AV.b false) <| An <| An <| An <| Aq (AV.b false) <| Aq (AV.b false) <| Ad <| Rt ?_
 have hM : m_ar f = false := by simp only [m_ar, c_1, sbt]
 refine ⟨Or.inr rfl, ?_⟩
 rw [hM]
 exact Ec
 refine Ay <| Aq (AV.loc 0 0 1) <| Ay <| Aq (AV.i .i64 f.time) <| Ay <| AOps.sc0 (vs := [(AV.i .i64 f.time)]) (r0 := (AV.b (m_ab f.time))) kr kr (w_logline_Time W f.time) kr le <| Aq (AV.b (m_ab f.time)) <| Aq (AV.b (m_ab f.time)) ?_
 cases c_2 : (m_ab f.time)
 refine An <| An <| An <| Aq (AV.b false) <| Aq (AV.b false) <| Ad <| Rt ?_
 have hM : m_ar f = false := by simp only [m_ar, c_1, c_2, sbt]
 refine ⟨Or.inr rfl, ?_⟩
 rw [hM]
 exact Ec
 refine Ay <| Aq (AV.loc 0 0 2) <| Ay <| Aq ((slA 1 AV.s) f.ins) <| Ay <| AOps.sc0 (vs := [((slA 1 AV.s) f.ins), (AV.i .i64 (8 : Int))]) (r0 := (AV.b (m_at f.ins (8 : Int)))) kr kr (w_path_All W hW f.ins (8 : Int)) kr le <| Aq (AV.b (m_at f.ins (8 : Int))) <| Aq (AV.b (m_at f.ins (8 : Int))) <| Ad <| Rt ?_
 have hM : m_ar f = (m_at f.ins (8 : Int)) := by simp only [m_ar, c_1, c_2, sbt]
 refine ⟨Or.inr rfl, ?_⟩
 rw [hM]
 exact Ec
theorem w_deplog_May_1 (W : World) {m0 : Int} (hW : W.cell? ⟨0, 0, none⟩ = some (.int .i64 m0)) (f : DFound) : PureAt Go.Proofs.Tryz.prog W 169 [(DFound.av f)] (AV.b (m_ap f)) [] := by
 refine pure_of_bodyC (fn := Go.Proofs.Tryz.f169) Go.Proofs.Tryz.func169 rfl (en169 W) (ts := [2]) rfl le <| Sq <| Rg <| Nn (AV.loc 0 0 0) ⟨134, 3, [(DFound.av f)]⟩ <| Aq (AV.b false) <| Ad <| Sq <| Rg <| Aq (DFound.av f) <| AOps.sc0 (vs := [(DFound.av f)]) (r0 := (AV.b (m_ar f))) kr kr (w_deprec_May W hW f) kr le <| Aq (AV.b (!(m_ar f))) <| Aq (AV.b (!(m_ar f))) <| Ad <| Rt ?_
 have hM : m_ap f = (!(m_ar f)) := by simp only [m_ap, sbt]
 refine ⟨Or.inr rfl, ?_⟩
 rw [hM]
 exact Ec
theorem w_slices_IndexFunc_api_Found_api_Found (W : World) (s' : List DFound) (f_f : FuncId) (c_f : List AV) (f : DFound → Bool) (hcl_f : closedL c_f = true) (hp_f : ∀ (z0 : DFound), PureAt Go.Proofs.Tryz.prog W f_f ((DFound.av z0) :: c_f) (AV.b (f z0)) []) : PureAt Go.Proofs.Tryz.prog W 184 [((slA 3 DFound.av) s'), (AV.fn f_f c_f)] (AV.i .i64 (m_m s' f)) [] := by
 refine pure_of_bodyC (fn := Go.Proofs.Tryz.f184) Go.Proofs.Tryz.func184 rfl (en184 W) (ts := [4]) rfl le <| Sq <| Rg <| Aq (AV.i .i64 (0 : Int)) <| Ad <| Sq <| Sq <| Rg <| Aq ((slA 3 DFound.av) s') <| Ap (Ai s'.length) (g_len (k := 3) (nl := false) (e := 134) (A := DFound.av) (xs := s') kr kr) <| Aq (AV.i .i64 (0 : Int)) <| Ad <| Awp.block <| Awp.lim 0 (x := ((slA 3 DFound.av) s')) kr fun hlm1 => ?_
 have hB1 : s'.length ≤ 281474976710656 := lim_slA hlm1
 obtain ⟨R1, hR1⟩ : ∃ R, m_y f s' 0 = R := ⟨_, rfl⟩
 refine Awp.loopT (fun (v8 : Nat) => [(0, ((slA 3 DFound.av) s')), (1, (AV.fn f_f c_f)), (7, (Ai s'.length)), (8, (Ai v8))]) (fun (v8 : Nat) => ⟨0, []⟩) (fun (v8 : Nat) => v8 ≤ s'.length ∧ m_y f (s'.drop v8) v8 = R1) (fun (v8 : Nat) => s'.length - v8) 0 ?_ ?_ ?_
 exact ⟨[], ⟨by decide, rfl, FitsObjs.nil, (Ee (EntE.cons (Ent.c kr hcl_f) (Ee (Ee EntE.nil))))⟩, keep0⟩
 exact ⟨od, hR1⟩
 rintro v8 ⟨hi1, hE1⟩
 try dsimp only
 refine Sq <| Rg <| Aq (AV.b (decide (((v8 : Nat) : Int) < ((s'.length : Nat) : Int)))) <| Ad <| Sq ?_
 rcases Nat.lt_or_ge v8 s'.length with hl1 | hl1
 have hc1 : decide (((v8 : Nat) : Int) < ((s'.length : Nat) : Int)) = true := decide_eq_true (by omega)
 refine Awp.cond (t := true) (by rw [← hc1] <;> kernel_rfl) (Awp.skip ?_)
 obtain ⟨x1, hx1⟩ : ∃ x, s'[v8]? = some x := ⟨_, List.getElem?_eq_getElem hl1⟩
 rw [drop_at hx1, m_y.eq_2] at hE1
 refine Sq <| Awp.block <| Sq <| Rg <| Aq (Ai v8) <| Aq (Ai v8) <| Ad <| Sq <| Rg <| Aq (AV.fn f_f c_f) <| Aq ((slA 3 DFound.av) s') <| Aq (Ai v8) <| Ap (AV.pt (DFound.av x1).cells) (g_idx (k := 3) (nl := false) (e := 134) (kk := .i64) (A := DFound.av) (xs := s') (i := v8) kr kr kr ⟨by kernel_rfl, by decide⟩ hx1) <| Aq (DFound.av x1) <| AOps.sc0 (vs := ((DFound.av x1) :: c_f)) (r0 := (AV.b (f x1))) kr (by simp only [closedL, Bool.and_eq_true]; exact ⟨by kernel_rfl, hcl_f⟩) (hp_f x1) kr le <| Ad ?_
 cases c_1 : (f x1)
 refine Cf <| Awp.skip <| Rg <| Ap (Ai (v8 + 1)) (g_addN (i := v8) (m := 1) kr kr sd) <| Aq (Ai (v8 + 1)) <| Ad ?_
 try simp only [c_1, sbt] at hE1
 refine ⟨v8 + 1, od, ⟨od, hE1⟩, ?_⟩
 exact ⟨[], ⟨by decide, rfl, FitsObjs.nil, (Ee (EntE.cons (Ent.c kr hcl_f) (Ee (Ee EntE.nil))))⟩, keep0⟩
 refine Ct <| Sq <| Rg <| Aq (Ai v8) <| Aq (Ai v8) <| Ad <| Rt ?_
 try simp only [c_1, sbt] at hE1
 subst hE1
 have hM : m_m s' f = ((v8 : Nat) : Int) := by simp only [m_m, hR1, sbt]
 refine ⟨Or.inr rfl, ?_⟩
 rw [hM]
 exact Ec
 have hc1 : decide (((v8 : Nat) : Int) < ((s'.length : Nat) : Int)) = false := decide_eq_false (by omega)
 refine Awp.cond (t := false) (by rw [← hc1] <;> kernel_rfl) (Awp.exit ?_)
 rw [List.drop_eq_nil_of_le (hl1), m_y.eq_1] at hE1
 subst hE1
 refine Sq <| Rg <| Aq (AV.i .i64 (-1 : Int)) <| Ad <| Rt ?_
 have hM : m_m s' f = (-1 : Int) := by simp only [m_m, hR1, sbt]
 refine ⟨Or.inr rfl, ?_⟩
 rw [hM]
 exact Ec
theorem w_slices_ContainsFunc_api_Found_api_Found (W : World) (s' : List DFound) (f_f : FuncId) (c_f : List AV) (f : DFound → Bool) (hcl_f : closedL c_f = true) (hp_f : ∀ (z0 : DFound), PureAt Go.Proofs.Tryz.prog W f_f ((DFound.av z0) :: c_f) (AV.b (f z0)) []) : PureAt Go.Proofs.Tryz.prog W 171 [((slA 3 DFound.av) s'), (AV.fn f_f c_f)] (AV.b (m_n s' f)) [] := by
 refine pure_of_bodyC (fn := Go.Proofs.Tryz.f171) Go.Proofs.Tryz.func171 rfl (en171 W) (ts := [4]) rfl le <| Sq <| Rg <| Aq (AV.b false) <| Ad <| Sq <| Rg <| Aq ((slA 3 DFound.av) s') <| Aq (AV.fn f_f c_f) <| AOps.sc0 (vs := [((slA 3 DFound.av) s'), (AV.fn f_f c_f)]) (r0 := (AV.i .i64 (m_m s' f))) kr (by simp only [closedL, Bool.and_eq_true]; exact ⟨by kernel_rfl, hcl_f, trivial⟩) (w_slices_IndexFunc_api_Found_api_Found W s' f_f c_f f hcl_f hp_f) kr le <| Aq (AV.b (decide ((0 : Int) ≤ (m_m s' f)))) <| Aq (AV.b (decide ((0 : Int) ≤ (m_m s' f)))) <| Ad <| Rt ?_
 have hM : m_n s' f = decide ((0 : Int) ≤ (m_m s' f)) := by simp only [m_n, sbt]
 refine ⟨Or.inr rfl, ?_⟩
 rw [hM]
 exact Ec
theorem w_deplog_May (W : World) {m0 : Int} (hW : W.cell? ⟨0, 0, none⟩ = some (.int .i64 m0)) (fs : List DFound) : PureAt Go.Proofs.Tryz.prog W 155 [((slA 3 DFound.av) fs)] (AV.b (m_ay fs)) [] := by
 refine pure_of_bodyC (fn := Go.Proofs.Tryz.f155) Go.Proofs.Tryz.func155 rfl (en155 W) (ts := [2]) rfl le <| Sq <| Rg <| Aq (AV.b false) <| Ad <| Sq <| Rg <| Aq (AV.fn 169 []) <| Ad <| Sq <| Rg <| Aq ((slA 3 DFound.av) fs) <| Ap (Ai fs.length) (g_len (k := 3) (nl := false) (e := 134) (A := DFound.av) (xs := fs) kr kr) <| Aq (AV.b (decide (((fs.length : Nat) : Int) ≤ (256 : Int)))) <| Aq (AV.b (decide (((fs.length : Nat) : Int) ≤ (256 : Int)))) ?_
 cases c_1 : decide (((fs.length : Nat) : Int) ≤ (256 : Int))
 have k_1 := of_decide_eq_false c_1
 refine An <| An <| An <| An <| Aq (AV.b false) <| Aq (AV.b false) <| Ad <| Rt ?_
 have hM : m_ay fs = false := by simp only [m_ay, c_1, sbt]
 refine ⟨Or.inr rfl, ?_⟩
 rw [hM]
 exact Ec
 have k_1 := of_decide_eq_true c_1
 refine Ay <| Aq ((slA 3 DFound.av) fs) <| Ay <| Aq (AV.fn 169 []) <| Ay <| AOps.sc0 (vs := [((slA 3 DFound.av) fs), (AV.fn 169 [])]) (r0 := (AV.b (m_n fs (fun z0 => m_ap z0)))) kr (by simp only [closedL, Bool.and_eq_true]; exact ⟨by kernel_rfl, kr, trivial⟩) (w_slices_ContainsFunc_api_Found_api_Found W fs 169 [] (fun z0 => m_ap z0) kr (fun z0 => (w_deplog_May_1 W hW z0))) kr le <| Ay <| Aq (AV.b (!(m_n fs (fun z0 => m_ap z0)))) <| Aq (AV.b (!(m_n fs (fun z0 => m_ap z0)))) <| Aq (AV.b (!(m_n fs (fun z0 => m_ap z0)))) <| Ad <| Rt ?_
 have hM : m_ay fs = (!(m_n fs (fun z0 => m_ap z0))) := by simp only [m_ay, c_1, sbt]
 refine ⟨Or.inr rfl, ?_⟩
 rw [hM]
 exact Ec
theorem w_disk_content (W : World) (x' : Int) : PureAt Go.Proofs.Tryz.prog W 165 [(AV.i .i64 x')] (AV.b (m_ai x')) [] := by
 refine pure_of_bodyC (fn := Go.Proofs.Tryz.f165) Go.Proofs.Tryz.func165 rfl (en165 W) (ts := [2]) rfl le <| Sq <| Rg <| Aq (AV.b false) <| Ad <| Sq <| Rg <| Aq (AV.i .i64 x') <| Aq (AV.b (decide ((0 : Int) ≤ x'))) <| Aq (AV.b (decide ((0 : Int) ≤ x'))) ?_
 cases c_1 : decide ((0 : Int) ≤ x')
 have k_1 := of_decide_eq_false c_1
 refine An <| An <| Aq (AV.b false) <| Aq (AV.b false) <| Ad <| Rt ?_
 have hM : m_ai x' = false := by simp only [m_ai, c_1, sbt]
 refine ⟨Or.inr rfl, ?_⟩
 rw [hM]
 exact Ec
 have k_1 := of_decide_eq_true c_1
 refine Ay <| Aq (AV.i .i64 x') <| Ay <| Aq (AV.b (decide (x' ≤ (2147483647 : Int)))) <| Aq (AV.b (decide (x' ≤ (2147483647 : Int)))) <| Aq (AV.b (decide (x' ≤ (2147483647 : Int)))) <| Ad <| Rt ?_
 have hM : m_ai x' = decide (x' ≤ (2147483647 : Int)) := by simp only [m_ai, c_1, sbt]
 refine ⟨Or.inr rfl, ?_⟩
 rw [hM]
 exact Ec
theorem w_disk_May (W : World) {m0 : Int} (hW : W.cell? ⟨0, 0, none⟩ = some (.int .i64 m0)) (d : DDisk) : PureAt Go.Proofs.Tryz.prog W 153 [DDisk.av d] (.b (dmayS m_4 d)) [] where
 enters := en153 W
 calls := fun w Y vs hG hY hvs => by
    refine calls_of_wp Go.Proofs.Tryz.func153 rfl ?_
    have F0 := CF.start (P := Go.Proofs.Tryz.prog) (n := 77) hG hY rfl hvs (by simp)
    refine wp_seq (wp_mono (F0.run (Q := fun e env => e = .normal ∧ env = [(1, (AV.pt (DDisk.av d).cells))]) ?_) ?_)
    · refine Rg ?_
      refine Nn (AV.loc 0 0 0) ⟨60, 2, [(DDisk.av d)]⟩ <| Aq (AV.b false) <| Ad ?_
      exact ⟨[], [(1, (AV.pt (DDisk.av d).cells))], ⟨0, []⟩, ⟨by decide, rfl, FitsObjs.nil, (EntE.cons (EntD.kk (x' := (AV.loc 0 0 0)) kr kr rfl (EntK.loc (id := 0) (j := 0) (o := 0) (ob := ⟨60, 2, [(DDisk.av d)]⟩) (x := (DDisk.av d)) rfl rfl rfl (EntKs.cons (EntK.cr (x := (AV.i .i64 d.clock)) kr) (EntKs.cons (EntK.cr (x := ((slA 3 DFile.av) d.files)) kr) EntKs.nil)))) EntE.nil)⟩, rfl, rfl, ⟨rfl, rfl⟩⟩
    rintro e a1 w1 ⟨env1, ⟨rfl, rfl⟩, F1, hb1⟩
    have hr0 : w.heap.size ≤ w1.heap.size := hb1.size
    have hrW : W.heap.size ≤ w1.heap.size := Nat.le_trans hG.size hr0
    refine wp_seq (wp_region ?_)
    show wpOps _ _ _ [0, 1] _ _
    refine wpOps_one rfl rfl (v := .map (some w1.heap.size)) (w' := w1.alloc (.map #[] 0)) rfl ?_
    have F2 := (F1.made (.map #[] 0)).put (t := 6) (x := .raw (.map (some w1.heap.size))) (v := .map (some w1.heap.size)) (by decide) (by simp only [CR])
    refine wpOps_one rfl rfl (v := (a1.put (some 6) (.map (some w1.heap.size))).eval (.tmp 6)) (w' := w1.alloc (.map #[] 0)) rfl ?_
    have F3 := F2.put (t := 3) (by decide) (F2.env 6)
    have hr3 : (w1.alloc (.map #[] 0)).heap[w1.heap.size]? = some (.map #[] 0) := heap_push_new _ _
    obtain ⟨r, hrr⟩ : ∃ r, w1.heap.size = r := ⟨_, rfl⟩
    rw [hrr] at hr0 hrW hr3 F3
    simp only [hrr]
    refine wp_seq (wp_seq (wp_mono (F3.run (Q := fun e env => e = .normal ∧ env = [(1, (AV.pt (DDisk.av d).cells)), (3, (AV.raw (Value.map (some r)))), (8, ((slA 3 DFile.av) d.files)), (9, (Ai d.files.length)), (10, (AV.i .i64 (0 : Int)))]) ?_) ?_))
    · refine Rg ?_
      refine Aq (AV.pt ((DDisk.av d).cells.drop 1)) <| Aq ((slA 3 DFile.av) d.files) <| Ap (Ai d.files.length) (g_len (k := 3) (nl := false) (e := 119) (A := DFile.av) (xs := d.files) kr kr) <| Aq (AV.i .i64 (0 : Int)) <| Ad ?_
      exact ⟨[], [(1, (AV.pt (DDisk.av d).cells)), (3, (AV.raw (Value.map (some r)))), (8, ((slA 3 DFile.av) d.files)), (9, (Ai d.files.length)), (10, (AV.i .i64 (0 : Int)))], ⟨0, []⟩, ⟨by decide, rfl, FitsObjs.nil, (Ee (Ee (Ee (Ee (Ee EntE.nil)))))⟩, rfl, rfl, ⟨rfl, rfl⟩⟩
    rintro e a2 w2 ⟨env2, ⟨rfl, rfl⟩, F4, hb2⟩
    have hr4 := Below.blk hb2 hr3
    have hB : d.files.length ≤ 281474976710656 := F4.len (t := 8) rfl
    obtain ⟨R, hR0⟩ : ∃ R, dmayL m_4 d.clock d.files [] none = R := ⟨_, rfl⟩
    refine wp_block <| wp_loop_k (fun k a w' => ∃ (i : Nat) (es : Array MapEntry) (clock : Nat), k = d.files.length - i ∧ i ≤ d.files.length ∧ CF 77 W w Y [(1, (AV.pt (DDisk.av d).cells)), (3, (AV.raw (Value.map (some r)))), (8, ((slA 3 DFile.av) d.files)), (9, (Ai d.files.length)), (10, (Ai i))] a w' ∧ w'.heap[r]? = some (.map es clock) ∧ EsOk es ((d.files.take i).map DFile.time) ∧ dmayL m_4 d.clock (d.files.drop i) ((d.files.take i).map DFile.time) (d.files.take i).getLast? = R) (k0 := d.files.length) ⟨0, #[], 0, rfl, Nat.zero_le _, F4, hr4, EsOk.nil, hR0⟩ ?_
    rintro k a3 w3 ⟨i, es, clock, hk, hi, F5, hr5, hes, hR⟩
    refine wp_seq (wp_mono (F5.run (Q := fun e env => e = .normal ∧ env = [(1, (AV.pt (DDisk.av d).cells)), (3, (AV.raw (Value.map (some r)))), (8, ((slA 3 DFile.av) d.files)), (9, (Ai d.files.length)), (10, (Ai i)), (11, (AV.b (decide (((i : Nat) : Int) < ((d.files.length : Nat) : Int)))))]) ?_) ?_)
    · refine Rg ?_
      refine Aq (AV.b (decide (((i : Nat) : Int) < ((d.files.length : Nat) : Int)))) <| Ad ?_
      exact ⟨[], [(1, (AV.pt (DDisk.av d).cells)), (3, (AV.raw (Value.map (some r)))), (8, ((slA 3 DFile.av) d.files)), (9, (Ai d.files.length)), (10, (Ai i)), (11, (AV.b (decide (((i : Nat) : Int) < ((d.files.length : Nat) : Int)))))], ⟨0, []⟩, ⟨by decide, rfl, FitsObjs.nil, (Ee (Ee (Ee (Ee (Ee (Ee EntE.nil))))))⟩, rfl, rfl, ⟨rfl, rfl⟩⟩
    rintro e a4 w4 ⟨env4, ⟨rfl, rfl⟩, F6, hb4⟩
    have hr6 := Below.blk hb4 hr5
    refine wp_seq ?_
    rcases Nat.lt_or_ge i d.files.length with hl | hl
    · refine wp_cond (t := true) ((F6.bool (t := 11) rfl).trans (congrArg Value.bool (decide_eq_true (by omega)))) (wp_skip ?_)
      obtain ⟨x, hx⟩ : ∃ x, d.files[i]? = some x := ⟨_, List.getElem?_eq_getElem hl⟩
      have hst := dmay_step (d := d) hx
      obtain ⟨ts, hts⟩ : ∃ ts, (d.files.take i).map DFile.time = ts := ⟨_, rfl⟩
      rw [hts] at hes hR hst
      refine wp_seq (wp_block (wp_seq (wp_mono (F6.run (Q := fun e env => e = .normal ∧ env = [(1, (AV.pt (DDisk.av d).cells)), (3, (AV.raw (Value.map (some r)))), (4, (Ai i)), (5, (AV.pt (DFile.av x).cells)), (8, ((slA 3 DFile.av) d.files)), (9, (Ai d.files.length)), (10, (Ai i))]) ?_) ?_)))
      · refine Rg ?_
        refine Aq (Ai i) <| Ap (AV.pt (DFile.av x).cells) (g_idx (k := 3) (nl := false) (e := 119) (kk := .i64) (A := DFile.av) (xs := d.files) (i := i) kr kr kr ⟨by kernel_rfl, by decide⟩ hx) <| Aq (DFile.av x) <| Nn (AV.loc 0 0 0) ⟨119, 3, [(AV.st [(AV.s (⟨#[]⟩ : ByteArray)), (AV.i .i64 (0 : Int)), (AV.i .i64 (0 : Int))])]⟩ <| Aq (Ai i) <| Sp 0 ⟨119, 3, [(AV.st [(AV.s x.name), (AV.i .i64 x.content), (AV.i .i64 x.time)])]⟩ <| Ad ?_
        exact ⟨[], [(1, (AV.pt (DDisk.av d).cells)), (3, (AV.raw (Value.map (some r)))), (4, (Ai i)), (5, (AV.pt (DFile.av x).cells)), (8, ((slA 3 DFile.av) d.files)), (9, (Ai d.files.length)), (10, (Ai i))], ⟨0, []⟩, ⟨by decide, rfl, FitsObjs.nil, (Ee (Ee (Ee (EntE.cons (EntD.kk (x' := (AV.loc 0 0 0)) kr kr rfl (EntK.loc (id := 0) (j := 0) (o := 0) (ob := ⟨119, 3, [(AV.st [(AV.s x.name), (AV.i .i64 x.content), (AV.i .i64 x.time)])]⟩) (x := (AV.st [(AV.s x.name), (AV.i .i64 x.content), (AV.i .i64 x.time)])) rfl rfl rfl (EntKs.cons (EntK.cr (x := (AV.s x.name)) kr) (EntKs.cons (EntK.cr (x := (AV.i .i64 x.content)) kr) (EntKs.cons (EntK.cr (x := (AV.i .i64 x.time)) kr) EntKs.nil))))) (Ee (Ee (Ee EntE.nil)))))))⟩, rfl, rfl, ⟨rfl, rfl⟩⟩
      rintro e a5 w5 ⟨env5, ⟨rfl, rfl⟩, F7, hb5⟩
      have hr := Below.blk hb5 hr6
      have hWw5 := F7.glob.cell hW
      refine wp_seq (wp_mono (F7.run (Q := fun e env => (e = .ret ∧ env = [(2, (AV.b false))] ∧ diskC d ts x i = false) ∨ (e = .normal ∧ env = [(1, (AV.pt (DDisk.av d).cells)), (3, (AV.raw (Value.map (some r)))), (5, (AV.pt (DFile.av x).cells)), (8, ((slA 3 DFile.av) d.files)), (9, (Ai d.files.length)), (10, (Ai i))] ∧ diskC d ts x i = true)) ?_) ?_)
      · refine Sq ?_
        refine Awp.drawn tabS_ok mixed 41 kr le <| Dq (AV.pt ((DFile.av x).cells.drop 0)) <| Dq (AV.s x.name) <| AOpsD.sc0 (vs := [(AV.s x.name)]) (r0 := (AV.b (m_4 x.name))) kr kr (w_path_Is w5 hWw5 x.name) kr le <| Dq (AV.b (!(m_4 x.name))) <| Dq (AV.b (!(m_4 x.name))) ?_
        cases c_1 : (!(m_4 x.name))
        refine Dy <| Dq (AV.pt ((DFile.av x).cells.drop 1)) <| Dy <| Dq (AV.i .i64 x.content) <| Dy <| AOpsD.sc0 (vs := [(AV.i .i64 x.content)]) (r0 := (AV.b (m_ai x.content))) kr kr (w_disk_content w5 x.content) kr le <| Dy <| Dq (AV.b (!(m_ai x.content))) <| Dq (AV.b (!(m_ai x.content))) <| Dq (AV.b (!(m_ai x.content))) ?_
        cases c_2 : (!(m_ai x.content))
        refine Dy <| Dq (AV.pt ((DFile.av x).cells.drop 2)) <| Dy <| Dq (AV.i .i64 x.time) <| Dy <| Dq (AV.b (decide (x.time < (1 : Int)))) <| Dq (AV.b (decide (x.time < (1 : Int)))) <| Dq (AV.b (decide (x.time < (1 : Int)))) ?_
        cases c_3 : decide (x.time < (1 : Int))
        have k_3 := of_decide_eq_false c_3
        refine Dy <| Dq (AV.pt ((DFile.av x).cells.drop 2)) <| Dy <| Dq (AV.i .i64 x.time) <| Dy <| Dq (AV.pt ((DDisk.av d).cells.drop 0)) <| Dy <| Dq (AV.i .i64 d.clock) <| Dy <| Dq (AV.b (decide (d.clock < x.time))) <| Dq (AV.b (decide (d.clock < x.time))) <| Dq (AV.b (decide (d.clock < x.time))) ?_
        cases c_4 : decide (d.clock < x.time)
        have k_4 := of_decide_eq_false c_4
        refine Dy <| Dq (AV.raw (Value.map (some r))) <| Dy <| Dq (AV.pt ((DFile.av x).cells.drop 2)) <| Dy <| Dq (AV.i .i64 x.time) <| Dy <| AOpsD.sg (x := (AV.b (ts.any (fun t => decide (t = x.time))))) (lookup_ok (vt := 4) Go.Proofs.Tryz.underlying196 Go.Proofs.Tryz.underlying3 (fun _ => by kernel_rfl) hr hes rfl rfl) le <| Dq (AV.b (ts.any (fun t => decide (t = x.time)))) <| Dq (AV.b (ts.any (fun t => decide (t = x.time)))) ?_
        cases c_5 : (ts.any (fun t => decide (t = x.time)))
        refine Dy <| Dq (Ai i) <| Dy <| Dq (AV.b (decide ((0 : Int) < ((i : Nat) : Int)))) <| Dy <| Dq (AV.b (decide ((0 : Int) < ((i : Nat) : Int)))) ?_
        cases c_6 : decide ((0 : Int) < ((i : Nat) : Int))
        have k_6 := of_decide_eq_false c_6
        refine Dn <| Dn <| Dn <| Dn <| Dn <| Dn <| Dn <| Dn <| Dn <| Dn <| Dy <| Dq (AV.b false) <| Dq (AV.b false) <| AOpsD.fin <| Cf <| Awp.skip ?_
        have hM : diskC d ts x i = true := by simp only [diskC, c_1, c_2, c_3, c_4, c_5, c_6, sbt]
        exact ⟨[], [(1, (AV.pt (DDisk.av d).cells)), (3, (AV.raw (Value.map (some r)))), (5, (AV.pt (DFile.av x).cells)), (8, ((slA 3 DFile.av) d.files)), (9, (Ai d.files.length)), (10, (Ai i))], ⟨0, []⟩, ⟨by decide, rfl, FitsObjs.nil, (Ee (Ee (Ee (Ee (Ee (Ee EntE.nil))))))⟩, rfl, rfl, Or.inr ⟨rfl, rfl, hM⟩⟩
        have k_6 := of_decide_eq_true c_6
        refine Dy <| Dq (AV.pt ((DDisk.av d).cells.drop 1)) <| Dy <| Dq ((slA 3 DFile.av) d.files) <| Dy <| Dq (Ai i) <| Dy <| Dp (AV.i .i64 ((i - 1 : Nat) : Int)) (g_subN (i := i) (m := 1) kr kr sd sd) <| Dy <| Dp (AV.pt (DFile.av (d.files.getD (i - 1) default)).cells) (g_idx (k := 3) (nl := false) (e := 119) (kk := .i64) (A := DFile.av) (xs := d.files) (i := i - 1) kr kr kr ⟨by kernel_rfl, by decide⟩ (getD_some sd)) <| Dy <| Dq (AV.pt ((DFile.av (d.files.getD (i - 1) default)).cells.drop 0)) <| Dy <| Dq (AV.s ((d.files.getD (i - 1) default).name)) <| Dy <| Dq (AV.pt ((DFile.av x).cells.drop 0)) <| Dy <| Dq (AV.s x.name) <| Dy <| Dq (AV.b (!Op.bytesLess ((d.files.getD (i - 1) default).name).toList x.name.toList)) <| Dy <| Dq (AV.b (!Op.bytesLess ((d.files.getD (i - 1) default).name).toList x.name.toList)) <| Dq (AV.b (!Op.bytesLess ((d.files.getD (i - 1) default).name).toList x.name.toList)) <| AOpsD.fin ?_
        cases c_7 : (!Op.bytesLess ((d.files.getD (i - 1) default).name).toList x.name.toList)
        refine Cf <| Awp.skip ?_
        have hM : diskC d ts x i = true := by simp only [diskC, c_1, c_2, c_3, c_4, c_5, c_6, c_7, sbt]
        exact ⟨[], [(1, (AV.pt (DDisk.av d).cells)), (3, (AV.raw (Value.map (some r)))), (5, (AV.pt (DFile.av x).cells)), (8, ((slA 3 DFile.av) d.files)), (9, (Ai d.files.length)), (10, (Ai i))], ⟨0, []⟩, ⟨by decide, rfl, FitsObjs.nil, (Ee (Ee (Ee (Ee (Ee (Ee EntE.nil))))))⟩, rfl, rfl, Or.inr ⟨rfl, rfl, hM⟩⟩
        refine Ct <| Sq <| Rg <| Aq (AV.b false) <| Ad <| Rt ?_
        have hM : diskC d ts x i = false := by simp only [diskC, c_1, c_2, c_3, c_4, c_5, c_6, c_7, sbt]
        exact ⟨[], [(2, (AV.b false))], ⟨0, []⟩, ⟨by decide, rfl, FitsObjs.nil, (Ee EntE.nil)⟩, rfl, rfl, Or.inl ⟨rfl, rfl, hM⟩⟩
        refine Dn <| Dn <| Dn <| Dn <| Dn <| Dn <| Dn <| Dn <| Dn <| Dn <| Dn <| Dn <| Dn <| Dn <| Dq (AV.b true) <| AOpsD.fin <| Ct <| Sq <| Rg <| Aq (AV.b false) <| Ad <| Rt ?_
        have hM : diskC d ts x i = false := by simp only [diskC, c_1, c_2, c_3, c_4, c_5, sbt]
        exact ⟨[], [(2, (AV.b false))], ⟨0, []⟩, ⟨by decide, rfl, FitsObjs.nil, (Ee EntE.nil)⟩, rfl, rfl, Or.inl ⟨rfl, rfl, hM⟩⟩
        have k_4 := of_decide_eq_true c_4
        refine Dn <| Dn <| Dn <| Dn <| Dq (AV.b true) <| Dq (AV.b true) <| Dn <| Dn <| Dn <| Dn <| Dn <| Dn <| Dn <| Dn <| Dn <| Dn <| Dn <| Dn <| Dn <| Dn <| Dq (AV.b true) <| AOpsD.fin <| Ct <| Sq <| Rg <| Aq (AV.b false) <| Ad <| Rt ?_
        have hM : diskC d ts x i = false := by simp only [diskC, c_1, c_2, c_3, c_4, sbt]
        exact ⟨[], [(2, (AV.b false))], ⟨0, []⟩, ⟨by decide, rfl, FitsObjs.nil, (Ee EntE.nil)⟩, rfl, rfl, Or.inl ⟨rfl, rfl, hM⟩⟩
        have k_3 := of_decide_eq_true c_3
        refine Dn <| Dn <| Dn <| Dn <| Dn <| Dq (AV.b true) <| Dq (AV.b true) <| Dn <| Dn <| Dn <| Dn <| Dq (AV.b true) <| Dq (AV.b true) <| Dn <| Dn <| Dn <| Dn <| Dn <| Dn <| Dn <| Dn <| Dn <| Dn <| Dn <| Dn <| Dn <| Dn <| Dq (AV.b true) <| AOpsD.fin <| Ct <| Sq <| Rg <| Aq (AV.b false) <| Ad <| Rt ?_
        have hM : diskC d ts x i = false := by simp only [diskC, c_1, c_2, c_3, sbt]
        exact ⟨[], [(2, (AV.b false))], ⟨0, []⟩, ⟨by decide, rfl, FitsObjs.nil, (Ee EntE.nil)⟩, rfl, rfl, Or.inl ⟨rfl, rfl, hM⟩⟩
        refine Dn <| Dn <| Dn <| Dq (AV.b true) <| Dq (AV.b true) <| Dn <| Dn <| Dn <| Dn <| Dn <| Dq (AV.b true) <| Dq (AV.b true) <| Dn <| Dn <| Dn <| Dn <| Dq (AV.b true) <| Dq (AV.b true) <| Dn <| Dn <| Dn <| Dn <| Dn <| Dn <| Dn <| Dn <| Dn <| Dn <| Dn <| Dn <| Dn <| Dn <| Dq (AV.b true) <| AOpsD.fin <| Ct <| Sq <| Rg <| Aq (AV.b false) <| Ad <| Rt ?_
        have hM : diskC d ts x i = false := by simp only [diskC, c_1, c_2, sbt]
        exact ⟨[], [(2, (AV.b false))], ⟨0, []⟩, ⟨by decide, rfl, FitsObjs.nil, (Ee EntE.nil)⟩, rfl, rfl, Or.inl ⟨rfl, rfl, hM⟩⟩
        refine Dn <| Dn <| Dn <| Dn <| Dq (AV.b true) <| Dq (AV.b true) <| Dn <| Dn <| Dn <| Dq (AV.b true) <| Dq (AV.b true) <| Dn <| Dn <| Dn <| Dn <| Dn <| Dq (AV.b true) <| Dq (AV.b true) <| Dn <| Dn <| Dn <| Dn <| Dq (AV.b true) <| Dq (AV.b true) <| Dn <| Dn <| Dn <| Dn <| Dn <| Dn <| Dn <| Dn <| Dn <| Dn <| Dn <| Dn <| Dn <| Dn <| Dq (AV.b true) <| AOpsD.fin <| Ct <| Sq <| Rg <| Aq (AV.b false) <| Ad <| Rt ?_
        have hM : diskC d ts x i = false := by simp only [diskC, c_1, sbt]
        exact ⟨[], [(2, (AV.b false))], ⟨0, []⟩, ⟨by decide, rfl, FitsObjs.nil, (Ee EntE.nil)⟩, rfl, rfl, Or.inl ⟨rfl, rfl, hM⟩⟩
      rintro e a6 w6 ⟨env6, hq, F8, hb6⟩
      rcases hq with ⟨rfl, rfl, hC⟩ | ⟨rfl, rfl, hC⟩
      · show a6.defers = [] ∧ ∃ v, _
        have hD : dmayS m_4 d = false := by
          unfold dmayS
          rw [hR0, ← hR, hst, hC]; rfl
        rw [hD]
        exact F8.done (t := 2) rfl rfl rfl
      · have hr8 := Below.blk hb6 hr
        rw [hC, Bool.true_and] at hst
        refine wp_region ?_
        show wpOps _ _ _ (List.range 3 ++ [3]) _ _
        refine region_first tabS_ok 3 [3] (by decide) (R := fun env h => CQ (fun e env => e = .normal ∧ env = [(1, (AV.pt (DDisk.av d).cells)), (3, (AV.raw (Value.map (some r)))), (8, ((slA 3 DFile.av) d.files)), (9, (Ai d.files.length)), (10, (Ai i)), (59, (AV.raw (Value.map (some r)))), (61, (AV.i .i64 x.time))]) .normal env h) ?_ rfl F8.rel ?_
        · refine Aq (AV.raw (Value.map (some r))) ?_
          refine Aq (AV.pt ((DFile.av x).cells.drop 2)) <| Aq (AV.i .i64 x.time) <| Ad ?_
          exact ⟨[], [(1, (AV.pt (DDisk.av d).cells)), (3, (AV.raw (Value.map (some r)))), (8, ((slA 3 DFile.av) d.files)), (9, (Ai d.files.length)), (10, (Ai i)), (59, (AV.raw (Value.map (some r)))), (61, (AV.i .i64 x.time))], ⟨0, []⟩, ⟨by decide, rfl, FitsObjs.nil, (Ee (Ee (Ee (Ee (Ee (Ee (Ee EntE.nil)))))))⟩, rfl, rfl, ⟨rfl, rfl⟩⟩
        rintro env' h' μ' a7 w7 ⟨keep, env7, h7, hf, hn, hc, _, rfl⟩ R7
        obtain ⟨F9, hb7⟩ := F8.of_rel hn hc (rel_finW R7 hf (fun i hi => by simp at hi))
        have hr9 := Below.blk hb7 hr8
        have hnk : ts.any (fun t => decide (t = x.time)) = false := diskC_any hC
        refine wpOps_unit rfl rfl (w' := { w7 with heap := w7.heap.setIfInBounds r (.map (es.push ⟨.int .i64 x.time, .bool true, clock⟩) (clock + 1)) }) ?_ ?_
        · unfold execOp
          refine run_uu ?_
          rw [F9.raw (t := 59) rfl, F9.int (t := 61) rfl]
          exact run_mapUpdate_new Go.Proofs.Tryz.underlying196 Go.Proofs.Tryz.underlying3 hr9 hes hnk
        obtain ⟨F10, hr10⟩ := F9.turn (es' := es.push ⟨.int .i64 x.time, .bool true, clock⟩) (c' := clock + 1) hr9 hr0 hrW
        refine wp_mono (F10.run (Q := fun e env => e = .normal ∧ env = [(1, (AV.pt (DDisk.av d).cells)), (3, (AV.raw (Value.map (some r)))), (8, ((slA 3 DFile.av) d.files)), (9, (Ai d.files.length)), (10, (Ai (i + 1)))]) ?_) ?_
        · refine Rg ?_
          refine Ap (Ai (i + 1)) (g_addN (i := i) (m := 1) kr kr sd) <| Aq (Ai (i + 1)) <| Ad ?_
          exact ⟨[], [(1, (AV.pt (DDisk.av d).cells)), (3, (AV.raw (Value.map (some r)))), (8, ((slA 3 DFile.av) d.files)), (9, (Ai d.files.length)), (10, (Ai (i + 1)))], ⟨0, []⟩, ⟨by decide, rfl, FitsObjs.nil, (Ee (Ee (Ee (Ee (Ee EntE.nil)))))⟩, rfl, rfl, ⟨rfl, rfl⟩⟩
        rintro e a8 w8 ⟨env8, ⟨rfl, rfl⟩, F11, hb8⟩
        refine ⟨d.files.length - (i + 1), by omega, i + 1, _, _, rfl, by omega, F11, Below.blk hb8 hr10, ?_, by rw [← hst]; exact hR⟩
        have := hes.push x.time clock
        rw [← hts] at this
        rw [take_snoc hx, List.map_append]
        exact this
    · refine wp_cond (t := false) ((F6.bool (t := 11) rfl).trans (congrArg Value.bool (decide_eq_false (by omega)))) (wp_exit ?_)
      show (Code.seq _ _).wp _ _ _ _
      have hD : dmayS m_4 d = diskF d := by
        have e : R = true := by rw [← hR, List.drop_eq_nil_of_le hl]; rfl
        unfold dmayS
        rw [hR0, e]
        exact diskF_eq d
      rw [hD]
      refine wp_seq (wp_mono (F6.run (Q := fun e env => e = .normal ∧ env = [(2, (AV.b (diskF d)))]) ?_) ?_)
      · refine Rg ?_
        refine Aq (AV.pt ((DDisk.av d).cells.drop 0)) <| Aq (AV.i .i64 d.clock) <| Aq (AV.b (decide ((0 : Int) ≤ d.clock))) <| Aq (AV.b (decide ((0 : Int) ≤ d.clock))) ?_
        cases c_1 : decide ((0 : Int) ≤ d.clock)
        have k_1 := of_decide_eq_false c_1
        refine An <| An <| An <| Aq (AV.b false) <| Aq (AV.b false) <| An <| An <| An <| An <| Aq (AV.b false) <| Aq (AV.b false) <| Ad ?_
        have hM : diskF d = false := by simp only [diskF, c_1, sbt]
        rw [hM]
        exact ⟨[], [(2, (AV.b false))], ⟨0, []⟩, ⟨by decide, rfl, FitsObjs.nil, (Ee EntE.nil)⟩, rfl, rfl, ⟨rfl, rfl⟩⟩
        have k_1 := of_decide_eq_true c_1
        refine Ay <| Aq (AV.pt ((DDisk.av d).cells.drop 0)) <| Ay <| Aq (AV.i .i64 d.clock) <| Ay <| Aq (AV.b (decide (d.clock ≤ (1048576 : Int)))) <| Aq (AV.b (decide (d.clock ≤ (1048576 : Int)))) <| Aq (AV.b (decide (d.clock ≤ (1048576 : Int)))) ?_
        cases c_2 : decide (d.clock ≤ (1048576 : Int))
        have k_2 := of_decide_eq_false c_2
        refine An <| An <| An <| An <| Aq (AV.b false) <| Aq (AV.b false) <| Ad ?_
        have hM : diskF d = false := by simp only [diskF, c_1, c_2, sbt]
        rw [hM]
        exact ⟨[], [(2, (AV.b false))], ⟨0, []⟩, ⟨by decide, rfl, FitsObjs.nil, (Ee EntE.nil)⟩, rfl, rfl, ⟨rfl, rfl⟩⟩
        have k_2 := of_decide_eq_true c_2
        refine Ay <| Aq (AV.pt ((DDisk.av d).cells.drop 1)) <| Ay <| Aq ((slA 3 DFile.av) d.files) <| Ay <| Ap (Ai d.files.length) (g_len (k := 3) (nl := false) (e := 119) (A := DFile.av) (xs := d.files) kr kr) <| Ay <| Aq (AV.b (decide (((d.files.length : Nat) : Int) ≤ (64 : Int)))) <| Aq (AV.b (decide (((d.files.length : Nat) : Int) ≤ (64 : Int)))) <| Aq (AV.b (decide (((d.files.length : Nat) : Int) ≤ (64 : Int)))) <| Ad ?_
        have hM : diskF d = decide (((d.files.length : Nat) : Int) ≤ (64 : Int)) := by simp only [diskF, c_1, c_2, sbt]
        rw [hM]
        exact ⟨[], [(2, (AV.b (decide (((d.files.length : Nat) : Int) ≤ (64 : Int)))))], ⟨0, []⟩, ⟨by decide, rfl, FitsObjs.nil, (Ee EntE.nil)⟩, rfl, rfl, ⟨rfl, rfl⟩⟩
      rintro e a9 w9 ⟨env9, ⟨rfl, rfl⟩, F12, hb9⟩
      refine wp_ret ?_
      show a9.defers = [] ∧ ∃ v, _
      exact F12.done (t := 2) rfl rfl rfl
theorem w_dirty_May (W : World) {m0 : Int} (hW : W.cell? ⟨0, 0, none⟩ = some (.int .i64 m0)) (s' : DState) (hz : s'.sz ≤ 1048576) : PureAt Go.Proofs.Tryz.prog W 136 [(AV.pt (DState.av s').cells)] (AV.b (m_ah s')) [] := by
 have hzg := s'.sz_graph
 refine pure_of_bodyC (fn := Go.Proofs.Tryz.f136) Go.Proofs.Tryz.func136 rfl (en136 W) (ts := [2]) rfl le <| Sq <| Rg <| Aq (AV.b false) <| Ad <| Sq <| Rg <| Aq (AV.pt (DState.av s').cells) <| Aq (AV.pt (DState.av s').cells) <| Aq (AV.pt ((DState.av s').cells.drop 0)) <| Aq (DGraph.av s'.graph) <| AOps.sc0 (vs := [(DGraph.av s'.graph)]) (r0 := (AV.tup [((slA 1 (AV.i .i64)) ((m_9 s'.graph).1)), (AV.i .i64 ((m_9 s'.graph).2))])) kr kr (w_order_Of W hW s'.graph sd) kr le <| Aq (AV.tup [((slA 1 (AV.i .i64)) ((m_9 s'.graph).1)), (AV.i .i64 ((m_9 s'.graph).2))]) <| Aq ((slA 1 (AV.i .i64)) ((m_9 s'.graph).1)) <| Aq (AV.i .i64 ((m_9 s'.graph).2)) <| Aq ((slA 1 (AV.i .i64)) ((m_9 s'.graph).1)) <| Aq (AV.i .i64 ((m_9 s'.graph).2)) <| Ad <| Sq <| Rg <| Aq (AV.i .i64 ((m_9 s'.graph).2)) <| Aq (AV.b (decide ((m_9 s'.graph).2 = (0 : Int)))) <| Aq (AV.b (decide ((m_9 s'.graph).2 = (0 : Int)))) ?_
 cases c_1 : decide ((m_9 s'.graph).2 = (0 : Int))
 have k_1 := of_decide_eq_false c_1
 refine An <| An <| An <| An <| An <| Aq (AV.b false) <| Aq (AV.b false) <| An <| An <| An <| An <| An <| Aq (AV.b false) <| Aq (AV.b false) <| An <| An <| An <| An <| An <| Aq (AV.b false) <| Aq (AV.b false) <| An <| An <| An <| An <| An <| Aq (AV.b false) <| Aq (AV.b false) <| Ad <| Rt ?_
 have hM : m_ah s' = false := by simp only [m_ah, c_1, sbt]
 refine ⟨Or.inr rfl, ?_⟩
 rw [hM]
 exact Ec
 have k_1 := of_decide_eq_true c_1
 refine Ay <| Aq (AV.pt (DState.av s').cells) <| Ay <| Aq (AV.pt (DState.av s').cells) <| Ay <| Aq (AV.pt ((DState.av s').cells.drop 3)) <| Ay <| Aq ((slA 3 DAction.av) s'.actions) <| Ay <| AOps.sc0 (vs := [((slA 3 DAction.av) s'.actions)]) (r0 := (AV.b (m_au s'.actions))) kr kr (w_command_May W hW s'.actions) kr le <| Aq (AV.b (m_au s'.actions)) <| Aq (AV.b (m_au s'.actions)) ?_
 cases c_2 : (m_au s'.actions)
 refine An <| An <| An <| An <| An <| Aq (AV.b false) <| Aq (AV.b false) <| An <| An <| An <| An <| An <| Aq (AV.b false) <| Aq (AV.b false) <| An <| An <| An <| An <| An <| Aq (AV.b false) <| Aq (AV.b false) <| Ad <| Rt ?_
 have hM : m_ah s' = false := by simp only [m_ah, c_1, c_2, sbt]
 refine ⟨Or.inr rfl, ?_⟩
 rw [hM]
 exact Ec
 refine Ay <| Aq (AV.pt (DState.av s').cells) <| Ay <| Aq (AV.pt (DState.av s').cells) <| Ay <| Aq (AV.pt ((DState.av s').cells.drop 4)) <| Ay <| Aq (DDisk.av s'.disk) <| Ay <| AOps.sc0 (vs := [(DDisk.av s'.disk)]) (r0 := (AV.b (dmayS m_4 s'.disk))) kr kr (w_disk_May W hW s'.disk) kr le <| Aq (AV.b (dmayS m_4 s'.disk)) <| Aq (AV.b (dmayS m_4 s'.disk)) ?_
 cases c_3 : (dmayS m_4 s'.disk)
 refine An <| An <| An <| An <| An <| Aq (AV.b false) <| Aq (AV.b false) <| An <| An <| An <| An <| An <| Aq (AV.b false) <| Aq (AV.b false) <| Ad <| Rt ?_
 have hM : m_ah s' = false := by simp only [m_ah, c_1, c_2, c_3, sbt]
 refine ⟨Or.inr rfl, ?_⟩
 rw [hM]
 exact Ec
 refine Ay <| Aq (AV.pt (DState.av s').cells) <| Ay <| Aq (AV.pt (DState.av s').cells) <| Ay <| Aq (AV.pt ((DState.av s').cells.drop 6)) <| Ay <| Aq ((slA 3 DRecord.av) s'.log) <| Ay <| AOps.sc0 (vs := [((slA 3 DRecord.av) s'.log)]) (r0 := (AV.b (m_log_May s'.log))) kr kr (w_log_May W hW s'.log) kr le <| Aq (AV.b (m_log_May s'.log)) <| Aq (AV.b (m_log_May s'.log)) ?_
 cases c_4 : (m_log_May s'.log)
 refine An <| An <| An <| An <| An <| Aq (AV.b false) <| Aq (AV.b false) <| Ad <| Rt ?_
 have hM : m_ah s' = false := by simp only [m_ah, c_1, c_2, c_3, c_4, sbt]
 refine ⟨Or.inr rfl, ?_⟩
 rw [hM]
 exact Ec
 refine Ay <| Aq (AV.pt (DState.av s').cells) <| Ay <| Aq (AV.pt (DState.av s').cells) <| Ay <| Aq (AV.pt ((DState.av s').cells.drop 7)) <| Ay <| Aq ((slA 3 DFound.av) s'.deps) <| Ay <| AOps.sc0 (vs := [((slA 3 DFound.av) s'.deps)]) (r0 := (AV.b (m_ay s'.deps))) kr kr (w_deplog_May W hW s'.deps) kr le <| Aq (AV.b (m_ay s'.deps)) <| Aq (AV.b (m_ay s'.deps)) <| Ad <| Rt ?_
 have hM : m_ah s' = (m_ay s'.deps) := by simp only [m_ah, c_1, c_2, c_3, c_4, sbt]
 refine ⟨Or.inr rfl, ?_⟩
 rw [hM]
 exact Ec
theorem w_ready_May_1 (W : World) (x' : Int) : PureAt Go.Proofs.Tryz.prog W 135 [(AV.i .i64 x')] (AV.b (m_an x')) [] := by
 refine pure_of_bodyC (fn := Go.Proofs.Tryz.f135) Go.Proofs.Tryz.func135 rfl (en135 W) (ts := [2]) rfl le <| Sq <| Rg <| Aq (AV.b false) <| Ad <| Sq <| Rg <| Aq (AV.i .i64 x') <| Aq (AV.b (decide (x' < (0 : Int)))) <| Aq (AV.b (decide (x' < (0 : Int)))) ?_
 cases c_1 : decide (x' < (0 : Int))
 have k_1 := of_decide_eq_false c_1
 refine Ay <| Aq (AV.i .i64 x') <| Ay <| Aq (AV.b (decide ((4 : Int) < x'))) <| Aq (AV.b (decide ((4 : Int) < x'))) <| Aq (AV.b (decide ((4 : Int) < x'))) <| Ad <| Rt ?_
 have hM : m_an x' = decide ((4 : Int) < x') := by simp only [m_an, c_1, sbt]
 refine ⟨Or.inr rfl, ?_⟩
 rw [hM]
 exact Ec
 have k_1 := of_decide_eq_true c_1
 refine An <| An <| Aq (AV.b true) <| Aq (AV.b true) <| Ad <| Rt ?_
 have hM : m_an x' = true := by simp only [m_an, c_1, sbt]
 refine ⟨Or.inr rfl, ?_⟩
 rw [hM]
 exact Ec
theorem w_ready_May (W : World) {m0 : Int} (hW : W.cell? ⟨0, 0, none⟩ = some (.int .i64 m0)) (s' : DState) (hz : s'.sz ≤ 1048576) : PureAt Go.Proofs.Tryz.prog W 108 [(AV.pt (DState.av s').cells)] (AV.b (m_6 s')) [] := by
 have hzg := s'.sz_graph
 refine pure_of_bodyC (fn := Go.Proofs.Tryz.f108) Go.Proofs.Tryz.func108 rfl (en108 W) (ts := [2]) rfl le <| Sq <| Rg <| Aq (AV.b false) <| Ad <| Sq <| Rg <| Aq (AV.fn 135 []) <| Ad <| Sq <| Sq <| Rg <| Aq (AV.pt (DState.av s').cells) <| AOps.sc0 (vs := [(AV.pt (DState.av s').cells)]) (r0 := (AV.b (m_ah s'))) kr kr (w_dirty_May W hW s' sd) kr le <| Aq (AV.b (!(m_ah s'))) <| Aq (AV.b (!(m_ah s'))) ?_
 cases c_1 : (!(m_ah s'))
 refine Ay <| Aq (AV.pt (DState.av s').cells) <| Ay <| Aq (AV.pt (DState.av s').cells) <| Ay <| Aq (AV.pt ((DState.av s').cells.drop 8)) <| Ay <| Aq (AV.i .i64 s'.jobs) <| Ay <| Aq (AV.b (decide (s'.jobs < (1 : Int)))) <| Aq (AV.b (decide (s'.jobs < (1 : Int)))) <| Aq (AV.b (decide (s'.jobs < (1 : Int)))) ?_
 cases c_2 : decide (s'.jobs < (1 : Int))
 have k_2 := of_decide_eq_false c_2
 refine Ay <| Aq (AV.pt (DState.av s').cells) <| Ay <| Aq (AV.pt (DState.av s').cells) <| Ay <| Aq (AV.pt ((DState.av s').cells.drop 8)) <| Ay <| Aq (AV.i .i64 s'.jobs) <| Ay <| Aq (AV.b (decide ((8 : Int) < s'.jobs))) <| Aq (AV.b (decide ((8 : Int) < s'.jobs))) <| Aq (AV.b (decide ((8 : Int) < s'.jobs))) ?_
 cases c_3 : decide ((8 : Int) < s'.jobs)
 have k_3 := of_decide_eq_false c_3
 refine Ay <| Aq (AV.pt (DState.av s').cells) <| Ay <| Aq (AV.pt (DState.av s').cells) <| Ay <| Aq (AV.pt ((DState.av s').cells.drop 10)) <| Ay <| Aq ((slA 1 (AV.i .i64)) s'.status) <| Ay <| Aq (AV.fn 135 []) <| Ay <| AOps.sc0 (vs := [((slA 1 (AV.i .i64)) s'.status), (AV.fn 135 [])]) (r0 := (AV.b (m_e s'.status (fun z0 => m_an z0)))) kr (by simp only [closedL, Bool.and_eq_true]; exact ⟨by kernel_rfl, kr, trivial⟩) (w_slices_ContainsFunc_int_int W s'.status 135 [] (fun z0 => m_an z0) kr (fun z0 => (w_ready_May_1 W z0))) kr le <| Aq (AV.b (m_e s'.status (fun z0 => m_an z0))) <| Ad ?_
 cases c_4 : (m_e s'.status (fun z0 => m_an z0))
 refine Cf <| Awp.skip <| Sq <| Awp.drawn tabS_ok mixed 11 kr le <| Dq (AV.pt (DState.av s').cells) <| Dq (AV.pt (DState.av s').cells) <| Dq (AV.pt ((DState.av s').cells.drop 10)) <| Dq ((slA 1 (AV.i .i64)) s'.status) <| Dp (Ai s'.status.length) (g_len (k := 1) (nl := false) (e := 3) (A := (AV.i .i64)) (xs := s'.status) kr kr) <| Dq (AV.pt (DState.av s').cells) <| Dq (AV.pt (DState.av s').cells) <| Dq (AV.pt ((DState.av s').cells.drop 0)) <| Dq (AV.pt ((DState.av s').cells.drop 0)) <| Dq ((slA 7 DEdge.av) s'.graph.edges) <| Dp (Ai s'.graph.edges.length) (g_len (k := 7) (nl := false) (e := 76) (A := DEdge.av) (xs := s'.graph.edges) kr kr) <| Dq (AV.b (decide (((s'.status.length : Nat) : Int) = ((s'.graph.edges.length : Nat) : Int)))) <| Dq (AV.b (decide (((s'.status.length : Nat) : Int) = ((s'.graph.edges.length : Nat) : Int)))) ?_
 cases c_5 : decide (((s'.status.length : Nat) : Int) = ((s'.graph.edges.length : Nat) : Int))
 have k_5 := of_decide_eq_false c_5
 refine Dy <| Dq (AV.pt (DState.av s').cells) <| Dy <| Dq (AV.pt (DState.av s').cells) <| Dy <| Dq (AV.pt ((DState.av s').cells.drop 9)) <| Dy <| Dq (AV.b s'.going) <| Dy <| Dq (AV.b (!s'.going)) <| Dy <| Dq (AV.b (!s'.going)) ?_
 cases c_6 : (!s'.going)
 refine Dn <| Dn <| Dn <| Dn <| Dn <| Dn <| Dy <| Dq (AV.b false) <| Dq (AV.b false) <| Dq (AV.b false) <| AOpsD.fin <| Rt ?_
 have hM : m_6 s' = false := by simp only [m_6, c_1, c_2, c_3, c_4, c_5, c_6, sbt]
 refine ⟨Or.inr rfl, ?_⟩
 rw [hM]
 exact Ec
 refine Dy <| Dq (AV.pt (DState.av s').cells) <| Dy <| Dq (AV.pt (DState.av s').cells) <| Dy <| Dq (AV.pt ((DState.av s').cells.drop 10)) <| Dy <| Dq ((slA 1 (AV.i .i64)) s'.status) <| Dy <| Dp (Ai s'.status.length) (g_len (k := 1) (nl := false) (e := 3) (A := (AV.i .i64)) (xs := s'.status) kr kr) <| Dy <| Dq (AV.b (decide (((s'.status.length : Nat) : Int) = (0 : Int)))) <| Dy <| Dq (AV.b (decide (((s'.status.length : Nat) : Int) = (0 : Int)))) <| Dq (AV.b (decide (((s'.status.length : Nat) : Int) = (0 : Int)))) <| Dq (AV.b (decide (((s'.status.length : Nat) : Int) = (0 : Int)))) <| AOpsD.fin <| Rt ?_
 have hM : m_6 s' = decide (((s'.status.length : Nat) : Int) = (0 : Int)) := by simp only [m_6, c_1, c_2, c_3, c_4, c_5, c_6, sbt]
 refine ⟨Or.inr rfl, ?_⟩
 rw [hM]
 exact Ec
 have k_5 := of_decide_eq_true c_5
 refine Dn <| Dn <| Dn <| Dn <| Dn <| Dn <| Dn <| Dn <| Dn <| Dn <| Dn <| Dn <| Dn <| Dq (AV.b true) <| Dq (AV.b true) <| AOpsD.fin <| Rt ?_
 have hM : m_6 s' = true := by simp only [m_6, c_1, c_2, c_3, c_4, c_5, sbt]
 refine ⟨Or.inr rfl, ?_⟩
 rw [hM]
 exact Ec
 refine Ct <| Sq <| Rg <| Aq (AV.b false) <| Ad <| Rt ?_
 have hM : m_6 s' = false := by simp only [m_6, c_1, c_2, c_3, c_4, sbt]
 refine ⟨Or.inr rfl, ?_⟩
 rw [hM]
 exact Ec
 have k_3 := of_decide_eq_true c_3
 refine An <| An <| An <| An <| An <| An <| Aq (AV.b true) <| Ad <| Ct <| Sq <| Rg <| Aq (AV.b false) <| Ad <| Rt ?_
 have hM : m_6 s' = false := by simp only [m_6, c_1, c_2, c_3, sbt]
 refine ⟨Or.inr rfl, ?_⟩
 rw [hM]
 exact Ec
 have k_2 := of_decide_eq_true c_2
 refine An <| An <| An <| An <| An <| Aq (AV.b true) <| Aq (AV.b true) <| An <| An <| An <| An <| An <| An <| Aq (AV.b true) <| Ad <| Ct <| Sq <| Rg <| Aq (AV.b false) <| Ad <| Rt ?_
 have hM : m_6 s' = false := by simp only [m_6, c_1, c_2, sbt]
 refine ⟨Or.inr rfl, ?_⟩
 rw [hM]
 exact Ec
 refine An <| An <| An <| An <| An <| Aq (AV.b true) <| Aq (AV.b true) <| An <| An <| An <| An <| An <| Aq (AV.b true) <| Aq (AV.b true) <| An <| An <| An <| An <| An <| An <| Aq (AV.b true) <| Ad <| Ct <| Sq <| Rg <| Aq (AV.b false) <| Ad <| Rt ?_
 have hM : m_6 s' = false := by simp only [m_6, c_1, sbt]
 refine ⟨Or.inr rfl, ?_⟩
 rw [hM]
 exact Ec
theorem w_ready_There (W : World) {m0 : Int} (hW : W.cell? ⟨0, 0, none⟩ = some (.int .i64 m0)) (s' : DState) (edge : Int) (hz : s'.sz ≤ 1048576) : PureAt Go.Proofs.Tryz.prog W 81 [(AV.pt (DState.av s').cells), (AV.i .i64 edge)] (AV.b (m_aa s' edge)) [] := by
 have hzg := s'.sz_graph
 refine pure_of_bodyC (fn := Go.Proofs.Tryz.f81) Go.Proofs.Tryz.func81 rfl (en81 W) (ts := [4]) rfl le <| Sq <| Rg <| Aq (AV.b false) <| Ad <| Sq <| Rg <| Aq (AV.pt (DState.av s').cells) <| AOps.sc0 (vs := [(AV.pt (DState.av s').cells)]) (r0 := (AV.b (m_6 s'))) kr kr (w_ready_May W hW s' sd) kr le <| Aq (AV.b (m_6 s')) ?_
 cases c_1 : (m_6 s')
 refine An <| An <| Aq (AV.b false) <| Aq (AV.b false) <| An <| An <| An <| An <| An <| An <| An <| An <| Aq (AV.b false) <| Aq (AV.b false) <| Ad <| Rt ?_
 have hM : m_aa s' edge = false := by simp only [m_aa, c_1, sbt]
 refine ⟨Or.inr rfl, ?_⟩
 rw [hM]
 exact Ec
 refine Ay <| Aq (AV.i .i64 edge) <| Ay <| Aq (AV.b (decide ((0 : Int) ≤ edge))) <| Aq (AV.b (decide ((0 : Int) ≤ edge))) <| Aq (AV.b (decide ((0 : Int) ≤ edge))) ?_
 cases c_2 : decide ((0 : Int) ≤ edge)
 have k_2 := of_decide_eq_false c_2
 refine An <| An <| An <| An <| An <| An <| An <| An <| Aq (AV.b false) <| Aq (AV.b false) <| Ad <| Rt ?_
 have hM : m_aa s' edge = false := by simp only [m_aa, c_1, c_2, sbt]
 refine ⟨Or.inr rfl, ?_⟩
 rw [hM]
 exact Ec
 have k_2 := of_decide_eq_true c_2
 refine Ay <| Aq (AV.i .i64 edge) <| Ay <| Aq (AV.pt (DState.av s').cells) <| Ay <| Aq (AV.pt (DState.av s').cells) <| Ay <| Aq (AV.pt ((DState.av s').cells.drop 0)) <| Ay <| Aq (AV.pt ((DState.av s').cells.drop 0)) <| Ay <| Aq ((slA 7 DEdge.av) s'.graph.edges) <| Ay <| Ap (Ai s'.graph.edges.length) (g_len (k := 7) (nl := false) (e := 76) (A := DEdge.av) (xs := s'.graph.edges) kr kr) <| Ay <| Aq (AV.b (decide (edge < ((s'.graph.edges.length : Nat) : Int)))) <| Aq (AV.b (decide (edge < ((s'.graph.edges.length : Nat) : Int)))) <| Aq (AV.b (decide (edge < ((s'.graph.edges.length : Nat) : Int)))) <| Ad <| Rt ?_
 have hM : m_aa s' edge = decide (edge < ((s'.graph.edges.length : Nat) : Int)) := by simp only [m_aa, c_1, c_2, sbt]
 refine ⟨Or.inr rfl, ?_⟩
 rw [hM]
 exact Ec
theorem w_ready_Ready_1 (W : World) (at' : Int) (s' : DState) (hb : 0 ≤ at' ∧ at'.toNat < s'.status.length) : PureAt Go.Proofs.Tryz.prog W 109 [(AV.i .i64 at'), (AV.pt ((ptA DState.av) s').cells)] (AV.b (m_2 at' s')) [] := by
 refine pure_of_bodyC (fn := Go.Proofs.Tryz.f109) Go.Proofs.Tryz.func109 rfl (en109 W) (ts := [3]) rfl le <| Sq <| Rg <| Aq (AV.b false) <| Ad <| Sq <| Rg <| Aq (AV.pt (DState.av s').cells) <| Aq (AV.pt (DState.av s').cells) <| Aq (AV.pt ((DState.av s').cells.drop 10)) <| Aq ((slA 1 (AV.i .i64)) s'.status) <| Aq (AV.i .i64 at') <| Ap (AV.pt ((AV.i .i64) (s'.status.getD at'.toNat default)).cells) (g_idxI (k := 1) (nl := false) (e := 3) (kk := .i64) (A := (AV.i .i64)) (xs := s'.status) (n := at') kr kr kr ⟨by kernel_rfl, by decide⟩ sd (getD_some sd)) <| Aq (AV.i .i64 (s'.status.getD at'.toNat default)) <| Aq (AV.b (!decide ((s'.status.getD at'.toNat default) = (0 : Int)))) <| Aq (AV.b (!decide ((s'.status.getD at'.toNat default) = (0 : Int)))) ?_
 cases c_1 : (!decide ((s'.status.getD at'.toNat default) = (0 : Int)))
 have k_1 := nde c_1
 refine An <| An <| An <| An <| An <| An <| An <| An <| Aq (AV.b false) <| Aq (AV.b false) <| Ad <| Rt ?_
 have hM : m_2 at' s' = false := by simp only [m_2, c_1, sbt]
 refine ⟨Or.inr rfl, ?_⟩
 rw [hM]
 exact Ec
 have k_1 := ndt c_1
 refine Ay <| Aq (AV.pt (DState.av s').cells) <| Ay <| Aq (AV.pt (DState.av s').cells) <| Ay <| Aq (AV.pt ((DState.av s').cells.drop 10)) <| Ay <| Aq ((slA 1 (AV.i .i64)) s'.status) <| Ay <| Aq (AV.i .i64 at') <| Ay <| Ap (AV.pt ((AV.i .i64) (s'.status.getD at'.toNat default)).cells) (g_idxI (k := 1) (nl := false) (e := 3) (kk := .i64) (A := (AV.i .i64)) (xs := s'.status) (n := at') kr kr kr ⟨by kernel_rfl, by decide⟩ sd (getD_some sd)) <| Ay <| Aq (AV.i .i64 (s'.status.getD at'.toNat default)) <| Ay <| Aq (AV.b (!decide ((s'.status.getD at'.toNat default) = (3 : Int)))) <| Aq (AV.b (!decide ((s'.status.getD at'.toNat default) = (3 : Int)))) <| Aq (AV.b (!decide ((s'.status.getD at'.toNat default) = (3 : Int)))) <| Ad <| Rt ?_
 have hM : m_2 at' s' = (!decide ((s'.status.getD at'.toNat default) = (3 : Int))) := by simp only [m_2, c_1, sbt]
 refine ⟨Or.inr rfl, ?_⟩
 rw [hM]
 exact Ec
theorem w_ready_Ready (W : World) {m0 : Int} (hW : W.cell? ⟨0, 0, none⟩ = some (.int .i64 m0)) (s' : DState) (edge : Int) (hz : s'.sz ≤ 1048576) (ht : ThereP s' edge) : PureAt Go.Proofs.Tryz.prog W 82 [(AV.pt (DState.av s').cells), (AV.i .i64 edge)] (AV.b (m_7 s' edge)) [] := by
 have hzg := s'.sz_graph
 obtain ⟨ht1, ht2, ht3, ht4, ht5⟩ := ht
 refine pure_of_bodyC (fn := Go.Proofs.Tryz.f82) Go.Proofs.Tryz.func82 rfl (en82 W) (ts := [4]) rfl le <| Sq <| Rg <| Nn (AV.loc 0 0 0) ⟨112, 1, [(AV.pt (DState.av s').cells)]⟩ <| Aq (AV.b false) <| Ad <| Sq <| Sq <| Rg <| Aq (AV.pt (DState.av s').cells) <| Aq (AV.pt (DState.av s').cells) <| Aq (AV.pt ((DState.av s').cells.drop 9)) <| Aq (AV.b s'.going) <| Aq (AV.b (!s'.going)) <| Aq (AV.b (!s'.going)) ?_
 cases c_1 : (!s'.going)
 have q_1 := ht3 (by simpa using c_1)
 refine Ay <| Aq (AV.pt (DState.av s').cells) <| Ay <| Aq (AV.pt (DState.av s').cells) <| Ay <| Aq (AV.pt ((DState.av s').cells.drop 10)) <| Ay <| Aq ((slA 1 (AV.i .i64)) s'.status) <| Ay <| Aq (AV.i .i64 edge) <| Ay <| Ap (AV.pt ((AV.i .i64) (s'.status.getD edge.toNat default)).cells) (g_idxI (k := 1) (nl := false) (e := 3) (kk := .i64) (A := (AV.i .i64)) (xs := s'.status) (n := edge) kr kr kr ⟨by kernel_rfl, by decide⟩ sd (getD_some sd)) <| Ay <| Aq (AV.i .i64 (s'.status.getD edge.toNat default)) <| Ay <| Aq (AV.b (!decide ((s'.status.getD edge.toNat default) = (1 : Int)))) <| Aq (AV.b (!decide ((s'.status.getD edge.toNat default) = (1 : Int)))) <| Ad ?_
 cases c_2 : (!decide ((s'.status.getD edge.toNat default) = (1 : Int)))
 have k_2 := nde c_2
 refine Cf <| Awp.skip <| Sq <| Rg <| Aq (AV.pt (DState.av s').cells) <| Aq (AV.pt (DState.av s').cells) <| Aq (AV.pt ((DState.av s').cells.drop 0)) <| Aq (AV.i .i64 edge) <| AOps.sc0 (vs := [(AV.pt ((DState.av s').cells.drop 0)), (AV.i .i64 edge)]) (r0 := ((slA 1 (AV.i .i64)) (m_s s'.graph edge))) kr kr ((w_order_Needs W s'.graph edge ⟨by omega, by omega⟩ (Nat.le_trans (needsN_sz _ _) (by omega))).wk ⟨WeakC.ptK 3 kr, ⟨WeakC.refl _, trivial⟩⟩) kr le <| Aq (AV.fn 109 [(AV.loc 0 0 0)]) <| AOps.sfw (vs := [((slA 1 (AV.i .i64)) (m_s s'.graph edge)), (AV.fn 109 [(AV.loc 0 0 0)])]) (ss := [((slA 1 (AV.i .i64)) (m_s s'.graph edge)), (AV.fn 109 [(AV.pt ((ptA DState.av) s').cells)])]) (r0 := (AV.b (m_e (m_s s'.graph edge) (fun z0 => m_2 z0 s')))) kr (show SnapW _ _ _ from ⟨(SnapW.e kr), ⟨(EntK.w (EntK.cast (x' := (AV.fn 109 [(AV.loc 0 0 0)])) kr kr (EntK.fn (EntKs.cons (EntK.loc1 (id := 0) (j := 0) (ob := ⟨112, 1, [(AV.pt (DState.av s').cells)]⟩) (x := (AV.pt (DState.av s').cells)) rfl rfl rfl rfl (EntK.cr (x := (AV.pt (DState.av s').cells)) kr)) EntKs.nil)))), trivial⟩⟩) (w_slices_ContainsFunc_int_int_dom W (m_s s'.graph edge) 109 [(AV.pt ((ptA DState.av) s').cells)] (fun z0 => m_2 z0 s') kr (fun z0 hz0 => (w_ready_Ready_1 W z0 s' (by have hnm := needs_mem hz0; omega)))) rfl kr le <| Aq (AV.b (!(m_e (m_s s'.graph edge) (fun z0 => m_2 z0 s')))) ?_
 refine Aq (AV.b (!(m_e (m_s s'.graph edge) (fun z0 => m_2 z0 s')))) <| Ad <| Rt ?_
 have hM : m_7 s' edge = (!(m_e (m_s s'.graph edge) (fun z0 => m_2 z0 s'))) := by simp only [m_7, c_1, c_2, sbt]
 refine ⟨Or.inr rfl, ?_⟩
 rw [hM]
 exact Ec
 have k_2 := ndt c_2
 refine Ct <| Sq <| Rg <| Aq (AV.b false) <| Ad <| Rt ?_
 have hM : m_7 s' edge = false := by simp only [m_7, c_1, c_2, sbt]
 refine ⟨Or.inr rfl, ?_⟩
 rw [hM]
 exact Ec
 refine An <| An <| An <| An <| An <| An <| An <| An <| Aq (AV.b true) <| Ad <| Ct <| Sq <| Rg <| Aq (AV.b false) <| Ad <| Rt ?_
 have hM : m_7 s' edge = false := by simp only [m_7, c_1, sbt]
 refine ⟨Or.inr rfl, ?_⟩
 rw [hM]
 exact Ec
theorem w_ready_Is (W : World) {m0 : Int} (hW : W.cell? ⟨0, 0, none⟩ = some (.int .i64 m0)) (s' : DState) (edge : Int) (hz : s'.sz ≤ 1048576) : PureAt Go.Proofs.Tryz.prog W 37 [(DState.av s'), (AV.i .i64 edge)] (AV.tup [(AV.b ((m_b s' edge).1)), (AV.i .i64 ((m_b s' edge).2))]) [] := by
 refine pure_of_bodyC (fn := Go.Proofs.Tryz.f37) Go.Proofs.Tryz.func37 rfl (en37 W) (ts := [4, 5]) rfl le <| Sq <| Rg <| Nn (AV.loc 0 0 0) ⟨64, 11, [(DState.av s')]⟩ <| Aq (AV.b false) <| Aq (AV.i .i64 (0 : Int)) <| Ad <| Sq <| Sq <| Rg <| Aq (AV.i .i64 edge) <| AOps.sfw (vs := [(AV.loc 0 0 0), (AV.i .i64 edge)]) (ss := [(AV.pt (DState.av s').cells), (AV.i .i64 edge)]) (r0 := (AV.b (m_aa s' edge))) kr (show SnapW _ _ _ from ⟨(EntK.w (EntK.cast (x' := (AV.loc 0 0 0)) kr kr (EntK.loc (id := 0) (j := 0) (o := 0) (ob := ⟨64, 11, [(DState.av s')]⟩) (x := (DState.av s')) rfl rfl rfl (EntKs.cons (EntK.cr (x := ((slA 7 DEdge.av) s'.graph.edges)) kr) (EntKs.cons (EntK.cr (x := ((slA 2 DPool.av) s'.graph.pools)) kr) (EntKs.cons (EntK.cr (x := ((slA 1 AV.s) s'.graph.defaults)) kr) (EntKs.cons (EntK.cr (x := ((slA 3 DAction.av) s'.actions)) kr) (EntKs.cons (EntK.cr (x := (AV.i .i64 s'.disk.clock)) kr) (EntKs.cons (EntK.cr (x := ((slA 3 DFile.av) s'.disk.files)) kr) (EntKs.cons (EntK.cr (x := ((slA 3 DRecord.av) s'.log)) kr) (EntKs.cons (EntK.cr (x := ((slA 3 DFound.av) s'.deps)) kr) (EntKs.cons (EntK.cr (x := (AV.i .i64 s'.jobs)) kr) (EntKs.cons (EntK.cr (x := (AV.b s'.going)) kr) (EntKs.cons (EntK.cr (x := ((slA 1 (AV.i .i64)) s'.status)) kr) EntKs.nil)))))))))))))), ⟨(SnapW.e kr), trivial⟩⟩) (w_ready_There W hW s' edge sd) rfl kr le <| Aq (AV.b (!(m_aa s' edge))) <| Ad ?_
 cases c_1 : (!(m_aa s' edge))
 have q_1 := there_ok c_1
 refine Cf <| Awp.skip <| Sq <| Rg <| Aq (AV.i .i64 edge) <| AOps.sfw (vs := [(AV.loc 0 0 0), (AV.i .i64 edge)]) (ss := [(AV.pt (DState.av s').cells), (AV.i .i64 edge)]) (r0 := (AV.b (m_7 s' edge))) kr (show SnapW _ _ _ from ⟨(EntK.w (EntK.cast (x' := (AV.loc 0 0 0)) kr kr (EntK.loc (id := 0) (j := 0) (o := 0) (ob := ⟨64, 11, [(DState.av s')]⟩) (x := (DState.av s')) rfl rfl rfl (EntKs.cons (EntK.cr (x := ((slA 7 DEdge.av) s'.graph.edges)) kr) (EntKs.cons (EntK.cr (x := ((slA 2 DPool.av) s'.graph.pools)) kr) (EntKs.cons (EntK.cr (x := ((slA 1 AV.s) s'.graph.defaults)) kr) (EntKs.cons (EntK.cr (x := ((slA 3 DAction.av) s'.actions)) kr) (EntKs.cons (EntK.cr (x := (AV.i .i64 s'.disk.clock)) kr) (EntKs.cons (EntK.cr (x := ((slA 3 DFile.av) s'.disk.files)) kr) (EntKs.cons (EntK.cr (x := ((slA 3 DRecord.av) s'.log)) kr) (EntKs.cons (EntK.cr (x := ((slA 3 DFound.av) s'.deps)) kr) (EntKs.cons (EntK.cr (x := (AV.i .i64 s'.jobs)) kr) (EntKs.cons (EntK.cr (x := (AV.b s'.going)) kr) (EntKs.cons (EntK.cr (x := ((slA 1 (AV.i .i64)) s'.status)) kr) EntKs.nil)))))))))))))), ⟨(SnapW.e kr), trivial⟩⟩) (w_ready_Ready W hW s' edge hz (by assumption)) rfl kr le <| Aq (AV.b (m_7 s' edge)) <| Aq (AV.i .i64 (0 : Int)) <| Ad <| Rt ?_
 have hM : m_b s' edge = ((m_7 s' edge), (0 : Int)) := by simp only [m_b, c_1, sbt]
 refine ⟨Or.inr rfl, ?_⟩
 rw [hM]
 exact Ent.cast (x' := (AV.tup [(AV.b (m_7 s' edge)), (AV.i .i64 (0 : Int))])) (y' := (AV.tup [(AV.b (((m_7 s' edge), (0 : Int)).1)), (AV.i .i64 (((m_7 s' edge), (0 : Int)).2))])) kr kr (Ent.tup ⟨Ec, ⟨Ec, trivial⟩⟩ kr)
 refine Ct <| Sq <| Rg <| Aq (AV.b false) <| Aq (AV.i .i64 (2100 : Int)) <| Ad <| Rt ?_
 have hM : m_b s' edge = (false, (2100 : Int)) := by simp only [m_b, c_1, sbt]
 refine ⟨Or.inr rfl, ?_⟩
 rw [hM]
 exact Ent.cast (x' := (AV.tup [(AV.b false), (AV.i .i64 (2100 : Int))])) (y' := (AV.tup [(AV.b ((false, (2100 : Int)).1)), (AV.i .i64 ((false, (2100 : Int)).2))])) kr kr (Ent.tup ⟨Ec, ⟨Ec, trivial⟩⟩ kr)
theorem wd_law21_start (W : World) : PureAt Go.Proofs.Tryz.prog W 42 [] (AV.st [(AV.own 0 0 3), (AV.own 9 0 1), (AV.own 10 0 1), (AV.own 11 0 1), (AV.i .i64 (4 : Int)), (AV.own 13 0 4), (AV.sl 3 true []), (AV.sl 3 true []), (AV.i .i64 (2 : Int)), (AV.b false), (AV.sl 1 true [])]) [⟨76, 7, [(AV.st [(AV.own 1 0 1), (AV.own 2 0 2), (AV.sl 1 true []), (AV.sl 1 true []), (AV.s (⟨#[97, 114]⟩ : ByteArray)), (AV.b false), (AV.s (⟨#[]⟩ : ByteArray))]), (AV.st [(AV.own 3 0 2), (AV.own 4 0 1), (AV.own 5 0 1), (AV.sl 1 true []), (AV.s (⟨#[99, 99, 32, 97]⟩ : ByteArray)), (AV.b true), (AV.s (⟨#[116, 119, 111]⟩ : ByteArray))]), (AV.st [(AV.own 6 0 1), (AV.own 7 0 1), (AV.sl 1 true []), (AV.own 8 0 1), (AV.s (⟨#[99, 99, 32, 98]⟩ : ByteArray)), (AV.b false), (AV.s (⟨#[116, 119, 111]⟩ : ByteArray))])]⟩, ⟨9, 1, [(⟨#[108, 105, 98]⟩ : ByteArray)].map AV.s⟩, ⟨9, 1, [(⟨#[97, 46, 111]⟩ : ByteArray), (⟨#[98, 46, 111]⟩ : ByteArray)].map AV.s⟩, ⟨9, 1, [(⟨#[97, 46, 111]⟩ : ByteArray), (⟨#[97, 46, 100]⟩ : ByteArray)].map AV.s⟩, ⟨9, 1, [(⟨#[97, 46, 99]⟩ : ByteArray)].map AV.s⟩, ⟨9, 1, [(⟨#[97, 46, 104]⟩ : ByteArray)].map AV.s⟩, ⟨9, 1, [(⟨#[98, 46, 111]⟩ : ByteArray)].map AV.s⟩, ⟨9, 1, [(⟨#[98, 46, 99]⟩ : ByteArray)].map AV.s⟩, ⟨9, 1, [(⟨#[97, 46, 111]⟩ : ByteArray)].map AV.s⟩, ⟨81, 2, [(⟨(⟨#[116, 119, 111]⟩ : ByteArray), (2 : Int)⟩ : DPool)].map DPool.av⟩, ⟨9, 1, [(⟨#[108, 105, 98]⟩ : ByteArray)].map AV.s⟩, ⟨121, 3, [(AV.st [(AV.s (⟨#[99, 99, 32, 97]⟩ : ByteArray)), (AV.own 12 0 1), (AV.b false)])]⟩, ⟨9, 1, [(⟨#[122, 46, 104]⟩ : ByteArray)].map AV.s⟩, ⟨119, 3, [lit35ef0, litb1de5, litf2893, lit881d0].map DFile.av⟩] := by
 refine pure_of_run tabS_ok (fn := Go.Proofs.Tryz.f42) Go.Proofs.Tryz.func42 rfl (en42 W) le <| Sq <| Rg <| Nn (AV.loc 0 0 0) ⟨64, 11, [(AV.st [(AV.sl 7 true []), (AV.sl 2 true []), (AV.sl 1 true []), (AV.sl 3 true []), (AV.i .i64 (0 : Int)), (AV.sl 3 true []), (AV.sl 3 true []), (AV.sl 3 true []), (AV.i .i64 (0 : Int)), (AV.b false), (AV.sl 1 true [])])]⟩ <| Ad <| Sq <| Rg <| Nn (AV.own 1 0 1) ⟨9, 1, [(⟨#[108, 105, 98]⟩ : ByteArray)].map AV.s⟩ <| Nn (AV.own 2 0 2) ⟨9, 1, [(⟨#[97, 46, 111]⟩ : ByteArray), (⟨#[98, 46, 111]⟩ : ByteArray)].map AV.s⟩ <| AOps.sn (x := (AV.st [(AV.own 1 0 1), (AV.own 2 0 2), (AV.sl 1 true []), (AV.sl 1 true []), (AV.s (⟨#[97, 114]⟩ : ByteArray)), (AV.b false), (AV.s (⟨#[]⟩ : ByteArray))])) (h' := ⟨3, [(2, some ⟨9, 1, [(⟨#[97, 46, 111]⟩ : ByteArray), (⟨#[98, 46, 111]⟩ : ByteArray)].map AV.s⟩), (1, some ⟨9, 1, [(⟨#[108, 105, 98]⟩ : ByteArray)].map AV.s⟩), (0, some ⟨64, 11, [(AV.st [(AV.sl 7 true []), (AV.sl 2 true []), (AV.sl 1 true []), (AV.sl 3 true []), (AV.i .i64 (0 : Int)), (AV.sl 3 true []), (AV.sl 3 true []), (AV.sl 3 true []), (AV.i .i64 (0 : Int)), (AV.b false), (AV.sl 1 true [])])]⟩)]⟩) kr le <| Nn (AV.own 3 0 2) ⟨9, 1, [(⟨#[97, 46, 111]⟩ : ByteArray), (⟨#[97, 46, 100]⟩ : ByteArray)].map AV.s⟩ <| Nn (AV.own 4 0 1) ⟨9, 1, [(⟨#[97, 46, 99]⟩ : ByteArray)].map AV.s⟩ <| Nn (AV.own 5 0 1) ⟨9, 1, [(⟨#[97, 46, 104]⟩ : ByteArray)].map AV.s⟩ <| AOps.sn (x := (AV.st [(AV.own 3 0 2), (AV.own 4 0 1), (AV.own 5 0 1), (AV.sl 1 true []), (AV.s (⟨#[99, 99, 32, 97]⟩ : ByteArray)), (AV.b true), (AV.s (⟨#[116, 119, 111]⟩ : ByteArray))])) (h' := ⟨6, [(5, some ⟨9, 1, [(⟨#[97, 46, 104]⟩ : ByteArray)].map AV.s⟩), (4, some ⟨9, 1, [(⟨#[97, 46, 99]⟩ : ByteArray)].map AV.s⟩), (3, some ⟨9, 1, [(⟨#[97, 46, 111]⟩ : ByteArray), (⟨#[97, 46, 100]⟩ : ByteArray)].map AV.s⟩), (2, some ⟨9, 1, [(⟨#[97, 46, 111]⟩ : ByteArray), (⟨#[98, 46, 111]⟩ : ByteArray)].map AV.s⟩), (1, some ⟨9, 1, [(⟨#[108, 105, 98]⟩ : ByteArray)].map AV.s⟩), (0, some ⟨64, 11, [(AV.st [(AV.sl 7 true []), (AV.sl 2 true []), (AV.sl 1 true []), (AV.sl 3 true []), (AV.i .i64 (0 : Int)), (AV.sl 3 true []), (AV.sl 3 true []), (AV.sl 3 true []), (AV.i .i64 (0 : Int)), (AV.b false), (AV.sl 1 true [])])]⟩)]⟩) kr le ?_
 refine Nn (AV.own 6 0 1) ⟨9, 1, [(⟨#[98, 46, 111]⟩ : ByteArray)].map AV.s⟩ <| Nn (AV.own 7 0 1) ⟨9, 1, [(⟨#[98, 46, 99]⟩ : ByteArray)].map AV.s⟩ <| Nn (AV.own 8 0 1) ⟨9, 1, [(⟨#[97, 46, 111]⟩ : ByteArray)].map AV.s⟩ <| AOps.sn (x := (AV.st [(AV.own 6 0 1), (AV.own 7 0 1), (AV.sl 1 true []), (AV.own 8 0 1), (AV.s (⟨#[99, 99, 32, 98]⟩ : ByteArray)), (AV.b false), (AV.s (⟨#[116, 119, 111]⟩ : ByteArray))])) (h' := ⟨9, [(8, some ⟨9, 1, [(⟨#[97, 46, 111]⟩ : ByteArray)].map AV.s⟩), (7, some ⟨9, 1, [(⟨#[98, 46, 99]⟩ : ByteArray)].map AV.s⟩), (6, some ⟨9, 1, [(⟨#[98, 46, 111]⟩ : ByteArray)].map AV.s⟩), (5, some ⟨9, 1, [(⟨#[97, 46, 104]⟩ : ByteArray)].map AV.s⟩), (4, some ⟨9, 1, [(⟨#[97, 46, 99]⟩ : ByteArray)].map AV.s⟩), (3, some ⟨9, 1, [(⟨#[97, 46, 111]⟩ : ByteArray), (⟨#[97, 46, 100]⟩ : ByteArray)].map AV.s⟩), (2, some ⟨9, 1, [(⟨#[97, 46, 111]⟩ : ByteArray), (⟨#[98, 46, 111]⟩ : ByteArray)].map AV.s⟩), (1, some ⟨9, 1, [(⟨#[108, 105, 98]⟩ : ByteArray)].map AV.s⟩), (0, some ⟨64, 11, [(AV.st [(AV.sl 7 true []), (AV.sl 2 true []), (AV.sl 1 true []), (AV.sl 3 true []), (AV.i .i64 (0 : Int)), (AV.sl 3 true []), (AV.sl 3 true []), (AV.sl 3 true []), (AV.i .i64 (0 : Int)), (AV.b false), (AV.sl 1 true [])])]⟩)]⟩) kr le <| Nn (AV.own 9 0 3) ⟨76, 7, [(AV.st [(AV.own 1 0 1), (AV.own 2 0 2), (AV.sl 1 true []), (AV.sl 1 true []), (AV.s (⟨#[97, 114]⟩ : ByteArray)), (AV.b false), (AV.s (⟨#[]⟩ : ByteArray))]), (AV.st [(AV.own 3 0 2), (AV.own 4 0 1), (AV.own 5 0 1), (AV.sl 1 true []), (AV.s (⟨#[99, 99, 32, 97]⟩ : ByteArray)), (AV.b true), (AV.s (⟨#[116, 119, 111]⟩ : ByteArray))]), (AV.st [(AV.own 6 0 1), (AV.own 7 0 1), (AV.sl 1 true []), (AV.own 8 0 1), (AV.s (⟨#[99, 99, 32, 98]⟩ : ByteArray)), (AV.b false), (AV.s (⟨#[116, 119, 111]⟩ : ByteArray))])]⟩ ?_
 refine AOps.sn (x := (AV.st [(AV.s (⟨#[116, 119, 111]⟩ : ByteArray)), (AV.i .i64 (2 : Int))])) (h' := ⟨10, [(9, some ⟨76, 7, [(AV.st [(AV.own 1 0 1), (AV.own 2 0 2), (AV.sl 1 true []), (AV.sl 1 true []), (AV.s (⟨#[97, 114]⟩ : ByteArray)), (AV.b false), (AV.s (⟨#[]⟩ : ByteArray))]), (AV.st [(AV.own 3 0 2), (AV.own 4 0 1), (AV.own 5 0 1), (AV.sl 1 true []), (AV.s (⟨#[99, 99, 32, 97]⟩ : ByteArray)), (AV.b true), (AV.s (⟨#[116, 119, 111]⟩ : ByteArray))]), (AV.st [(AV.own 6 0 1), (AV.own 7 0 1), (AV.sl 1 true []), (AV.own 8 0 1), (AV.s (⟨#[99, 99, 32, 98]⟩ : ByteArray)), (AV.b false), (AV.s (⟨#[116, 119, 111]⟩ : ByteArray))])]⟩), (8, some ⟨9, 1, [(⟨#[97, 46, 111]⟩ : ByteArray)].map AV.s⟩), (7, some ⟨9, 1, [(⟨#[98, 46, 99]⟩ : ByteArray)].map AV.s⟩), (6, some ⟨9, 1, [(⟨#[98, 46, 111]⟩ : ByteArray)].map AV.s⟩), (5, some ⟨9, 1, [(⟨#[97, 46, 104]⟩ : ByteArray)].map AV.s⟩), (4, some ⟨9, 1, [(⟨#[97, 46, 99]⟩ : ByteArray)].map AV.s⟩), (3, some ⟨9, 1, [(⟨#[97, 46, 111]⟩ : ByteArray), (⟨#[97, 46, 100]⟩ : ByteArray)].map AV.s⟩), (2, some ⟨9, 1, [(⟨#[97, 46, 111]⟩ : ByteArray), (⟨#[98, 46, 111]⟩ : ByteArray)].map AV.s⟩), (1, some ⟨9, 1, [(⟨#[108, 105, 98]⟩ : ByteArray)].map AV.s⟩), (0, some ⟨64, 11, [(AV.st [(AV.sl 7 true []), (AV.sl 2 true []), (AV.sl 1 true []), (AV.sl 3 true []), (AV.i .i64 (0 : Int)), (AV.sl 3 true []), (AV.sl 3 true []), (AV.sl 3 true []), (AV.i .i64 (0 : Int)), (AV.b false), (AV.sl 1 true [])])]⟩)]⟩) kr le <| Nn (AV.own 10 0 1) ⟨81, 2, [(⟨(⟨#[116, 119, 111]⟩ : ByteArray), (2 : Int)⟩ : DPool)].map DPool.av⟩ ?_
 refine Nn (AV.own 11 0 1) ⟨9, 1, [(⟨#[108, 105, 98]⟩ : ByteArray)].map AV.s⟩ <| AOps.sn (x := (AV.st [(AV.own 9 0 3), (AV.own 10 0 1), (AV.own 11 0 1)])) (h' := ⟨12, [(11, some ⟨9, 1, [(⟨#[108, 105, 98]⟩ : ByteArray)].map AV.s⟩), (10, some ⟨81, 2, [(⟨(⟨#[116, 119, 111]⟩ : ByteArray), (2 : Int)⟩ : DPool)].map DPool.av⟩), (9, some ⟨76, 7, [(AV.st [(AV.own 1 0 1), (AV.own 2 0 2), (AV.sl 1 true []), (AV.sl 1 true []), (AV.s (⟨#[97, 114]⟩ : ByteArray)), (AV.b false), (AV.s (⟨#[]⟩ : ByteArray))]), (AV.st [(AV.own 3 0 2), (AV.own 4 0 1), (AV.own 5 0 1), (AV.sl 1 true []), (AV.s (⟨#[99, 99, 32, 97]⟩ : ByteArray)), (AV.b true), (AV.s (⟨#[116, 119, 111]⟩ : ByteArray))]), (AV.st [(AV.own 6 0 1), (AV.own 7 0 1), (AV.sl 1 true []), (AV.own 8 0 1), (AV.s (⟨#[99, 99, 32, 98]⟩ : ByteArray)), (AV.b false), (AV.s (⟨#[116, 119, 111]⟩ : ByteArray))])]⟩), (8, some ⟨9, 1, [(⟨#[97, 46, 111]⟩ : ByteArray)].map AV.s⟩), (7, some ⟨9, 1, [(⟨#[98, 46, 99]⟩ : ByteArray)].map AV.s⟩), (6, some ⟨9, 1, [(⟨#[98, 46, 111]⟩ : ByteArray)].map AV.s⟩), (5, some ⟨9, 1, [(⟨#[97, 46, 104]⟩ : ByteArray)].map AV.s⟩), (4, some ⟨9, 1, [(⟨#[97, 46, 99]⟩ : ByteArray)].map AV.s⟩), (3, some ⟨9, 1, [(⟨#[97, 46, 111]⟩ : ByteArray), (⟨#[97, 46, 100]⟩ : ByteArray)].map AV.s⟩), (2, some ⟨9, 1, [(⟨#[97, 46, 111]⟩ : ByteArray), (⟨#[98, 46, 111]⟩ : ByteArray)].map AV.s⟩), (1, some ⟨9, 1, [(⟨#[108, 105, 98]⟩ : ByteArray)].map AV.s⟩), (0, some ⟨64, 11, [(AV.st [(AV.sl 7 true []), (AV.sl 2 true []), (AV.sl 1 true []), (AV.sl 3 true []), (AV.i .i64 (0 : Int)), (AV.sl 3 true []), (AV.sl 3 true []), (AV.sl 3 true []), (AV.i .i64 (0 : Int)), (AV.b false), (AV.sl 1 true [])])]⟩)]⟩) kr le ?_
 refine Nn (AV.loc 12 0 0) ⟨26, 3, [(AV.st [(AV.sl 7 true []), (AV.sl 2 true []), (AV.sl 1 true [])])]⟩ <| Sp 12 ⟨26, 3, [(AV.st [(AV.own 9 0 3), (AV.own 10 0 1), (AV.own 11 0 1)])]⟩ <| Ad <| Sq <| Rg <| AOps.sn (x := (AV.st [(AV.s (⟨#[97, 46, 99]⟩ : ByteArray)), (AV.i .i64 (1 : Int)), (AV.i .i64 (1 : Int))])) (h' := ⟨13, [(12, some ⟨26, 3, [(AV.st [(AV.own 9 0 3), (AV.own 10 0 1), (AV.own 11 0 1)])]⟩), (11, some ⟨9, 1, [(⟨#[108, 105, 98]⟩ : ByteArray)].map AV.s⟩), (10, some ⟨81, 2, [(⟨(⟨#[116, 119, 111]⟩ : ByteArray), (2 : Int)⟩ : DPool)].map DPool.av⟩), (9, some ⟨76, 7, [(AV.st [(AV.own 1 0 1), (AV.own 2 0 2), (AV.sl 1 true []), (AV.sl 1 true []), (AV.s (⟨#[97, 114]⟩ : ByteArray)), (AV.b false), (AV.s (⟨#[]⟩ : ByteArray))]), (AV.st [(AV.own 3 0 2), (AV.own 4 0 1), (AV.own 5 0 1), (AV.sl 1 true []), (AV.s (⟨#[99, 99, 32, 97]⟩ : ByteArray)), (AV.b true), (AV.s (⟨#[116, 119, 111]⟩ : ByteArray))]), (AV.st [(AV.own 6 0 1), (AV.own 7 0 1), (AV.sl 1 true []), (AV.own 8 0 1), (AV.s (⟨#[99, 99, 32, 98]⟩ : ByteArray)), (AV.b false), (AV.s (⟨#[116, 119, 111]⟩ : ByteArray))])]⟩), (8, some ⟨9, 1, [(⟨#[97, 46, 111]⟩ : ByteArray)].map AV.s⟩), (7, some ⟨9, 1, [(⟨#[98, 46, 99]⟩ : ByteArray)].map AV.s⟩), (6, some ⟨9, 1, [(⟨#[98, 46, 111]⟩ : ByteArray)].map AV.s⟩), (5, some ⟨9, 1, [(⟨#[97, 46, 104]⟩ : ByteArray)].map AV.s⟩), (4, some ⟨9, 1, [(⟨#[97, 46, 99]⟩ : ByteArray)].map AV.s⟩), (3, some ⟨9, 1, [(⟨#[97, 46, 111]⟩ : ByteArray), (⟨#[97, 46, 100]⟩ : ByteArray)].map AV.s⟩), (2, some ⟨9, 1, [(⟨#[97, 46, 111]⟩ : ByteArray), (⟨#[98, 46, 111]⟩ : ByteArray)].map AV.s⟩), (1, some ⟨9, 1, [(⟨#[108, 105, 98]⟩ : ByteArray)].map AV.s⟩), (0, some ⟨64, 11, [(AV.st [(AV.sl 7 true []), (AV.sl 2 true []), (AV.sl 1 true []), (AV.sl 3 true []), (AV.i .i64 (0 : Int)), (AV.sl 3 true []), (AV.sl 3 true []), (AV.sl 3 true []), (AV.i .i64 (0 : Int)), (AV.b false), (AV.sl 1 true [])])]⟩)]⟩) kr le ?_
 refine AOps.sn (x := (AV.st [(AV.s (⟨#[97, 46, 104]⟩ : ByteArray)), (AV.i .i64 (2 : Int)), (AV.i .i64 (2 : Int))])) (h' := ⟨13, [(12, some ⟨26, 3, [(AV.st [(AV.own 9 0 3), (AV.own 10 0 1), (AV.own 11 0 1)])]⟩), (11, some ⟨9, 1, [(⟨#[108, 105, 98]⟩ : ByteArray)].map AV.s⟩), (10, some ⟨81, 2, [(⟨(⟨#[116, 119, 111]⟩ : ByteArray), (2 : Int)⟩ : DPool)].map DPool.av⟩), (9, some ⟨76, 7, [(AV.st [(AV.own 1 0 1), (AV.own 2 0 2), (AV.sl 1 true []), (AV.sl 1 true []), (AV.s (⟨#[97, 114]⟩ : ByteArray)), (AV.b false), (AV.s (⟨#[]⟩ : ByteArray))]), (AV.st [(AV.own 3 0 2), (AV.own 4 0 1), (AV.own 5 0 1), (AV.sl 1 true []), (AV.s (⟨#[99, 99, 32, 97]⟩ : ByteArray)), (AV.b true), (AV.s (⟨#[116, 119, 111]⟩ : ByteArray))]), (AV.st [(AV.own 6 0 1), (AV.own 7 0 1), (AV.sl 1 true []), (AV.own 8 0 1), (AV.s (⟨#[99, 99, 32, 98]⟩ : ByteArray)), (AV.b false), (AV.s (⟨#[116, 119, 111]⟩ : ByteArray))])]⟩), (8, some ⟨9, 1, [(⟨#[97, 46, 111]⟩ : ByteArray)].map AV.s⟩), (7, some ⟨9, 1, [(⟨#[98, 46, 99]⟩ : ByteArray)].map AV.s⟩), (6, some ⟨9, 1, [(⟨#[98, 46, 111]⟩ : ByteArray)].map AV.s⟩), (5, some ⟨9, 1, [(⟨#[97, 46, 104]⟩ : ByteArray)].map AV.s⟩), (4, some ⟨9, 1, [(⟨#[97, 46, 99]⟩ : ByteArray)].map AV.s⟩), (3, some ⟨9, 1, [(⟨#[97, 46, 111]⟩ : ByteArray), (⟨#[97, 46, 100]⟩ : ByteArray)].map AV.s⟩), (2, some ⟨9, 1, [(⟨#[97, 46, 111]⟩ : ByteArray), (⟨#[98, 46, 111]⟩ : ByteArray)].map AV.s⟩), (1, some ⟨9, 1, [(⟨#[108, 105, 98]⟩ : ByteArray)].map AV.s⟩), (0, some ⟨64, 11, [(AV.st [(AV.sl 7 true []), (AV.sl 2 true []), (AV.sl 1 true []), (AV.sl 3 true []), (AV.i .i64 (0 : Int)), (AV.sl 3 true []), (AV.sl 3 true []), (AV.sl 3 true []), (AV.i .i64 (0 : Int)), (AV.b false), (AV.sl 1 true [])])]⟩)]⟩) kr le ?_
 refine AOps.sn (x := (AV.st [(AV.s (⟨#[98, 46, 99]⟩ : ByteArray)), (AV.i .i64 (3 : Int)), (AV.i .i64 (3 : Int))])) (h' := ⟨13, [(12, some ⟨26, 3, [(AV.st [(AV.own 9 0 3), (AV.own 10 0 1), (AV.own 11 0 1)])]⟩), (11, some ⟨9, 1, [(⟨#[108, 105, 98]⟩ : ByteArray)].map AV.s⟩), (10, some ⟨81, 2, [(⟨(⟨#[116, 119, 111]⟩ : ByteArray), (2 : Int)⟩ : DPool)].map DPool.av⟩), (9, some ⟨76, 7, [(AV.st [(AV.own 1 0 1), (AV.own 2 0 2), (AV.sl 1 true []), (AV.sl 1 true []), (AV.s (⟨#[97, 114]⟩ : ByteArray)), (AV.b false), (AV.s (⟨#[]⟩ : ByteArray))]), (AV.st [(AV.own 3 0 2), (AV.own 4 0 1), (AV.own 5 0 1), (AV.sl 1 true []), (AV.s (⟨#[99, 99, 32, 97]⟩ : ByteArray)), (AV.b true), (AV.s (⟨#[116, 119, 111]⟩ : ByteArray))]), (AV.st [(AV.own 6 0 1), (AV.own 7 0 1), (AV.sl 1 true []), (AV.own 8 0 1), (AV.s (⟨#[99, 99, 32, 98]⟩ : ByteArray)), (AV.b false), (AV.s (⟨#[116, 119, 111]⟩ : ByteArray))])]⟩), (8, some ⟨9, 1, [(⟨#[97, 46, 111]⟩ : ByteArray)].map AV.s⟩), (7, some ⟨9, 1, [(⟨#[98, 46, 99]⟩ : ByteArray)].map AV.s⟩), (6, some ⟨9, 1, [(⟨#[98, 46, 111]⟩ : ByteArray)].map AV.s⟩), (5, some ⟨9, 1, [(⟨#[97, 46, 104]⟩ : ByteArray)].map AV.s⟩), (4, some ⟨9, 1, [(⟨#[97, 46, 99]⟩ : ByteArray)].map AV.s⟩), (3, some ⟨9, 1, [(⟨#[97, 46, 111]⟩ : ByteArray), (⟨#[97, 46, 100]⟩ : ByteArray)].map AV.s⟩), (2, some ⟨9, 1, [(⟨#[97, 46, 111]⟩ : ByteArray), (⟨#[98, 46, 111]⟩ : ByteArray)].map AV.s⟩), (1, some ⟨9, 1, [(⟨#[108, 105, 98]⟩ : ByteArray)].map AV.s⟩), (0, some ⟨64, 11, [(AV.st [(AV.sl 7 true []), (AV.sl 2 true []), (AV.sl 1 true []), (AV.sl 3 true []), (AV.i .i64 (0 : Int)), (AV.sl 3 true []), (AV.sl 3 true []), (AV.sl 3 true []), (AV.i .i64 (0 : Int)), (AV.b false), (AV.sl 1 true [])])]⟩)]⟩) kr le ?_
 refine AOps.sn (x := (AV.st [(AV.s (⟨#[122, 46, 104]⟩ : ByteArray)), (AV.i .i64 (4 : Int)), (AV.i .i64 (4 : Int))])) (h' := ⟨13, [(12, some ⟨26, 3, [(AV.st [(AV.own 9 0 3), (AV.own 10 0 1), (AV.own 11 0 1)])]⟩), (11, some ⟨9, 1, [(⟨#[108, 105, 98]⟩ : ByteArray)].map AV.s⟩), (10, some ⟨81, 2, [(⟨(⟨#[116, 119, 111]⟩ : ByteArray), (2 : Int)⟩ : DPool)].map DPool.av⟩), (9, some ⟨76, 7, [(AV.st [(AV.own 1 0 1), (AV.own 2 0 2), (AV.sl 1 true []), (AV.sl 1 true []), (AV.s (⟨#[97, 114]⟩ : ByteArray)), (AV.b false), (AV.s (⟨#[]⟩ : ByteArray))]), (AV.st [(AV.own 3 0 2), (AV.own 4 0 1), (AV.own 5 0 1), (AV.sl 1 true []), (AV.s (⟨#[99, 99, 32, 97]⟩ : ByteArray)), (AV.b true), (AV.s (⟨#[116, 119, 111]⟩ : ByteArray))]), (AV.st [(AV.own 6 0 1), (AV.own 7 0 1), (AV.sl 1 true []), (AV.own 8 0 1), (AV.s (⟨#[99, 99, 32, 98]⟩ : ByteArray)), (AV.b false), (AV.s (⟨#[116, 119, 111]⟩ : ByteArray))])]⟩), (8, some ⟨9, 1, [(⟨#[97, 46, 111]⟩ : ByteArray)].map AV.s⟩), (7, some ⟨9, 1, [(⟨#[98, 46, 99]⟩ : ByteArray)].map AV.s⟩), (6, some ⟨9, 1, [(⟨#[98, 46, 111]⟩ : ByteArray)].map AV.s⟩), (5, some ⟨9, 1, [(⟨#[97, 46, 104]⟩ : ByteArray)].map AV.s⟩), (4, some ⟨9, 1, [(⟨#[97, 46, 99]⟩ : ByteArray)].map AV.s⟩), (3, some ⟨9, 1, [(⟨#[97, 46, 111]⟩ : ByteArray), (⟨#[97, 46, 100]⟩ : ByteArray)].map AV.s⟩), (2, some ⟨9, 1, [(⟨#[97, 46, 111]⟩ : ByteArray), (⟨#[98, 46, 111]⟩ : ByteArray)].map AV.s⟩), (1, some ⟨9, 1, [(⟨#[108, 105, 98]⟩ : ByteArray)].map AV.s⟩), (0, some ⟨64, 11, [(AV.st [(AV.sl 7 true []), (AV.sl 2 true []), (AV.sl 1 true []), (AV.sl 3 true []), (AV.i .i64 (0 : Int)), (AV.sl 3 true []), (AV.sl 3 true []), (AV.sl 3 true []), (AV.i .i64 (0 : Int)), (AV.b false), (AV.sl 1 true [])])]⟩)]⟩) kr le ?_
 refine Nn (AV.own 13 0 4) ⟨119, 3, [lit35ef0, litb1de5, litf2893, lit881d0].map DFile.av⟩ <| AOps.sn (x := (AV.st [(AV.i .i64 (4 : Int)), (AV.own 13 0 4)])) (h' := ⟨14, [(13, some ⟨119, 3, [lit35ef0, litb1de5, litf2893, lit881d0].map DFile.av⟩), (12, some ⟨26, 3, [(AV.st [(AV.own 9 0 3), (AV.own 10 0 1), (AV.own 11 0 1)])]⟩), (11, some ⟨9, 1, [(⟨#[108, 105, 98]⟩ : ByteArray)].map AV.s⟩), (10, some ⟨81, 2, [(⟨(⟨#[116, 119, 111]⟩ : ByteArray), (2 : Int)⟩ : DPool)].map DPool.av⟩), (9, some ⟨76, 7, [(AV.st [(AV.own 1 0 1), (AV.own 2 0 2), (AV.sl 1 true []), (AV.sl 1 true []), (AV.s (⟨#[97, 114]⟩ : ByteArray)), (AV.b false), (AV.s (⟨#[]⟩ : ByteArray))]), (AV.st [(AV.own 3 0 2), (AV.own 4 0 1), (AV.own 5 0 1), (AV.sl 1 true []), (AV.s (⟨#[99, 99, 32, 97]⟩ : ByteArray)), (AV.b true), (AV.s (⟨#[116, 119, 111]⟩ : ByteArray))]), (AV.st [(AV.own 6 0 1), (AV.own 7 0 1), (AV.sl 1 true []), (AV.own 8 0 1), (AV.s (⟨#[99, 99, 32, 98]⟩ : ByteArray)), (AV.b false), (AV.s (⟨#[116, 119, 111]⟩ : ByteArray))])]⟩), (8, some ⟨9, 1, [(⟨#[97, 46, 111]⟩ : ByteArray)].map AV.s⟩), (7, some ⟨9, 1, [(⟨#[98, 46, 99]⟩ : ByteArray)].map AV.s⟩), (6, some ⟨9, 1, [(⟨#[98, 46, 111]⟩ : ByteArray)].map AV.s⟩), (5, some ⟨9, 1, [(⟨#[97, 46, 104]⟩ : ByteArray)].map AV.s⟩), (4, some ⟨9, 1, [(⟨#[97, 46, 99]⟩ : ByteArray)].map AV.s⟩), (3, some ⟨9, 1, [(⟨#[97, 46, 111]⟩ : ByteArray), (⟨#[97, 46, 100]⟩ : ByteArray)].map AV.s⟩), (2, some ⟨9, 1, [(⟨#[97, 46, 111]⟩ : ByteArray), (⟨#[98, 46, 111]⟩ : ByteArray)].map AV.s⟩), (1, some ⟨9, 1, [(⟨#[108, 105, 98]⟩ : ByteArray)].map AV.s⟩), (0, some ⟨64, 11, [(AV.st [(AV.sl 7 true []), (AV.sl 2 true []), (AV.sl 1 true []), (AV.sl 3 true []), (AV.i .i64 (0 : Int)), (AV.sl 3 true []), (AV.sl 3 true []), (AV.sl 3 true []), (AV.i .i64 (0 : Int)), (AV.b false), (AV.sl 1 true [])])]⟩)]⟩) kr le ?_
 refine Nn (AV.loc 14 0 0) ⟨60, 2, [(AV.st [(AV.i .i64 (0 : Int)), (AV.sl 3 true [])])]⟩ <| Sp 14 ⟨60, 2, [(AV.st [(AV.i .i64 (4 : Int)), (AV.own 13 0 4)])]⟩ <| Ad <| Sq <| Rg <| Aq (AV.st [(AV.own 9 0 3), (AV.own 10 0 1), (AV.own 11 0 1)]) <| Nn (AV.own 15 0 1) ⟨9, 1, [(⟨#[122, 46, 104]⟩ : ByteArray)].map AV.s⟩ <| AOps.sn (x := (AV.st [(AV.s (⟨#[99, 99, 32, 97]⟩ : ByteArray)), (AV.own 15 0 1), (AV.b false)])) (h' := ⟨16, [(15, some ⟨9, 1, [(⟨#[122, 46, 104]⟩ : ByteArray)].map AV.s⟩), (14, some ⟨60, 2, [(AV.st [(AV.i .i64 (4 : Int)), (AV.own 13 0 4)])]⟩), (13, some ⟨119, 3, [lit35ef0, litb1de5, litf2893, lit881d0].map DFile.av⟩), (12, some ⟨26, 3, [(AV.st [(AV.own 9 0 3), (AV.own 10 0 1), (AV.own 11 0 1)])]⟩), (11, some ⟨9, 1, [(⟨#[108, 105, 98]⟩ : ByteArray)].map AV.s⟩), (10, some ⟨81, 2, [(⟨(⟨#[116, 119, 111]⟩ : ByteArray), (2 : Int)⟩ : DPool)].map DPool.av⟩), (9, some ⟨76, 7, [(AV.st [(AV.own 1 0 1), (AV.own 2 0 2), (AV.sl 1 true []), (AV.sl 1 true []), (AV.s (⟨#[97, 114]⟩ : ByteArray)), (AV.b false), (AV.s (⟨#[]⟩ : ByteArray))]), (AV.st [(AV.own 3 0 2), (AV.own 4 0 1), (AV.own 5 0 1), (AV.sl 1 true []), (AV.s (⟨#[99, 99, 32, 97]⟩ : ByteArray)), (AV.b true), (AV.s (⟨#[116, 119, 111]⟩ : ByteArray))]), (AV.st [(AV.own 6 0 1), (AV.own 7 0 1), (AV.sl 1 true []), (AV.own 8 0 1), (AV.s (⟨#[99, 99, 32, 98]⟩ : ByteArray)), (AV.b false), (AV.s (⟨#[116, 119, 111]⟩ : ByteArray))])]⟩), (8, some ⟨9, 1, [(⟨#[97, 46, 111]⟩ : ByteArray)].map AV.s⟩), (7, some ⟨9, 1, [(⟨#[98, 46, 99]⟩ : ByteArray)].map AV.s⟩), (6, some ⟨9, 1, [(⟨#[98, 46, 111]⟩ : ByteArray)].map AV.s⟩), (5, some ⟨9, 1, [(⟨#[97, 46, 104]⟩ : ByteArray)].map AV.s⟩), (4, some ⟨9, 1, [(⟨#[97, 46, 99]⟩ : ByteArray)].map AV.s⟩), (3, some ⟨9, 1, [(⟨#[97, 46, 111]⟩ : ByteArray), (⟨#[97, 46, 100]⟩ : ByteArray)].map AV.s⟩), (2, some ⟨9, 1, [(⟨#[97, 46, 111]⟩ : ByteArray), (⟨#[98, 46, 111]⟩ : ByteArray)].map AV.s⟩), (1, some ⟨9, 1, [(⟨#[108, 105, 98]⟩ : ByteArray)].map AV.s⟩), (0, some ⟨64, 11, [(AV.st [(AV.sl 7 true []), (AV.sl 2 true []), (AV.sl 1 true []), (AV.sl 3 true []), (AV.i .i64 (0 : Int)), (AV.sl 3 true []), (AV.sl 3 true []), (AV.sl 3 true []), (AV.i .i64 (0 : Int)), (AV.b false), (AV.sl 1 true [])])]⟩)]⟩) kr le ?_
 refine Nn (AV.own 16 0 1) ⟨121, 3, [(AV.st [(AV.s (⟨#[99, 99, 32, 97]⟩ : ByteArray)), (AV.own 15 0 1), (AV.b false)])]⟩ <| Aq (AV.st [(AV.i .i64 (4 : Int)), (AV.own 13 0 4)]) <| AOps.sn (x := (AV.st [(AV.own 9 0 3), (AV.own 10 0 1), (AV.own 11 0 1), (AV.own 16 0 1), (AV.i .i64 (4 : Int)), (AV.own 13 0 4), (AV.sl 3 true []), (AV.sl 3 true []), (AV.i .i64 (2 : Int)), (AV.b false), (AV.sl 1 true [])])) (h' := ⟨17, [(16, some ⟨121, 3, [(AV.st [(AV.s (⟨#[99, 99, 32, 97]⟩ : ByteArray)), (AV.own 15 0 1), (AV.b false)])]⟩), (15, some ⟨9, 1, [(⟨#[122, 46, 104]⟩ : ByteArray)].map AV.s⟩), (14, some ⟨60, 2, [(AV.st [(AV.i .i64 (4 : Int)), (AV.own 13 0 4)])]⟩), (13, some ⟨119, 3, [lit35ef0, litb1de5, litf2893, lit881d0].map DFile.av⟩), (12, some ⟨26, 3, [(AV.st [(AV.own 9 0 3), (AV.own 10 0 1), (AV.own 11 0 1)])]⟩), (11, some ⟨9, 1, [(⟨#[108, 105, 98]⟩ : ByteArray)].map AV.s⟩), (10, some ⟨81, 2, [(⟨(⟨#[116, 119, 111]⟩ : ByteArray), (2 : Int)⟩ : DPool)].map DPool.av⟩), (9, some ⟨76, 7, [(AV.st [(AV.own 1 0 1), (AV.own 2 0 2), (AV.sl 1 true []), (AV.sl 1 true []), (AV.s (⟨#[97, 114]⟩ : ByteArray)), (AV.b false), (AV.s (⟨#[]⟩ : ByteArray))]), (AV.st [(AV.own 3 0 2), (AV.own 4 0 1), (AV.own 5 0 1), (AV.sl 1 true []), (AV.s (⟨#[99, 99, 32, 97]⟩ : ByteArray)), (AV.b true), (AV.s (⟨#[116, 119, 111]⟩ : ByteArray))]), (AV.st [(AV.own 6 0 1), (AV.own 7 0 1), (AV.sl 1 true []), (AV.own 8 0 1), (AV.s (⟨#[99, 99, 32, 98]⟩ : ByteArray)), (AV.b false), (AV.s (⟨#[116, 119, 111]⟩ : ByteArray))])]⟩), (8, some ⟨9, 1, [(⟨#[97, 46, 111]⟩ : ByteArray)].map AV.s⟩), (7, some ⟨9, 1, [(⟨#[98, 46, 99]⟩ : ByteArray)].map AV.s⟩), (6, some ⟨9, 1, [(⟨#[98, 46, 111]⟩ : ByteArray)].map AV.s⟩), (5, some ⟨9, 1, [(⟨#[97, 46, 104]⟩ : ByteArray)].map AV.s⟩), (4, some ⟨9, 1, [(⟨#[97, 46, 99]⟩ : ByteArray)].map AV.s⟩), (3, some ⟨9, 1, [(⟨#[97, 46, 111]⟩ : ByteArray), (⟨#[97, 46, 100]⟩ : ByteArray)].map AV.s⟩), (2, some ⟨9, 1, [(⟨#[97, 46, 111]⟩ : ByteArray), (⟨#[98, 46, 111]⟩ : ByteArray)].map AV.s⟩), (1, some ⟨9, 1, [(⟨#[108, 105, 98]⟩ : ByteArray)].map AV.s⟩), (0, some ⟨64, 11, [(AV.st [(AV.sl 7 true []), (AV.sl 2 true []), (AV.sl 1 true []), (AV.sl 3 true []), (AV.i .i64 (0 : Int)), (AV.sl 3 true []), (AV.sl 3 true []), (AV.sl 3 true []), (AV.i .i64 (0 : Int)), (AV.b false), (AV.sl 1 true [])])]⟩)]⟩) kr le ?_
 refine Sp 0 ⟨64, 11, [(AV.st [(AV.own 9 0 3), (AV.own 10 0 1), (AV.own 11 0 1), (AV.own 16 0 1), (AV.i .i64 (4 : Int)), (AV.own 13 0 4), (AV.sl 3 true []), (AV.sl 3 true []), (AV.i .i64 (2 : Int)), (AV.b false), (AV.sl 1 true [])])]⟩ <| Ad <| Rt ?_
 have hM : m_r = lit326bd := by simp only [m_r, sbt]
 exact ⟨[9, 1, 2, 3, 4, 5, 6, 7, 8, 10, 11, 16, 15, 13], Or.inr rfl, by decide, rfl, ⟨kr, ⟨kr, ⟨kr, ⟨kr, ⟨kr, ⟨kr, ⟨kr, ⟨kr, ⟨kr, ⟨kr, ⟨kr, ⟨kr, ⟨kr, ⟨kr, trivial⟩⟩⟩⟩⟩⟩⟩⟩⟩⟩⟩⟩⟩⟩, (AV.st [(AV.own 9 0 3), (AV.own 10 0 1), (AV.own 11 0 1), (AV.own 16 0 1), (AV.i .i64 (4 : Int)), (AV.own 13 0 4), (AV.sl 3 true []), (AV.sl 3 true []), (AV.i .i64 (2 : Int)), (AV.b false), (AV.sl 1 true [])]), kr, kr⟩
theorem w_law21_start (W : World) : PureAt Go.Proofs.Tryz.prog W 42 [] (DState.av m_r) [] :=
  (wd_law21_start W).freeze (Ent.st ⟨(EntD.kk (x' := (AV.own 0 0 3)) kr kr rfl (EntK.own (id := 0) (len := 3) (e := 76) (k := 7) (els := [(AV.st [(AV.own 1 0 1), (AV.own 2 0 2), (AV.sl 1 true []), (AV.sl 1 true []), (AV.s (⟨#[97, 114]⟩ : ByteArray)), (AV.b false), (AV.s (⟨#[]⟩ : ByteArray))]), (AV.st [(AV.own 3 0 2), (AV.own 4 0 1), (AV.own 5 0 1), (AV.sl 1 true []), (AV.s (⟨#[99, 99, 32, 97]⟩ : ByteArray)), (AV.b true), (AV.s (⟨#[116, 119, 111]⟩ : ByteArray))]), (AV.st [(AV.own 6 0 1), (AV.own 7 0 1), (AV.sl 1 true []), (AV.own 8 0 1), (AV.s (⟨#[99, 99, 32, 98]⟩ : ByteArray)), (AV.b false), (AV.s (⟨#[116, 119, 111]⟩ : ByteArray))])]) rfl rfl rfl sd (EntKEs.cons (EntKE.st (EntKs.cons (EntK.row (fun _ => rfl) (A := AV.s) (id := 1) (e := 9) (k := 1) (xs := [(⟨#[108, 105, 98]⟩ : ByteArray)]) rfl rfl sd sd) (EntKs.cons (EntK.row (fun _ => rfl) (A := AV.s) (id := 2) (e := 9) (k := 1) (xs := [(⟨#[97, 46, 111]⟩ : ByteArray), (⟨#[98, 46, 111]⟩ : ByteArray)]) rfl rfl sd sd) (EntKs.cons (EntK.c rfl (WeakC.nil 1)) (EntKs.cons (EntK.c rfl (WeakC.nil 1)) (EntKs.cons (EntK.cr (x := (AV.s (⟨#[97, 114]⟩ : ByteArray))) kr) (EntKs.cons (EntK.cr (x := (AV.b false)) kr) (EntKs.cons (EntK.cr (x := (AV.s (⟨#[]⟩ : ByteArray))) kr) EntKs.nil)))))))) (EntKEs.cons (EntKE.st (EntKs.cons (EntK.row (fun _ => rfl) (A := AV.s) (id := 3) (e := 9) (k := 1) (xs := [(⟨#[97, 46, 111]⟩ : ByteArray), (⟨#[97, 46, 100]⟩ : ByteArray)]) rfl rfl sd sd) (EntKs.cons (EntK.row (fun _ => rfl) (A := AV.s) (id := 4) (e := 9) (k := 1) (xs := [(⟨#[97, 46, 99]⟩ : ByteArray)]) rfl rfl sd sd) (EntKs.cons (EntK.row (fun _ => rfl) (A := AV.s) (id := 5) (e := 9) (k := 1) (xs := [(⟨#[97, 46, 104]⟩ : ByteArray)]) rfl rfl sd sd) (EntKs.cons (EntK.c rfl (WeakC.nil 1)) (EntKs.cons (EntK.cr (x := (AV.s (⟨#[99, 99, 32, 97]⟩ : ByteArray))) kr) (EntKs.cons (EntK.cr (x := (AV.b true)) kr) (EntKs.cons (EntK.cr (x := (AV.s (⟨#[116, 119, 111]⟩ : ByteArray))) kr) EntKs.nil)))))))) (EntKEs.cons (EntKE.st (EntKs.cons (EntK.row (fun _ => rfl) (A := AV.s) (id := 6) (e := 9) (k := 1) (xs := [(⟨#[98, 46, 111]⟩ : ByteArray)]) rfl rfl sd sd) (EntKs.cons (EntK.row (fun _ => rfl) (A := AV.s) (id := 7) (e := 9) (k := 1) (xs := [(⟨#[98, 46, 99]⟩ : ByteArray)]) rfl rfl sd sd) (EntKs.cons (EntK.c rfl (WeakC.nil 1)) (EntKs.cons (EntK.row (fun _ => rfl) (A := AV.s) (id := 8) (e := 9) (k := 1) (xs := [(⟨#[97, 46, 111]⟩ : ByteArray)]) rfl rfl sd sd) (EntKs.cons (EntK.cr (x := (AV.s (⟨#[99, 99, 32, 98]⟩ : ByteArray))) kr) (EntKs.cons (EntK.cr (x := (AV.b false)) kr) (EntKs.cons (EntK.cr (x := (AV.s (⟨#[116, 119, 111]⟩ : ByteArray))) kr) EntKs.nil)))))))) EntKEs.nil))))), ⟨(EntD.kk (x' := (AV.own 9 0 1)) kr kr rfl (EntK.row (fun _ => rfl) (A := DPool.av) (id := 9) (e := 81) (k := 2) (xs := [(⟨(⟨#[116, 119, 111]⟩ : ByteArray), (2 : Int)⟩ : DPool)]) rfl rfl sd sd)), ⟨(EntD.kk (x' := (AV.own 10 0 1)) kr kr rfl (EntK.row (fun _ => rfl) (A := AV.s) (id := 10) (e := 9) (k := 1) (xs := [(⟨#[108, 105, 98]⟩ : ByteArray)]) rfl rfl sd sd)), ⟨(EntD.kk (x' := (AV.own 11 0 1)) kr kr rfl (EntK.own (id := 11) (len := 1) (e := 121) (k := 3) (els := [(AV.st [(AV.s (⟨#[99, 99, 32, 97]⟩ : ByteArray)), (AV.own 12 0 1), (AV.b false)])]) rfl rfl rfl sd (EntKEs.cons (EntKE.st (EntKs.cons (EntK.cr (x := (AV.s (⟨#[99, 99, 32, 97]⟩ : ByteArray))) kr) (EntKs.cons (EntK.row (fun _ => rfl) (A := AV.s) (id := 12) (e := 9) (k := 1) (xs := [(⟨#[122, 46, 104]⟩ : ByteArray)]) rfl rfl sd sd) (EntKs.cons (EntK.cr (x := (AV.b false)) kr) EntKs.nil)))) EntKEs.nil))), ⟨(Ent.c kr kr), ⟨(EntD.kk (x' := (AV.own 13 0 4)) kr kr rfl (EntK.row (fun _ => rfl) (A := DFile.av) (id := 13) (e := 119) (k := 3) (xs := [lit35ef0, litb1de5, litf2893, lit881d0]) rfl rfl sd sd)), ⟨(Ent.w rfl (WeakC.nil 3)), ⟨(Ent.w rfl (WeakC.nil 3)), ⟨(Ent.c kr kr), ⟨(Ent.c kr kr), ⟨(Ent.w rfl (WeakC.nil 1)), trivial⟩⟩⟩⟩⟩⟩⟩⟩⟩⟩⟩ kr)
theorem wd_law21_going (W : World) : PureAt Go.Proofs.Tryz.prog W 41 [] (AV.st [(AV.own 0 0 3), (AV.own 9 0 1), (AV.own 10 0 1), (AV.own 11 0 1), (AV.i .i64 (4 : Int)), (AV.own 13 0 4), (AV.sl 3 true []), (AV.sl 3 true []), (AV.i .i64 (2 : Int)), (AV.b true), (AV.own 14 0 3)]) [⟨76, 7, [(AV.st [(AV.own 1 0 1), (AV.own 2 0 2), (AV.sl 1 true []), (AV.sl 1 true []), (AV.s (⟨#[97, 114]⟩ : ByteArray)), (AV.b false), (AV.s (⟨#[]⟩ : ByteArray))]), (AV.st [(AV.own 3 0 2), (AV.own 4 0 1), (AV.own 5 0 1), (AV.sl 1 true []), (AV.s (⟨#[99, 99, 32, 97]⟩ : ByteArray)), (AV.b true), (AV.s (⟨#[116, 119, 111]⟩ : ByteArray))]), (AV.st [(AV.own 6 0 1), (AV.own 7 0 1), (AV.sl 1 true []), (AV.own 8 0 1), (AV.s (⟨#[99, 99, 32, 98]⟩ : ByteArray)), (AV.b false), (AV.s (⟨#[116, 119, 111]⟩ : ByteArray))])]⟩, ⟨9, 1, [(⟨#[108, 105, 98]⟩ : ByteArray)].map AV.s⟩, ⟨9, 1, [(⟨#[97, 46, 111]⟩ : ByteArray), (⟨#[98, 46, 111]⟩ : ByteArray)].map AV.s⟩, ⟨9, 1, [(⟨#[97, 46, 111]⟩ : ByteArray), (⟨#[97, 46, 100]⟩ : ByteArray)].map AV.s⟩, ⟨9, 1, [(⟨#[97, 46, 99]⟩ : ByteArray)].map AV.s⟩, ⟨9, 1, [(⟨#[97, 46, 104]⟩ : ByteArray)].map AV.s⟩, ⟨9, 1, [(⟨#[98, 46, 111]⟩ : ByteArray)].map AV.s⟩, ⟨9, 1, [(⟨#[98, 46, 99]⟩ : ByteArray)].map AV.s⟩, ⟨9, 1, [(⟨#[97, 46, 111]⟩ : ByteArray)].map AV.s⟩, ⟨81, 2, [(⟨(⟨#[116, 119, 111]⟩ : ByteArray), (2 : Int)⟩ : DPool)].map DPool.av⟩, ⟨9, 1, [(⟨#[108, 105, 98]⟩ : ByteArray)].map AV.s⟩, ⟨121, 3, [(AV.st [(AV.s (⟨#[99, 99, 32, 97]⟩ : ByteArray)), (AV.own 12 0 1), (AV.b false)])]⟩, ⟨9, 1, [(⟨#[122, 46, 104]⟩ : ByteArray)].map AV.s⟩, ⟨119, 3, [lit35ef0, litb1de5, litf2893, lit881d0].map DFile.av⟩, ⟨3, 1, [(1 : Int), (1 : Int), (1 : Int)].map (AV.i .i64)⟩] := by
 refine pure_of_run tabS_ok (fn := Go.Proofs.Tryz.f41) Go.Proofs.Tryz.func41 rfl (en41 W) le <| Sq <| Rg <| Nn (AV.loc 0 0 0) ⟨64, 11, [(AV.st [(AV.sl 7 true []), (AV.sl 2 true []), (AV.sl 1 true []), (AV.sl 3 true []), (AV.i .i64 (0 : Int)), (AV.sl 3 true []), (AV.sl 3 true []), (AV.sl 3 true []), (AV.i .i64 (0 : Int)), (AV.b false), (AV.sl 1 true [])])]⟩ <| Ad <| Sq <| Rg <| Sc (AV.st [(AV.own 1 0 3), (AV.own 10 0 1), (AV.own 11 0 1), (AV.own 12 0 1), (AV.i .i64 (4 : Int)), (AV.own 14 0 4), (AV.sl 3 true []), (AV.sl 3 true []), (AV.i .i64 (2 : Int)), (AV.b false), (AV.sl 1 true [])]) (wd_law21_start W) <| Nn (AV.loc 15 0 0) ⟨64, 11, [(AV.st [(AV.sl 7 true []), (AV.sl 2 true []), (AV.sl 1 true []), (AV.sl 3 true []), (AV.i .i64 (0 : Int)), (AV.sl 3 true []), (AV.sl 3 true []), (AV.sl 3 true []), (AV.i .i64 (0 : Int)), (AV.b false), (AV.sl 1 true [])])]⟩ <| Sp 15 ⟨64, 11, [(AV.st [(AV.own 1 0 3), (AV.own 10 0 1), (AV.own 11 0 1), (AV.own 12 0 1), (AV.i .i64 (4 : Int)), (AV.own 14 0 4), (AV.sl 3 true []), (AV.sl 3 true []), (AV.i .i64 (2 : Int)), (AV.b false), (AV.sl 1 true [])])]⟩ <| Ad <| Sq <| Rg <| Aq (AV.loc 15 0 9) <| Sp 15 ⟨64, 11, [(AV.st [(AV.own 1 0 3), (AV.own 10 0 1), (AV.own 11 0 1), (AV.own 12 0 1), (AV.i .i64 (4 : Int)), (AV.own 14 0 4), (AV.sl 3 true []), (AV.sl 3 true []), (AV.i .i64 (2 : Int)), (AV.b true), (AV.sl 1 true [])])]⟩ <| Ad <| Sq <| Rg <| Nn (AV.own 16 0 3) ⟨3, 1, [(1 : Int), (1 : Int), (1 : Int)].map (AV.i .i64)⟩ <| Aq (AV.loc 15 0 10) <| Sp 15 ⟨64, 11, [(AV.st [(AV.own 1 0 3), (AV.own 10 0 1), (AV.own 11 0 1), (AV.own 12 0 1), (AV.i .i64 (4 : Int)), (AV.own 14 0 4), (AV.sl 3 true []), (AV.sl 3 true []), (AV.i .i64 (2 : Int)), (AV.b true), (AV.own 16 0 3)])]⟩ ?_
 refine Ad <| Sq <| Rg <| Aq (AV.st [(AV.own 1 0 3), (AV.own 10 0 1), (AV.own 11 0 1), (AV.own 12 0 1), (AV.i .i64 (4 : Int)), (AV.own 14 0 4), (AV.sl 3 true []), (AV.sl 3 true []), (AV.i .i64 (2 : Int)), (AV.b true), (AV.own 16 0 3)]) <| Sp 0 ⟨64, 11, [(AV.st [(AV.own 1 0 3), (AV.own 10 0 1), (AV.own 11 0 1), (AV.own 12 0 1), (AV.i .i64 (4 : Int)), (AV.own 14 0 4), (AV.sl 3 true []), (AV.sl 3 true []), (AV.i .i64 (2 : Int)), (AV.b true), (AV.own 16 0 3)])]⟩ <| Ad <| Rt ?_
 have hM : m_d = lit3a71b := by simp only [m_d, sbt]
 exact ⟨[1, 2, 3, 4, 5, 6, 7, 8, 9, 10, 11, 12, 13, 14, 16], Or.inr rfl, by decide, rfl, ⟨kr, ⟨kr, ⟨kr, ⟨kr, ⟨kr, ⟨kr, ⟨kr, ⟨kr, ⟨kr, ⟨kr, ⟨kr, ⟨kr, ⟨kr, ⟨kr, ⟨kr, trivial⟩⟩⟩⟩⟩⟩⟩⟩⟩⟩⟩⟩⟩⟩⟩, (AV.st [(AV.own 1 0 3), (AV.own 10 0 1), (AV.own 11 0 1), (AV.own 12 0 1), (AV.i .i64 (4 : Int)), (AV.own 14 0 4), (AV.sl 3 true []), (AV.sl 3 true []), (AV.i .i64 (2 : Int)), (AV.b true), (AV.own 16 0 3)]), kr, kr⟩
theorem w_law21_going (W : World) : PureAt Go.Proofs.Tryz.prog W 41 [] (DState.av m_d) [] :=
  (wd_law21_going W).freeze (Ent.st ⟨(EntD.kk (x' := (AV.own 0 0 3)) kr kr rfl (EntK.own (id := 0) (len := 3) (e := 76) (k := 7) (els := [(AV.st [(AV.own 1 0 1), (AV.own 2 0 2), (AV.sl 1 true []), (AV.sl 1 true []), (AV.s (⟨#[97, 114]⟩ : ByteArray)), (AV.b false), (AV.s (⟨#[]⟩ : ByteArray))]), (AV.st [(AV.own 3 0 2), (AV.own 4 0 1), (AV.own 5 0 1), (AV.sl 1 true []), (AV.s (⟨#[99, 99, 32, 97]⟩ : ByteArray)), (AV.b true), (AV.s (⟨#[116, 119, 111]⟩ : ByteArray))]), (AV.st [(AV.own 6 0 1), (AV.own 7 0 1), (AV.sl 1 true []), (AV.own 8 0 1), (AV.s (⟨#[99, 99, 32, 98]⟩ : ByteArray)), (AV.b false), (AV.s (⟨#[116, 119, 111]⟩ : ByteArray))])]) rfl rfl rfl sd (EntKEs.cons (EntKE.st (EntKs.cons (EntK.row (fun _ => rfl) (A := AV.s) (id := 1) (e := 9) (k := 1) (xs := [(⟨#[108, 105, 98]⟩ : ByteArray)]) rfl rfl sd sd) (EntKs.cons (EntK.row (fun _ => rfl) (A := AV.s) (id := 2) (e := 9) (k := 1) (xs := [(⟨#[97, 46, 111]⟩ : ByteArray), (⟨#[98, 46, 111]⟩ : ByteArray)]) rfl rfl sd sd) (EntKs.cons (EntK.c rfl (WeakC.nil 1)) (EntKs.cons (EntK.c rfl (WeakC.nil 1)) (EntKs.cons (EntK.cr (x := (AV.s (⟨#[97, 114]⟩ : ByteArray))) kr) (EntKs.cons (EntK.cr (x := (AV.b false)) kr) (EntKs.cons (EntK.cr (x := (AV.s (⟨#[]⟩ : ByteArray))) kr) EntKs.nil)))))))) (EntKEs.cons (EntKE.st (EntKs.cons (EntK.row (fun _ => rfl) (A := AV.s) (id := 3) (e := 9) (k := 1) (xs := [(⟨#[97, 46, 111]⟩ : ByteArray), (⟨#[97, 46, 100]⟩ : ByteArray)]) rfl rfl sd sd) (EntKs.cons (EntK.row (fun _ => rfl) (A := AV.s) (id := 4) (e := 9) (k := 1) (xs := [(⟨#[97, 46, 99]⟩ : ByteArray)]) rfl rfl sd sd) (EntKs.cons (EntK.row (fun _ => rfl) (A := AV.s) (id := 5) (e := 9) (k := 1) (xs := [(⟨#[97, 46, 104]⟩ : ByteArray)]) rfl rfl sd sd) (EntKs.cons (EntK.c rfl (WeakC.nil 1)) (EntKs.cons (EntK.cr (x := (AV.s (⟨#[99, 99, 32, 97]⟩ : ByteArray))) kr) (EntKs.cons (EntK.cr (x := (AV.b true)) kr) (EntKs.cons (EntK.cr (x := (AV.s (⟨#[116, 119, 111]⟩ : ByteArray))) kr) EntKs.nil)))))))) (EntKEs.cons (EntKE.st (EntKs.cons (EntK.row (fun _ => rfl) (A := AV.s) (id := 6) (e := 9) (k := 1) (xs := [(⟨#[98, 46, 111]⟩ : ByteArray)]) rfl rfl sd sd) (EntKs.cons (EntK.row (fun _ => rfl) (A := AV.s) (id := 7) (e := 9) (k := 1) (xs := [(⟨#[98, 46, 99]⟩ : ByteArray)]) rfl rfl sd sd) (EntKs.cons (EntK.c rfl (WeakC.nil 1)) (EntKs.cons (EntK.row (fun _ => rfl) (A := AV.s) (id := 8) (e := 9) (k := 1) (xs := [(⟨#[97, 46, 111]⟩ : ByteArray)]) rfl rfl sd sd) (EntKs.cons (EntK.cr (x := (AV.s (⟨#[99, 99, 32, 98]⟩ : ByteArray))) kr) (EntKs.cons (EntK.cr (x := (AV.b false)) kr) (EntKs.cons (EntK.cr (x := (AV.s (⟨#[116, 119, 111]⟩ : ByteArray))) kr) EntKs.nil)))))))) EntKEs.nil))))), ⟨(EntD.kk (x' := (AV.own 9 0 1)) kr kr rfl (EntK.row (fun _ => rfl) (A := DPool.av) (id := 9) (e := 81) (k := 2) (xs := [(⟨(⟨#[116, 119, 111]⟩ : ByteArray), (2 : Int)⟩ : DPool)]) rfl rfl sd sd)), ⟨(EntD.kk (x' := (AV.own 10 0 1)) kr kr rfl (EntK.row (fun _ => rfl) (A := AV.s) (id := 10) (e := 9) (k := 1) (xs := [(⟨#[108, 105, 98]⟩ : ByteArray)]) rfl rfl sd sd)), ⟨(EntD.kk (x' := (AV.own 11 0 1)) kr kr rfl (EntK.own (id := 11) (len := 1) (e := 121) (k := 3) (els := [(AV.st [(AV.s (⟨#[99, 99, 32, 97]⟩ : ByteArray)), (AV.own 12 0 1), (AV.b false)])]) rfl rfl rfl sd (EntKEs.cons (EntKE.st (EntKs.cons (EntK.cr (x := (AV.s (⟨#[99, 99, 32, 97]⟩ : ByteArray))) kr) (EntKs.cons (EntK.row (fun _ => rfl) (A := AV.s) (id := 12) (e := 9) (k := 1) (xs := [(⟨#[122, 46, 104]⟩ : ByteArray)]) rfl rfl sd sd) (EntKs.cons (EntK.cr (x := (AV.b false)) kr) EntKs.nil)))) EntKEs.nil))), ⟨(Ent.c kr kr), ⟨(EntD.kk (x' := (AV.own 13 0 4)) kr kr rfl (EntK.row (fun _ => rfl) (A := DFile.av) (id := 13) (e := 119) (k := 3) (xs := [lit35ef0, litb1de5, litf2893, lit881d0]) rfl rfl sd sd)), ⟨(Ent.w rfl (WeakC.nil 3)), ⟨(Ent.w rfl (WeakC.nil 3)), ⟨(Ent.c kr kr), ⟨(Ent.c kr kr), ⟨(EntD.kk (x' := (AV.own 14 0 3)) kr kr rfl (EntK.row (fun _ => rfl) (A := (AV.i .i64)) (id := 14) (e := 3) (k := 1) (xs := [(1 : Int), (1 : Int), (1 : Int)]) rfl rfl sd sd)), trivial⟩⟩⟩⟩⟩⟩⟩⟩⟩⟩⟩ kr)
theorem w_law21_awake (W : World) {m0 : Int} (hW : W.cell? ⟨0, 0, none⟩ = some (.int .i64 m0)) : PureAt Go.Proofs.Tryz.prog W 40 [] (AV.b m_0) [] := by
 refine pure_of_bodyC (fn := Go.Proofs.Tryz.f40) Go.Proofs.Tryz.func40 rfl (en40 W) (ts := [0]) rfl le <| Sq <| Rg <| Aq (AV.b false) <| Ad <| Sq <| Rg <| AOps.sc0 (vs := []) (r0 := (DState.av m_d)) kr kr (w_law21_going W ) kr le <| AOps.sc0 (vs := [(DState.av m_d), (AV.i .i64 (1 : Int))]) (r0 := (AV.tup [(AV.b ((m_b m_d (1 : Int)).1)), (AV.i .i64 ((m_b m_d (1 : Int)).2))])) kr kr (w_ready_Is W hW m_d (1 : Int) sd) kr le <| Aq (AV.tup [(AV.b ((m_b m_d (1 : Int)).1)), (AV.i .i64 ((m_b m_d (1 : Int)).2))]) <| Aq (AV.b ((m_b m_d (1 : Int)).1)) <| Aq (AV.i .i64 ((m_b m_d (1 : Int)).2)) <| Aq (AV.b ((m_b m_d (1 : Int)).1)) <| Aq (AV.i .i64 ((m_b m_d (1 : Int)).2)) <| Ad <| Sq <| Rg <| AOps.sc0 (vs := []) (r0 := (DState.av m_d)) kr kr (w_law21_going W ) kr le <| AOps.sc0 (vs := [(DState.av m_d), (AV.i .i64 (2 : Int))]) (r0 := (AV.tup [(AV.b ((m_b m_d (2 : Int)).1)), (AV.i .i64 ((m_b m_d (2 : Int)).2))])) kr kr (w_ready_Is W hW m_d (2 : Int) sd) kr le <| Aq (AV.tup [(AV.b ((m_b m_d (2 : Int)).1)), (AV.i .i64 ((m_b m_d (2 : Int)).2))]) <| Aq (AV.b ((m_b m_d (2 : Int)).1)) <| Aq (AV.i .i64 ((m_b m_d (2 : Int)).2)) <| Aq (AV.b ((m_b m_d (2 : Int)).1)) <| Aq (AV.i .i64 ((m_b m_d (2 : Int)).2)) ?_
 refine Ad <| Sq <| Rg <| AOps.sc0 (vs := []) (r0 := (DState.av m_r)) kr kr (w_law21_start W ) kr le <| AOps.sc0 (vs := [(DState.av m_r), (AV.i .i64 (1 : Int))]) (r0 := (AV.tup [(AV.b ((m_b m_r (1 : Int)).1)), (AV.i .i64 ((m_b m_r (1 : Int)).2))])) kr kr (w_ready_Is W hW m_r (1 : Int) sd) kr le <| Aq (AV.tup [(AV.b ((m_b m_r (1 : Int)).1)), (AV.i .i64 ((m_b m_r (1 : Int)).2))]) <| Aq (AV.b ((m_b m_r (1 : Int)).1)) <| Aq (AV.i .i64 ((m_b m_r (1 : Int)).2)) <| Aq (AV.b ((m_b m_r (1 : Int)).1)) <| Aq (AV.i .i64 ((m_b m_r (1 : Int)).2)) <| Ad <| Sq <| Rg <| AOps.sc0 (vs := []) (r0 := (DState.av m_d)) kr kr (w_law21_going W ) kr le <| AOps.sc0 (vs := [(DState.av m_d), (AV.i .i64 (3 : Int))]) (r0 := (AV.tup [(AV.b ((m_b m_d (3 : Int)).1)), (AV.i .i64 ((m_b m_d (3 : Int)).2))])) kr kr (w_ready_Is W hW m_d (3 : Int) sd) kr le <| Aq (AV.tup [(AV.b ((m_b m_d (3 : Int)).1)), (AV.i .i64 ((m_b m_d (3 : Int)).2))]) <| Aq (AV.b ((m_b m_d (3 : Int)).1)) <| Aq (AV.i .i64 ((m_b m_d (3 : Int)).2)) <| Aq (AV.b ((m_b m_d (3 : Int)).1)) <| Aq (AV.i .i64 ((m_b m_d (3 : Int)).2)) <| Ad <| Sq <| Rg <| Sc (AV.st [(AV.own 0 0 3), (AV.own 9 0 1), (AV.own 10 0 1), (AV.own 11 0 1), (AV.i .i64 (4 : Int)), (AV.own 13 0 4), (AV.sl 3 true []), (AV.sl 3 true []), (AV.i .i64 (2 : Int)), (AV.b true), (AV.own 14 0 3)]) (wd_law21_going W) ?_
 refine Nn (AV.loc 15 0 0) ⟨64, 11, [(AV.st [(AV.sl 7 true []), (AV.sl 2 true []), (AV.sl 1 true []), (AV.sl 3 true []), (AV.i .i64 (0 : Int)), (AV.sl 3 true []), (AV.sl 3 true []), (AV.sl 3 true []), (AV.i .i64 (0 : Int)), (AV.b false), (AV.sl 1 true [])])]⟩ <| Sp 15 ⟨64, 11, [(AV.st [(AV.own 0 0 3), (AV.own 9 0 1), (AV.own 10 0 1), (AV.own 11 0 1), (AV.i .i64 (4 : Int)), (AV.own 13 0 4), (AV.sl 3 true []), (AV.sl 3 true []), (AV.i .i64 (2 : Int)), (AV.b true), (AV.own 14 0 3)])]⟩ <| Ad <| Sq <| Awp.regionR <| ROps.run tabS_ok 2 le <| Aq (AV.loc 15 0 10) <| Aq (AV.own 14 0 3) <| Ad <| ROps.over (Over.fits [0, 1, 2, 3, 4, 5, 6, 7, 8, 9, 10, 11, 12, 13, 15] (env1 := [(1, (AV.b ((m_b m_d (1 : Int)).1))), (2, (AV.i .i64 ((m_b m_d (1 : Int)).2))), (3, (AV.b ((m_b m_d (2 : Int)).1))), (4, (AV.i .i64 ((m_b m_d (2 : Int)).2))), (5, (AV.b ((m_b m_r (1 : Int)).1))), (6, (AV.i .i64 ((m_b m_r (1 : Int)).2))), (8, (AV.i .i64 ((m_b m_d (3 : Int)).2))), (9, (AV.loc 14 0 0)), (34, ((slA 1 (AV.i .i64)) [(1 : Int), (1 : Int), (1 : Int)]))]) (h1 := ⟨15, [(14, some ⟨64, 11, [(AV.st [(AV.own 0 0 3), (AV.own 9 0 1), (AV.own 10 0 1), (AV.own 11 0 1), (AV.i .i64 (4 : Int)), (AV.own 13 0 4), (AV.sl 3 true []), (AV.sl 3 true []), (AV.i .i64 (2 : Int)), (AV.b true), ((slA 1 (AV.i .i64)) [(1 : Int), (1 : Int), (1 : Int)])])]⟩), (13, some ⟨119, 3, [lit35ef0, litb1de5, litf2893, lit881d0].map DFile.av⟩), (12, some ⟨9, 1, [(⟨#[122, 46, 104]⟩ : ByteArray)].map AV.s⟩), (11, some ⟨121, 3, [(AV.st [(AV.s (⟨#[99, 99, 32, 97]⟩ : ByteArray)), (AV.own 12 0 1), (AV.b false)])]⟩), (10, some ⟨9, 1, [(⟨#[108, 105, 98]⟩ : ByteArray)].map AV.s⟩), (9, some ⟨81, 2, [(⟨(⟨#[116, 119, 111]⟩ : ByteArray), (2 : Int)⟩ : DPool)].map DPool.av⟩), (8, some ⟨9, 1, [(⟨#[97, 46, 111]⟩ : ByteArray)].map AV.s⟩), (7, some ⟨9, 1, [(⟨#[98, 46, 99]⟩ : ByteArray)].map AV.s⟩), (6, some ⟨9, 1, [(⟨#[98, 46, 111]⟩ : ByteArray)].map AV.s⟩), (5, some ⟨9, 1, [(⟨#[97, 46, 104]⟩ : ByteArray)].map AV.s⟩), (4, some ⟨9, 1, [(⟨#[97, 46, 99]⟩ : ByteArray)].map AV.s⟩), (3, some ⟨9, 1, [(⟨#[97, 46, 111]⟩ : ByteArray), (⟨#[97, 46, 100]⟩ : ByteArray)].map AV.s⟩), (2, some ⟨9, 1, [(⟨#[97, 46, 111]⟩ : ByteArray), (⟨#[98, 46, 111]⟩ : ByteArray)].map AV.s⟩), (1, some ⟨9, 1, [(⟨#[108, 105, 98]⟩ : ByteArray)].map AV.s⟩), (0, some ⟨76, 7, [(AV.st [(AV.own 1 0 1), (AV.own 2 0 2), (AV.sl 1 true []), (AV.sl 1 true []), (AV.s (⟨#[97, 114]⟩ : ByteArray)), (AV.b false), (AV.s (⟨#[]⟩ : ByteArray))]), (AV.st [(AV.own 3 0 2), (AV.own 4 0 1), (AV.own 5 0 1), (AV.sl 1 true []), (AV.s (⟨#[99, 99, 32, 97]⟩ : ByteArray)), (AV.b true), (AV.s (⟨#[116, 119, 111]⟩ : ByteArray))]), (AV.st [(AV.own 6 0 1), (AV.own 7 0 1), (AV.sl 1 true []), (AV.own 8 0 1), (AV.s (⟨#[99, 99, 32, 98]⟩ : ByteArray)), (AV.b false), (AV.s (⟨#[116, 119, 111]⟩ : ByteArray))])]⟩)]⟩) ⟨by decide, rfl, (FitsObjs.cons kr (FitsObjs.cons (obj_row (fun _ => rfl) (e := 9) (k := 1) (A := AV.s) (xs := [(⟨#[108, 105, 98]⟩ : ByteArray)]) rfl rfl) (FitsObjs.cons (obj_row (fun _ => rfl) (e := 9) (k := 1) (A := AV.s) (xs := [(⟨#[97, 46, 111]⟩ : ByteArray), (⟨#[98, 46, 111]⟩ : ByteArray)]) rfl rfl) (FitsObjs.cons (obj_row (fun _ => rfl) (e := 9) (k := 1) (A := AV.s) (xs := [(⟨#[97, 46, 111]⟩ : ByteArray), (⟨#[97, 46, 100]⟩ : ByteArray)]) rfl rfl) (FitsObjs.cons (obj_row (fun _ => rfl) (e := 9) (k := 1) (A := AV.s) (xs := [(⟨#[97, 46, 99]⟩ : ByteArray)]) rfl rfl) (FitsObjs.cons (obj_row (fun _ => rfl) (e := 9) (k := 1) (A := AV.s) (xs := [(⟨#[97, 46, 104]⟩ : ByteArray)]) rfl rfl) (FitsObjs.cons (obj_row (fun _ => rfl) (e := 9) (k := 1) (A := AV.s) (xs := [(⟨#[98, 46, 111]⟩ : ByteArray)]) rfl rfl) (FitsObjs.cons (obj_row (fun _ => rfl) (e := 9) (k := 1) (A := AV.s) (xs := [(⟨#[98, 46, 99]⟩ : ByteArray)]) rfl rfl) (FitsObjs.cons (obj_row (fun _ => rfl) (e := 9) (k := 1) (A := AV.s) (xs := [(⟨#[97, 46, 111]⟩ : ByteArray)]) rfl rfl) (FitsObjs.cons (obj_row (fun _ => rfl) (e := 81) (k := 2) (A := DPool.av) (xs := [(⟨(⟨#[116, 119, 111]⟩ : ByteArray), (2 : Int)⟩ : DPool)]) rfl rfl) (FitsObjs.cons (obj_row (fun _ => rfl) (e := 9) (k := 1) (A := AV.s) (xs := [(⟨#[108, 105, 98]⟩ : ByteArray)]) rfl rfl) (FitsObjs.cons kr (FitsObjs.cons (obj_row (fun _ => rfl) (e := 9) (k := 1) (A := AV.s) (xs := [(⟨#[122, 46, 104]⟩ : ByteArray)]) rfl rfl) (FitsObjs.cons (obj_row (fun _ => rfl) (e := 119) (k := 3) (A := DFile.av) (xs := [lit35ef0, litb1de5, litf2893, lit881d0]) rfl rfl) (FitsObjs.cons kr FitsObjs.nil))))))))))))))), (Ee (Ee (Ee (Ee (Ee (Ee (Ee (EntE.cons (Ent.f kr) (EntE.cons (EntD.kk (x' := (AV.own 14 0 3)) kr kr rfl (EntK.row (fun _ => rfl) (A := (AV.i .i64)) (id := 14) (e := 3) (k := 1) (xs := [(1 : Int), (1 : Int), (1 : Int)]) rfl rfl sd sd)) EntE.nil)))))))))⟩ keep0) ?_
 refine ROps.run tabS_ok 3 le <| Ap ((slA 1 (AV.i .i64)) (([(1 : Int), (1 : Int), (1 : Int)].take [(1 : Int), (1 : Int), (1 : Int)].length).drop 1)) (g_cutL (k := 1) (nl := false) (e := 3) (l := (some (1 : Int))) (g := none) (A := (AV.i .i64)) (xs := [(1 : Int), (1 : Int), (1 : Int)]) (a := 1) (b := [(1 : Int), (1 : Int), (1 : Int)].length) kr kr ⟨by kernel_rfl, by decide⟩ kr kr rfl rfl sd sd) <| Aq (AV.loc 14 0 10) <| Sp 14 ⟨64, 11, [(AV.st [(AV.own 0 0 3), (AV.own 9 0 1), (AV.own 10 0 1), (AV.own 11 0 1), (AV.i .i64 (4 : Int)), (AV.own 13 0 4), (AV.sl 3 true []), (AV.sl 3 true []), (AV.i .i64 (2 : Int)), (AV.b true), ((slA 1 (AV.i .i64)) (([(1 : Int), (1 : Int), (1 : Int)].take [(1 : Int), (1 : Int), (1 : Int)].length).drop 1))])]⟩ <| Ad <| ROps.fin rfl <| Sq <| Rg <| Aq (AV.st [(AV.own 0 0 3), (AV.own 9 0 1), (AV.own 10 0 1), (AV.own 11 0 1), (AV.i .i64 (4 : Int)), (AV.own 13 0 4), (AV.sl 3 true []), (AV.sl 3 true []), (AV.i .i64 (2 : Int)), (AV.b true), ((slA 1 (AV.i .i64)) (([(1 : Int), (1 : Int), (1 : Int)].take [(1 : Int), (1 : Int), (1 : Int)].length).drop 1))]) <| AOps.sfw (vs := [(AV.st [(AV.own 0 0 3), (AV.own 9 0 1), (AV.own 10 0 1), (AV.own 11 0 1), (AV.i .i64 (4 : Int)), (AV.own 13 0 4), (AV.sl 3 true []), (AV.sl 3 true []), (AV.i .i64 (2 : Int)), (AV.b true), ((slA 1 (AV.i .i64)) (([(1 : Int), (1 : Int), (1 : Int)].take [(1 : Int), (1 : Int), (1 : Int)].length).drop 1))]), (AV.i .i64 (1 : Int))]) (ss := [(DState.av (⟨lit7e8b3, [lit2ad7b], lit8f7a1, [], [], (2 : Int), true, (([(1 : Int), (1 : Int), (1 : Int)].take [(1 : Int), (1 : Int), (1 : Int)].length).drop 1)⟩ : DState)), (AV.i .i64 (1 : Int))]) (r0 := (AV.tup [(AV.b ((m_b (⟨lit7e8b3, [lit2ad7b], lit8f7a1, [], [], (2 : Int), true, (([(1 : Int), (1 : Int), (1 : Int)].take [(1 : Int), (1 : Int), (1 : Int)].length).drop 1)⟩ : DState) (1 : Int)).1)), (AV.i .i64 ((m_b (⟨lit7e8b3, [lit2ad7b], lit8f7a1, [], [], (2 : Int), true, (([(1 : Int), (1 : Int), (1 : Int)].take [(1 : Int), (1 : Int), (1 : Int)].length).drop 1)⟩ : DState) (1 : Int)).2))])) kr (show SnapW _ _ _ from ⟨(EntK.w (EntK.cast (x' := (AV.st [(AV.own 0 0 3), (AV.own 9 0 1), (AV.own 10 0 1), (AV.own 11 0 1), (AV.i .i64 (4 : Int)), (AV.own 13 0 4), (AV.sl 3 true []), (AV.sl 3 true []), (AV.i .i64 (2 : Int)), (AV.b true), ((slA 1 (AV.i .i64)) (([(1 : Int), (1 : Int), (1 : Int)].take [(1 : Int), (1 : Int), (1 : Int)].length).drop 1))])) kr kr (EntK.st (EntKs.cons (EntK.own (id := 0) (len := 3) (e := 76) (k := 7) (els := [(AV.st [(AV.own 1 0 1), (AV.own 2 0 2), (AV.sl 1 true []), (AV.sl 1 true []), (AV.s (⟨#[97, 114]⟩ : ByteArray)), (AV.b false), (AV.s (⟨#[]⟩ : ByteArray))]), (AV.st [(AV.own 3 0 2), (AV.own 4 0 1), (AV.own 5 0 1), (AV.sl 1 true []), (AV.s (⟨#[99, 99, 32, 97]⟩ : ByteArray)), (AV.b true), (AV.s (⟨#[116, 119, 111]⟩ : ByteArray))]), (AV.st [(AV.own 6 0 1), (AV.own 7 0 1), (AV.sl 1 true []), (AV.own 8 0 1), (AV.s (⟨#[99, 99, 32, 98]⟩ : ByteArray)), (AV.b false), (AV.s (⟨#[116, 119, 111]⟩ : ByteArray))])]) rfl rfl rfl sd (EntKEs.cons (EntKE.st (EntKs.cons (EntK.row (fun _ => rfl) (A := AV.s) (id := 1) (e := 9) (k := 1) (xs := [(⟨#[108, 105, 98]⟩ : ByteArray)]) rfl rfl sd sd) (EntKs.cons (EntK.row (fun _ => rfl) (A := AV.s) (id := 2) (e := 9) (k := 1) (xs := [(⟨#[97, 46, 111]⟩ : ByteArray), (⟨#[98, 46, 111]⟩ : ByteArray)]) rfl rfl sd sd) (EntKs.cons (EntK.c rfl (WeakC.nil 1)) (EntKs.cons (EntK.c rfl (WeakC.nil 1)) (EntKs.cons (EntK.cr (x := (AV.s (⟨#[97, 114]⟩ : ByteArray))) kr) (EntKs.cons (EntK.cr (x := (AV.b false)) kr) (EntKs.cons (EntK.cr (x := (AV.s (⟨#[]⟩ : ByteArray))) kr) EntKs.nil)))))))) (EntKEs.cons (EntKE.st (EntKs.cons (EntK.row (fun _ => rfl) (A := AV.s) (id := 3) (e := 9) (k := 1) (xs := [(⟨#[97, 46, 111]⟩ : ByteArray), (⟨#[97, 46, 100]⟩ : ByteArray)]) rfl rfl sd sd) (EntKs.cons (EntK.row (fun _ => rfl) (A := AV.s) (id := 4) (e := 9) (k := 1) (xs := [(⟨#[97, 46, 99]⟩ : ByteArray)]) rfl rfl sd sd) (EntKs.cons (EntK.row (fun _ => rfl) (A := AV.s) (id := 5) (e := 9) (k := 1) (xs := [(⟨#[97, 46, 104]⟩ : ByteArray)]) rfl rfl sd sd) (EntKs.cons (EntK.c rfl (WeakC.nil 1)) (EntKs.cons (EntK.cr (x := (AV.s (⟨#[99, 99, 32, 97]⟩ : ByteArray))) kr) (EntKs.cons (EntK.cr (x := (AV.b true)) kr) (EntKs.cons (EntK.cr (x := (AV.s (⟨#[116, 119, 111]⟩ : ByteArray))) kr) EntKs.nil)))))))) (EntKEs.cons (EntKE.st (EntKs.cons (EntK.row (fun _ => rfl) (A := AV.s) (id := 6) (e := 9) (k := 1) (xs := [(⟨#[98, 46, 111]⟩ : ByteArray)]) rfl rfl sd sd) (EntKs.cons (EntK.row (fun _ => rfl) (A := AV.s) (id := 7) (e := 9) (k := 1) (xs := [(⟨#[98, 46, 99]⟩ : ByteArray)]) rfl rfl sd sd) (EntKs.cons (EntK.c rfl (WeakC.nil 1)) (EntKs.cons (EntK.row (fun _ => rfl) (A := AV.s) (id := 8) (e := 9) (k := 1) (xs := [(⟨#[97, 46, 111]⟩ : ByteArray)]) rfl rfl sd sd) (EntKs.cons (EntK.cr (x := (AV.s (⟨#[99, 99, 32, 98]⟩ : ByteArray))) kr) (EntKs.cons (EntK.cr (x := (AV.b false)) kr) (EntKs.cons (EntK.cr (x := (AV.s (⟨#[116, 119, 111]⟩ : ByteArray))) kr) EntKs.nil)))))))) EntKEs.nil)))) (EntKs.cons (EntK.row (fun _ => rfl) (A := DPool.av) (id := 9) (e := 81) (k := 2) (xs := [(⟨(⟨#[116, 119, 111]⟩ : ByteArray), (2 : Int)⟩ : DPool)]) rfl rfl sd sd) (EntKs.cons (EntK.row (fun _ => rfl) (A := AV.s) (id := 10) (e := 9) (k := 1) (xs := [(⟨#[108, 105, 98]⟩ : ByteArray)]) rfl rfl sd sd) (EntKs.cons (EntK.own (id := 11) (len := 1) (e := 121) (k := 3) (els := [(AV.st [(AV.s (⟨#[99, 99, 32, 97]⟩ : ByteArray)), (AV.own 12 0 1), (AV.b false)])]) rfl rfl rfl sd (EntKEs.cons (EntKE.st (EntKs.cons (EntK.cr (x := (AV.s (⟨#[99, 99, 32, 97]⟩ : ByteArray))) kr) (EntKs.cons (EntK.row (fun _ => rfl) (A := AV.s) (id := 12) (e := 9) (k := 1) (xs := [(⟨#[122, 46, 104]⟩ : ByteArray)]) rfl rfl sd sd) (EntKs.cons (EntK.cr (x := (AV.b false)) kr) EntKs.nil)))) EntKEs.nil)) (EntKs.cons (EntK.cr (x := (AV.i .i64 (4 : Int))) kr) (EntKs.cons (EntK.row (fun _ => rfl) (A := DFile.av) (id := 13) (e := 119) (k := 3) (xs := [lit35ef0, litb1de5, litf2893, lit881d0]) rfl rfl sd sd) (EntKs.cons (EntK.c rfl (WeakC.nil 3)) (EntKs.cons (EntK.c rfl (WeakC.nil 3)) (EntKs.cons (EntK.cr (x := (AV.i .i64 (2 : Int))) kr) (EntKs.cons (EntK.cr (x := (AV.b true)) kr) (EntKs.cons (EntK.cr (x := ((slA 1 (AV.i .i64)) (([(1 : Int), (1 : Int), (1 : Int)].take [(1 : Int), (1 : Int), (1 : Int)].length).drop 1))) kr) EntKs.nil)))))))))))))), ⟨(SnapW.e kr), trivial⟩⟩) (w_ready_Is W hW (⟨lit7e8b3, [lit2ad7b], lit8f7a1, [], [], (2 : Int), true, (([(1 : Int), (1 : Int), (1 : Int)].take [(1 : Int), (1 : Int), (1 : Int)].length).drop 1)⟩ : DState) (1 : Int) sd) rfl kr le ?_
 refine Aq (AV.tup [(AV.b ((m_b (⟨lit7e8b3, [lit2ad7b], lit8f7a1, [], [], (2 : Int), true, (([(1 : Int), (1 : Int), (1 : Int)].take [(1 : Int), (1 : Int), (1 : Int)].length).drop 1)⟩ : DState) (1 : Int)).1)), (AV.i .i64 ((m_b (⟨lit7e8b3, [lit2ad7b], lit8f7a1, [], [], (2 : Int), true, (([(1 : Int), (1 : Int), (1 : Int)].take [(1 : Int), (1 : Int), (1 : Int)].length).drop 1)⟩ : DState) (1 : Int)).2))]) ?_
 refine Aq (AV.b ((m_b (⟨lit7e8b3, [lit2ad7b], lit8f7a1, [], [], (2 : Int), true, (([(1 : Int), (1 : Int), (1 : Int)].take [(1 : Int), (1 : Int), (1 : Int)].length).drop 1)⟩ : DState) (1 : Int)).1)) <| Aq (AV.i .i64 ((m_b (⟨lit7e8b3, [lit2ad7b], lit8f7a1, [], [], (2 : Int), true, (([(1 : Int), (1 : Int), (1 : Int)].take [(1 : Int), (1 : Int), (1 : Int)].length).drop 1)⟩ : DState) (1 : Int)).2)) ?_
 refine Aq (AV.b ((m_b (⟨lit7e8b3, [lit2ad7b], lit8f7a1, [], [], (2 : Int), true, (([(1 : Int), (1 : Int), (1 : Int)].take [(1 : Int), (1 : Int), (1 : Int)].length).drop 1)⟩ : DState) (1 : Int)).1)) <| Aq (AV.i .i64 ((m_b (⟨lit7e8b3, [lit2ad7b], lit8f7a1, [], [], (2 : Int), true, (([(1 : Int), (1 : Int), (1 : Int)].take [(1 : Int), (1 : Int), (1 : Int)].length).drop 1)⟩ : DState) (1 : Int)).2)) ?_
 refine Ad <| Sq <| Rg <| Aq (AV.b ((m_b m_d (1 : Int)).1)) <| Aq (AV.b ((m_b m_d (1 : Int)).1)) ?_
 cases c_1 : (m_b m_d (1 : Int)).1
 refine An <| An <| An <| Aq (AV.b false) <| Aq (AV.b false) <| An <| An <| Aq (AV.b false) <| Aq (AV.b false) <| An <| An <| An <| Aq (AV.b false) <| Aq (AV.b false) <| An <| An <| Aq (AV.b false) <| Aq (AV.b false) <| An <| An <| An <| Aq (AV.b false) <| Aq (AV.b false) <| An <| An <| An <| Aq (AV.b false) <| Aq (AV.b false) <| An <| An <| An <| Aq (AV.b false) <| Aq (AV.b false) <| Ad <| Rt ?_
 have hM : m_0 = false := by simp only [m_0, c_1, sbt]
 refine ⟨Or.inr rfl, ?_⟩
 rw [hM]
 exact Ec
 refine Ay <| Aq (AV.i .i64 ((m_b m_d (1 : Int)).2)) <| Ay <| AOps.sc0 (vs := [(AV.i .i64 ((m_b m_d (1 : Int)).2))]) (r0 := (AV.i .i64 (m_z ((m_b m_d (1 : Int)).2)))) kr kr (w_law0_Num W ((m_b m_d (1 : Int)).2)) kr le <| Ay <| Aq (AV.b (decide ((m_z ((m_b m_d (1 : Int)).2)) = (0 : Int)))) <| Aq (AV.b (decide ((m_z ((m_b m_d (1 : Int)).2)) = (0 : Int)))) <| Aq (AV.b (decide ((m_z ((m_b m_d (1 : Int)).2)) = (0 : Int)))) ?_
 cases c_2 : decide ((m_z ((m_b m_d (1 : Int)).2)) = (0 : Int))
 have k_2 := of_decide_eq_false c_2
 refine An <| An <| Aq (AV.b false) <| Aq (AV.b false) <| An <| An <| An <| Aq (AV.b false) <| Aq (AV.b false) <| An <| An <| Aq (AV.b false) <| Aq (AV.b false) <| An <| An <| An <| Aq (AV.b false) <| Aq (AV.b false) <| An <| An <| An <| Aq (AV.b false) <| Aq (AV.b false) <| An <| An <| An <| Aq (AV.b false) <| Aq (AV.b false) <| Ad <| Rt ?_
 have hM : m_0 = false := by simp only [m_0, c_1, c_2, sbt]
 refine ⟨Or.inr rfl, ?_⟩
 rw [hM]
 exact Ec
 have k_2 := of_decide_eq_true c_2
 refine Ay <| Aq (AV.b ((m_b m_d (2 : Int)).1)) <| Ay <| Aq (AV.b (!(m_b m_d (2 : Int)).1)) <| Aq (AV.b (!(m_b m_d (2 : Int)).1)) <| Aq (AV.b (!(m_b m_d (2 : Int)).1)) ?_
 cases c_3 : (!(m_b m_d (2 : Int)).1)
 refine An <| An <| An <| Aq (AV.b false) <| Aq (AV.b false) <| An <| An <| Aq (AV.b false) <| Aq (AV.b false) <| An <| An <| An <| Aq (AV.b false) <| Aq (AV.b false) <| An <| An <| An <| Aq (AV.b false) <| Aq (AV.b false) <| An <| An <| An <| Aq (AV.b false) <| Aq (AV.b false) <| Ad <| Rt ?_
 have hM : m_0 = false := by simp only [m_0, c_1, c_2, c_3, sbt]
 refine ⟨Or.inr rfl, ?_⟩
 rw [hM]
 exact Ec
 refine Ay <| Aq (AV.i .i64 ((m_b m_d (2 : Int)).2)) <| Ay <| AOps.sc0 (vs := [(AV.i .i64 ((m_b m_d (2 : Int)).2))]) (r0 := (AV.i .i64 (m_z ((m_b m_d (2 : Int)).2)))) kr kr (w_law0_Num W ((m_b m_d (2 : Int)).2)) kr le <| Ay <| Aq (AV.b (decide ((m_z ((m_b m_d (2 : Int)).2)) = (0 : Int)))) <| Aq (AV.b (decide ((m_z ((m_b m_d (2 : Int)).2)) = (0 : Int)))) <| Aq (AV.b (decide ((m_z ((m_b m_d (2 : Int)).2)) = (0 : Int)))) ?_
 cases c_4 : decide ((m_z ((m_b m_d (2 : Int)).2)) = (0 : Int))
 have k_4 := of_decide_eq_false c_4
 refine An <| An <| Aq (AV.b false) <| Aq (AV.b false) <| An <| An <| An <| Aq (AV.b false) <| Aq (AV.b false) <| An <| An <| An <| Aq (AV.b false) <| Aq (AV.b false) <| An <| An <| An <| Aq (AV.b false) <| Aq (AV.b false) <| Ad <| Rt ?_
 have hM : m_0 = false := by simp only [m_0, c_1, c_2, c_3, c_4, sbt]
 refine ⟨Or.inr rfl, ?_⟩
 rw [hM]
 exact Ec
 have k_4 := of_decide_eq_true c_4
 refine Ay <| Aq (AV.b ((m_b m_r (1 : Int)).1)) <| Ay <| Aq (AV.b (!(m_b m_r (1 : Int)).1)) <| Aq (AV.b (!(m_b m_r (1 : Int)).1)) <| Aq (AV.b (!(m_b m_r (1 : Int)).1)) ?_
 cases c_5 : (!(m_b m_r (1 : Int)).1)
 refine An <| An <| An <| Aq (AV.b false) <| Aq (AV.b false) <| An <| An <| An <| Aq (AV.b false) <| Aq (AV.b false) <| An <| An <| An <| Aq (AV.b false) <| Aq (AV.b false) <| Ad <| Rt ?_
 have hM : m_0 = false := by simp only [m_0, c_1, c_2, c_3, c_4, c_5, sbt]
 refine ⟨Or.inr rfl, ?_⟩
 rw [hM]
 exact Ec
 refine Ay <| Aq (AV.i .i64 ((m_b m_r (1 : Int)).2)) <| Ay <| AOps.sc0 (vs := [(AV.i .i64 ((m_b m_r (1 : Int)).2))]) (r0 := (AV.i .i64 (m_z ((m_b m_r (1 : Int)).2)))) kr kr (w_law0_Num W ((m_b m_r (1 : Int)).2)) kr le <| Ay <| Aq (AV.b (decide ((m_z ((m_b m_r (1 : Int)).2)) = (0 : Int)))) <| Aq (AV.b (decide ((m_z ((m_b m_r (1 : Int)).2)) = (0 : Int)))) <| Aq (AV.b (decide ((m_z ((m_b m_r (1 : Int)).2)) = (0 : Int)))) ?_
 cases c_6 : decide ((m_z ((m_b m_r (1 : Int)).2)) = (0 : Int))
 have k_6 := of_decide_eq_false c_6
 refine An <| An <| An <| Aq (AV.b false) <| Aq (AV.b false) <| An <| An <| An <| Aq (AV.b false) <| Aq (AV.b false) <| Ad <| Rt ?_
 have hM : m_0 = false := by simp only [m_0, c_1, c_2, c_3, c_4, c_5, c_6, sbt]
 refine ⟨Or.inr rfl, ?_⟩
 rw [hM]
 exact Ec
 have k_6 := of_decide_eq_true c_6
 refine Ay <| Aq (AV.i .i64 ((m_b m_d (3 : Int)).2)) <| Ay <| AOps.sc0 (vs := [(AV.i .i64 ((m_b m_d (3 : Int)).2))]) (r0 := (AV.i .i64 (m_z ((m_b m_d (3 : Int)).2)))) kr kr (w_law0_Num W ((m_b m_d (3 : Int)).2)) kr le <| Ay <| Aq (AV.b (decide ((m_z ((m_b m_d (3 : Int)).2)) = (2100 : Int)))) <| Aq (AV.b (decide ((m_z ((m_b m_d (3 : Int)).2)) = (2100 : Int)))) <| Aq (AV.b (decide ((m_z ((m_b m_d (3 : Int)).2)) = (2100 : Int)))) ?_
 cases c_7 : decide ((m_z ((m_b m_d (3 : Int)).2)) = (2100 : Int))
 have k_7 := of_decide_eq_false c_7
 refine An <| An <| An <| Aq (AV.b false) <| Aq (AV.b false) <| Ad <| Rt ?_
 have hM : m_0 = false := by simp only [m_0, c_1, c_2, c_3, c_4, c_5, c_6, c_7, sbt]
 refine ⟨Or.inr rfl, ?_⟩
 rw [hM]
 exact Ec
 have k_7 := of_decide_eq_true c_7
 refine Ay <| Aq (AV.i .i64 ((m_b (⟨lit7e8b3, [lit2ad7b], lit8f7a1, [], [], (2 : Int), true, (([(1 : Int), (1 : Int), (1 : Int)].take [(1 : Int), (1 : Int), (1 : Int)].length).drop 1)⟩ : DState) (1 : Int)).2)) <| Ay <| AOps.sc0 (vs := [(AV.i .i64 ((m_b (⟨lit7e8b3, [lit2ad7b], lit8f7a1, [], [], (2 : Int), true, (([(1 : Int), (1 : Int), (1 : Int)].take [(1 : Int), (1 : Int), (1 : Int)].length).drop 1)⟩ : DState) (1 : Int)).2))]) (r0 := (AV.i .i64 (m_z ((m_b (⟨lit7e8b3, [lit2ad7b], lit8f7a1, [], [], (2 : Int), true, (([(1 : Int), (1 : Int), (1 : Int)].take [(1 : Int), (1 : Int), (1 : Int)].length).drop 1)⟩ : DState) (1 : Int)).2)))) kr kr (w_law0_Num W ((m_b (⟨lit7e8b3, [lit2ad7b], lit8f7a1, [], [], (2 : Int), true, (([(1 : Int), (1 : Int), (1 : Int)].take [(1 : Int), (1 : Int), (1 : Int)].length).drop 1)⟩ : DState) (1 : Int)).2)) kr le ?_
 refine Ay <| Aq (AV.b (decide ((m_z ((m_b (⟨lit7e8b3, [lit2ad7b], lit8f7a1, [], [], (2 : Int), true, (([(1 : Int), (1 : Int), (1 : Int)].take [(1 : Int), (1 : Int), (1 : Int)].length).drop 1)⟩ : DState) (1 : Int)).2)) = (2100 : Int)))) <| Aq (AV.b (decide ((m_z ((m_b (⟨lit7e8b3, [lit2ad7b], lit8f7a1, [], [], (2 : Int), true, (([(1 : Int), (1 : Int), (1 : Int)].take [(1 : Int), (1 : Int), (1 : Int)].length).drop 1)⟩ : DState) (1 : Int)).2)) = (2100 : Int)))) ?_
 refine Aq (AV.b (decide ((m_z ((m_b (⟨lit7e8b3, [lit2ad7b], lit8f7a1, [], [], (2 : Int), true, (([(1 : Int), (1 : Int), (1 : Int)].take [(1 : Int), (1 : Int), (1 : Int)].length).drop 1)⟩ : DState) (1 : Int)).2)) = (2100 : Int)))) <| Ad <| Rt ?_
 have hM : m_0 = decide ((m_z ((m_b (⟨lit7e8b3, [lit2ad7b], lit8f7a1, [], [], (2 : Int), true, (([(1 : Int), (1 : Int), (1 : Int)].take [(1 : Int), (1 : Int), (1 : Int)].length).drop 1)⟩ : DState) (1 : Int)).2)) = (2100 : Int)) := by simp only [m_0, c_1, c_2, c_3, c_4, c_5, c_6, c_7, sbt]
 refine ⟨Or.inr rfl, ?_⟩
 rw [hM]
 exact Ec
theorem w_law21_ReadyTable (W : World) {m0 : Int} (hW : W.cell? ⟨0, 0, none⟩ = some (.int .i64 m0)) (own : Int) (a : Int) (b : Int) (goes : Bool) : PureAt Go.Proofs.Tryz.prog W 7 [(AV.i .i64 own), (AV.i .i64 a), (AV.i .i64 b), (AV.b goes)] (AV.b (m_3 own a b goes)) [] := by
 refine pure_of_bodyC (fn := Go.Proofs.Tryz.f7) Go.Proofs.Tryz.func7 rfl (en7 W) (ts := [8]) rfl le <| Sq <| Rg <| Aq (AV.b false) <| Ad <| Sq <| Sq <| Rg <| AOps.sc0 (vs := []) (r0 := (AV.b m_0)) kr kr (w_law21_awake W hW ) kr le <| Aq (AV.b (!m_0)) <| Ad ?_
 cases c_1 : (!m_0)
 refine Cf <| Awp.skip <| Sq <| Rg <| Sc (AV.st [(AV.own 0 0 3), (AV.own 9 0 1), (AV.own 10 0 1), (AV.own 11 0 1), (AV.i .i64 (4 : Int)), (AV.own 13 0 4), (AV.sl 3 true []), (AV.sl 3 true []), (AV.i .i64 (2 : Int)), (AV.b true), (AV.own 14 0 3)]) (wd_law21_going W) <| Nn (AV.loc 15 0 0) ⟨64, 11, [(AV.st [(AV.sl 7 true []), (AV.sl 2 true []), (AV.sl 1 true []), (AV.sl 3 true []), (AV.i .i64 (0 : Int)), (AV.sl 3 true []), (AV.sl 3 true []), (AV.sl 3 true []), (AV.i .i64 (0 : Int)), (AV.b false), (AV.sl 1 true [])])]⟩ <| Sp 15 ⟨64, 11, [(AV.st [(AV.own 0 0 3), (AV.own 9 0 1), (AV.own 10 0 1), (AV.own 11 0 1), (AV.i .i64 (4 : Int)), (AV.own 13 0 4), (AV.sl 3 true []), (AV.sl 3 true []), (AV.i .i64 (2 : Int)), (AV.b true), (AV.own 14 0 3)])]⟩ <| Ad <| Sq <| Rg <| Aq (AV.b goes) <| Aq (AV.loc 15 0 9) <| Sp 15 ⟨64, 11, [(AV.st [(AV.own 0 0 3), (AV.own 9 0 1), (AV.own 10 0 1), (AV.own 11 0 1), (AV.i .i64 (4 : Int)), (AV.own 13 0 4), (AV.sl 3 true []), (AV.sl 3 true []), (AV.i .i64 (2 : Int)), (AV.b goes), (AV.own 14 0 3)])]⟩ <| Ad <| Sq <| Rg <| Aq (AV.i .i64 own) <| Aq (AV.i .u64 (IntKind.wrap .u64 own)) <| Ap (AV.i .u64 ((IntKind.wrap .u64 own).tmod (5 : Int))) (g_rem (k := .u64) (a := (IntKind.wrap .u64 own)) (b := (5 : Int)) kr kr sd) <| Aq (AV.i .i64 (IntKind.wrap .i64 ((IntKind.wrap .u64 own).tmod (5 : Int)))) <| Aq (AV.i .i64 a) <| Aq (AV.i .u64 (IntKind.wrap .u64 a)) <| Ap (AV.i .u64 ((IntKind.wrap .u64 a).tmod (5 : Int))) (g_rem (k := .u64) (a := (IntKind.wrap .u64 a)) (b := (5 : Int)) kr kr sd) ?_
 refine Aq (AV.i .i64 (IntKind.wrap .i64 ((IntKind.wrap .u64 a).tmod (5 : Int)))) <| Aq (AV.i .i64 b) <| Aq (AV.i .u64 (IntKind.wrap .u64 b)) <| Ap (AV.i .u64 ((IntKind.wrap .u64 b).tmod (5 : Int))) (g_rem (k := .u64) (a := (IntKind.wrap .u64 b)) (b := (5 : Int)) kr kr sd) <| Aq (AV.i .i64 (IntKind.wrap .i64 ((IntKind.wrap .u64 b).tmod (5 : Int)))) <| Aq (AV.i .i64 (IntKind.wrap .i64 ((IntKind.wrap .u64 own).tmod (5 : Int)))) <| Aq (AV.i .i64 (IntKind.wrap .i64 ((IntKind.wrap .u64 a).tmod (5 : Int)))) <| Aq (AV.i .i64 (IntKind.wrap .i64 ((IntKind.wrap .u64 b).tmod (5 : Int)))) <| Ad <| Sq <| Rg <| Aq (AV.i .i64 (IntKind.wrap .i64 ((IntKind.wrap .u64 own).tmod (5 : Int)))) <| Aq (AV.i .i64 (IntKind.wrap .i64 ((IntKind.wrap .u64 a).tmod (5 : Int)))) <| Aq (AV.i .i64 (IntKind.wrap .i64 ((IntKind.wrap .u64 b).tmod (5 : Int)))) <| Nn (AV.own 16 0 3) ⟨3, 1, [(IntKind.wrap .i64 ((IntKind.wrap .u64 own).tmod (5 : Int))), (IntKind.wrap .i64 ((IntKind.wrap .u64 a).tmod (5 : Int))), (IntKind.wrap .i64 ((IntKind.wrap .u64 b).tmod (5 : Int)))].map (AV.i .i64)⟩ <| Aq (AV.loc 15 0 10) <| Sp 15 ⟨64, 11, [(AV.st [(AV.own 0 0 3), (AV.own 9 0 1), (AV.own 10 0 1), (AV.own 11 0 1), (AV.i .i64 (4 : Int)), (AV.own 13 0 4), (AV.sl 3 true []), (AV.sl 3 true []), (AV.i .i64 (2 : Int)), (AV.b goes), (AV.own 16 0 3)])]⟩ <| Ad <| Sq <| Rg <| Aq (AV.st [(AV.own 0 0 3), (AV.own 9 0 1), (AV.own 10 0 1), (AV.own 11 0 1), (AV.i .i64 (4 : Int)), (AV.own 13 0 4), (AV.sl 3 true []), (AV.sl 3 true []), (AV.i .i64 (2 : Int)), (AV.b goes), (AV.own 16 0 3)]) ?_
 refine AOps.sfw (vs := [(AV.st [(AV.own 0 0 3), (AV.own 9 0 1), (AV.own 10 0 1), (AV.own 11 0 1), (AV.i .i64 (4 : Int)), (AV.own 13 0 4), (AV.sl 3 true []), (AV.sl 3 true []), (AV.i .i64 (2 : Int)), (AV.b goes), (AV.own 16 0 3)]), (AV.i .i64 (0 : Int))]) (ss := [(DState.av (⟨lit7e8b3, [lit2ad7b], lit8f7a1, [], [], (2 : Int), goes, [(IntKind.wrap .i64 ((IntKind.wrap .u64 own).tmod (5 : Int))), (IntKind.wrap .i64 ((IntKind.wrap .u64 a).tmod (5 : Int))), (IntKind.wrap .i64 ((IntKind.wrap .u64 b).tmod (5 : Int)))]⟩ : DState)), (AV.i .i64 (0 : Int))]) (r0 := (AV.tup [(AV.b ((m_b (⟨lit7e8b3, [lit2ad7b], lit8f7a1, [], [], (2 : Int), goes, [(IntKind.wrap .i64 ((IntKind.wrap .u64 own).tmod (5 : Int))), (IntKind.wrap .i64 ((IntKind.wrap .u64 a).tmod (5 : Int))), (IntKind.wrap .i64 ((IntKind.wrap .u64 b).tmod (5 : Int)))]⟩ : DState) (0 : Int)).1)), (AV.i .i64 ((m_b (⟨lit7e8b3, [lit2ad7b], lit8f7a1, [], [], (2 : Int), goes, [(IntKind.wrap .i64 ((IntKind.wrap .u64 own).tmod (5 : Int))), (IntKind.wrap .i64 ((IntKind.wrap .u64 a).tmod (5 : Int))), (IntKind.wrap .i64 ((IntKind.wrap .u64 b).tmod (5 : Int)))]⟩ : DState) (0 : Int)).2))])) kr (show SnapW _ _ _ from ⟨(EntK.w (EntK.cast (x' := (AV.st [(AV.own 0 0 3), (AV.own 9 0 1), (AV.own 10 0 1), (AV.own 11 0 1), (AV.i .i64 (4 : Int)), (AV.own 13 0 4), (AV.sl 3 true []), (AV.sl 3 true []), (AV.i .i64 (2 : Int)), (AV.b goes), (AV.own 16 0 3)])) kr kr (EntK.st (EntKs.cons (EntK.own (id := 0) (len := 3) (e := 76) (k := 7) (els := [(AV.st [(AV.own 1 0 1), (AV.own 2 0 2), (AV.sl 1 true []), (AV.sl 1 true []), (AV.s (⟨#[97, 114]⟩ : ByteArray)), (AV.b false), (AV.s (⟨#[]⟩ : ByteArray))]), (AV.st [(AV.own 3 0 2), (AV.own 4 0 1), (AV.own 5 0 1), (AV.sl 1 true []), (AV.s (⟨#[99, 99, 32, 97]⟩ : ByteArray)), (AV.b true), (AV.s (⟨#[116, 119, 111]⟩ : ByteArray))]), (AV.st [(AV.own 6 0 1), (AV.own 7 0 1), (AV.sl 1 true []), (AV.own 8 0 1), (AV.s (⟨#[99, 99, 32, 98]⟩ : ByteArray)), (AV.b false), (AV.s (⟨#[116, 119, 111]⟩ : ByteArray))])]) rfl rfl rfl sd (EntKEs.cons (EntKE.st (EntKs.cons (EntK.row (fun _ => rfl) (A := AV.s) (id := 1) (e := 9) (k := 1) (xs := [(⟨#[108, 105, 98]⟩ : ByteArray)]) rfl rfl sd sd) (EntKs.cons (EntK.row (fun _ => rfl) (A := AV.s) (id := 2) (e := 9) (k := 1) (xs := [(⟨#[97, 46, 111]⟩ : ByteArray), (⟨#[98, 46, 111]⟩ : ByteArray)]) rfl rfl sd sd) (EntKs.cons (EntK.c rfl (WeakC.nil 1)) (EntKs.cons (EntK.c rfl (WeakC.nil 1)) (EntKs.cons (EntK.cr (x := (AV.s (⟨#[97, 114]⟩ : ByteArray))) kr) (EntKs.cons (EntK.cr (x := (AV.b false)) kr) (EntKs.cons (EntK.cr (x := (AV.s (⟨#[]⟩ : ByteArray))) kr) EntKs.nil)))))))) (EntKEs.cons (EntKE.st (EntKs.cons (EntK.row (fun _ => rfl) (A := AV.s) (id := 3) (e := 9) (k := 1) (xs := [(⟨#[97, 46, 111]⟩ : ByteArray), (⟨#[97, 46, 100]⟩ : ByteArray)]) rfl rfl sd sd) (EntKs.cons (EntK.row (fun _ => rfl) (A := AV.s) (id := 4) (e := 9) (k := 1) (xs := [(⟨#[97, 46, 99]⟩ : ByteArray)]) rfl rfl sd sd) (EntKs.cons (EntK.row (fun _ => rfl) (A := AV.s) (id := 5) (e := 9) (k := 1) (xs := [(⟨#[97, 46, 104]⟩ : ByteArray)]) rfl rfl sd sd) (EntKs.cons (EntK.c rfl (WeakC.nil 1)) (EntKs.cons (EntK.cr (x := (AV.s (⟨#[99, 99, 32, 97]⟩ : ByteArray))) kr) (EntKs.cons (EntK.cr (x := (AV.b true)) kr) (EntKs.cons (EntK.cr (x := (AV.s (⟨#[116, 119, 111]⟩ : ByteArray))) kr) EntKs.nil)))))))) (EntKEs.cons (EntKE.st (EntKs.cons (EntK.row (fun _ => rfl) (A := AV.s) (id := 6) (e := 9) (k := 1) (xs := [(⟨#[98, 46, 111]⟩ : ByteArray)]) rfl rfl sd sd) (EntKs.cons (EntK.row (fun _ => rfl) (A := AV.s) (id := 7) (e := 9) (k := 1) (xs := [(⟨#[98, 46, 99]⟩ : ByteArray)]) rfl rfl sd sd) (EntKs.cons (EntK.c rfl (WeakC.nil 1)) (EntKs.cons (EntK.row (fun _ => rfl) (A := AV.s) (id := 8) (e := 9) (k := 1) (xs := [(⟨#[97, 46, 111]⟩ : ByteArray)]) rfl rfl sd sd) (EntKs.cons (EntK.cr (x := (AV.s (⟨#[99, 99, 32, 98]⟩ : ByteArray))) kr) (EntKs.cons (EntK.cr (x := (AV.b false)) kr) (EntKs.cons (EntK.cr (x := (AV.s (⟨#[116, 119, 111]⟩ : ByteArray))) kr) EntKs.nil)))))))) EntKEs.nil)))) (EntKs.cons (EntK.row (fun _ => rfl) (A := DPool.av) (id := 9) (e := 81) (k := 2) (xs := [(⟨(⟨#[116, 119, 111]⟩ : ByteArray), (2 : Int)⟩ : DPool)]) rfl rfl sd sd) (EntKs.cons (EntK.row (fun _ => rfl) (A := AV.s) (id := 10) (e := 9) (k := 1) (xs := [(⟨#[108, 105, 98]⟩ : ByteArray)]) rfl rfl sd sd) (EntKs.cons (EntK.own (id := 11) (len := 1) (e := 121) (k := 3) (els := [(AV.st [(AV.s (⟨#[99, 99, 32, 97]⟩ : ByteArray)), (AV.own 12 0 1), (AV.b false)])]) rfl rfl rfl sd (EntKEs.cons (EntKE.st (EntKs.cons (EntK.cr (x := (AV.s (⟨#[99, 99, 32, 97]⟩ : ByteArray))) kr) (EntKs.cons (EntK.row (fun _ => rfl) (A := AV.s) (id := 12) (e := 9) (k := 1) (xs := [(⟨#[122, 46, 104]⟩ : ByteArray)]) rfl rfl sd sd) (EntKs.cons (EntK.cr (x := (AV.b false)) kr) EntKs.nil)))) EntKEs.nil)) (EntKs.cons (EntK.cr (x := (AV.i .i64 (4 : Int))) kr) (EntKs.cons (EntK.row (fun _ => rfl) (A := DFile.av) (id := 13) (e := 119) (k := 3) (xs := [lit35ef0, litb1de5, litf2893, lit881d0]) rfl rfl sd sd) (EntKs.cons (EntK.c rfl (WeakC.nil 3)) (EntKs.cons (EntK.c rfl (WeakC.nil 3)) (EntKs.cons (EntK.cr (x := (AV.i .i64 (2 : Int))) kr) (EntKs.cons (EntK.cr (x := (AV.b goes)) kr) (EntKs.cons (EntK.row (fun _ => rfl) (A := (AV.i .i64)) (id := 16) (e := 3) (k := 1) (xs := [(IntKind.wrap .i64 ((IntKind.wrap .u64 own).tmod (5 : Int))), (IntKind.wrap .i64 ((IntKind.wrap .u64 a).tmod (5 : Int))), (IntKind.wrap .i64 ((IntKind.wrap .u64 b).tmod (5 : Int)))]) rfl rfl sd sd) EntKs.nil)))))))))))))), ⟨(SnapW.e kr), trivial⟩⟩) (w_ready_Is W hW (⟨lit7e8b3, [lit2ad7b], lit8f7a1, [], [], (2 : Int), goes, [(IntKind.wrap .i64 ((IntKind.wrap .u64 own).tmod (5 : Int))), (IntKind.wrap .i64 ((IntKind.wrap .u64 a).tmod (5 : Int))), (IntKind.wrap .i64 ((IntKind.wrap .u64 b).tmod (5 : Int)))]⟩ : DState) (0 : Int) (Nat.le_of_ble_eq_true (by kernel_rfl))) rfl kr le ?_
 refine Aq (AV.tup [(AV.b ((m_b (⟨lit7e8b3, [lit2ad7b], lit8f7a1, [], [], (2 : Int), goes, [(IntKind.wrap .i64 ((IntKind.wrap .u64 own).tmod (5 : Int))), (IntKind.wrap .i64 ((IntKind.wrap .u64 a).tmod (5 : Int))), (IntKind.wrap .i64 ((IntKind.wrap .u64 b).tmod (5 : Int)))]⟩ : DState) (0 : Int)).1)), (AV.i .i64 ((m_b (⟨lit7e8b3, [lit2ad7b], lit8f7a1, [], [], (2 : Int), goes, [(IntKind.wrap .i64 ((IntKind.wrap .u64 own).tmod (5 : Int))), (IntKind.wrap .i64 ((IntKind.wrap .u64 a).tmod (5 : Int))), (IntKind.wrap .i64 ((IntKind.wrap .u64 b).tmod (5 : Int)))]⟩ : DState) (0 : Int)).2))]) ?_
 refine Aq (AV.b ((m_b (⟨lit7e8b3, [lit2ad7b], lit8f7a1, [], [], (2 : Int), goes, [(IntKind.wrap .i64 ((IntKind.wrap .u64 own).tmod (5 : Int))), (IntKind.wrap .i64 ((IntKind.wrap .u64 a).tmod (5 : Int))), (IntKind.wrap .i64 ((IntKind.wrap .u64 b).tmod (5 : Int)))]⟩ : DState) (0 : Int)).1)) <| Aq (AV.i .i64 ((m_b (⟨lit7e8b3, [lit2ad7b], lit8f7a1, [], [], (2 : Int), goes, [(IntKind.wrap .i64 ((IntKind.wrap .u64 own).tmod (5 : Int))), (IntKind.wrap .i64 ((IntKind.wrap .u64 a).tmod (5 : Int))), (IntKind.wrap .i64 ((IntKind.wrap .u64 b).tmod (5 : Int)))]⟩ : DState) (0 : Int)).2)) ?_
 refine Aq (AV.b ((m_b (⟨lit7e8b3, [lit2ad7b], lit8f7a1, [], [], (2 : Int), goes, [(IntKind.wrap .i64 ((IntKind.wrap .u64 own).tmod (5 : Int))), (IntKind.wrap .i64 ((IntKind.wrap .u64 a).tmod (5 : Int))), (IntKind.wrap .i64 ((IntKind.wrap .u64 b).tmod (5 : Int)))]⟩ : DState) (0 : Int)).1)) <| Aq (AV.i .i64 ((m_b (⟨lit7e8b3, [lit2ad7b], lit8f7a1, [], [], (2 : Int), goes, [(IntKind.wrap .i64 ((IntKind.wrap .u64 own).tmod (5 : Int))), (IntKind.wrap .i64 ((IntKind.wrap .u64 a).tmod (5 : Int))), (IntKind.wrap .i64 ((IntKind.wrap .u64 b).tmod (5 : Int)))]⟩ : DState) (0 : Int)).2)) ?_
 refine Ad ?_
 refine Awp.cut [(3, (AV.b goes)), (10, (AV.i .i64 (IntKind.wrap .i64 ((IntKind.wrap .u64 own).tmod (5 : Int))))), (13, (AV.b ((m_b (⟨lit7e8b3, [lit2ad7b], lit8f7a1, [], [], (2 : Int), goes, [(IntKind.wrap .i64 ((IntKind.wrap .u64 own).tmod (5 : Int))), (IntKind.wrap .i64 ((IntKind.wrap .u64 a).tmod (5 : Int))), (IntKind.wrap .i64 ((IntKind.wrap .u64 b).tmod (5 : Int)))]⟩ : DState) (0 : Int)).1))), (14, (AV.i .i64 ((m_b (⟨lit7e8b3, [lit2ad7b], lit8f7a1, [], [], (2 : Int), goes, [(IntKind.wrap .i64 ((IntKind.wrap .u64 own).tmod (5 : Int))), (IntKind.wrap .i64 ((IntKind.wrap .u64 a).tmod (5 : Int))), (IntKind.wrap .i64 ((IntKind.wrap .u64 b).tmod (5 : Int)))]⟩ : DState) (0 : Int)).2))), (15, (AV.b (bif decide ((IntKind.wrap .i64 ((IntKind.wrap .u64 a).tmod (5 : Int))) = (0 : Int)) then (decide ((IntKind.wrap .i64 ((IntKind.wrap .u64 b).tmod (5 : Int))) = (0 : Int)) || decide ((IntKind.wrap .i64 ((IntKind.wrap .u64 b).tmod (5 : Int))) = (3 : Int))) else (decide ((IntKind.wrap .i64 ((IntKind.wrap .u64 a).tmod (5 : Int))) = (3 : Int)) && (decide ((IntKind.wrap .i64 ((IntKind.wrap .u64 b).tmod (5 : Int))) = (0 : Int)) || decide ((IntKind.wrap .i64 ((IntKind.wrap .u64 b).tmod (5 : Int))) = (3 : Int)))))))] ⟨0, []⟩ ?_ ?_
 refine Rg <| Aq (AV.i .i64 (IntKind.wrap .i64 ((IntKind.wrap .u64 a).tmod (5 : Int)))) <| Aq (AV.b (decide ((IntKind.wrap .i64 ((IntKind.wrap .u64 a).tmod (5 : Int))) = (0 : Int)))) <| Aq (AV.b (decide ((IntKind.wrap .i64 ((IntKind.wrap .u64 a).tmod (5 : Int))) = (0 : Int)))) ?_
 cases c_2 : decide ((IntKind.wrap .i64 ((IntKind.wrap .u64 a).tmod (5 : Int))) = (0 : Int))
 have k_2 := of_decide_eq_false c_2
 refine Ay <| Aq (AV.i .i64 (IntKind.wrap .i64 ((IntKind.wrap .u64 a).tmod (5 : Int)))) <| Ay <| Aq (AV.b (decide ((IntKind.wrap .i64 ((IntKind.wrap .u64 a).tmod (5 : Int))) = (3 : Int)))) <| Aq (AV.b (decide ((IntKind.wrap .i64 ((IntKind.wrap .u64 a).tmod (5 : Int))) = (3 : Int)))) <| Aq (AV.b (decide ((IntKind.wrap .i64 ((IntKind.wrap .u64 a).tmod (5 : Int))) = (3 : Int)))) ?_
 cases c_3 : decide ((IntKind.wrap .i64 ((IntKind.wrap .u64 a).tmod (5 : Int))) = (3 : Int))
 have k_3 := of_decide_eq_false c_3
 refine An <| An <| An <| An <| An <| An <| Aq (AV.b false) <| Aq (AV.b false) <| Ad ?_
 exact ⟨[], ⟨by decide, rfl, FitsObjs.nil, (Ee (Ee (Ee (Ee (Ee EntE.nil)))))⟩, keep0⟩
 have k_3 := of_decide_eq_true c_3
 refine Ay <| Aq (AV.i .i64 (IntKind.wrap .i64 ((IntKind.wrap .u64 b).tmod (5 : Int)))) <| Ay <| Aq (AV.b (decide ((IntKind.wrap .i64 ((IntKind.wrap .u64 b).tmod (5 : Int))) = (0 : Int)))) <| Ay <| Aq (AV.b (decide ((IntKind.wrap .i64 ((IntKind.wrap .u64 b).tmod (5 : Int))) = (0 : Int)))) ?_
 cases c_4 : decide ((IntKind.wrap .i64 ((IntKind.wrap .u64 b).tmod (5 : Int))) = (0 : Int))
 have k_4 := of_decide_eq_false c_4
 refine Ay <| Aq (AV.i .i64 (IntKind.wrap .i64 ((IntKind.wrap .u64 b).tmod (5 : Int)))) <| Ay <| Aq (AV.b (decide ((IntKind.wrap .i64 ((IntKind.wrap .u64 b).tmod (5 : Int))) = (3 : Int)))) <| Ay <| Aq (AV.b (decide ((IntKind.wrap .i64 ((IntKind.wrap .u64 b).tmod (5 : Int))) = (3 : Int)))) <| Aq (AV.b (decide ((IntKind.wrap .i64 ((IntKind.wrap .u64 b).tmod (5 : Int))) = (3 : Int)))) <| Aq (AV.b (decide ((IntKind.wrap .i64 ((IntKind.wrap .u64 b).tmod (5 : Int))) = (3 : Int)))) <| Ad ?_
 exact ⟨[], ⟨by decide, rfl, FitsObjs.nil, (Ee (Ee (Ee (Ee (Ee EntE.nil)))))⟩, keep0⟩
 have k_4 := of_decide_eq_true c_4
 refine An <| An <| Ay <| Aq (AV.b true) <| Aq (AV.b true) <| Aq (AV.b true) <| Ad ?_
 exact ⟨[], ⟨by decide, rfl, FitsObjs.nil, (Ee (Ee (Ee (Ee (Ee EntE.nil)))))⟩, keep0⟩
 have k_2 := of_decide_eq_true c_2
 refine An <| An <| Aq (AV.b true) <| Aq (AV.b true) <| Ay <| Aq (AV.i .i64 (IntKind.wrap .i64 ((IntKind.wrap .u64 b).tmod (5 : Int)))) <| Ay <| Aq (AV.b (decide ((IntKind.wrap .i64 ((IntKind.wrap .u64 b).tmod (5 : Int))) = (0 : Int)))) <| Ay <| Aq (AV.b (decide ((IntKind.wrap .i64 ((IntKind.wrap .u64 b).tmod (5 : Int))) = (0 : Int)))) ?_
 cases c_5 : decide ((IntKind.wrap .i64 ((IntKind.wrap .u64 b).tmod (5 : Int))) = (0 : Int))
 have k_5 := of_decide_eq_false c_5
 refine Ay <| Aq (AV.i .i64 (IntKind.wrap .i64 ((IntKind.wrap .u64 b).tmod (5 : Int)))) <| Ay <| Aq (AV.b (decide ((IntKind.wrap .i64 ((IntKind.wrap .u64 b).tmod (5 : Int))) = (3 : Int)))) <| Ay <| Aq (AV.b (decide ((IntKind.wrap .i64 ((IntKind.wrap .u64 b).tmod (5 : Int))) = (3 : Int)))) <| Aq (AV.b (decide ((IntKind.wrap .i64 ((IntKind.wrap .u64 b).tmod (5 : Int))) = (3 : Int)))) <| Aq (AV.b (decide ((IntKind.wrap .i64 ((IntKind.wrap .u64 b).tmod (5 : Int))) = (3 : Int)))) <| Ad ?_
 exact ⟨[], ⟨by decide, rfl, FitsObjs.nil, (Ee (Ee (Ee (Ee (Ee EntE.nil)))))⟩, keep0⟩
 have k_5 := of_decide_eq_true c_5
 refine An <| An <| Ay <| Aq (AV.b true) <| Aq (AV.b true) <| Aq (AV.b true) <| Ad ?_
 exact ⟨[], ⟨by decide, rfl, FitsObjs.nil, (Ee (Ee (Ee (Ee (Ee EntE.nil)))))⟩, keep0⟩
 refine Sq <| Rg <| Aq (AV.i .i64 ((m_b (⟨lit7e8b3, [lit2ad7b], lit8f7a1, [], [], (2 : Int), goes, [(IntKind.wrap .i64 ((IntKind.wrap .u64 own).tmod (5 : Int))), (IntKind.wrap .i64 ((IntKind.wrap .u64 a).tmod (5 : Int))), (IntKind.wrap .i64 ((IntKind.wrap .u64 b).tmod (5 : Int)))]⟩ : DState) (0 : Int)).2)) <| AOps.sc0 (vs := [(AV.i .i64 ((m_b (⟨lit7e8b3, [lit2ad7b], lit8f7a1, [], [], (2 : Int), goes, [(IntKind.wrap .i64 ((IntKind.wrap .u64 own).tmod (5 : Int))), (IntKind.wrap .i64 ((IntKind.wrap .u64 a).tmod (5 : Int))), (IntKind.wrap .i64 ((IntKind.wrap .u64 b).tmod (5 : Int)))]⟩ : DState) (0 : Int)).2))]) (r0 := (AV.i .i64 (m_z ((m_b (⟨lit7e8b3, [lit2ad7b], lit8f7a1, [], [], (2 : Int), goes, [(IntKind.wrap .i64 ((IntKind.wrap .u64 own).tmod (5 : Int))), (IntKind.wrap .i64 ((IntKind.wrap .u64 a).tmod (5 : Int))), (IntKind.wrap .i64 ((IntKind.wrap .u64 b).tmod (5 : Int)))]⟩ : DState) (0 : Int)).2)))) kr kr (w_law0_Num W ((m_b (⟨lit7e8b3, [lit2ad7b], lit8f7a1, [], [], (2 : Int), goes, [(IntKind.wrap .i64 ((IntKind.wrap .u64 own).tmod (5 : Int))), (IntKind.wrap .i64 ((IntKind.wrap .u64 a).tmod (5 : Int))), (IntKind.wrap .i64 ((IntKind.wrap .u64 b).tmod (5 : Int)))]⟩ : DState) (0 : Int)).2)) kr le ?_
 refine Aq (AV.b (decide ((m_z ((m_b (⟨lit7e8b3, [lit2ad7b], lit8f7a1, [], [], (2 : Int), goes, [(IntKind.wrap .i64 ((IntKind.wrap .u64 own).tmod (5 : Int))), (IntKind.wrap .i64 ((IntKind.wrap .u64 a).tmod (5 : Int))), (IntKind.wrap .i64 ((IntKind.wrap .u64 b).tmod (5 : Int)))]⟩ : DState) (0 : Int)).2)) = (0 : Int)))) <| Aq (AV.b (decide ((m_z ((m_b (⟨lit7e8b3, [lit2ad7b], lit8f7a1, [], [], (2 : Int), goes, [(IntKind.wrap .i64 ((IntKind.wrap .u64 own).tmod (5 : Int))), (IntKind.wrap .i64 ((IntKind.wrap .u64 a).tmod (5 : Int))), (IntKind.wrap .i64 ((IntKind.wrap .u64 b).tmod (5 : Int)))]⟩ : DState) (0 : Int)).2)) = (0 : Int)))) ?_
 cases c_6 : decide ((m_z ((m_b (⟨lit7e8b3, [lit2ad7b], lit8f7a1, [], [], (2 : Int), goes, [(IntKind.wrap .i64 ((IntKind.wrap .u64 own).tmod (5 : Int))), (IntKind.wrap .i64 ((IntKind.wrap .u64 a).tmod (5 : Int))), (IntKind.wrap .i64 ((IntKind.wrap .u64 b).tmod (5 : Int)))]⟩ : DState) (0 : Int)).2)) = (0 : Int))
 have k_6 := of_decide_eq_false c_6
 refine An <| An <| An <| An <| An <| An <| An <| An <| An <| An <| Aq (AV.b false) <| Aq (AV.b false) <| Ad <| Rt ?_
 have hM : m_3 own a b goes = false := by simp only [m_3, c_1, c_6, sbt]
 refine ⟨Or.inr rfl, ?_⟩
 rw [hM]
 exact Ec
 have k_6 := of_decide_eq_true c_6
 refine Ay <| Aq (AV.b ((m_b (⟨lit7e8b3, [lit2ad7b], lit8f7a1, [], [], (2 : Int), goes, [(IntKind.wrap .i64 ((IntKind.wrap .u64 own).tmod (5 : Int))), (IntKind.wrap .i64 ((IntKind.wrap .u64 a).tmod (5 : Int))), (IntKind.wrap .i64 ((IntKind.wrap .u64 b).tmod (5 : Int)))]⟩ : DState) (0 : Int)).1)) <| Ay <| Aq (AV.b goes) <| Ay <| Aq (AV.b goes) ?_
 cases c_7 : goes
 refine An <| An <| Ay <| Aq (AV.b false) <| Ay <| Aq (AV.b false) <| An <| Ay <| Aq (AV.b false) <| Ay <| Aq (AV.b ((m_b (⟨lit7e8b3, [lit2ad7b], lit8f7a1, [], [], (2 : Int), false, [(IntKind.wrap .i64 ((IntKind.wrap .u64 own).tmod (5 : Int))), (IntKind.wrap .i64 ((IntKind.wrap .u64 a).tmod (5 : Int))), (IntKind.wrap .i64 ((IntKind.wrap .u64 b).tmod (5 : Int)))]⟩ : DState) (0 : Int)).1 == false)) <| Aq (AV.b ((m_b (⟨lit7e8b3, [lit2ad7b], lit8f7a1, [], [], (2 : Int), false, [(IntKind.wrap .i64 ((IntKind.wrap .u64 own).tmod (5 : Int))), (IntKind.wrap .i64 ((IntKind.wrap .u64 a).tmod (5 : Int))), (IntKind.wrap .i64 ((IntKind.wrap .u64 b).tmod (5 : Int)))]⟩ : DState) (0 : Int)).1 == false)) ?_
 refine Aq (AV.b ((m_b (⟨lit7e8b3, [lit2ad7b], lit8f7a1, [], [], (2 : Int), false, [(IntKind.wrap .i64 ((IntKind.wrap .u64 own).tmod (5 : Int))), (IntKind.wrap .i64 ((IntKind.wrap .u64 a).tmod (5 : Int))), (IntKind.wrap .i64 ((IntKind.wrap .u64 b).tmod (5 : Int)))]⟩ : DState) (0 : Int)).1 == false)) <| Ad <| Rt ?_
 try simp only [c_7, sbt] at c_6
 have hM : m_3 own a b false = ((m_b (⟨lit7e8b3, [lit2ad7b], lit8f7a1, [], [], (2 : Int), false, [(IntKind.wrap .i64 ((IntKind.wrap .u64 own).tmod (5 : Int))), (IntKind.wrap .i64 ((IntKind.wrap .u64 a).tmod (5 : Int))), (IntKind.wrap .i64 ((IntKind.wrap .u64 b).tmod (5 : Int)))]⟩ : DState) (0 : Int)).1 == false) := by simp only [m_3, c_1, c_6, c_7, sbt]
 refine ⟨Or.inr rfl, ?_⟩
 rw [hM]
 exact Ec
 refine Ay <| Aq (AV.i .i64 (IntKind.wrap .i64 ((IntKind.wrap .u64 own).tmod (5 : Int)))) <| Ay <| Aq (AV.b (decide ((IntKind.wrap .i64 ((IntKind.wrap .u64 own).tmod (5 : Int))) = (1 : Int)))) <| Ay <| Aq (AV.b (decide ((IntKind.wrap .i64 ((IntKind.wrap .u64 own).tmod (5 : Int))) = (1 : Int)))) <| Ay <| Aq (AV.b (decide ((IntKind.wrap .i64 ((IntKind.wrap .u64 own).tmod (5 : Int))) = (1 : Int)))) ?_
 cases c_8 : decide ((IntKind.wrap .i64 ((IntKind.wrap .u64 own).tmod (5 : Int))) = (1 : Int))
 have k_8 := of_decide_eq_false c_8
 refine An <| Ay <| Aq (AV.b false) <| Ay <| Aq (AV.b ((m_b (⟨lit7e8b3, [lit2ad7b], lit8f7a1, [], [], (2 : Int), true, [(IntKind.wrap .i64 ((IntKind.wrap .u64 own).tmod (5 : Int))), (IntKind.wrap .i64 ((IntKind.wrap .u64 a).tmod (5 : Int))), (IntKind.wrap .i64 ((IntKind.wrap .u64 b).tmod (5 : Int)))]⟩ : DState) (0 : Int)).1 == false)) <| Aq (AV.b ((m_b (⟨lit7e8b3, [lit2ad7b], lit8f7a1, [], [], (2 : Int), true, [(IntKind.wrap .i64 ((IntKind.wrap .u64 own).tmod (5 : Int))), (IntKind.wrap .i64 ((IntKind.wrap .u64 a).tmod (5 : Int))), (IntKind.wrap .i64 ((IntKind.wrap .u64 b).tmod (5 : Int)))]⟩ : DState) (0 : Int)).1 == false)) ?_
 refine Aq (AV.b ((m_b (⟨lit7e8b3, [lit2ad7b], lit8f7a1, [], [], (2 : Int), true, [(IntKind.wrap .i64 ((IntKind.wrap .u64 own).tmod (5 : Int))), (IntKind.wrap .i64 ((IntKind.wrap .u64 a).tmod (5 : Int))), (IntKind.wrap .i64 ((IntKind.wrap .u64 b).tmod (5 : Int)))]⟩ : DState) (0 : Int)).1 == false)) <| Ad <| Rt ?_
 try simp only [c_7, sbt] at c_6
 have hM : m_3 own a b true = ((m_b (⟨lit7e8b3, [lit2ad7b], lit8f7a1, [], [], (2 : Int), true, [(IntKind.wrap .i64 ((IntKind.wrap .u64 own).tmod (5 : Int))), (IntKind.wrap .i64 ((IntKind.wrap .u64 a).tmod (5 : Int))), (IntKind.wrap .i64 ((IntKind.wrap .u64 b).tmod (5 : Int)))]⟩ : DState) (0 : Int)).1 == false) := by simp only [m_3, c_1, c_6, c_7, c_8, sbt]
 refine ⟨Or.inr rfl, ?_⟩
 rw [hM]
 exact Ec
 have k_8 := of_decide_eq_true c_8
 refine Ay <| Aq (AV.b (bif decide ((IntKind.wrap .i64 ((IntKind.wrap .u64 a).tmod (5 : Int))) = (0 : Int)) then (decide ((IntKind.wrap .i64 ((IntKind.wrap .u64 b).tmod (5 : Int))) = (0 : Int)) || decide ((IntKind.wrap .i64 ((IntKind.wrap .u64 b).tmod (5 : Int))) = (3 : Int))) else (decide ((IntKind.wrap .i64 ((IntKind.wrap .u64 a).tmod (5 : Int))) = (3 : Int)) && (decide ((IntKind.wrap .i64 ((IntKind.wrap .u64 b).tmod (5 : Int))) = (0 : Int)) || decide ((IntKind.wrap .i64 ((IntKind.wrap .u64 b).tmod (5 : Int))) = (3 : Int)))))) <| Ay <| Aq (AV.b (bif decide ((IntKind.wrap .i64 ((IntKind.wrap .u64 a).tmod (5 : Int))) = (0 : Int)) then (decide ((IntKind.wrap .i64 ((IntKind.wrap .u64 b).tmod (5 : Int))) = (0 : Int)) || decide ((IntKind.wrap .i64 ((IntKind.wrap .u64 b).tmod (5 : Int))) = (3 : Int))) else (decide ((IntKind.wrap .i64 ((IntKind.wrap .u64 a).tmod (5 : Int))) = (3 : Int)) && (decide ((IntKind.wrap .i64 ((IntKind.wrap .u64 b).tmod (5 : Int))) = (0 : Int)) || decide ((IntKind.wrap .i64 ((IntKind.wrap .u64 b).tmod (5 : Int))) = (3 : Int)))))) <| Ay <| Aq (AV.b ((m_b (⟨lit7e8b3, [lit2ad7b], lit8f7a1, [], [], (2 : Int), true, [(IntKind.wrap .i64 ((IntKind.wrap .u64 own).tmod (5 : Int))), (IntKind.wrap .i64 ((IntKind.wrap .u64 a).tmod (5 : Int))), (IntKind.wrap .i64 ((IntKind.wrap .u64 b).tmod (5 : Int)))]⟩ : DState) (0 : Int)).1 == (bif decide ((IntKind.wrap .i64 ((IntKind.wrap .u64 a).tmod (5 : Int))) = (0 : Int)) then (decide ((IntKind.wrap .i64 ((IntKind.wrap .u64 b).tmod (5 : Int))) = (0 : Int)) || decide ((IntKind.wrap .i64 ((IntKind.wrap .u64 b).tmod (5 : Int))) = (3 : Int))) else (decide ((IntKind.wrap .i64 ((IntKind.wrap .u64 a).tmod (5 : Int))) = (3 : Int)) && (decide ((IntKind.wrap .i64 ((IntKind.wrap .u64 b).tmod (5 : Int))) = (0 : Int)) || decide ((IntKind.wrap .i64 ((IntKind.wrap .u64 b).tmod (5 : Int))) = (3 : Int))))))) ?_
 refine Aq (AV.b ((m_b (⟨lit7e8b3, [lit2ad7b], lit8f7a1, [], [], (2 : Int), true, [(IntKind.wrap .i64 ((IntKind.wrap .u64 own).tmod (5 : Int))), (IntKind.wrap .i64 ((IntKind.wrap .u64 a).tmod (5 : Int))), (IntKind.wrap .i64 ((IntKind.wrap .u64 b).tmod (5 : Int)))]⟩ : DState) (0 : Int)).1 == (bif decide ((IntKind.wrap .i64 ((IntKind.wrap .u64 a).tmod (5 : Int))) = (0 : Int)) then (decide ((IntKind.wrap .i64 ((IntKind.wrap .u64 b).tmod (5 : Int))) = (0 : Int)) || decide ((IntKind.wrap .i64 ((IntKind.wrap .u64 b).tmod (5 : Int))) = (3 : Int))) else (decide ((IntKind.wrap .i64 ((IntKind.wrap .u64 a).tmod (5 : Int))) = (3 : Int)) && (decide ((IntKind.wrap .i64 ((IntKind.wrap .u64 b).tmod (5 : Int))) = (0 : Int)) || decide ((IntKind.wrap .i64 ((IntKind.wrap .u64 b).tmod (5 : Int))) = (3 : Int))))))) ?_
 refine Aq (AV.b ((m_b (⟨lit7e8b3, [lit2ad7b], lit8f7a1, [], [], (2 : Int), true, [(IntKind.wrap .i64 ((IntKind.wrap .u64 own).tmod (5 : Int))), (IntKind.wrap .i64 ((IntKind.wrap .u64 a).tmod (5 : Int))), (IntKind.wrap .i64 ((IntKind.wrap .u64 b).tmod (5 : Int)))]⟩ : DState) (0 : Int)).1 == (bif decide ((IntKind.wrap .i64 ((IntKind.wrap .u64 a).tmod (5 : Int))) = (0 : Int)) then (decide ((IntKind.wrap .i64 ((IntKind.wrap .u64 b).tmod (5 : Int))) = (0 : Int)) || decide ((IntKind.wrap .i64 ((IntKind.wrap .u64 b).tmod (5 : Int))) = (3 : Int))) else (decide ((IntKind.wrap .i64 ((IntKind.wrap .u64 a).tmod (5 : Int))) = (3 : Int)) && (decide ((IntKind.wrap .i64 ((IntKind.wrap .u64 b).tmod (5 : Int))) = (0 : Int)) || decide ((IntKind.wrap .i64 ((IntKind.wrap .u64 b).tmod (5 : Int))) = (3 : Int))))))) ?_
 refine Ad <| Rt ?_
 try simp only [c_7, sbt] at c_6
 have hM : m_3 own a b true = ((m_b (⟨lit7e8b3, [lit2ad7b], lit8f7a1, [], [], (2 : Int), true, [(IntKind.wrap .i64 ((IntKind.wrap .u64 own).tmod (5 : Int))), (IntKind.wrap .i64 ((IntKind.wrap .u64 a).tmod (5 : Int))), (IntKind.wrap .i64 ((IntKind.wrap .u64 b).tmod (5 : Int)))]⟩ : DState) (0 : Int)).1 == (bif decide ((IntKind.wrap .i64 ((IntKind.wrap .u64 a).tmod (5 : Int))) = (0 : Int)) then (decide ((IntKind.wrap .i64 ((IntKind.wrap .u64 b).tmod (5 : Int))) = (0 : Int)) || decide ((IntKind.wrap .i64 ((IntKind.wrap .u64 b).tmod (5 : Int))) = (3 : Int))) else (decide ((IntKind.wrap .i64 ((IntKind.wrap .u64 a).tmod (5 : Int))) = (3 : Int)) && (decide ((IntKind.wrap .i64 ((IntKind.wrap .u64 b).tmod (5 : Int))) = (0 : Int)) || decide ((IntKind.wrap .i64 ((IntKind.wrap .u64 b).tmod (5 : Int))) = (3 : Int)))))) := by simp only [m_3, c_1, c_6, c_7, c_8, sbt]
 refine ⟨Or.inr rfl, ?_⟩
 rw [hM]
 exact Ec
 refine Ct <| Sq <| Rg <| Aq (AV.b false) <| Ad <| Rt ?_
 have hM : m_3 own a b goes = false := by simp only [m_3, c_1, sbt]
 refine ⟨Or.inr rfl, ?_⟩
 rw [hM]
 exact Ec
end
end Go.Lift
