/-
  Lemmas of this claim: a layer over the kit's calls, contracts of the functions that the law reaches, and the law's row. No condition of its own.
-/
import Derived.Test.YthagoaoenalmbaaGreatDoorWaRoomLess
namespace Go.Lift
noncomputable section
open Go Go.RowKit
set_option linter.unusedSimpArgs false
set_option linter.unusedVariables false
set_option linter.unusedSectionVars false
set_option maxRecDepth 20000
theorem w_disk_May (W : World) {m0 : Int} (hW : W.cell? ⟨0, 0, none⟩ = some (.int .i64 m0)) (d : DDisk) : PureAt Go.Proofs.Tryz.prog W 153 [DDisk.av d] (.b (dmayS m_9 d)) [] where
 enters := en153 W
 calls := fun w Y vs hG hY hvs => by
    refine calls_of_wp Go.Proofs.Tryz.func153 rfl ?_
    have F0 := CF.start (P := Go.Proofs.Tryz.prog) (n := 77) hG hY rfl hvs (by simp)
    refine wp_seq (wp_mono (F0.run (Q := fun e env => e = .normal ∧ env = [(1, (AV.pt (DDisk.av d).cells))]) ?_) ?_)
    · refine Rg ?_
      refine Nn (AV.loc 0 0 0) ⟨60, 2, [(DDisk.av d)]⟩ <| Aq (AV.b false) <| Ad ?_
      exact ⟨[], [(1, (AV.pt (DDisk.av d).cells))], ⟨0, []⟩, ⟨by decide, rfl, FitsObjs.nil, (EntE.cons (EntD.kk (x' := (AV.loc 0 0 0)) kr kr rfl (EntK.loc (id := 0) (j := 0) (o := 0) (ob := ⟨60, 2, [(DDisk.av d)]⟩) (x := (DDisk.av d)) rfl rfl rfl (EntKs.cons (EntK.cr (x := (AV.i .i64 d.clock)) kr) (EntKs.cons (EntK.cr (x := ((slA 3 DFile.av) d.files)) kr) EntKs.nil)))) EntE.nil)⟩, rfl, rfl, ⟨rfl, rfl⟩⟩
    rintro e a1 w1 ⟨env1, ⟨rfl, rfl⟩, F1, hb1⟩
    have hr0 : w.heap.size ≤ w1.heap.size := hb1.size
    have hrW : W.heap.size ≤ w1.heap.size := Nat.le_trans hG.size hr0
    refine wp_seq (wp_region ?_)
    show wpOps _ _ _ [0, 1] _ _
    refine wpOps_one rfl rfl (v := .map (some w1.heap.size)) (w' := w1.alloc (.map #[] 0)) rfl ?_
    have F2 := (F1.made (.map #[] 0)).put (t := 6) (x := .raw (.map (some w1.heap.size))) (v := .map (some w1.heap.size)) (by decide) (by simp only [CR])
    refine wpOps_one rfl rfl (v := (a1.put (some 6) (.map (some w1.heap.size))).eval (.tmp 6)) (w' := w1.alloc (.map #[] 0)) rfl ?_
    have F3 := F2.put (t := 3) (by decide) (F2.env 6)
    have hr3 : (w1.alloc (.map #[] 0)).heap[w1.heap.size]? = some (.map #[] 0) := heap_push_new _ _
    obtain ⟨r, hrr⟩ : ∃ r, w1.heap.size = r := ⟨_, rfl⟩
    rw [hrr] at hr0 hrW hr3 F3
    simp only [hrr]
    refine wp_seq (wp_seq (wp_mono (F3.run (Q := fun e env => e = .normal ∧ env = [(1, (AV.pt (DDisk.av d).cells)), (3, (AV.raw (Value.map (some r)))), (8, ((slA 3 DFile.av) d.files)), (9, (Ai d.files.length)), (10, (AV.i .i64 (0 : Int)))]) ?_) ?_))
    · refine Rg ?_
      refine Aq (AV.pt ((DDisk.av d).cells.drop 1)) <| Aq ((slA 3 DFile.av) d.files) <| Ap (Ai d.files.length) (g_len (k := 3) (nl := false) (e := 119) (A := DFile.av) (xs := d.files) kr kr) <| Aq (AV.i .i64 (0 : Int)) <| Ad ?_
      exact ⟨[], [(1, (AV.pt (DDisk.av d).cells)), (3, (AV.raw (Value.map (some r)))), (8, ((slA 3 DFile.av) d.files)), (9, (Ai d.files.length)), (10, (AV.i .i64 (0 : Int)))], ⟨0, []⟩, ⟨by decide, rfl, FitsObjs.nil, (Ee (Ee (Ee (Ee (Ee EntE.nil)))))⟩, rfl, rfl, ⟨rfl, rfl⟩⟩
    rintro e a2 w2 ⟨env2, ⟨rfl, rfl⟩, F4, hb2⟩
    have hr4 := Below.blk hb2 hr3
    have hB : d.files.length ≤ 281474976710656 := F4.len (t := 8) rfl
    obtain ⟨R, hR0⟩ : ∃ R, dmayL m_9 d.clock d.files [] none = R := ⟨_, rfl⟩
    refine wp_block <| wp_loop_k (fun k a w' => ∃ (i : Nat) (es : Array MapEntry) (clock : Nat), k = d.files.length - i ∧ i ≤ d.files.length ∧ CF 77 W w Y [(1, (AV.pt (DDisk.av d).cells)), (3, (AV.raw (Value.map (some r)))), (8, ((slA 3 DFile.av) d.files)), (9, (Ai d.files.length)), (10, (Ai i))] a w' ∧ w'.heap[r]? = some (.map es clock) ∧ EsOk es ((d.files.take i).map DFile.time) ∧ dmayL m_9 d.clock (d.files.drop i) ((d.files.take i).map DFile.time) (d.files.take i).getLast? = R) (k0 := d.files.length) ⟨0, #[], 0, rfl, Nat.zero_le _, F4, hr4, EsOk.nil, hR0⟩ ?_
    rintro k a3 w3 ⟨i, es, clock, hk, hi, F5, hr5, hes, hR⟩
    refine wp_seq (wp_mono (F5.run (Q := fun e env => e = .normal ∧ env = [(1, (AV.pt (DDisk.av d).cells)), (3, (AV.raw (Value.map (some r)))), (8, ((slA 3 DFile.av) d.files)), (9, (Ai d.files.length)), (10, (Ai i)), (11, (AV.b (decide (((i : Nat) : Int) < ((d.files.length : Nat) : Int)))))]) ?_) ?_)
    · refine Rg ?_
      refine Aq (AV.b (decide (((i : Nat) : Int) < ((d.files.length : Nat) : Int)))) <| Ad ?_
      exact ⟨[], [(1, (AV.pt (DDisk.av d).cells)), (3, (AV.raw (Value.map (some r)))), (8, ((slA 3 DFile.av) d.files)), (9, (Ai d.files.length)), (10, (Ai i)), (11, (AV.b (decide (((i : Nat) : Int) < ((d.files.length : Nat) : Int)))))], ⟨0, []⟩, ⟨by decide, rfl, FitsObjs.nil, (Ee (Ee (Ee (Ee (Ee (Ee EntE.nil))))))⟩, rfl, rfl, ⟨rfl, rfl⟩⟩
    rintro e a4 w4 ⟨env4, ⟨rfl, rfl⟩, F6, hb4⟩
    have hr6 := Below.blk hb4 hr5
    refine wp_seq ?_
    rcases Nat.lt_or_ge i d.files.length with hl | hl
    · refine wp_cond (t := true) ((F6.bool (t := 11) rfl).trans (congrArg Value.bool (decide_eq_true (by omega)))) (wp_skip ?_)
      obtain ⟨x, hx⟩ : ∃ x, d.files[i]? = some x := ⟨_, List.getElem?_eq_getElem hl⟩
      have hst := dmay_step (d := d) hx
      obtain ⟨ts, hts⟩ : ∃ ts, (d.files.take i).map DFile.time = ts := ⟨_, rfl⟩
      rw [hts] at hes hR hst
      refine wp_seq (wp_block (wp_seq (wp_mono (F6.run (Q := fun e env => e = .normal ∧ env = [(1, (AV.pt (DDisk.av d).cells)), (3, (AV.raw (Value.map (some r)))), (4, (Ai i)), (5, (AV.pt (DFile.av x).cells)), (8, ((slA 3 DFile.av) d.files)), (9, (Ai d.files.length)), (10, (Ai i))]) ?_) ?_)))
      · refine Rg ?_
        refine Aq (Ai i) <| Ap (AV.pt (DFile.av x).cells) (g_idx (k := 3) (nl := false) (e := 119) (kk := .i64) (A := DFile.av) (xs := d.files) (i := i) kr kr kr ⟨by kernel_rfl, by decide⟩ hx) <| Aq (DFile.av x) <| Nn (AV.loc 0 0 0) ⟨119, 3, [(AV.st [(AV.s (⟨#[]⟩ : ByteArray)), (AV.i .i64 (0 : Int)), (AV.i .i64 (0 : Int))])]⟩ <| Aq (Ai i) <| Sp 0 ⟨119, 3, [(AV.st [(AV.s x.name), (AV.i .i64 x.content), (AV.i .i64 x.time)])]⟩ <| Ad ?_
        exact ⟨[], [(1, (AV.pt (DDisk.av d).cells)), (3, (AV.raw (Value.map (some r)))), (4, (Ai i)), (5, (AV.pt (DFile.av x).cells)), (8, ((slA 3 DFile.av) d.files)), (9, (Ai d.files.length)), (10, (Ai i))], ⟨0, []⟩, ⟨by decide, rfl, FitsObjs.nil, (Ee (Ee (Ee (EntE.cons (EntD.kk (x' := (AV.loc 0 0 0)) kr kr rfl (EntK.loc (id := 0) (j := 0) (o := 0) (ob := ⟨119, 3, [(AV.st [(AV.s x.name), (AV.i .i64 x.content), (AV.i .i64 x.time)])]⟩) (x := (AV.st [(AV.s x.name), (AV.i .i64 x.content), (AV.i .i64 x.time)])) rfl rfl rfl (EntKs.cons (EntK.cr (x := (AV.s x.name)) kr) (EntKs.cons (EntK.cr (x := (AV.i .i64 x.content)) kr) (EntKs.cons (EntK.cr (x := (AV.i .i64 x.time)) kr) EntKs.nil))))) (Ee (Ee (Ee EntE.nil)))))))⟩, rfl, rfl, ⟨rfl, rfl⟩⟩
      rintro e a5 w5 ⟨env5, ⟨rfl, rfl⟩, F7, hb5⟩
      have hr := Below.blk hb5 hr6
      have hWw5 := F7.glob.cell hW
      refine wp_seq (wp_mono (F7.run (Q := fun e env => (e = .ret ∧ env = [(2, (AV.b false))] ∧ diskC d ts x i = false) ∨ (e = .normal ∧ env = [(1, (AV.pt (DDisk.av d).cells)), (3, (AV.raw (Value.map (some r)))), (5, (AV.pt (DFile.av x).cells)), (8, ((slA 3 DFile.av) d.files)), (9, (Ai d.files.length)), (10, (Ai i))] ∧ diskC d ts x i = true)) ?_) ?_)
      · refine Sq ?_
        refine Awp.drawn tabS_ok mixed 41 kr le <| Dq (AV.pt ((DFile.av x).cells.drop 0)) <| Dq (AV.s x.name) <| AOpsD.sc0 (vs := [(AV.s x.name)]) (r0 := (AV.b (m_9 x.name))) kr kr (w_path_Is w5 hWw5 x.name) kr le <| Dq (AV.b (!(m_9 x.name))) <| Dq (AV.b (!(m_9 x.name))) ?_
        cases c_1 : (!(m_9 x.name))
        refine Dy <| Dq (AV.pt ((DFile.av x).cells.drop 1)) <| Dy <| Dq (AV.i .i64 x.content) <| Dy <| AOpsD.sc0 (vs := [(AV.i .i64 x.content)]) (r0 := (AV.b (m_bs x.content))) kr kr (w_disk_content w5 x.content) kr le <| Dy <| Dq (AV.b (!(m_bs x.content))) <| Dq (AV.b (!(m_bs x.content))) <| Dq (AV.b (!(m_bs x.content))) ?_
        cases c_2 : (!(m_bs x.content))
        refine Dy <| Dq (AV.pt ((DFile.av x).cells.drop 2)) <| Dy <| Dq (AV.i .i64 x.time) <| Dy <| Dq (AV.b (decide (x.time < (1 : Int)))) <| Dq (AV.b (decide (x.time < (1 : Int)))) <| Dq (AV.b (decide (x.time < (1 : Int)))) ?_
        cases c_3 : decide (x.time < (1 : Int))
        have k_3 := of_decide_eq_false c_3
        refine Dy <| Dq (AV.pt ((DFile.av x).cells.drop 2)) <| Dy <| Dq (AV.i .i64 x.time) <| Dy <| Dq (AV.pt ((DDisk.av d).cells.drop 0)) <| Dy <| Dq (AV.i .i64 d.clock) <| Dy <| Dq (AV.b (decide (d.clock < x.time))) <| Dq (AV.b (decide (d.clock < x.time))) <| Dq (AV.b (decide (d.clock < x.time))) ?_
        cases c_4 : decide (d.clock < x.time)
        have k_4 := of_decide_eq_false c_4
        refine Dy <| Dq (AV.raw (Value.map (some r))) <| Dy <| Dq (AV.pt ((DFile.av x).cells.drop 2)) <| Dy <| Dq (AV.i .i64 x.time) <| Dy <| AOpsD.sg (x := (AV.b (ts.any (fun t => decide (t = x.time))))) (lookup_ok (vt := 4) Go.Proofs.Tryz.underlying196 Go.Proofs.Tryz.underlying3 (fun _ => by kernel_rfl) hr hes rfl rfl) le <| Dq (AV.b (ts.any (fun t => decide (t = x.time)))) <| Dq (AV.b (ts.any (fun t => decide (t = x.time)))) ?_
        cases c_5 : (ts.any (fun t => decide (t = x.time)))
        refine Dy <| Dq (Ai i) <| Dy <| Dq (AV.b (decide ((0 : Int) < ((i : Nat) : Int)))) <| Dy <| Dq (AV.b (decide ((0 : Int) < ((i : Nat) : Int)))) ?_
        cases c_6 : decide ((0 : Int) < ((i : Nat) : Int))
        have k_6 := of_decide_eq_false c_6
        refine Dn <| Dn <| Dn <| Dn <| Dn <| Dn <| Dn <| Dn <| Dn <| Dn <| Dy <| Dq (AV.b false) <| Dq (AV.b false) <| AOpsD.fin <| Cf <| Awp.skip ?_
        have hM : diskC d ts x i = true := by simp only [diskC, c_1, c_2, c_3, c_4, c_5, c_6, sbt]
        exact ⟨[], [(1, (AV.pt (DDisk.av d).cells)), (3, (AV.raw (Value.map (some r)))), (5, (AV.pt (DFile.av x).cells)), (8, ((slA 3 DFile.av) d.files)), (9, (Ai d.files.length)), (10, (Ai i))], ⟨0, []⟩, ⟨by decide, rfl, FitsObjs.nil, (Ee (Ee (Ee (Ee (Ee (Ee EntE.nil))))))⟩, rfl, rfl, Or.inr ⟨rfl, rfl, hM⟩⟩
        have k_6 := of_decide_eq_true c_6
        refine Dy <| Dq (AV.pt ((DDisk.av d).cells.drop 1)) <| Dy <| Dq ((slA 3 DFile.av) d.files) <| Dy <| Dq (Ai i) <| Dy <| Dp (AV.i .i64 ((i - 1 : Nat) : Int)) (g_subN (i := i) (m := 1) kr kr sd sd) <| Dy <| Dp (AV.pt (DFile.av (d.files.getD (i - 1) default)).cells) (g_idx (k := 3) (nl := false) (e := 119) (kk := .i64) (A := DFile.av) (xs := d.files) (i := i - 1) kr kr kr ⟨by kernel_rfl, by decide⟩ (getD_some sd)) <| Dy <| Dq (AV.pt ((DFile.av (d.files.getD (i - 1) default)).cells.drop 0)) <| Dy <| Dq (AV.s ((d.files.getD (i - 1) default).name)) <| Dy <| Dq (AV.pt ((DFile.av x).cells.drop 0)) <| Dy <| Dq (AV.s x.name) <| Dy <| Dq (AV.b (!Op.bytesLess ((d.files.getD (i - 1) default).name).toList x.name.toList)) <| Dy <| Dq (AV.b (!Op.bytesLess ((d.files.getD (i - 1) default).name).toList x.name.toList)) <| Dq (AV.b (!Op.bytesLess ((d.files.getD (i - 1) default).name).toList x.name.toList)) <| AOpsD.fin ?_
        cases c_7 : (!Op.bytesLess ((d.files.getD (i - 1) default).name).toList x.name.toList)
        refine Cf <| Awp.skip ?_
        have hM : diskC d ts x i = true := by simp only [diskC, c_1, c_2, c_3, c_4, c_5, c_6, c_7, sbt]
        exact ⟨[], [(1, (AV.pt (DDisk.av d).cells)), (3, (AV.raw (Value.map (some r)))), (5, (AV.pt (DFile.av x).cells)), (8, ((slA 3 DFile.av) d.files)), (9, (Ai d.files.length)), (10, (Ai i))], ⟨0, []⟩, ⟨by decide, rfl, FitsObjs.nil, (Ee (Ee (Ee (Ee (Ee (Ee EntE.nil))))))⟩, rfl, rfl, Or.inr ⟨rfl, rfl, hM⟩⟩
        refine Ct <| Sq <| Rg <| Aq (AV.b false) <| Ad <| Rt ?_
        have hM : diskC d ts x i = false := by simp only [diskC, c_1, c_2, c_3, c_4, c_5, c_6, c_7, sbt]
        exact ⟨[], [(2, (AV.b false))], ⟨0, []⟩, ⟨by decide, rfl, FitsObjs.nil, (Ee EntE.nil)⟩, rfl, rfl, Or.inl ⟨rfl, rfl, hM⟩⟩
        refine Dn <| Dn <| Dn <| Dn <| Dn <| Dn <| Dn <| Dn <| Dn <| Dn <| Dn <| Dn <| Dn <| Dn <| Dq (AV.b true) <| AOpsD.fin <| Ct <| Sq <| Rg <| Aq (AV.b false) <| Ad <| Rt ?_
        have hM : diskC d ts x i = false := by simp only [diskC, c_1, c_2, c_3, c_4, c_5, sbt]
        exact ⟨[], [(2, (AV.b false))], ⟨0, []⟩, ⟨by decide, rfl, FitsObjs.nil, (Ee EntE.nil)⟩, rfl, rfl, Or.inl ⟨rfl, rfl, hM⟩⟩
        have k_4 := of_decide_eq_true c_4
        refine Dn <| Dn <| Dn <| Dn <| Dq (AV.b true) <| Dq (AV.b true) <| Dn <| Dn <| Dn <| Dn <| Dn <| Dn <| Dn <| Dn <| Dn <| Dn <| Dn <| Dn <| Dn <| Dn <| Dq (AV.b true) <| AOpsD.fin <| Ct <| Sq <| Rg <| Aq (AV.b false) <| Ad <| Rt ?_
        have hM : diskC d ts x i = false := by simp only [diskC, c_1, c_2, c_3, c_4, sbt]
        exact ⟨[], [(2, (AV.b false))], ⟨0, []⟩, ⟨by decide, rfl, FitsObjs.nil, (Ee EntE.nil)⟩, rfl, rfl, Or.inl ⟨rfl, rfl, hM⟩⟩
        have k_3 := of_decide_eq_true c_3
        refine Dn <| Dn <| Dn <| Dn <| Dn <| Dq (AV.b true) <| Dq (AV.b true) <| Dn <| Dn <| Dn <| Dn <| Dq (AV.b true) <| Dq (AV.b true) <| Dn <| Dn <| Dn <| Dn <| Dn <| Dn <| Dn <| Dn <| Dn <| Dn <| Dn <| Dn <| Dn <| Dn <| Dq (AV.b true) <| AOpsD.fin <| Ct <| Sq <| Rg <| Aq (AV.b false) <| Ad <| Rt ?_
        have hM : diskC d ts x i = false := by simp only [diskC, c_1, c_2, c_3, sbt]
        exact ⟨[], [(2, (AV.b false))], ⟨0, []⟩, ⟨by decide, rfl, FitsObjs.nil, (Ee EntE.nil)⟩, rfl, rfl, Or.inl ⟨rfl, rfl, hM⟩⟩
        refine Dn <| Dn <| Dn <| Dq (AV.b true) <| Dq (AV.b true) <| Dn <| Dn <| Dn <| Dn <| Dn <| Dq (AV.b true) <| Dq (AV.b true) <| Dn <| Dn <| Dn <| Dn <| Dq (AV.b true) <| Dq (AV.b true) <| Dn <| Dn <| Dn <| Dn <| Dn <| Dn <| Dn <| Dn <| Dn <| Dn <| Dn <| Dn <| Dn <| Dn <| Dq (AV.b true) <| AOpsD.fin <| Ct <| Sq <| Rg <| Aq (AV.b false) <| Ad <| Rt ?_
        have hM : diskC d ts x i = false := by simp only [diskC, c_1, c_2, sbt]
        exact ⟨[], [(2, (AV.b false))], ⟨0, []⟩, ⟨by decide, rfl, FitsObjs.nil, (Ee EntE.nil)⟩, rfl, rfl, Or.inl ⟨rfl, rfl, hM⟩⟩
        refine Dn <| Dn <| Dn <| Dn <| Dq (AV.b true) <| Dq (AV.b true) <| Dn <| Dn <| Dn <| Dq (AV.b true) <| Dq (AV.b true) <| Dn <| Dn <| Dn <| Dn <| Dn <| Dq (AV.b true) <| Dq (AV.b true) <| Dn <| Dn <| Dn <| Dn <| Dq (AV.b true) <| Dq (AV.b true) <| Dn <| Dn <| Dn <| Dn <| Dn <| Dn <| Dn <| Dn <| Dn <| Dn <| Dn <| Dn <| Dn <| Dn <| Dq (AV.b true) <| AOpsD.fin <| Ct <| Sq <| Rg <| Aq (AV.b false) <| Ad <| Rt ?_
        have hM : diskC d ts x i = false := by simp only [diskC, c_1, sbt]
        exact ⟨[], [(2, (AV.b false))], ⟨0, []⟩, ⟨by decide, rfl, FitsObjs.nil, (Ee EntE.nil)⟩, rfl, rfl, Or.inl ⟨rfl, rfl, hM⟩⟩
      rintro e a6 w6 ⟨env6, hq, F8, hb6⟩
      rcases hq with ⟨rfl, rfl, hC⟩ | ⟨rfl, rfl, hC⟩
      · show a6.defers = [] ∧ ∃ v, _
        have hD : dmayS m_9 d = false := by
          unfold dmayS
          rw [hR0, ← hR, hst, hC]; rfl
        rw [hD]
        exact F8.done (t := 2) rfl rfl rfl
      · have hr8 := Below.blk hb6 hr
        rw [hC, Bool.true_and] at hst
        refine wp_region ?_
        show wpOps _ _ _ (List.range 3 ++ [3]) _ _
        refine region_first tabS_ok 3 [3] (by decide) (R := fun env h => CQ (fun e env => e = .normal ∧ env = [(1, (AV.pt (DDisk.av d).cells)), (3, (AV.raw (Value.map (some r)))), (8, ((slA 3 DFile.av) d.files)), (9, (Ai d.files.length)), (10, (Ai i)), (59, (AV.raw (Value.map (some r)))), (61, (AV.i .i64 x.time))]) .normal env h) ?_ rfl F8.rel ?_
        · refine Aq (AV.raw (Value.map (some r))) ?_
          refine Aq (AV.pt ((DFile.av x).cells.drop 2)) <| Aq (AV.i .i64 x.time) <| Ad ?_
          exact ⟨[], [(1, (AV.pt (DDisk.av d).cells)), (3, (AV.raw (Value.map (some r)))), (8, ((slA 3 DFile.av) d.files)), (9, (Ai d.files.length)), (10, (Ai i)), (59, (AV.raw (Value.map (some r)))), (61, (AV.i .i64 x.time))], ⟨0, []⟩, ⟨by decide, rfl, FitsObjs.nil, (Ee (Ee (Ee (Ee (Ee (Ee (Ee EntE.nil)))))))⟩, rfl, rfl, ⟨rfl, rfl⟩⟩
        rintro env' h' μ' a7 w7 ⟨keep, env7, h7, hf, hn, hc, _, rfl⟩ R7
        obtain ⟨F9, hb7⟩ := F8.of_rel hn hc (rel_finW R7 hf (fun i hi => by simp at hi))
        have hr9 := Below.blk hb7 hr8
        have hnk : ts.any (fun t => decide (t = x.time)) = false := diskC_any hC
        refine wpOps_unit rfl rfl (w' := { w7 with heap := w7.heap.setIfInBounds r (.map (es.push ⟨.int .i64 x.time, .bool true, clock⟩) (clock + 1)) }) ?_ ?_
        · unfold execOp
          refine run_uu ?_
          rw [F9.raw (t := 59) rfl, F9.int (t := 61) rfl]
          exact run_mapUpdate_new Go.Proofs.Tryz.underlying196 Go.Proofs.Tryz.underlying3 hr9 hes hnk
        obtain ⟨F10, hr10⟩ := F9.turn (es' := es.push ⟨.int .i64 x.time, .bool true, clock⟩) (c' := clock + 1) hr9 hr0 hrW
        refine wp_mono (F10.run (Q := fun e env => e = .normal ∧ env = [(1, (AV.pt (DDisk.av d).cells)), (3, (AV.raw (Value.map (some r)))), (8, ((slA 3 DFile.av) d.files)), (9, (Ai d.files.length)), (10, (Ai (i + 1)))]) ?_) ?_
        · refine Rg ?_
          refine Ap (Ai (i + 1)) (g_addN (i := i) (m := 1) kr kr sd) <| Aq (Ai (i + 1)) <| Ad ?_
          exact ⟨[], [(1, (AV.pt (DDisk.av d).cells)), (3, (AV.raw (Value.map (some r)))), (8, ((slA 3 DFile.av) d.files)), (9, (Ai d.files.length)), (10, (Ai (i + 1)))], ⟨0, []⟩, ⟨by decide, rfl, FitsObjs.nil, (Ee (Ee (Ee (Ee (Ee EntE.nil)))))⟩, rfl, rfl, ⟨rfl, rfl⟩⟩
        rintro e a8 w8 ⟨env8, ⟨rfl, rfl⟩, F11, hb8⟩
        refine ⟨d.files.length - (i + 1), by omega, i + 1, _, _, rfl, by omega, F11, Below.blk hb8 hr10, ?_, by rw [← hst]; exact hR⟩
        have := hes.push x.time clock
        rw [← hts] at this
        rw [take_snoc hx, List.map_append]
        exact this
    · refine wp_cond (t := false) ((F6.bool (t := 11) rfl).trans (congrArg Value.bool (decide_eq_false (by omega)))) (wp_exit ?_)
      show (Code.seq _ _).wp _ _ _ _
      have hD : dmayS m_9 d = diskF d := by
        have e : R = true := by rw [← hR, List.drop_eq_nil_of_le hl]; rfl
        unfold dmayS
        rw [hR0, e]
        exact diskF_eq d
      rw [hD]
      refine wp_seq (wp_mono (F6.run (Q := fun e env => e = .normal ∧ env = [(2, (AV.b (diskF d)))]) ?_) ?_)
      · refine Rg ?_
        refine Aq (AV.pt ((DDisk.av d).cells.drop 0)) <| Aq (AV.i .i64 d.clock) <| Aq (AV.b (decide ((0 : Int) ≤ d.clock))) <| Aq (AV.b (decide ((0 : Int) ≤ d.clock))) ?_
        cases c_1 : decide ((0 : Int) ≤ d.clock)
        have k_1 := of_decide_eq_false c_1
        refine An <| An <| An <| Aq (AV.b false) <| Aq (AV.b false) <| An <| An <| An <| An <| Aq (AV.b false) <| Aq (AV.b false) <| Ad ?_
        have hM : diskF d = false := by simp only [diskF, c_1, sbt]
        rw [hM]
        exact ⟨[], [(2, (AV.b false))], ⟨0, []⟩, ⟨by decide, rfl, FitsObjs.nil, (Ee EntE.nil)⟩, rfl, rfl, ⟨rfl, rfl⟩⟩
        have k_1 := of_decide_eq_true c_1
        refine Ay <| Aq (AV.pt ((DDisk.av d).cells.drop 0)) <| Ay <| Aq (AV.i .i64 d.clock) <| Ay <| Aq (AV.b (decide (d.clock ≤ (1048576 : Int)))) <| Aq (AV.b (decide (d.clock ≤ (1048576 : Int)))) <| Aq (AV.b (decide (d.clock ≤ (1048576 : Int)))) ?_
        cases c_2 : decide (d.clock ≤ (1048576 : Int))
        have k_2 := of_decide_eq_false c_2
        refine An <| An <| An <| An <| Aq (AV.b false) <| Aq (AV.b false) <| Ad ?_
        have hM : diskF d = false := by simp only [diskF, c_1, c_2, sbt]
        rw [hM]
        exact ⟨[], [(2, (AV.b false))], ⟨0, []⟩, ⟨by decide, rfl, FitsObjs.nil, (Ee EntE.nil)⟩, rfl, rfl, ⟨rfl, rfl⟩⟩
        have k_2 := of_decide_eq_true c_2
        refine Ay <| Aq (AV.pt ((DDisk.av d).cells.drop 1)) <| Ay <| Aq ((slA 3 DFile.av) d.files) <| Ay <| Ap (Ai d.files.length) (g_len (k := 3) (nl := false) (e := 119) (A := DFile.av) (xs := d.files) kr kr) <| Ay <| Aq (AV.b (decide (((d.files.length : Nat) : Int) ≤ (64 : Int)))) <| Aq (AV.b (decide (((d.files.length : Nat) : Int) ≤ (64 : Int)))) <| Aq (AV.b (decide (((d.files.length : Nat) : Int) ≤ (64 : Int)))) <| Ad ?_
        have hM : diskF d = decide (((d.files.length : Nat) : Int) ≤ (64 : Int)) := by simp only [diskF, c_1, c_2, sbt]
        rw [hM]
        exact ⟨[], [(2, (AV.b (decide (((d.files.length : Nat) : Int) ≤ (64 : Int)))))], ⟨0, []⟩, ⟨by decide, rfl, FitsObjs.nil, (Ee EntE.nil)⟩, rfl, rfl, ⟨rfl, rfl⟩⟩
      rintro e a9 w9 ⟨env9, ⟨rfl, rfl⟩, F12, hb9⟩
      refine wp_ret ?_
      show a9.defers = [] ∧ ∃ v, _
      exact F12.done (t := 2) rfl rfl rfl
theorem w_dirty_May (W : World) {m0 : Int} (hW : W.cell? ⟨0, 0, none⟩ = some (.int .i64 m0)) (s' : DState) (hz : s'.sz ≤ 1048576) : PureAt Go.Proofs.Tryz.prog W 136 [(AV.pt (DState.av s').cells)] (AV.b (m_at s')) [] := by
 have hzg := s'.sz_graph
 refine pure_of_bodyC (fn := Go.Proofs.Tryz.f136) Go.Proofs.Tryz.func136 rfl (en136 W) (ts := [2]) rfl le <| Sq <| Rg <| Aq (AV.b false) <| Ad <| Sq <| Rg <| Aq (AV.pt (DState.av s').cells) <| Aq (AV.pt (DState.av s').cells) <| Aq (AV.pt ((DState.av s').cells.drop 0)) <| Aq (DGraph.av s'.graph) <| AOps.sc0 (vs := [(DGraph.av s'.graph)]) (r0 := (AV.tup [((slA 1 (AV.i .i64)) ((m_a0 s'.graph).1)), (AV.i .i64 ((m_a0 s'.graph).2))])) kr kr (w_order_Of W hW s'.graph sd) kr le <| Aq (AV.tup [((slA 1 (AV.i .i64)) ((m_a0 s'.graph).1)), (AV.i .i64 ((m_a0 s'.graph).2))]) <| Aq ((slA 1 (AV.i .i64)) ((m_a0 s'.graph).1)) <| Aq (AV.i .i64 ((m_a0 s'.graph).2)) <| Aq ((slA 1 (AV.i .i64)) ((m_a0 s'.graph).1)) <| Aq (AV.i .i64 ((m_a0 s'.graph).2)) <| Ad <| Sq <| Rg <| Aq (AV.i .i64 ((m_a0 s'.graph).2)) <| Aq (AV.b (decide ((m_a0 s'.graph).2 = (0 : Int)))) <| Aq (AV.b (decide ((m_a0 s'.graph).2 = (0 : Int)))) ?_
 cases c_1 : decide ((m_a0 s'.graph).2 = (0 : Int))
 have k_1 := of_decide_eq_false c_1
 refine An <| An <| An <| An <| An <| Aq (AV.b false) <| Aq (AV.b false) <| An <| An <| An <| An <| An <| Aq (AV.b false) <| Aq (AV.b false) <| An <| An <| An <| An <| An <| Aq (AV.b false) <| Aq (AV.b false) <| An <| An <| An <| An <| An <| Aq (AV.b false) <| Aq (AV.b false) <| Ad <| Rt ?_
 have hM : m_at s' = false := by simp only [m_at, c_1, sbt]
 refine ⟨Or.inr rfl, ?_⟩
 rw [hM]
 exact Ec
 have k_1 := of_decide_eq_true c_1
 refine Ay <| Aq (AV.pt (DState.av s').cells) <| Ay <| Aq (AV.pt (DState.av s').cells) <| Ay <| Aq (AV.pt ((DState.av s').cells.drop 3)) <| Ay <| Aq ((slA 3 DAction.av) s'.actions) <| Ay <| AOps.sc0 (vs := [((slA 3 DAction.av) s'.actions)]) (r0 := (AV.b (m_b1 s'.actions))) kr kr (w_command_May W hW s'.actions) kr le <| Aq (AV.b (m_b1 s'.actions)) <| Aq (AV.b (m_b1 s'.actions)) ?_
 cases c_2 : (m_b1 s'.actions)
 refine An <| An <| An <| An <| An <| Aq (AV.b false) <| Aq (AV.b false) <| An <| An <| An <| An <| An <| Aq (AV.b false) <| Aq (AV.b false) <| An <| An <| An <| An <| An <| Aq (AV.b false) <| Aq (AV.b false) <| Ad <| Rt ?_
 have hM : m_at s' = false := by simp only [m_at, c_1, c_2, sbt]
 refine ⟨Or.inr rfl, ?_⟩
 rw [hM]
 exact Ec
 refine Ay <| Aq (AV.pt (DState.av s').cells) <| Ay <| Aq (AV.pt (DState.av s').cells) <| Ay <| Aq (AV.pt ((DState.av s').cells.drop 4)) <| Ay <| Aq (DDisk.av s'.disk) <| Ay <| AOps.sc0 (vs := [(DDisk.av s'.disk)]) (r0 := (AV.b (dmayS m_9 s'.disk))) kr kr (w_disk_May W hW s'.disk) kr le <| Aq (AV.b (dmayS m_9 s'.disk)) <| Aq (AV.b (dmayS m_9 s'.disk)) ?_
 cases c_3 : (dmayS m_9 s'.disk)
 refine An <| An <| An <| An <| An <| Aq (AV.b false) <| Aq (AV.b false) <| An <| An <| An <| An <| An <| Aq (AV.b false) <| Aq (AV.b false) <| Ad <| Rt ?_
 have hM : m_at s' = false := by simp only [m_at, c_1, c_2, c_3, sbt]
 refine ⟨Or.inr rfl, ?_⟩
 rw [hM]
 exact Ec
 refine Ay <| Aq (AV.pt (DState.av s').cells) <| Ay <| Aq (AV.pt (DState.av s').cells) <| Ay <| Aq (AV.pt ((DState.av s').cells.drop 6)) <| Ay <| Aq ((slA 3 DRecord.av) s'.log) <| Ay <| AOps.sc0 (vs := [((slA 3 DRecord.av) s'.log)]) (r0 := (AV.b (m_cn s'.log))) kr kr (w_log_May W hW s'.log) kr le <| Aq (AV.b (m_cn s'.log)) <| Aq (AV.b (m_cn s'.log)) ?_
 cases c_4 : (m_cn s'.log)
 refine An <| An <| An <| An <| An <| Aq (AV.b false) <| Aq (AV.b false) <| Ad <| Rt ?_
 have hM : m_at s' = false := by simp only [m_at, c_1, c_2, c_3, c_4, sbt]
 refine ⟨Or.inr rfl, ?_⟩
 rw [hM]
 exact Ec
 refine Ay <| Aq (AV.pt (DState.av s').cells) <| Ay <| Aq (AV.pt (DState.av s').cells) <| Ay <| Aq (AV.pt ((DState.av s').cells.drop 7)) <| Ay <| Aq ((slA 3 DFound.av) s'.deps) <| Ay <| AOps.sc0 (vs := [((slA 3 DFound.av) s'.deps)]) (r0 := (AV.b (m_b7 s'.deps))) kr kr (w_deplog_May W hW s'.deps) kr le <| Aq (AV.b (m_b7 s'.deps)) <| Aq (AV.b (m_b7 s'.deps)) <| Ad <| Rt ?_
 have hM : m_at s' = (m_b7 s'.deps) := by simp only [m_at, c_1, c_2, c_3, c_4, sbt]
 refine ⟨Or.inr rfl, ?_⟩
 rw [hM]
 exact Ec
theorem w_ready_May_1 (W : World) (x' : Int) : PureAt Go.Proofs.Tryz.prog W 135 [(AV.i .i64 x')] (AV.b (m_ax x')) [] := by
 refine pure_of_bodyC (fn := Go.Proofs.Tryz.f135) Go.Proofs.Tryz.func135 rfl (en135 W) (ts := [2]) rfl le <| Sq <| Rg <| Aq (AV.b false) <| Ad <| Sq <| Rg <| Aq (AV.i .i64 x') <| Aq (AV.b (decide (x' < (0 : Int)))) <| Aq (AV.b (decide (x' < (0 : Int)))) ?_
 cases c_1 : decide (x' < (0 : Int))
 have k_1 := of_decide_eq_false c_1
 refine Ay <| Aq (AV.i .i64 x') <| Ay <| Aq (AV.b (decide ((4 : Int) < x'))) <| Aq (AV.b (decide ((4 : Int) < x'))) <| Aq (AV.b (decide ((4 : Int) < x'))) <| Ad <| Rt ?_
 have hM : m_ax x' = decide ((4 : Int) < x') := by simp only [m_ax, c_1, sbt]
 refine ⟨Or.inr rfl, ?_⟩
 rw [hM]
 exact Ec
 have k_1 := of_decide_eq_true c_1
 refine An <| An <| Aq (AV.b true) <| Aq (AV.b true) <| Ad <| Rt ?_
 have hM : m_ax x' = true := by simp only [m_ax, c_1, sbt]
 refine ⟨Or.inr rfl, ?_⟩
 rw [hM]
 exact Ec
theorem w_ready_May (W : World) {m0 : Int} (hW : W.cell? ⟨0, 0, none⟩ = some (.int .i64 m0)) (s' : DState) (hz : s'.sz ≤ 1048576) : PureAt Go.Proofs.Tryz.prog W 108 [(AV.pt (DState.av s').cells)] (AV.b (m_aj s')) [] := by
 have hzg := s'.sz_graph
 refine pure_of_bodyC (fn := Go.Proofs.Tryz.f108) Go.Proofs.Tryz.func108 rfl (en108 W) (ts := [2]) rfl le <| Sq <| Rg <| Aq (AV.b false) <| Ad <| Sq <| Rg <| Aq (AV.fn 135 []) <| Ad <| Sq <| Sq <| Rg <| Aq (AV.pt (DState.av s').cells) <| AOps.sc0 (vs := [(AV.pt (DState.av s').cells)]) (r0 := (AV.b (m_at s'))) kr kr (w_dirty_May W hW s' sd) kr le <| Aq (AV.b (!(m_at s'))) <| Aq (AV.b (!(m_at s'))) ?_
 cases c_1 : (!(m_at s'))
 refine Ay <| Aq (AV.pt (DState.av s').cells) <| Ay <| Aq (AV.pt (DState.av s').cells) <| Ay <| Aq (AV.pt ((DState.av s').cells.drop 8)) <| Ay <| Aq (AV.i .i64 s'.jobs) <| Ay <| Aq (AV.b (decide (s'.jobs < (1 : Int)))) <| Aq (AV.b (decide (s'.jobs < (1 : Int)))) <| Aq (AV.b (decide (s'.jobs < (1 : Int)))) ?_
 cases c_2 : decide (s'.jobs < (1 : Int))
 have k_2 := of_decide_eq_false c_2
 refine Ay <| Aq (AV.pt (DState.av s').cells) <| Ay <| Aq (AV.pt (DState.av s').cells) <| Ay <| Aq (AV.pt ((DState.av s').cells.drop 8)) <| Ay <| Aq (AV.i .i64 s'.jobs) <| Ay <| Aq (AV.b (decide ((8 : Int) < s'.jobs))) <| Aq (AV.b (decide ((8 : Int) < s'.jobs))) <| Aq (AV.b (decide ((8 : Int) < s'.jobs))) ?_
 cases c_3 : decide ((8 : Int) < s'.jobs)
 have k_3 := of_decide_eq_false c_3
 refine Ay <| Aq (AV.pt (DState.av s').cells) <| Ay <| Aq (AV.pt (DState.av s').cells) <| Ay <| Aq (AV.pt ((DState.av s').cells.drop 10)) <| Ay <| Aq ((slA 1 (AV.i .i64)) s'.status) <| Ay <| Aq (AV.fn 135 []) <| Ay <| AOps.sc0 (vs := [((slA 1 (AV.i .i64)) s'.status), (AV.fn 135 [])]) (r0 := (AV.b (m_k s'.status (fun z0 => m_ax z0)))) kr (by simp only [closedL, Bool.and_eq_true]; exact ⟨by kernel_rfl, kr, trivial⟩) (w_slices_ContainsFunc_int_int W s'.status 135 [] (fun z0 => m_ax z0) kr (fun z0 => (w_ready_May_1 W z0))) kr le <| Aq (AV.b (m_k s'.status (fun z0 => m_ax z0))) <| Ad ?_
 cases c_4 : (m_k s'.status (fun z0 => m_ax z0))
 refine Cf <| Awp.skip <| Sq <| Awp.drawn tabS_ok mixed 11 kr le <| Dq (AV.pt (DState.av s').cells) <| Dq (AV.pt (DState.av s').cells) <| Dq (AV.pt ((DState.av s').cells.drop 10)) <| Dq ((slA 1 (AV.i .i64)) s'.status) <| Dp (Ai s'.status.length) (g_len (k := 1) (nl := false) (e := 3) (A := (AV.i .i64)) (xs := s'.status) kr kr) <| Dq (AV.pt (DState.av s').cells) <| Dq (AV.pt (DState.av s').cells) <| Dq (AV.pt ((DState.av s').cells.drop 0)) <| Dq (AV.pt ((DState.av s').cells.drop 0)) <| Dq ((slA 7 DEdge.av) s'.graph.edges) <| Dp (Ai s'.graph.edges.length) (g_len (k := 7) (nl := false) (e := 76) (A := DEdge.av) (xs := s'.graph.edges) kr kr) <| Dq (AV.b (decide (((s'.status.length : Nat) : Int) = ((s'.graph.edges.length : Nat) : Int)))) <| Dq (AV.b (decide (((s'.status.length : Nat) : Int) = ((s'.graph.edges.length : Nat) : Int)))) ?_
 cases c_5 : decide (((s'.status.length : Nat) : Int) = ((s'.graph.edges.length : Nat) : Int))
 have k_5 := of_decide_eq_false c_5
 refine Dy <| Dq (AV.pt (DState.av s').cells) <| Dy <| Dq (AV.pt (DState.av s').cells) <| Dy <| Dq (AV.pt ((DState.av s').cells.drop 9)) <| Dy <| Dq (AV.b s'.going) <| Dy <| Dq (AV.b (!s'.going)) <| Dy <| Dq (AV.b (!s'.going)) ?_
 cases c_6 : (!s'.going)
 refine Dn <| Dn <| Dn <| Dn <| Dn <| Dn <| Dy <| Dq (AV.b false) <| Dq (AV.b false) <| Dq (AV.b false) <| AOpsD.fin <| Rt ?_
 have hM : m_aj s' = false := by simp only [m_aj, c_1, c_2, c_3, c_4, c_5, c_6, sbt]
 refine ⟨Or.inr rfl, ?_⟩
 rw [hM]
 exact Ec
 refine Dy <| Dq (AV.pt (DState.av s').cells) <| Dy <| Dq (AV.pt (DState.av s').cells) <| Dy <| Dq (AV.pt ((DState.av s').cells.drop 10)) <| Dy <| Dq ((slA 1 (AV.i .i64)) s'.status) <| Dy <| Dp (Ai s'.status.length) (g_len (k := 1) (nl := false) (e := 3) (A := (AV.i .i64)) (xs := s'.status) kr kr) <| Dy <| Dq (AV.b (decide (((s'.status.length : Nat) : Int) = (0 : Int)))) <| Dy <| Dq (AV.b (decide (((s'.status.length : Nat) : Int) = (0 : Int)))) <| Dq (AV.b (decide (((s'.status.length : Nat) : Int) = (0 : Int)))) <| Dq (AV.b (decide (((s'.status.length : Nat) : Int) = (0 : Int)))) <| AOpsD.fin <| Rt ?_
 have hM : m_aj s' = decide (((s'.status.length : Nat) : Int) = (0 : Int)) := by simp only [m_aj, c_1, c_2, c_3, c_4, c_5, c_6, sbt]
 refine ⟨Or.inr rfl, ?_⟩
 rw [hM]
 exact Ec
 have k_5 := of_decide_eq_true c_5
 refine Dn <| Dn <| Dn <| Dn <| Dn <| Dn <| Dn <| Dn <| Dn <| Dn <| Dn <| Dn <| Dn <| Dq (AV.b true) <| Dq (AV.b true) <| AOpsD.fin <| Rt ?_
 have hM : m_aj s' = true := by simp only [m_aj, c_1, c_2, c_3, c_4, c_5, sbt]
 refine ⟨Or.inr rfl, ?_⟩
 rw [hM]
 exact Ec
 refine Ct <| Sq <| Rg <| Aq (AV.b false) <| Ad <| Rt ?_
 have hM : m_aj s' = false := by simp only [m_aj, c_1, c_2, c_3, c_4, sbt]
 refine ⟨Or.inr rfl, ?_⟩
 rw [hM]
 exact Ec
 have k_3 := of_decide_eq_true c_3
 refine An <| An <| An <| An <| An <| An <| Aq (AV.b true) <| Ad <| Ct <| Sq <| Rg <| Aq (AV.b false) <| Ad <| Rt ?_
 have hM : m_aj s' = false := by simp only [m_aj, c_1, c_2, c_3, sbt]
 refine ⟨Or.inr rfl, ?_⟩
 rw [hM]
 exact Ec
 have k_2 := of_decide_eq_true c_2
 refine An <| An <| An <| An <| An <| Aq (AV.b true) <| Aq (AV.b true) <| An <| An <| An <| An <| An <| An <| Aq (AV.b true) <| Ad <| Ct <| Sq <| Rg <| Aq (AV.b false) <| Ad <| Rt ?_
 have hM : m_aj s' = false := by simp only [m_aj, c_1, c_2, sbt]
 refine ⟨Or.inr rfl, ?_⟩
 rw [hM]
 exact Ec
 refine An <| An <| An <| An <| An <| Aq (AV.b true) <| Aq (AV.b true) <| An <| An <| An <| An <| An <| Aq (AV.b true) <| Aq (AV.b true) <| An <| An <| An <| An <| An <| An <| Aq (AV.b true) <| Ad <| Ct <| Sq <| Rg <| Aq (AV.b false) <| Ad <| Rt ?_
 have hM : m_aj s' = false := by simp only [m_aj, c_1, sbt]
 refine ⟨Or.inr rfl, ?_⟩
 rw [hM]
 exact Ec
theorem w_ready_There (W : World) {m0 : Int} (hW : W.cell? ⟨0, 0, none⟩ = some (.int .i64 m0)) (s' : DState) (edge : Int) (hz : s'.sz ≤ 1048576) : PureAt Go.Proofs.Tryz.prog W 81 [(AV.pt (DState.av s').cells), (AV.i .i64 edge)] (AV.b (m_a8 s' edge)) [] := by
 have hzg := s'.sz_graph
 refine pure_of_bodyC (fn := Go.Proofs.Tryz.f81) Go.Proofs.Tryz.func81 rfl (en81 W) (ts := [4]) rfl le <| Sq <| Rg <| Aq (AV.b false) <| Ad <| Sq <| Rg <| Aq (AV.pt (DState.av s').cells) <| AOps.sc0 (vs := [(AV.pt (DState.av s').cells)]) (r0 := (AV.b (m_aj s'))) kr kr (w_ready_May W hW s' sd) kr le <| Aq (AV.b (m_aj s')) ?_
 cases c_1 : (m_aj s')
 refine An <| An <| Aq (AV.b false) <| Aq (AV.b false) <| An <| An <| An <| An <| An <| An <| An <| An <| Aq (AV.b false) <| Aq (AV.b false) <| Ad <| Rt ?_
 have hM : m_a8 s' edge = false := by simp only [m_a8, c_1, sbt]
 refine ⟨Or.inr rfl, ?_⟩
 rw [hM]
 exact Ec
 refine Ay <| Aq (AV.i .i64 edge) <| Ay <| Aq (AV.b (decide ((0 : Int) ≤ edge))) <| Aq (AV.b (decide ((0 : Int) ≤ edge))) <| Aq (AV.b (decide ((0 : Int) ≤ edge))) ?_
 cases c_2 : decide ((0 : Int) ≤ edge)
 have k_2 := of_decide_eq_false c_2
 refine An <| An <| An <| An <| An <| An <| An <| An <| Aq (AV.b false) <| Aq (AV.b false) <| Ad <| Rt ?_
 have hM : m_a8 s' edge = false := by simp only [m_a8, c_1, c_2, sbt]
 refine ⟨Or.inr rfl, ?_⟩
 rw [hM]
 exact Ec
 have k_2 := of_decide_eq_true c_2
 refine Ay <| Aq (AV.i .i64 edge) <| Ay <| Aq (AV.pt (DState.av s').cells) <| Ay <| Aq (AV.pt (DState.av s').cells) <| Ay <| Aq (AV.pt ((DState.av s').cells.drop 0)) <| Ay <| Aq (AV.pt ((DState.av s').cells.drop 0)) <| Ay <| Aq ((slA 7 DEdge.av) s'.graph.edges) <| Ay <| Ap (Ai s'.graph.edges.length) (g_len (k := 7) (nl := false) (e := 76) (A := DEdge.av) (xs := s'.graph.edges) kr kr) <| Ay <| Aq (AV.b (decide (edge < ((s'.graph.edges.length : Nat) : Int)))) <| Aq (AV.b (decide (edge < ((s'.graph.edges.length : Nat) : Int)))) <| Aq (AV.b (decide (edge < ((s'.graph.edges.length : Nat) : Int)))) <| Ad <| Rt ?_
 have hM : m_a8 s' edge = decide (edge < ((s'.graph.edges.length : Nat) : Int)) := by simp only [m_a8, c_1, c_2, sbt]
 refine ⟨Or.inr rfl, ?_⟩
 rw [hM]
 exact Ec
theorem w_pool_Room (W : World) {m0 : Int} (hW : W.cell? ⟨0, 0, none⟩ = some (.int .i64 m0)) (s' : DState) (edge : Int) (hz : s'.sz ≤ 1048576) (ht : ThereP s' edge) : PureAt Go.Proofs.Tryz.prog W 90 [(AV.pt (DState.av s').cells), (AV.i .i64 edge)] (AV.b (m_bq s' edge)) [] := by
 have hzg := s'.sz_graph
 obtain ⟨ht1, ht2, ht3, ht4, ht5⟩ := ht
 refine pure_of_bodyC (fn := Go.Proofs.Tryz.f90) Go.Proofs.Tryz.func90 rfl (en90 W) (ts := [4]) rfl le <| Sq <| Rg <| Aq (AV.b false) <| Ad <| Sq <| Rg <| Aq (AV.i .i64 (0 : Int)) <| Aq (AV.i .i64 (0 : Int)) <| Ad <| Sq <| Rg <| Aq (AV.pt (DState.av s').cells) <| Aq (AV.pt (DState.av s').cells) <| Aq (AV.pt ((DState.av s').cells.drop 0)) <| Aq (AV.pt ((DState.av s').cells.drop 0)) <| Aq ((slA 7 DEdge.av) s'.graph.edges) <| Aq (AV.i .i64 edge) <| Ap (AV.pt (DEdge.av (s'.graph.edges.getD edge.toNat default)).cells) (g_idxI (k := 7) (nl := false) (e := 76) (kk := .i64) (A := DEdge.av) (xs := s'.graph.edges) (n := edge) kr kr kr ⟨by kernel_rfl, by decide⟩ sd (getD_some sd)) <| Aq (AV.pt ((DEdge.av (s'.graph.edges.getD edge.toNat default)).cells.drop 6)) <| Aq (AV.s ((s'.graph.edges.getD edge.toNat default).pool)) <| Aq (AV.s ((s'.graph.edges.getD edge.toNat default).pool)) <| Ad <| Sq <| Sq <| Rg <| Aq (AV.pt (DState.av s').cells) <| Aq (AV.pt (DState.av s').cells) <| Aq (AV.pt ((DState.av s').cells.drop 10)) <| Aq ((slA 1 (AV.i .i64)) s'.status) <| Ap (Ai s'.status.length) (g_len (k := 1) (nl := false) (e := 3) (A := (AV.i .i64)) (xs := s'.status) kr kr) <| Aq (AV.i .i64 (0 : Int)) <| Ad <| Awp.block <| Awp.lim 22 (x := ((slA 1 (AV.i .i64)) s'.status)) kr fun hlm1 => ?_
 have hB1 : s'.status.length ≤ 281474976710656 := lim_slA hlm1
 obtain ⟨R1, hR1⟩ : ∃ R, m_bj s' edge s'.status 0 0 0 = R := ⟨_, rfl⟩
 refine Awp.loopT (fun ((all, own, v24) : Nat × Nat × Nat) => [(0, (AV.pt (DState.av s').cells)), (7, (AV.s ((s'.graph.edges.getD edge.toNat default).pool))), (22, ((slA 1 (AV.i .i64)) s'.status)), (23, (Ai s'.status.length)), (5, (Ai all)), (6, (Ai own)), (24, (Ai v24))]) (fun ((all, own, v24) : Nat × Nat × Nat) => ⟨0, []⟩) (fun ((all, own, v24) : Nat × Nat × Nat) => v24 ≤ s'.status.length ∧ all ≤ v24 ∧ own ≤ v24 ∧ m_bj s' edge (s'.status.drop v24) v24 all own = R1) (fun ((all, own, v24) : Nat × Nat × Nat) => s'.status.length - v24) (0, 0, 0) ?_ ?_ ?_
 exact ⟨[], ⟨by decide, rfl, FitsObjs.nil, (Ee (Ee (Ee (Ee (Ee (Ee (Ee EntE.nil)))))))⟩, keep0⟩
 exact ⟨od, sdd, sdd, hR1⟩
 rintro ⟨all, own, v24⟩ ⟨hi1, ha, ho, hE1⟩
 try dsimp only
 refine Sq <| Rg <| Aq (AV.b (decide (((v24 : Nat) : Int) < ((s'.status.length : Nat) : Int)))) <| Ad <| Sq ?_
 rcases Nat.lt_or_ge v24 s'.status.length with hl1 | hl1
 have hc1 : decide (((v24 : Nat) : Int) < ((s'.status.length : Nat) : Int)) = true := decide_eq_true (by omega)
 refine Awp.cond (t := true) (by rw [← hc1] <;> kernel_rfl) (Awp.skip ?_)
 obtain ⟨x1, hx1⟩ : ∃ x, s'.status[v24]? = some x := ⟨_, List.getElem?_eq_getElem hl1⟩
 rw [drop_at hx1, m_bj.eq_2] at hE1
 refine Sq <| Awp.block <| Sq <| Rg <| Aq (Ai v24) <| Ap (AV.pt ((AV.i .i64) x1).cells) (g_idx (k := 1) (nl := false) (e := 3) (kk := .i64) (A := (AV.i .i64)) (xs := s'.status) (i := v24) kr kr kr ⟨by kernel_rfl, by decide⟩ hx1) <| Aq (AV.i .i64 x1) <| Aq (Ai v24) <| Aq (AV.i .i64 x1) <| Ad <| Sq <| Sq <| Rg <| Aq (AV.i .i64 x1) <| Aq (AV.b (!decide (x1 = (2 : Int)))) <| Ad ?_
 cases c_1 : (!decide (x1 = (2 : Int)))
 have k_1 := nde c_1
 refine Cf <| Awp.skip <| Sq <| Rg <| Aq (Ai all) <| Ap (Ai (all + 1)) (g_addN (i := all) (m := 1) kr kr sd) <| Aq (Ai (all + 1)) <| Ad <| Sq <| Rg <| Aq (AV.pt (DState.av s').cells) <| Aq (AV.pt (DState.av s').cells) <| Aq (AV.pt ((DState.av s').cells.drop 0)) <| Aq (AV.pt ((DState.av s').cells.drop 0)) <| Aq ((slA 7 DEdge.av) s'.graph.edges) <| Aq (Ai v24) <| Ap (AV.pt (DEdge.av (s'.graph.edges.getD v24 default)).cells) (g_idx (k := 7) (nl := false) (e := 76) (kk := .i64) (A := DEdge.av) (xs := s'.graph.edges) (i := v24) kr kr kr ⟨by kernel_rfl, by decide⟩ (getD_some sd)) <| Aq (AV.pt ((DEdge.av (s'.graph.edges.getD v24 default)).cells.drop 6)) <| Aq (AV.s ((s'.graph.edges.getD v24 default).pool)) <| Aq (AV.s ((s'.graph.edges.getD edge.toNat default).pool)) <| Aq (AV.b (decide ((s'.graph.edges.getD v24 default).pool = (s'.graph.edges.getD edge.toNat default).pool))) <| Ad ?_
 cases c_2 : decide ((s'.graph.edges.getD v24 default).pool = (s'.graph.edges.getD edge.toNat default).pool)
 have k_2 := of_decide_eq_false c_2
 refine Cf <| Awp.skip <| Rg <| Ap (Ai (v24 + 1)) (g_addN (i := v24) (m := 1) kr kr sd) <| Aq (Ai (v24 + 1)) <| Ad ?_
 try simp only [c_1, c_2, sbt] at hE1
 refine ⟨(all + 1, own, v24 + 1), od, ⟨od, sdd, sdd, hE1⟩, ?_⟩
 exact ⟨[], ⟨by decide, rfl, FitsObjs.nil, (Ee (Ee (Ee (Ee (Ee (Ee (Ee EntE.nil)))))))⟩, keep0⟩
 have k_2 := of_decide_eq_true c_2
 refine Ct <| Rg <| Aq (Ai own) <| Ap (Ai (own + 1)) (g_addN (i := own) (m := 1) kr kr sd) <| Aq (Ai (own + 1)) <| Ad <| Rg <| Ap (Ai (v24 + 1)) (g_addN (i := v24) (m := 1) kr kr sd) <| Aq (Ai (v24 + 1)) <| Ad ?_
 try simp only [c_1, c_2, sbt] at hE1
 refine ⟨(all + 1, own + 1, v24 + 1), od, ⟨od, sdd, sdd, hE1⟩, ?_⟩
 exact ⟨[], ⟨by decide, rfl, FitsObjs.nil, (Ee (Ee (Ee (Ee (Ee (Ee (Ee EntE.nil)))))))⟩, keep0⟩
 have k_1 := ndt c_1
 refine Ct <| Awp.exit <| Rg <| Ap (Ai (v24 + 1)) (g_addN (i := v24) (m := 1) kr kr sd) <| Aq (Ai (v24 + 1)) <| Ad ?_
 try simp only [c_1, sbt] at hE1
 refine ⟨(all, own, v24 + 1), od, ⟨od, sdd, sdd, hE1⟩, ?_⟩
 exact ⟨[], ⟨by decide, rfl, FitsObjs.nil, (Ee (Ee (Ee (Ee (Ee (Ee (Ee EntE.nil)))))))⟩, keep0⟩
 have hc1 : decide (((v24 : Nat) : Int) < ((s'.status.length : Nat) : Int)) = false := decide_eq_false (by omega)
 refine Awp.cond (t := false) (by rw [← hc1] <;> kernel_rfl) (Awp.exit ?_)
 rw [List.drop_eq_nil_of_le (hl1), m_bj.eq_1] at hE1
 subst hE1
 refine Sq <| Awp.drawn tabS_ok mixed 24 kr le <| Dq (Ai all) <| Dq (AV.pt (DState.av s').cells) <| Dq (AV.pt (DState.av s').cells) <| Dq (AV.pt ((DState.av s').cells.drop 8)) <| Dq (AV.i .i64 s'.jobs) <| Dq (AV.b (decide (((all : Nat) : Int) < s'.jobs))) <| Dq (AV.b (decide (((all : Nat) : Int) < s'.jobs))) ?_
 cases c_3 : decide (((all : Nat) : Int) < s'.jobs)
 have k_3 := of_decide_eq_false c_3
 refine Dn <| Dn <| Dn <| Dn <| Dn <| Dn <| Dn <| Dn <| Dn <| Dn <| Dn <| Dn <| Dn <| Dn <| Dn <| Dn <| Dn <| Dn <| Dn <| Dq (AV.b false) <| Dq (AV.b false) <| AOpsD.fin <| Rt ?_
 have hM : m_bq s' edge = false := by simp only [m_bq, hR1, c_3, sbt]
 refine ⟨Or.inr rfl, ?_⟩
 rw [hM]
 exact Ec
 have k_3 := of_decide_eq_true c_3
 refine Dy <| Dq (AV.s ((s'.graph.edges.getD edge.toNat default).pool)) <| Dy <| Dq (AV.b (decide ((s'.graph.edges.getD edge.toNat default).pool = (⟨#[]⟩ : ByteArray)))) <| Dy <| Dq (AV.b (decide ((s'.graph.edges.getD edge.toNat default).pool = (⟨#[]⟩ : ByteArray)))) ?_
 cases c_4 : decide ((s'.graph.edges.getD edge.toNat default).pool = (⟨#[]⟩ : ByteArray))
 have k_4 := of_decide_eq_false c_4
 have q_4 := pool_ok (ht5 (of_decide_eq_false c_4))
 refine Dy <| Dq (Ai own) <| Dy <| Dq (AV.pt (DState.av s').cells) <| Dy <| Dq (AV.pt (DState.av s').cells) <| Dy <| Dq (AV.pt ((DState.av s').cells.drop 0)) <| Dy <| Dq (AV.pt ((DState.av s').cells.drop 1)) <| Dy <| Dq ((slA 2 DPool.av) s'.graph.pools) <| Dy <| Dq (AV.pt (DState.av s').cells) <| Dy <| Dq (AV.pt (DState.av s').cells) <| Dy <| Dq (AV.pt ((DState.av s').cells.drop 0)) <| Dy <| Dq (AV.s ((s'.graph.edges.getD edge.toNat default).pool)) <| Dy <| AOpsD.sc0 (vs := [(AV.pt ((DState.av s').cells.drop 0)), (AV.s ((s'.graph.edges.getD edge.toNat default).pool))]) (r0 := (AV.i .i64 (m_bf s'.graph ((s'.graph.edges.getD edge.toNat default).pool)))) kr kr ((w_graph_Pool W s'.graph ((s'.graph.edges.getD edge.toNat default).pool)).wk ⟨WeakC.ptK 3 kr, ⟨WeakC.refl _, trivial⟩⟩) kr le <| Dy <| Dp (AV.pt (DPool.av (s'.graph.pools.getD (m_bf s'.graph ((s'.graph.edges.getD edge.toNat default).pool)).toNat default)).cells) (g_idxI (k := 2) (nl := false) (e := 81) (kk := .i64) (A := DPool.av) (xs := s'.graph.pools) (n := (m_bf s'.graph ((s'.graph.edges.getD edge.toNat default).pool))) kr kr kr ⟨by kernel_rfl, by decide⟩ sd (getD_some sd)) <| Dy <| Dq (AV.pt ((DPool.av (s'.graph.pools.getD (m_bf s'.graph ((s'.graph.edges.getD edge.toNat default).pool)).toNat default)).cells.drop 1)) <| Dy <| Dq (AV.i .i64 ((s'.graph.pools.getD (m_bf s'.graph ((s'.graph.edges.getD edge.toNat default).pool)).toNat default).depth)) <| Dy <| Dq (AV.b (decide (((own : Nat) : Int) < (s'.graph.pools.getD (m_bf s'.graph ((s'.graph.edges.getD edge.toNat default).pool)).toNat default).depth))) ?_
 refine Dy <| Dq (AV.b (decide (((own : Nat) : Int) < (s'.graph.pools.getD (m_bf s'.graph ((s'.graph.edges.getD edge.toNat default).pool)).toNat default).depth))) <| Dq (AV.b (decide (((own : Nat) : Int) < (s'.graph.pools.getD (m_bf s'.graph ((s'.graph.edges.getD edge.toNat default).pool)).toNat default).depth))) <| Dq (AV.b (decide (((own : Nat) : Int) < (s'.graph.pools.getD (m_bf s'.graph ((s'.graph.edges.getD edge.toNat default).pool)).toNat default).depth))) <| AOpsD.fin <| Rt ?_
 have hM : m_bq s' edge = decide (((own : Nat) : Int) < (s'.graph.pools.getD (m_bf s'.graph ((s'.graph.edges.getD edge.toNat default).pool)).toNat default).depth) := by simp only [m_bq, hR1, c_3, c_4, sbt]
 refine ⟨Or.inr rfl, ?_⟩
 rw [hM]
 exact Ec
 have k_4 := of_decide_eq_true c_4
 refine Dn <| Dn <| Dn <| Dn <| Dn <| Dn <| Dn <| Dn <| Dn <| Dn <| Dn <| Dn <| Dn <| Dn <| Dn <| Dy <| Dq (AV.b true) <| Dq (AV.b true) <| Dq (AV.b true) <| AOpsD.fin <| Rt ?_
 have hM : m_bq s' edge = true := by simp only [m_bq, hR1, c_3, c_4, sbt]
 refine ⟨Or.inr rfl, ?_⟩
 rw [hM]
 exact Ec
theorem w_pool_May (W : World) {m0 : Int} (hW : W.cell? ⟨0, 0, none⟩ = some (.int .i64 m0)) (s' : DState) (edge : Int) (hz : s'.sz ≤ 1048576) : PureAt Go.Proofs.Tryz.prog W 45 [(DState.av s'), (AV.i .i64 edge)] (AV.tup [(AV.b ((m_c s' edge).1)), (AV.i .i64 ((m_c s' edge).2))]) [] := by
 refine pure_of_bodyC (fn := Go.Proofs.Tryz.f45) Go.Proofs.Tryz.func45 rfl (en45 W) (ts := [4, 5]) rfl le <| Sq <| Rg <| Nn (AV.loc 0 0 0) ⟨64, 11, [(DState.av s')]⟩ <| Aq (AV.b false) <| Aq (AV.i .i64 (0 : Int)) <| Ad <| Sq <| Sq <| Rg <| Aq (AV.i .i64 edge) <| AOps.sfw (vs := [(AV.loc 0 0 0), (AV.i .i64 edge)]) (ss := [(AV.pt (DState.av s').cells), (AV.i .i64 edge)]) (r0 := (AV.b (m_a8 s' edge))) kr (show SnapW _ _ _ from ⟨(EntK.w (EntK.cast (x' := (AV.loc 0 0 0)) kr kr (EntK.loc (id := 0) (j := 0) (o := 0) (ob := ⟨64, 11, [(DState.av s')]⟩) (x := (DState.av s')) rfl rfl rfl (EntKs.cons (EntK.cr (x := ((slA 7 DEdge.av) s'.graph.edges)) kr) (EntKs.cons (EntK.cr (x := ((slA 2 DPool.av) s'.graph.pools)) kr) (EntKs.cons (EntK.cr (x := ((slA 1 AV.s) s'.graph.defaults)) kr) (EntKs.cons (EntK.cr (x := ((slA 3 DAction.av) s'.actions)) kr) (EntKs.cons (EntK.cr (x := (AV.i .i64 s'.disk.clock)) kr) (EntKs.cons (EntK.cr (x := ((slA 3 DFile.av) s'.disk.files)) kr) (EntKs.cons (EntK.cr (x := ((slA 3 DRecord.av) s'.log)) kr) (EntKs.cons (EntK.cr (x := ((slA 3 DFound.av) s'.deps)) kr) (EntKs.cons (EntK.cr (x := (AV.i .i64 s'.jobs)) kr) (EntKs.cons (EntK.cr (x := (AV.b s'.going)) kr) (EntKs.cons (EntK.cr (x := ((slA 1 (AV.i .i64)) s'.status)) kr) EntKs.nil)))))))))))))), ⟨(SnapW.e kr), trivial⟩⟩) (w_ready_There W hW s' edge sd) rfl kr le <| Aq (AV.b (!(m_a8 s' edge))) <| Ad ?_
 cases c_1 : (!(m_a8 s' edge))
 have q_1 := there_ok c_1
 refine Cf <| Awp.skip <| Sq <| Rg <| Aq (AV.i .i64 edge) <| AOps.sfw (vs := [(AV.loc 0 0 0), (AV.i .i64 edge)]) (ss := [(AV.pt (DState.av s').cells), (AV.i .i64 edge)]) (r0 := (AV.b (m_bq s' edge))) kr (show SnapW _ _ _ from ⟨(EntK.w (EntK.cast (x' := (AV.loc 0 0 0)) kr kr (EntK.loc (id := 0) (j := 0) (o := 0) (ob := ⟨64, 11, [(DState.av s')]⟩) (x := (DState.av s')) rfl rfl rfl (EntKs.cons (EntK.cr (x := ((slA 7 DEdge.av) s'.graph.edges)) kr) (EntKs.cons (EntK.cr (x := ((slA 2 DPool.av) s'.graph.pools)) kr) (EntKs.cons (EntK.cr (x := ((slA 1 AV.s) s'.graph.defaults)) kr) (EntKs.cons (EntK.cr (x := ((slA 3 DAction.av) s'.actions)) kr) (EntKs.cons (EntK.cr (x := (AV.i .i64 s'.disk.clock)) kr) (EntKs.cons (EntK.cr (x := ((slA 3 DFile.av) s'.disk.files)) kr) (EntKs.cons (EntK.cr (x := ((slA 3 DRecord.av) s'.log)) kr) (EntKs.cons (EntK.cr (x := ((slA 3 DFound.av) s'.deps)) kr) (EntKs.cons (EntK.cr (x := (AV.i .i64 s'.jobs)) kr) (EntKs.cons (EntK.cr (x := (AV.b s'.going)) kr) (EntKs.cons (EntK.cr (x := ((slA 1 (AV.i .i64)) s'.status)) kr) EntKs.nil)))))))))))))), ⟨(SnapW.e kr), trivial⟩⟩) (w_pool_Room W hW s' edge hz (by assumption)) rfl kr le <| Aq (AV.b (m_bq s' edge)) <| Aq (AV.i .i64 (0 : Int)) <| Ad <| Rt ?_
 have hM : m_c s' edge = ((m_bq s' edge), (0 : Int)) := by simp only [m_c, c_1, sbt]
 refine ⟨Or.inr rfl, ?_⟩
 rw [hM]
 exact Ent.cast (x' := (AV.tup [(AV.b (m_bq s' edge)), (AV.i .i64 (0 : Int))])) (y' := (AV.tup [(AV.b (((m_bq s' edge), (0 : Int)).1)), (AV.i .i64 (((m_bq s' edge), (0 : Int)).2))])) kr kr (Ent.tup ⟨Ec, ⟨Ec, trivial⟩⟩ kr)
 refine Ct <| Sq <| Rg <| Aq (AV.b false) <| Aq (AV.i .i64 (2200 : Int)) <| Ad <| Rt ?_
 have hM : m_c s' edge = (false, (2200 : Int)) := by simp only [m_c, c_1, sbt]
 refine ⟨Or.inr rfl, ?_⟩
 rw [hM]
 exact Ent.cast (x' := (AV.tup [(AV.b false), (AV.i .i64 (2200 : Int))])) (y' := (AV.tup [(AV.b ((false, (2200 : Int)).1)), (AV.i .i64 ((false, (2200 : Int)).2))])) kr kr (Ent.tup ⟨Ec, ⟨Ec, trivial⟩⟩ kr)
theorem w_ref12_upTo (W : World) (x' : Int) (least : Int) (most' : Int) : PureAt Go.Proofs.Tryz.prog W 83 [(AV.i .i64 x'), (AV.i .i64 least), (AV.i .i64 most')] (AV.b (m_r x' least most')) [] := by
 refine pure_of_bodyC (fn := Go.Proofs.Tryz.f83) Go.Proofs.Tryz.func83 rfl (en83 W) (ts := [6]) rfl le <| Sq <| Rg <| Aq (AV.b false) <| Ad <| Sq <| Rg <| Aq (AV.i .i64 x') <| Aq (AV.i .i64 least) <| Aq (AV.b (decide (least ≤ x'))) <| Aq (AV.b (decide (least ≤ x'))) ?_
 cases c_1 : decide (least ≤ x')
 have k_1 := of_decide_eq_false c_1
 refine An <| An <| An <| Aq (AV.b false) <| Aq (AV.b false) <| Ad <| Rt ?_
 have hM : m_r x' least most' = false := by simp only [m_r, c_1, sbt]
 refine ⟨Or.inr rfl, ?_⟩
 rw [hM]
 exact Ec
 have k_1 := of_decide_eq_true c_1
 refine Ay <| Aq (AV.i .i64 x') <| Ay <| Aq (AV.i .i64 most') <| Ay <| Aq (AV.b (decide (x' ≤ most'))) <| Aq (AV.b (decide (x' ≤ most'))) <| Aq (AV.b (decide (x' ≤ most'))) <| Ad <| Rt ?_
 have hM : m_r x' least most' = decide (x' ≤ most') := by simp only [m_r, c_1, sbt]
 refine ⟨Or.inr rfl, ?_⟩
 rw [hM]
 exact Ec
theorem w_ref12_ActionsMay (W : World) (as' : List DAction) : PureAt Go.Proofs.Tryz.prog W 112 [((slA 3 DAction.av) as')] (AV.b (m_an as')) [] := by
 refine pure_of_bodyC (fn := Go.Proofs.Tryz.f112) Go.Proofs.Tryz.func112 rfl (en112 W) (ts := [2]) rfl le <| Sq <| Rg <| Aq (AV.b false) <| Ad <| Sq <| Sq <| Rg <| Aq (AV.i .i64 (0 : Int)) <| Ad <| Awp.block <| Awp.lim 0 (x := ((slA 3 DAction.av) as')) kr fun hlm1 => ?_
 have hB1 : as'.length ≤ 281474976710656 := lim_slA hlm1
 obtain ⟨R1, hR1⟩ : ∃ R, m_be as' 0 = R := ⟨_, rfl⟩
 refine Awp.loopT (fun (i : Nat) => [(0, ((slA 3 DAction.av) as')), (3, (Ai i))]) (fun (i : Nat) => ⟨0, []⟩) (fun (i : Nat) => i ≤ as'.length ∧ m_be (as'.drop i) i = R1) (fun (i : Nat) => as'.length - i) 0 ?_ ?_ ?_
 exact ⟨[], ⟨by decide, rfl, FitsObjs.nil, (Ee (Ee EntE.nil))⟩, keep0⟩
 exact ⟨od, hR1⟩
 rintro i ⟨hi1, hE1⟩
 try dsimp only
 refine Sq <| Sq <| Rg <| Aq (Ai i) <| Aq ((slA 3 DAction.av) as') <| Ap (Ai as'.length) (g_len (k := 3) (nl := false) (e := 121) (A := DAction.av) (xs := as') kr kr) <| Aq (AV.b (decide (((i : Nat) : Int) < ((as'.length : Nat) : Int)))) <| Ad ?_
 rcases Nat.lt_or_ge i as'.length with hl1 | hl1
 have hc1 : decide (((i : Nat) : Int) < ((as'.length : Nat) : Int)) = true := decide_eq_true (by omega)
 refine Awp.cond (t := true) (by rw [← hc1] <;> kernel_rfl) (Awp.skip ?_)
 obtain ⟨x1, hx1⟩ : ∃ x, as'[i]? = some x := ⟨_, List.getElem?_eq_getElem hl1⟩
 rw [drop_at hx1, m_be.eq_2] at hE1
 refine Sq <| Awp.block <| Sq <| Rg <| Aq ((slA 3 DAction.av) as') <| Aq (Ai i) <| Ap (AV.pt (DAction.av x1).cells) (g_idx (k := 3) (nl := false) (e := 121) (kk := .i64) (A := DAction.av) (xs := as') (i := i) kr kr kr ⟨by kernel_rfl, by decide⟩ hx1) <| Aq (AV.pt ((DAction.av x1).cells.drop 0)) <| Aq (AV.s x1.command) <| AOps.sc0 (vs := [(AV.s x1.command), (AV.i .i64 (1 : Int)), (AV.i .i64 (256 : Int))]) (r0 := (AV.b (m_ai x1.command (1 : Int) (256 : Int)))) kr kr (w_ref1_Plain W x1.command (1 : Int) (256 : Int)) kr le <| Aq (AV.b (!(m_ai x1.command (1 : Int) (256 : Int)))) <| Aq (AV.b (!(m_ai x1.command (1 : Int) (256 : Int)))) ?_
 cases c_1 : (!(m_ai x1.command (1 : Int) (256 : Int)))
 refine Ay <| Aq ((slA 3 DAction.av) as') <| Ay <| Aq (Ai i) <| Ay <| Ap (AV.pt (DAction.av x1).cells) (g_idx (k := 3) (nl := false) (e := 121) (kk := .i64) (A := DAction.av) (xs := as') (i := i) kr kr kr ⟨by kernel_rfl, by decide⟩ hx1) <| Ay <| Aq (AV.pt ((DAction.av x1).cells.drop 1)) <| Ay <| Aq ((slA 1 AV.s) x1.reads) <| Ay <| AOps.sc0 (vs := [((slA 1 AV.s) x1.reads)]) (r0 := (AV.b (m_g x1.reads))) kr kr (w_ref1_PathsMay W x1.reads) kr le <| Ay <| Aq (AV.b (!(m_g x1.reads))) <| Aq (AV.b (!(m_g x1.reads))) <| Ad ?_
 cases c_2 : (!(m_g x1.reads))
 refine Cf <| Awp.skip <| Rg <| Aq (Ai i) <| Ap (Ai (i + 1)) (g_addN (i := i) (m := 1) kr kr sd) <| Aq (Ai (i + 1)) <| Ad ?_
 try simp only [c_1, c_2, sbt] at hE1
 refine ⟨i + 1, od, ⟨od, hE1⟩, ?_⟩
 exact ⟨[], ⟨by decide, rfl, FitsObjs.nil, (Ee (Ee EntE.nil))⟩, keep0⟩
 refine Ct <| Sq <| Rg <| Aq (AV.b false) <| Ad <| Rt ?_
 try simp only [c_1, c_2, sbt] at hE1
 subst hE1
 have hM : m_an as' = false := by simp only [m_an, hR1, sbt]
 refine ⟨Or.inr rfl, ?_⟩
 rw [hM]
 exact Ec
 refine An <| An <| An <| An <| An <| An <| An <| Aq (AV.b true) <| Ad <| Ct <| Sq <| Rg <| Aq (AV.b false) <| Ad <| Rt ?_
 try simp only [c_1, sbt] at hE1
 subst hE1
 have hM : m_an as' = false := by simp only [m_an, hR1, sbt]
 refine ⟨Or.inr rfl, ?_⟩
 rw [hM]
 exact Ec
 have hc1 : decide (((i : Nat) : Int) < ((as'.length : Nat) : Int)) = false := decide_eq_false (by omega)
 refine Awp.cond (t := false) (by rw [← hc1] <;> kernel_rfl) (Awp.exit ?_)
 rw [List.drop_eq_nil_of_le (hl1), m_be.eq_1] at hE1
 subst hE1
 refine Sq <| Rg <| Aq ((slA 3 DAction.av) as') <| Ap (Ai as'.length) (g_len (k := 3) (nl := false) (e := 121) (A := DAction.av) (xs := as') kr kr) <| Aq (AV.b (decide (((as'.length : Nat) : Int) ≤ (16 : Int)))) <| Aq (AV.b (decide (((as'.length : Nat) : Int) ≤ (16 : Int)))) <| Ad <| Rt ?_
 have hM : m_an as' = decide (((as'.length : Nat) : Int) ≤ (16 : Int)) := by simp only [m_an, hR1, sbt]
 refine ⟨Or.inr rfl, ?_⟩
 rw [hM]
 exact Ec
theorem w_ref12_DiskMay (W : World) (d : DDisk) : PureAt Go.Proofs.Tryz.prog W 113 [(DDisk.av d)] (AV.b (m_6 d)) [] := by
 refine pure_of_bodyC (fn := Go.Proofs.Tryz.f113) Go.Proofs.Tryz.func113 rfl (en113 W) (ts := [2]) rfl le <| Sq <| Rg <| Nn (AV.loc 0 0 0) ⟨60, 2, [(DDisk.av d)]⟩ <| Aq (AV.b false) <| Ad <| Sq <| Sq <| Rg <| Aq (AV.i .i64 (0 : Int)) <| Ad <| Awp.block <| Awp.lim 0 (x := (DDisk.av d)) kr fun hlm1 => ?_
 have hB1 : d.files.length ≤ 281474976710656 := lim_slA (DDisk.lim_files hlm1)
 obtain ⟨R1, hR1⟩ : ∃ R, m_bb d d.files 0 = R := ⟨_, rfl⟩
 refine Awp.loopT (fun (i : Nat) => [(1, (AV.loc 0 0 0)), (3, (Ai i))]) (fun (i : Nat) => ⟨1, [(0, some ⟨60, 2, [(DDisk.av d)]⟩)]⟩) (fun (i : Nat) => i ≤ d.files.length ∧ m_bb d (d.files.drop i) i = R1) (fun (i : Nat) => d.files.length - i) 0 ?_ ?_ ?_
 exact ⟨[0], ⟨by decide, rfl, (FitsObjs.cons kr FitsObjs.nil), (EntE.cons (Ent.f kr) (Ee EntE.nil))⟩, keep0⟩
 exact ⟨od, hR1⟩
 rintro i ⟨hi1, hE1⟩
 try dsimp only
 refine Sq <| Sq <| Rg <| Aq (Ai i) <| Aq (AV.loc 0 0 1) <| Aq ((slA 3 DFile.av) d.files) <| Ap (Ai d.files.length) (g_len (k := 3) (nl := false) (e := 119) (A := DFile.av) (xs := d.files) kr kr) <| Aq (AV.b (decide (((i : Nat) : Int) < ((d.files.length : Nat) : Int)))) <| Ad ?_
 rcases Nat.lt_or_ge i d.files.length with hl1 | hl1
 have hc1 : decide (((i : Nat) : Int) < ((d.files.length : Nat) : Int)) = true := decide_eq_true (by omega)
 refine Awp.cond (t := true) (by rw [← hc1] <;> kernel_rfl) (Awp.skip ?_)
 obtain ⟨x1, hx1⟩ : ∃ x, d.files[i]? = some x := ⟨_, List.getElem?_eq_getElem hl1⟩
 rw [drop_at hx1, m_bb.eq_2] at hE1
 refine Sq <| Awp.block <| Sq <| Rg <| Aq (AV.loc 0 0 1) <| Aq ((slA 3 DFile.av) d.files) <| Aq (Ai i) <| Ap (AV.pt (DFile.av x1).cells) (g_idx (k := 3) (nl := false) (e := 119) (kk := .i64) (A := DFile.av) (xs := d.files) (i := i) kr kr kr ⟨by kernel_rfl, by decide⟩ hx1) <| Aq (DFile.av x1) <| Nn (AV.loc 1 0 0) ⟨119, 3, [(AV.st [(AV.s (⟨#[]⟩ : ByteArray)), (AV.i .i64 (0 : Int)), (AV.i .i64 (0 : Int))])]⟩ <| Sp 1 ⟨119, 3, [(AV.st [(AV.s x1.name), (AV.i .i64 x1.content), (AV.i .i64 x1.time)])]⟩ <| Ad <| Sq <| Sq <| Awp.drawn tabS_ok mixed 31 kr le <| Dq (AV.loc 1 0 0) <| Dq (AV.s x1.name) <| AOpsD.sc0 (vs := [(AV.s x1.name)]) (r0 := (AV.b (m_ad x1.name))) kr kr (w_ref1_PathMay W x1.name) kr le <| Dq (AV.b (!(m_ad x1.name))) <| Dq (AV.b (!(m_ad x1.name))) ?_
 cases c_1 : (!(m_ad x1.name))
 refine Dy <| Dq (AV.loc 1 0 1) <| Dy <| Dq (AV.i .i64 x1.content) <| Dy <| AOpsD.sc0 (vs := [(AV.i .i64 x1.content), (AV.i .i64 (0 : Int)), (AV.i .i64 (2147483647 : Int))]) (r0 := (AV.b (m_r x1.content (0 : Int) (2147483647 : Int)))) kr kr (w_ref12_upTo W x1.content (0 : Int) (2147483647 : Int)) kr le <| Dy <| Dq (AV.b (!(m_r x1.content (0 : Int) (2147483647 : Int)))) <| Dq (AV.b (!(m_r x1.content (0 : Int) (2147483647 : Int)))) <| Dq (AV.b (!(m_r x1.content (0 : Int) (2147483647 : Int)))) ?_
 cases c_2 : (!(m_r x1.content (0 : Int) (2147483647 : Int)))
 refine Dy <| Dq (AV.loc 1 0 2) <| Dy <| Dq (AV.i .i64 x1.time) <| Dy <| Dq (AV.loc 0 0 0) <| Dy <| Dq (AV.i .i64 d.clock) <| Dy <| AOpsD.sc0 (vs := [(AV.i .i64 x1.time), (AV.i .i64 (1 : Int)), (AV.i .i64 d.clock)]) (r0 := (AV.b (m_r x1.time (1 : Int) d.clock))) kr kr (w_ref12_upTo W x1.time (1 : Int) d.clock) kr le <| Dy <| Dq (AV.b (!(m_r x1.time (1 : Int) d.clock))) <| Dq (AV.b (!(m_r x1.time (1 : Int) d.clock))) <| Dq (AV.b (!(m_r x1.time (1 : Int) d.clock))) ?_
 cases c_3 : (!(m_r x1.time (1 : Int) d.clock))
 refine Dy <| Dq (Ai i) <| Dy <| Dq (AV.b (decide ((0 : Int) < ((i : Nat) : Int)))) <| Dy <| Dq (AV.b (decide ((0 : Int) < ((i : Nat) : Int)))) ?_
 cases c_4 : decide ((0 : Int) < ((i : Nat) : Int))
 have k_4 := of_decide_eq_false c_4
 refine Dn <| Dn <| Dn <| Dn <| Dn <| Dn <| Dn <| Dn <| Dn <| Dn <| Dy <| Dq (AV.b false) <| Dq (AV.b false) <| AOpsD.fin <| Cf <| Awp.skip <| Sq <| Rg <| Aq (AV.i .i64 (0 : Int)) <| Ad <| Awp.block ?_
 obtain ⟨R2, hR2⟩ : ∃ R, m_au i d x1 (i - 0 + 1) 0 = R := ⟨_, rfl⟩
 refine Awp.loopT (fun ((kf2, k) : Nat × Nat) => [(1, (AV.loc 0 0 0)), (3, (Ai i)), (4, (AV.loc 1 0 0)), (5, (Ai k))]) (fun ((kf2, k) : Nat × Nat) => ⟨2, [(0, some ⟨60, 2, [(DDisk.av d)]⟩), (1, some ⟨119, 3, [(AV.st [(AV.s x1.name), (AV.i .i64 x1.content), (AV.i .i64 x1.time)])]⟩)]⟩) (fun ((kf2, k) : Nat × Nat) => i - k < kf2 ∧ m_au i d x1 kf2 k = R2) (fun ((kf2, k) : Nat × Nat) => kf2) (i - 0 + 1, 0) ?_ ?_ ?_
 exact ⟨[0, 1], ⟨by decide, rfl, (FitsObjs.cons kr (FitsObjs.cons kr FitsObjs.nil)), (EntE.cons (Ent.f kr) (Ee (EntE.cons (Ent.f kr) (Ee EntE.nil))))⟩, keep0⟩
 exact ⟨od, hR2⟩
 rintro ⟨kf2, k⟩ ⟨hi2, hE2⟩
 try dsimp only
 rcases kf2 with _ | kf2
 exact absurd hi2 (Nat.not_lt_zero _)
 rw [m_au.eq_2] at hE2
 refine Sq <| Sq <| Rg <| Aq (Ai k) <| Aq (Ai i) <| Aq (AV.b (decide (((k : Nat) : Int) < ((i : Nat) : Int)))) <| Ad ?_
 cases c_5 : decide (((k : Nat) : Int) < ((i : Nat) : Int))
 have k_5 := of_decide_eq_false c_5
 refine Cf <| Awp.exit ?_
 try simp only [c_5, sbt] at hE2
 subst hE2
 refine Rg <| Aq (Ai i) <| Ap (Ai (i + 1)) (g_addN (i := i) (m := 1) kr kr sd) <| Aq (Ai (i + 1)) <| Ad ?_
 try simp only [c_1, c_2, c_3, c_4, hR2, sbt] at hE1
 refine ⟨i + 1, od, ⟨od, hE1⟩, ?_⟩
 exact ⟨[0], ⟨by decide, rfl, (FitsObjs.cons kr FitsObjs.nil), (EntE.cons (Ent.f kr) (Ee EntE.nil))⟩, keep0⟩
 have k_5 := of_decide_eq_true c_5
 refine Ct <| Awp.skip <| Sq <| Awp.block <| Sq <| Awp.drawn tabS_ok mixed 8 kr le <| Dq (AV.loc 0 0 1) <| Dq ((slA 3 DFile.av) d.files) <| Dq (Ai k) <| Dp (AV.pt (DFile.av (d.files.getD k default)).cells) (g_idx (k := 3) (nl := false) (e := 119) (kk := .i64) (A := DFile.av) (xs := d.files) (i := k) kr kr kr ⟨by kernel_rfl, by decide⟩ (getD_some sd)) <| Dq (AV.pt ((DFile.av (d.files.getD k default)).cells.drop 2)) <| Dq (AV.i .i64 ((d.files.getD k default).time)) <| Dq (AV.loc 1 0 2) <| Dq (AV.i .i64 x1.time) <| Dq (AV.b (decide ((d.files.getD k default).time = x1.time))) <| AOpsD.fin ?_
 cases c_6 : decide ((d.files.getD k default).time = x1.time)
 have k_6 := of_decide_eq_false c_6
 refine Cf <| Awp.skip <| Rg <| Aq (Ai k) <| Ap (Ai (k + 1)) (g_addN (i := k) (m := 1) kr kr sd) <| Aq (Ai (k + 1)) <| Ad ?_
 try simp only [c_5, c_6, sbt] at hE2
 refine ⟨(kf2, k + 1), od, ⟨sdd, hE2⟩, ?_⟩
 exact ⟨[0, 1], ⟨by decide, rfl, (FitsObjs.cons kr (FitsObjs.cons kr FitsObjs.nil)), (EntE.cons (Ent.f kr) (Ee (EntE.cons (Ent.f kr) (Ee EntE.nil))))⟩, keep0⟩
 have k_6 := of_decide_eq_true c_6
 refine Ct <| Sq <| Rg <| Aq (AV.b false) <| Ad <| Rt ?_
 try simp only [c_5, c_6, sbt] at hE2
 subst hE2
 try simp only [c_1, c_2, c_3, c_4, hR2, sbt] at hE1
 subst hE1
 have hM : m_6 d = false := by simp only [m_6, hR1, sbt]
 refine ⟨Or.inr rfl, ?_⟩
 rw [hM]
 exact Ec
 have k_4 := of_decide_eq_true c_4
 refine Dy <| Dq (AV.loc 0 0 1) <| Dy <| Dq ((slA 3 DFile.av) d.files) <| Dy <| Dq (Ai i) <| Dy <| Dp (AV.i .i64 ((i - 1 : Nat) : Int)) (g_subN (i := i) (m := 1) kr kr sd sd) <| Dy <| Dp (AV.pt (DFile.av (d.files.getD (i - 1) default)).cells) (g_idx (k := 3) (nl := false) (e := 119) (kk := .i64) (A := DFile.av) (xs := d.files) (i := i - 1) kr kr kr ⟨by kernel_rfl, by decide⟩ (getD_some sd)) <| Dy <| Dq (AV.pt ((DFile.av (d.files.getD (i - 1) default)).cells.drop 0)) <| Dy <| Dq (AV.s ((d.files.getD (i - 1) default).name)) <| Dy <| Dq (AV.loc 1 0 0) <| Dy <| Dq (AV.s x1.name) <| Dy <| Dq (AV.b (!Op.bytesLess ((d.files.getD (i - 1) default).name).toList x1.name.toList)) <| Dy <| Dq (AV.b (!Op.bytesLess ((d.files.getD (i - 1) default).name).toList x1.name.toList)) <| Dq (AV.b (!Op.bytesLess ((d.files.getD (i - 1) default).name).toList x1.name.toList)) <| AOpsD.fin ?_
 cases c_7 : (!Op.bytesLess ((d.files.getD (i - 1) default).name).toList x1.name.toList)
 refine Cf <| Awp.skip <| Sq <| Rg <| Aq (AV.i .i64 (0 : Int)) <| Ad <| Awp.block ?_
 obtain ⟨R2, hR2⟩ : ∃ R, m_au i d x1 (i - 0 + 1) 0 = R := ⟨_, rfl⟩
 refine Awp.loopT (fun ((kf2, k2) : Nat × Nat) => [(1, (AV.loc 0 0 0)), (3, (Ai i)), (4, (AV.loc 1 0 0)), (5, (Ai k2))]) (fun ((kf2, k2) : Nat × Nat) => ⟨2, [(0, some ⟨60, 2, [(DDisk.av d)]⟩), (1, some ⟨119, 3, [(AV.st [(AV.s x1.name), (AV.i .i64 x1.content), (AV.i .i64 x1.time)])]⟩)]⟩) (fun ((kf2, k2) : Nat × Nat) => i - k2 < kf2 ∧ m_au i d x1 kf2 k2 = R2) (fun ((kf2, k2) : Nat × Nat) => kf2) (i - 0 + 1, 0) ?_ ?_ ?_
 exact ⟨[0, 1], ⟨by decide, rfl, (FitsObjs.cons kr (FitsObjs.cons kr FitsObjs.nil)), (EntE.cons (Ent.f kr) (Ee (EntE.cons (Ent.f kr) (Ee EntE.nil))))⟩, keep0⟩
 exact ⟨od, hR2⟩
 rintro ⟨kf2, k2⟩ ⟨hi2, hE2⟩
 try dsimp only
 rcases kf2 with _ | kf2
 exact absurd hi2 (Nat.not_lt_zero _)
 rw [m_au.eq_2] at hE2
 refine Sq <| Sq <| Rg <| Aq (Ai k2) <| Aq (Ai i) <| Aq (AV.b (decide (((k2 : Nat) : Int) < ((i : Nat) : Int)))) <| Ad ?_
 cases c_8 : decide (((k2 : Nat) : Int) < ((i : Nat) : Int))
 have k_8 := of_decide_eq_false c_8
 refine Cf <| Awp.exit ?_
 try simp only [c_8, sbt] at hE2
 subst hE2
 refine Rg <| Aq (Ai i) <| Ap (Ai (i + 1)) (g_addN (i := i) (m := 1) kr kr sd) <| Aq (Ai (i + 1)) <| Ad ?_
 try simp only [c_1, c_2, c_3, c_4, c_7, hR2, sbt] at hE1
 refine ⟨i + 1, od, ⟨od, hE1⟩, ?_⟩
 exact ⟨[0], ⟨by decide, rfl, (FitsObjs.cons kr FitsObjs.nil), (EntE.cons (Ent.f kr) (Ee EntE.nil))⟩, keep0⟩
 have k_8 := of_decide_eq_true c_8
 refine Ct <| Awp.skip <| Sq <| Awp.block <| Sq <| Awp.drawn tabS_ok mixed 8 kr le <| Dq (AV.loc 0 0 1) <| Dq ((slA 3 DFile.av) d.files) <| Dq (Ai k2) <| Dp (AV.pt (DFile.av (d.files.getD k2 default)).cells) (g_idx (k := 3) (nl := false) (e := 119) (kk := .i64) (A := DFile.av) (xs := d.files) (i := k2) kr kr kr ⟨by kernel_rfl, by decide⟩ (getD_some sd)) <| Dq (AV.pt ((DFile.av (d.files.getD k2 default)).cells.drop 2)) <| Dq (AV.i .i64 ((d.files.getD k2 default).time)) <| Dq (AV.loc 1 0 2) <| Dq (AV.i .i64 x1.time) <| Dq (AV.b (decide ((d.files.getD k2 default).time = x1.time))) <| AOpsD.fin ?_
 cases c_9 : decide ((d.files.getD k2 default).time = x1.time)
 have k_9 := of_decide_eq_false c_9
 refine Cf <| Awp.skip <| Rg <| Aq (Ai k2) <| Ap (Ai (k2 + 1)) (g_addN (i := k2) (m := 1) kr kr sd) <| Aq (Ai (k2 + 1)) <| Ad ?_
 try simp only [c_8, c_9, sbt] at hE2
 refine ⟨(kf2, k2 + 1), od, ⟨sdd, hE2⟩, ?_⟩
 exact ⟨[0, 1], ⟨by decide, rfl, (FitsObjs.cons kr (FitsObjs.cons kr FitsObjs.nil)), (EntE.cons (Ent.f kr) (Ee (EntE.cons (Ent.f kr) (Ee EntE.nil))))⟩, keep0⟩
 have k_9 := of_decide_eq_true c_9
 refine Ct <| Sq <| Rg <| Aq (AV.b false) <| Ad <| Rt ?_
 try simp only [c_8, c_9, sbt] at hE2
 subst hE2
 try simp only [c_1, c_2, c_3, c_4, c_7, hR2, sbt] at hE1
 subst hE1
 have hM : m_6 d = false := by simp only [m_6, hR1, sbt]
 refine ⟨Or.inr rfl, ?_⟩
 rw [hM]
 exact Ec
 refine Ct <| Sq <| Rg <| Aq (AV.b false) <| Ad <| Rt ?_
 try simp only [c_1, c_2, c_3, c_4, c_7, sbt] at hE1
 subst hE1
 have hM : m_6 d = false := by simp only [m_6, hR1, sbt]
 refine ⟨Or.inr rfl, ?_⟩
 rw [hM]
 exact Ec
 refine Dn <| Dn <| Dn <| Dn <| Dn <| Dn <| Dn <| Dn <| Dn <| Dn <| Dn <| Dn <| Dn <| Dn <| Dq (AV.b true) <| AOpsD.fin <| Ct <| Sq <| Rg <| Aq (AV.b false) <| Ad <| Rt ?_
 try simp only [c_1, c_2, c_3, sbt] at hE1
 subst hE1
 have hM : m_6 d = false := by simp only [m_6, hR1, sbt]
 refine ⟨Or.inr rfl, ?_⟩
 rw [hM]
 exact Ec
 refine Dn <| Dn <| Dn <| Dn <| Dn <| Dn <| Dq (AV.b true) <| Dq (AV.b true) <| Dn <| Dn <| Dn <| Dn <| Dn <| Dn <| Dn <| Dn <| Dn <| Dn <| Dn <| Dn <| Dn <| Dn <| Dq (AV.b true) <| AOpsD.fin <| Ct <| Sq <| Rg <| Aq (AV.b false) <| Ad <| Rt ?_
 try simp only [c_1, c_2, sbt] at hE1
 subst hE1
 have hM : m_6 d = false := by simp only [m_6, hR1, sbt]
 refine ⟨Or.inr rfl, ?_⟩
 rw [hM]
 exact Ec
 refine Dn <| Dn <| Dn <| Dn <| Dq (AV.b true) <| Dq (AV.b true) <| Dn <| Dn <| Dn <| Dn <| Dn <| Dn <| Dq (AV.b true) <| Dq (AV.b true) <| Dn <| Dn <| Dn <| Dn <| Dn <| Dn <| Dn <| Dn <| Dn <| Dn <| Dn <| Dn <| Dn <| Dn <| Dq (AV.b true) <| AOpsD.fin <| Ct <| Sq <| Rg <| Aq (AV.b false) <| Ad <| Rt ?_
 try simp only [c_1, sbt] at hE1
 subst hE1
 have hM : m_6 d = false := by simp only [m_6, hR1, sbt]
 refine ⟨Or.inr rfl, ?_⟩
 rw [hM]
 exact Ec
 have hc1 : decide (((i : Nat) : Int) < ((d.files.length : Nat) : Int)) = false := decide_eq_false (by omega)
 refine Awp.cond (t := false) (by rw [← hc1] <;> kernel_rfl) (Awp.exit ?_)
 rw [List.drop_eq_nil_of_le (hl1), m_bb.eq_1] at hE1
 subst hE1
 refine Sq <| Rg <| Aq (AV.loc 0 0 0) <| Aq (AV.i .i64 d.clock) <| AOps.sc0 (vs := [(AV.i .i64 d.clock), (AV.i .i64 (0 : Int)), (AV.i .i64 (1048576 : Int))]) (r0 := (AV.b (m_r d.clock (0 : Int) (1048576 : Int)))) kr kr (w_ref12_upTo W d.clock (0 : Int) (1048576 : Int)) kr le <| Aq (AV.b (m_r d.clock (0 : Int) (1048576 : Int))) ?_
 cases c_10 : (m_r d.clock (0 : Int) (1048576 : Int))
 refine An <| An <| An <| An <| Aq (AV.b false) <| Aq (AV.b false) <| Ad <| Rt ?_
 have hM : m_6 d = false := by simp only [m_6, hR1, c_10, sbt]
 refine ⟨Or.inr rfl, ?_⟩
 rw [hM]
 exact Ec
 refine Ay <| Aq (AV.loc 0 0 1) <| Ay <| Aq ((slA 3 DFile.av) d.files) <| Ay <| Ap (Ai d.files.length) (g_len (k := 3) (nl := false) (e := 119) (A := DFile.av) (xs := d.files) kr kr) <| Ay <| Aq (AV.b (decide (((d.files.length : Nat) : Int) ≤ (64 : Int)))) <| Aq (AV.b (decide (((d.files.length : Nat) : Int) ≤ (64 : Int)))) <| Aq (AV.b (decide (((d.files.length : Nat) : Int) ≤ (64 : Int)))) <| Ad <| Rt ?_
 have hM : m_6 d = decide (((d.files.length : Nat) : Int) ≤ (64 : Int)) := by simp only [m_6, hR1, c_10, sbt]
 refine ⟨Or.inr rfl, ?_⟩
 rw [hM]
 exact Ec
theorem w_ref12_RecordMay (W : World) (r : DRecord) : PureAt Go.Proofs.Tryz.prog W 137 [(DRecord.av r)] (AV.b (m_av r)) [] := by
 refine pure_of_bodyC (fn := Go.Proofs.Tryz.f137) Go.Proofs.Tryz.func137 rfl (en137 W) (ts := [2]) rfl le <| Sq <| Rg <| Nn (AV.loc 0 0 0) ⟨138, 3, [(DRecord.av r)]⟩ <| Aq (AV.b false) <| Ad <| Sq <| Rg <| Aq (AV.loc 0 0 0) <| Aq (AV.s r.out) <| AOps.sc0 (vs := [(AV.s r.out)]) (r0 := (AV.b (m_ad r.out))) kr kr (w_ref1_PathMay W r.out) kr le <| Aq (AV.b (m_ad r.out)) ?_
 cases c_1 : (m_ad r.out)
 refine An <| An <| An <| Aq (AV.b false) <| Aq (AV.b false) <| An <| An <| An <| Aq (AV.b false) <| Aq (AV.b false) <| Ad <| Rt ?_
 have hM : m_av r = false := by simp only [m_av, c_1, sbt]
 refine ⟨Or.inr rfl, ?_⟩
 rw [hM]
 exact Ec
 refine Ay <| Aq (AV.loc 0 0 1) <| Ay <| Aq (AV.i .i64 r.time) <| Ay <| AOps.sc0 (vs := [(AV.i .i64 r.time), (AV.i .i64 (1 : Int)), (AV.i .i64 (1048576 : Int))]) (r0 := (AV.b (m_r r.time (1 : Int) (1048576 : Int)))) kr kr (w_ref12_upTo W r.time (1 : Int) (1048576 : Int)) kr le <| Aq (AV.b (m_r r.time (1 : Int) (1048576 : Int))) <| Aq (AV.b (m_r r.time (1 : Int) (1048576 : Int))) ?_
 cases c_2 : (m_r r.time (1 : Int) (1048576 : Int))
 refine An <| An <| An <| Aq (AV.b false) <| Aq (AV.b false) <| Ad <| Rt ?_
 have hM : m_av r = false := by simp only [m_av, c_1, c_2, sbt]
 refine ⟨Or.inr rfl, ?_⟩
 rw [hM]
 exact Ec
 refine Ay <| Aq (AV.loc 0 0 2) <| Ay <| Aq (AV.s r.sign) <| Ay <| AOps.sc0 (vs := [(AV.s r.sign), (AV.i .i64 (1 : Int)), (AV.i .i64 (2048 : Int))]) (r0 := (AV.b (m_ai r.sign (1 : Int) (2048 : Int)))) kr kr (w_ref1_Plain W r.sign (1 : Int) (2048 : Int)) kr le <| Aq (AV.b (m_ai r.sign (1 : Int) (2048 : Int))) <| Aq (AV.b (m_ai r.sign (1 : Int) (2048 : Int))) <| Ad <| Rt ?_
 have hM : m_av r = (m_ai r.sign (1 : Int) (2048 : Int)) := by simp only [m_av, c_1, c_2, sbt]
 refine ⟨Or.inr rfl, ?_⟩
 rw [hM]
 exact Ec
theorem w_ref12_LogMay (W : World) (rs : List DRecord) : PureAt Go.Proofs.Tryz.prog W 114 [((slA 3 DRecord.av) rs)] (AV.b (m_bt rs)) [] := by
 refine pure_of_bodyC (fn := Go.Proofs.Tryz.f114) Go.Proofs.Tryz.func114 rfl (en114 W) (ts := [2]) rfl le <| Sq <| Rg <| Aq (AV.b false) <| Ad <| Sq <| Sq <| Rg <| Aq (AV.i .i64 (0 : Int)) <| Ad <| Awp.block <| Awp.lim 0 (x := ((slA 3 DRecord.av) rs)) kr fun hlm1 => ?_
 have hB1 : rs.length ≤ 281474976710656 := lim_slA hlm1
 obtain ⟨R1, hR1⟩ : ∃ R, m_b2 rs 0 = R := ⟨_, rfl⟩
 refine Awp.loopT (fun (i : Nat) => [(0, ((slA 3 DRecord.av) rs)), (3, (Ai i))]) (fun (i : Nat) => ⟨0, []⟩) (fun (i : Nat) => i ≤ rs.length ∧ m_b2 (rs.drop i) i = R1) (fun (i : Nat) => rs.length - i) 0 ?_ ?_ ?_
 exact ⟨[], ⟨by decide, rfl, FitsObjs.nil, (Ee (Ee EntE.nil))⟩, keep0⟩
 exact ⟨od, hR1⟩
 rintro i ⟨hi1, hE1⟩
 try dsimp only
 refine Sq <| Sq <| Rg <| Aq (Ai i) <| Aq ((slA 3 DRecord.av) rs) <| Ap (Ai rs.length) (g_len (k := 3) (nl := false) (e := 138) (A := DRecord.av) (xs := rs) kr kr) <| Aq (AV.b (decide (((i : Nat) : Int) < ((rs.length : Nat) : Int)))) <| Ad ?_
 rcases Nat.lt_or_ge i rs.length with hl1 | hl1
 have hc1 : decide (((i : Nat) : Int) < ((rs.length : Nat) : Int)) = true := decide_eq_true (by omega)
 refine Awp.cond (t := true) (by rw [← hc1] <;> kernel_rfl) (Awp.skip ?_)
 obtain ⟨x1, hx1⟩ : ∃ x, rs[i]? = some x := ⟨_, List.getElem?_eq_getElem hl1⟩
 rw [drop_at hx1, m_b2.eq_2] at hE1
 refine Sq <| Awp.block <| Sq <| Rg <| Aq ((slA 3 DRecord.av) rs) <| Aq (Ai i) <| Ap (AV.pt (DRecord.av x1).cells) (g_idx (k := 3) (nl := false) (e := 138) (kk := .i64) (A := DRecord.av) (xs := rs) (i := i) kr kr kr ⟨by kernel_rfl, by decide⟩ hx1) <| Aq (DRecord.av x1) <| AOps.sc0 (vs := [(DRecord.av x1)]) (r0 := (AV.b (m_av x1))) kr kr (w_ref12_RecordMay W x1) kr le <| Aq (AV.b (!(m_av x1))) <| Ad ?_
 cases c_1 : (!(m_av x1))
 refine Cf <| Awp.skip <| Rg <| Aq (Ai i) <| Ap (Ai (i + 1)) (g_addN (i := i) (m := 1) kr kr sd) <| Aq (Ai (i + 1)) <| Ad ?_
 try simp only [c_1, sbt] at hE1
 refine ⟨i + 1, od, ⟨od, hE1⟩, ?_⟩
 exact ⟨[], ⟨by decide, rfl, FitsObjs.nil, (Ee (Ee EntE.nil))⟩, keep0⟩
 refine Ct <| Sq <| Rg <| Aq (AV.b false) <| Ad <| Rt ?_
 try simp only [c_1, sbt] at hE1
 subst hE1
 have hM : m_bt rs = false := by simp only [m_bt, hR1, sbt]
 refine ⟨Or.inr rfl, ?_⟩
 rw [hM]
 exact Ec
 have hc1 : decide (((i : Nat) : Int) < ((rs.length : Nat) : Int)) = false := decide_eq_false (by omega)
 refine Awp.cond (t := false) (by rw [← hc1] <;> kernel_rfl) (Awp.exit ?_)
 rw [List.drop_eq_nil_of_le (hl1), m_b2.eq_1] at hE1
 subst hE1
 refine Sq <| Rg <| Aq ((slA 3 DRecord.av) rs) <| Ap (Ai rs.length) (g_len (k := 3) (nl := false) (e := 138) (A := DRecord.av) (xs := rs) kr kr) <| Aq (AV.b (decide (((rs.length : Nat) : Int) ≤ (256 : Int)))) <| Aq (AV.b (decide (((rs.length : Nat) : Int) ≤ (256 : Int)))) <| Ad <| Rt ?_
 have hM : m_bt rs = decide (((rs.length : Nat) : Int) ≤ (256 : Int)) := by simp only [m_bt, hR1, sbt]
 refine ⟨Or.inr rfl, ?_⟩
 rw [hM]
 exact Ec
theorem w_ref12_FoundMay (W : World) (f : DFound) : PureAt Go.Proofs.Tryz.prog W 138 [(DFound.av f)] (AV.b (m_a6 f)) [] := by
 refine pure_of_bodyC (fn := Go.Proofs.Tryz.f138) Go.Proofs.Tryz.func138 rfl (en138 W) (ts := [2]) rfl le <| Sq <| Rg <| Nn (AV.loc 0 0 0) ⟨134, 3, [(DFound.av f)]⟩ <| Aq (AV.b false) <| Ad <| Sq <| Rg <| Aq (AV.loc 0 0 0) <| Aq (AV.s f.out) <| AOps.sc0 (vs := [(AV.s f.out)]) (r0 := (AV.b (m_ad f.out))) kr kr (w_ref1_PathMay W f.out) kr le <| Aq (AV.b (m_ad f.out)) ?_
 cases c_1 : (m_ad f.out)
 refine An <| An <| An <| Aq (AV.b false) <| Aq (AV.b false) <| An <| An <| An <| Aq (AV.b false) <| Aq (AV.b false) <| Ad <| Rt ?_
 have hM : m_a6 f = false := by simp only [m_a6, c_1, sbt]
 refine ⟨Or.inr rfl, ?_⟩
 rw [hM]
 exact Ec
 refine Ay <| Aq (AV.loc 0 0 1) <| Ay <| Aq (AV.i .i64 f.time) <| Ay <| AOps.sc0 (vs := [(AV.i .i64 f.time), (AV.i .i64 (1 : Int)), (AV.i .i64 (1048576 : Int))]) (r0 := (AV.b (m_r f.time (1 : Int) (1048576 : Int)))) kr kr (w_ref12_upTo W f.time (1 : Int) (1048576 : Int)) kr le <| Aq (AV.b (m_r f.time (1 : Int) (1048576 : Int))) <| Aq (AV.b (m_r f.time (1 : Int) (1048576 : Int))) ?_
 cases c_2 : (m_r f.time (1 : Int) (1048576 : Int))
 refine An <| An <| An <| Aq (AV.b false) <| Aq (AV.b false) <| Ad <| Rt ?_
 have hM : m_a6 f = false := by simp only [m_a6, c_1, c_2, sbt]
 refine ⟨Or.inr rfl, ?_⟩
 rw [hM]
 exact Ec
 refine Ay <| Aq (AV.loc 0 0 2) <| Ay <| Aq ((slA 1 AV.s) f.ins) <| Ay <| AOps.sc0 (vs := [((slA 1 AV.s) f.ins)]) (r0 := (AV.b (m_g f.ins))) kr kr (w_ref1_PathsMay W f.ins) kr le <| Aq (AV.b (m_g f.ins)) <| Aq (AV.b (m_g f.ins)) <| Ad <| Rt ?_
 have hM : m_a6 f = (m_g f.ins) := by simp only [m_a6, c_1, c_2, sbt]
 refine ⟨Or.inr rfl, ?_⟩
 rw [hM]
 exact Ec
theorem w_ref12_DepsMay (W : World) (fs : List DFound) : PureAt Go.Proofs.Tryz.prog W 115 [((slA 3 DFound.av) fs)] (AV.b (m_bm fs)) [] := by
 refine pure_of_bodyC (fn := Go.Proofs.Tryz.f115) Go.Proofs.Tryz.func115 rfl (en115 W) (ts := [2]) rfl le <| Sq <| Rg <| Aq (AV.b false) <| Ad <| Sq <| Sq <| Rg <| Aq (AV.i .i64 (0 : Int)) <| Ad <| Awp.block <| Awp.lim 0 (x := ((slA 3 DFound.av) fs)) kr fun hlm1 => ?_
 have hB1 : fs.length ≤ 281474976710656 := lim_slA hlm1
 obtain ⟨R1, hR1⟩ : ∃ R, m_bu fs 0 = R := ⟨_, rfl⟩
 refine Awp.loopT (fun (i : Nat) => [(0, ((slA 3 DFound.av) fs)), (3, (Ai i))]) (fun (i : Nat) => ⟨0, []⟩) (fun (i : Nat) => i ≤ fs.length ∧ m_bu (fs.drop i) i = R1) (fun (i : Nat) => fs.length - i) 0 ?_ ?_ ?_
 exact ⟨[], ⟨by decide, rfl, FitsObjs.nil, (Ee (Ee EntE.nil))⟩, keep0⟩
 exact ⟨od, hR1⟩
 rintro i ⟨hi1, hE1⟩
 try dsimp only
 refine Sq <| Sq <| Rg <| Aq (Ai i) <| Aq ((slA 3 DFound.av) fs) <| Ap (Ai fs.length) (g_len (k := 3) (nl := false) (e := 134) (A := DFound.av) (xs := fs) kr kr) <| Aq (AV.b (decide (((i : Nat) : Int) < ((fs.length : Nat) : Int)))) <| Ad ?_
 rcases Nat.lt_or_ge i fs.length with hl1 | hl1
 have hc1 : decide (((i : Nat) : Int) < ((fs.length : Nat) : Int)) = true := decide_eq_true (by omega)
 refine Awp.cond (t := true) (by rw [← hc1] <;> kernel_rfl) (Awp.skip ?_)
 obtain ⟨x1, hx1⟩ : ∃ x, fs[i]? = some x := ⟨_, List.getElem?_eq_getElem hl1⟩
 rw [drop_at hx1, m_bu.eq_2] at hE1
 refine Sq <| Awp.block <| Sq <| Rg <| Aq ((slA 3 DFound.av) fs) <| Aq (Ai i) <| Ap (AV.pt (DFound.av x1).cells) (g_idx (k := 3) (nl := false) (e := 134) (kk := .i64) (A := DFound.av) (xs := fs) (i := i) kr kr kr ⟨by kernel_rfl, by decide⟩ hx1) <| Aq (DFound.av x1) <| AOps.sc0 (vs := [(DFound.av x1)]) (r0 := (AV.b (m_a6 x1))) kr kr (w_ref12_FoundMay W x1) kr le <| Aq (AV.b (!(m_a6 x1))) <| Ad ?_
 cases c_1 : (!(m_a6 x1))
 refine Cf <| Awp.skip <| Rg <| Aq (Ai i) <| Ap (Ai (i + 1)) (g_addN (i := i) (m := 1) kr kr sd) <| Aq (Ai (i + 1)) <| Ad ?_
 try simp only [c_1, sbt] at hE1
 refine ⟨i + 1, od, ⟨od, hE1⟩, ?_⟩
 exact ⟨[], ⟨by decide, rfl, FitsObjs.nil, (Ee (Ee EntE.nil))⟩, keep0⟩
 refine Ct <| Sq <| Rg <| Aq (AV.b false) <| Ad <| Rt ?_
 try simp only [c_1, sbt] at hE1
 subst hE1
 have hM : m_bm fs = false := by simp only [m_bm, hR1, sbt]
 refine ⟨Or.inr rfl, ?_⟩
 rw [hM]
 exact Ec
 have hc1 : decide (((i : Nat) : Int) < ((fs.length : Nat) : Int)) = false := decide_eq_false (by omega)
 refine Awp.cond (t := false) (by rw [← hc1] <;> kernel_rfl) (Awp.exit ?_)
 rw [List.drop_eq_nil_of_le (hl1), m_bu.eq_1] at hE1
 subst hE1
 refine Sq <| Rg <| Aq ((slA 3 DFound.av) fs) <| Ap (Ai fs.length) (g_len (k := 3) (nl := false) (e := 134) (A := DFound.av) (xs := fs) kr kr) <| Aq (AV.b (decide (((fs.length : Nat) : Int) ≤ (256 : Int)))) <| Aq (AV.b (decide (((fs.length : Nat) : Int) ≤ (256 : Int)))) <| Ad <| Rt ?_
 have hM : m_bm fs = decide (((fs.length : Nat) : Int) ≤ (256 : Int)) := by simp only [m_bm, hR1, sbt]
 refine ⟨Or.inr rfl, ?_⟩
 rw [hM]
 exact Ec
theorem w_ref12_partsMay (W : World) (s' : DState) (hz : s'.sz ≤ 1048576) : PureAt Go.Proofs.Tryz.prog W 89 [(DState.av s')] (AV.b (m_al s')) [] := by
 have hzg := s'.sz_graph
 refine pure_of_bodyC (fn := Go.Proofs.Tryz.f89) Go.Proofs.Tryz.func89 rfl (en89 W) (ts := [2]) rfl le <| Sq <| Rg <| Nn (AV.loc 0 0 0) ⟨64, 11, [(DState.av s')]⟩ <| Aq (AV.b false) <| Ad <| Sq <| Rg <| Aq (AV.loc 0 0 0) <| Aq (AV.st [((slA 7 DEdge.av) s'.graph.edges), ((slA 2 DPool.av) s'.graph.pools), ((slA 1 AV.s) s'.graph.defaults)]) <| AOps.sc0 (vs := [(AV.st [((slA 7 DEdge.av) s'.graph.edges), ((slA 2 DPool.av) s'.graph.pools), ((slA 1 AV.s) s'.graph.defaults)])]) (r0 := (AV.tup [((slA 1 (AV.i .i64)) ((m_aq (⟨s'.graph.edges, s'.graph.pools, s'.graph.defaults⟩ : DGraph)).1)), (AV.i .i64 ((m_aq (⟨s'.graph.edges, s'.graph.pools, s'.graph.defaults⟩ : DGraph)).2))])) kr kr (w_ref1_Order W (⟨s'.graph.edges, s'.graph.pools, s'.graph.defaults⟩ : DGraph) (Nat.le_trans s'.sz_graph hz)) kr le <| Aq (AV.tup [((slA 1 (AV.i .i64)) ((m_aq (⟨s'.graph.edges, s'.graph.pools, s'.graph.defaults⟩ : DGraph)).1)), (AV.i .i64 ((m_aq (⟨s'.graph.edges, s'.graph.pools, s'.graph.defaults⟩ : DGraph)).2))]) <| Aq ((slA 1 (AV.i .i64)) ((m_aq (⟨s'.graph.edges, s'.graph.pools, s'.graph.defaults⟩ : DGraph)).1)) <| Aq (AV.i .i64 ((m_aq (⟨s'.graph.edges, s'.graph.pools, s'.graph.defaults⟩ : DGraph)).2)) <| Aq ((slA 1 (AV.i .i64)) ((m_aq (⟨s'.graph.edges, s'.graph.pools, s'.graph.defaults⟩ : DGraph)).1)) <| Aq (AV.i .i64 ((m_aq (⟨s'.graph.edges, s'.graph.pools, s'.graph.defaults⟩ : DGraph)).2)) <| Ad <| Sq <| Rg <| Aq (AV.i .i64 ((m_aq (⟨s'.graph.edges, s'.graph.pools, s'.graph.defaults⟩ : DGraph)).2)) ?_
 refine Aq (AV.b (decide ((m_aq (⟨s'.graph.edges, s'.graph.pools, s'.graph.defaults⟩ : DGraph)).2 = (0 : Int)))) <| Aq (AV.b (decide ((m_aq (⟨s'.graph.edges, s'.graph.pools, s'.graph.defaults⟩ : DGraph)).2 = (0 : Int)))) ?_
 cases c_1 : decide ((m_aq (⟨s'.graph.edges, s'.graph.pools, s'.graph.defaults⟩ : DGraph)).2 = (0 : Int))
 have k_1 := of_decide_eq_false c_1
 refine An <| An <| An <| Aq (AV.b false) <| Aq (AV.b false) <| An <| An <| An <| Aq (AV.b false) <| Aq (AV.b false) <| An <| An <| An <| Aq (AV.b false) <| Aq (AV.b false) <| An <| An <| An <| Aq (AV.b false) <| Aq (AV.b false) <| Ad <| Rt ?_
 have hM : m_al s' = false := by simp only [m_al, c_1, sbt]
 refine ⟨Or.inr rfl, ?_⟩
 rw [hM]
 exact Ec
 have k_1 := of_decide_eq_true c_1
 refine Ay <| Aq (AV.loc 0 0 3) <| Ay <| Aq ((slA 3 DAction.av) s'.actions) <| Ay <| AOps.sc0 (vs := [((slA 3 DAction.av) s'.actions)]) (r0 := (AV.b (m_an s'.actions))) kr kr (w_ref12_ActionsMay W s'.actions) kr le <| Aq (AV.b (m_an s'.actions)) <| Aq (AV.b (m_an s'.actions)) ?_
 cases c_2 : (m_an s'.actions)
 refine An <| An <| An <| Aq (AV.b false) <| Aq (AV.b false) <| An <| An <| An <| Aq (AV.b false) <| Aq (AV.b false) <| An <| An <| An <| Aq (AV.b false) <| Aq (AV.b false) <| Ad <| Rt ?_
 have hM : m_al s' = false := by simp only [m_al, c_1, c_2, sbt]
 refine ⟨Or.inr rfl, ?_⟩
 rw [hM]
 exact Ec
 refine Ay <| Aq (AV.loc 0 0 4) <| Ay <| Aq (AV.st [(AV.i .i64 s'.disk.clock), ((slA 3 DFile.av) s'.disk.files)]) <| Ay <| AOps.sc0 (vs := [(AV.st [(AV.i .i64 s'.disk.clock), ((slA 3 DFile.av) s'.disk.files)])]) (r0 := (AV.b (m_6 (⟨s'.disk.clock, s'.disk.files⟩ : DDisk)))) kr kr (w_ref12_DiskMay W (⟨s'.disk.clock, s'.disk.files⟩ : DDisk)) kr le <| Aq (AV.b (m_6 (⟨s'.disk.clock, s'.disk.files⟩ : DDisk))) <| Aq (AV.b (m_6 (⟨s'.disk.clock, s'.disk.files⟩ : DDisk))) ?_
 cases c_3 : (m_6 (⟨s'.disk.clock, s'.disk.files⟩ : DDisk))
 refine An <| An <| An <| Aq (AV.b false) <| Aq (AV.b false) <| An <| An <| An <| Aq (AV.b false) <| Aq (AV.b false) <| Ad <| Rt ?_
 have hM : m_al s' = false := by simp only [m_al, c_1, c_2, c_3, sbt]
 refine ⟨Or.inr rfl, ?_⟩
 rw [hM]
 exact Ec
 refine Ay <| Aq (AV.loc 0 0 6) <| Ay <| Aq ((slA 3 DRecord.av) s'.log) <| Ay <| AOps.sc0 (vs := [((slA 3 DRecord.av) s'.log)]) (r0 := (AV.b (m_bt s'.log))) kr kr (w_ref12_LogMay W s'.log) kr le <| Aq (AV.b (m_bt s'.log)) <| Aq (AV.b (m_bt s'.log)) ?_
 cases c_4 : (m_bt s'.log)
 refine An <| An <| An <| Aq (AV.b false) <| Aq (AV.b false) <| Ad <| Rt ?_
 have hM : m_al s' = false := by simp only [m_al, c_1, c_2, c_3, c_4, sbt]
 refine ⟨Or.inr rfl, ?_⟩
 rw [hM]
 exact Ec
 refine Ay <| Aq (AV.loc 0 0 7) <| Ay <| Aq ((slA 3 DFound.av) s'.deps) <| Ay <| AOps.sc0 (vs := [((slA 3 DFound.av) s'.deps)]) (r0 := (AV.b (m_bm s'.deps))) kr kr (w_ref12_DepsMay W s'.deps) kr le <| Aq (AV.b (m_bm s'.deps)) <| Aq (AV.b (m_bm s'.deps)) <| Ad <| Rt ?_
 have hM : m_al s' = (m_bm s'.deps) := by simp only [m_al, c_1, c_2, c_3, c_4, sbt]
 refine ⟨Or.inr rfl, ?_⟩
 rw [hM]
 exact Ec
theorem w_ref12_StateMay (W : World) (s' : DState) (hz : s'.sz ≤ 1048576) : PureAt Go.Proofs.Tryz.prog W 43 [(DState.av s')] (AV.b (m_ab s')) [] := by
 have hzg := s'.sz_graph
 refine pure_of_bodyC (fn := Go.Proofs.Tryz.f43) Go.Proofs.Tryz.func43 rfl (en43 W) (ts := [2]) rfl le <| Sq <| Rg <| Nn (AV.loc 0 0 0) ⟨64, 11, [(DState.av s')]⟩ <| Aq (AV.b false) <| Ad <| Sq <| Sq <| Rg <| Aq (AV.i .i64 (0 : Int)) <| Ad <| Awp.block <| Awp.lim 0 (x := (DState.av s')) kr fun hlm1 => ?_
 have hB1 : s'.status.length ≤ 281474976710656 := lim_slA (DState.lim_status hlm1)
 obtain ⟨R1, hR1⟩ : ∃ R, m_bp s'.status 0 = R := ⟨_, rfl⟩
 refine Awp.loopT (fun (i : Nat) => [(1, (AV.loc 0 0 0)), (3, (Ai i))]) (fun (i : Nat) => ⟨1, [(0, some ⟨64, 11, [(DState.av s')]⟩)]⟩) (fun (i : Nat) => i ≤ s'.status.length ∧ m_bp (s'.status.drop i) i = R1) (fun (i : Nat) => s'.status.length - i) 0 ?_ ?_ ?_
 exact ⟨[0], ⟨by decide, rfl, (FitsObjs.cons kr FitsObjs.nil), (EntE.cons (Ent.f kr) (Ee EntE.nil))⟩, keep0⟩
 exact ⟨od, hR1⟩
 rintro i ⟨hi1, hE1⟩
 try dsimp only
 refine Sq <| Sq <| Rg <| Aq (Ai i) <| Aq (AV.loc 0 0 10) <| Aq ((slA 1 (AV.i .i64)) s'.status) <| Ap (Ai s'.status.length) (g_len (k := 1) (nl := false) (e := 3) (A := (AV.i .i64)) (xs := s'.status) kr kr) <| Aq (AV.b (decide (((i : Nat) : Int) < ((s'.status.length : Nat) : Int)))) <| Ad ?_
 rcases Nat.lt_or_ge i s'.status.length with hl1 | hl1
 have hc1 : decide (((i : Nat) : Int) < ((s'.status.length : Nat) : Int)) = true := decide_eq_true (by omega)
 refine Awp.cond (t := true) (by rw [← hc1] <;> kernel_rfl) (Awp.skip ?_)
 obtain ⟨x1, hx1⟩ : ∃ x, s'.status[i]? = some x := ⟨_, List.getElem?_eq_getElem hl1⟩
 rw [drop_at hx1, m_bp.eq_2] at hE1
 refine Sq <| Awp.block <| Sq <| Rg <| Aq (AV.loc 0 0 10) <| Aq ((slA 1 (AV.i .i64)) s'.status) <| Aq (Ai i) <| Ap (AV.pt ((AV.i .i64) x1).cells) (g_idx (k := 1) (nl := false) (e := 3) (kk := .i64) (A := (AV.i .i64)) (xs := s'.status) (i := i) kr kr kr ⟨by kernel_rfl, by decide⟩ hx1) <| Aq (AV.i .i64 x1) <| AOps.sc0 (vs := [(AV.i .i64 x1), (AV.i .i64 (0 : Int)), (AV.i .i64 (4 : Int))]) (r0 := (AV.b (m_r x1 (0 : Int) (4 : Int)))) kr kr (w_ref12_upTo W x1 (0 : Int) (4 : Int)) kr le <| Aq (AV.b (!(m_r x1 (0 : Int) (4 : Int)))) <| Ad ?_
 cases c_1 : (!(m_r x1 (0 : Int) (4 : Int)))
 refine Cf <| Awp.skip <| Rg <| Aq (Ai i) <| Ap (Ai (i + 1)) (g_addN (i := i) (m := 1) kr kr sd) <| Aq (Ai (i + 1)) <| Ad ?_
 try simp only [c_1, sbt] at hE1
 refine ⟨i + 1, od, ⟨od, hE1⟩, ?_⟩
 exact ⟨[0], ⟨by decide, rfl, (FitsObjs.cons kr FitsObjs.nil), (EntE.cons (Ent.f kr) (Ee EntE.nil))⟩, keep0⟩
 refine Ct <| Sq <| Rg <| Aq (AV.b false) <| Ad <| Rt ?_
 try simp only [c_1, sbt] at hE1
 subst hE1
 have hM : m_ab s' = false := by simp only [m_ab, hR1, sbt]
 refine ⟨Or.inr rfl, ?_⟩
 rw [hM]
 exact Ec
 have hc1 : decide (((i : Nat) : Int) < ((s'.status.length : Nat) : Int)) = false := decide_eq_false (by omega)
 refine Awp.cond (t := false) (by rw [← hc1] <;> kernel_rfl) (Awp.exit ?_)
 rw [List.drop_eq_nil_of_le (hl1), m_bp.eq_1] at hE1
 subst hE1
 refine Sq <| Rg <| Aq (DState.av s') <| AOps.sc0 (vs := [(DState.av s')]) (r0 := (AV.b (m_al s'))) kr kr (w_ref12_partsMay W s' sd) kr le <| Aq (AV.b (m_al s')) ?_
 cases c_2 : (m_al s')
 refine An <| An <| An <| Aq (AV.b false) <| Aq (AV.b false) <| An <| An <| An <| An <| An <| An <| An <| An <| An <| An <| An <| An <| An <| An <| An <| An <| An <| An <| An <| Aq (AV.b false) <| Aq (AV.b false) <| Ad <| Rt ?_
 have hM : m_ab s' = false := by simp only [m_ab, hR1, c_2, sbt]
 refine ⟨Or.inr rfl, ?_⟩
 rw [hM]
 exact Ec
 refine Ay <| Aq (AV.loc 0 0 8) <| Ay <| Aq (AV.i .i64 s'.jobs) <| Ay <| AOps.sc0 (vs := [(AV.i .i64 s'.jobs), (AV.i .i64 (1 : Int)), (AV.i .i64 (8 : Int))]) (r0 := (AV.b (m_r s'.jobs (1 : Int) (8 : Int)))) kr kr (w_ref12_upTo W s'.jobs (1 : Int) (8 : Int)) kr le <| Aq (AV.b (m_r s'.jobs (1 : Int) (8 : Int))) <| Aq (AV.b (m_r s'.jobs (1 : Int) (8 : Int))) ?_
 cases c_3 : (m_r s'.jobs (1 : Int) (8 : Int))
 refine An <| An <| An <| An <| An <| An <| An <| An <| An <| An <| An <| An <| An <| An <| An <| An <| An <| An <| An <| Aq (AV.b false) <| Aq (AV.b false) <| Ad <| Rt ?_
 have hM : m_ab s' = false := by simp only [m_ab, hR1, c_2, c_3, sbt]
 refine ⟨Or.inr rfl, ?_⟩
 rw [hM]
 exact Ec
 refine Ay <| Aq (AV.loc 0 0 10) <| Ay <| Aq ((slA 1 (AV.i .i64)) s'.status) <| Ay <| Ap (Ai s'.status.length) (g_len (k := 1) (nl := false) (e := 3) (A := (AV.i .i64)) (xs := s'.status) kr kr) <| Ay <| Aq (AV.loc 0 0 0) <| Ay <| Aq (AV.loc 0 0 0) <| Ay <| Aq ((slA 7 DEdge.av) s'.graph.edges) <| Ay <| Ap (Ai s'.graph.edges.length) (g_len (k := 7) (nl := false) (e := 76) (A := DEdge.av) (xs := s'.graph.edges) kr kr) <| Ay <| Aq (AV.b (decide (((s'.status.length : Nat) : Int) = ((s'.graph.edges.length : Nat) : Int)))) <| Ay <| Aq (AV.b (decide (((s'.status.length : Nat) : Int) = ((s'.graph.edges.length : Nat) : Int)))) ?_
 cases c_4 : decide (((s'.status.length : Nat) : Int) = ((s'.graph.edges.length : Nat) : Int))
 have k_4 := of_decide_eq_false c_4
 refine Ay <| Aq (AV.loc 0 0 9) <| Ay <| Aq (AV.b s'.going) <| Ay <| Aq (AV.b (!s'.going)) <| Ay <| Aq (AV.b (!s'.going)) ?_
 cases c_5 : (!s'.going)
 refine An <| An <| An <| An <| Ay <| Aq (AV.b false) <| Ay <| Aq (AV.b false) <| Aq (AV.b false) <| Aq (AV.b false) <| Ad <| Rt ?_
 have hM : m_ab s' = false := by simp only [m_ab, hR1, c_2, c_3, c_4, c_5, sbt]
 refine ⟨Or.inr rfl, ?_⟩
 rw [hM]
 exact Ec
 refine Ay <| Aq (AV.loc 0 0 10) <| Ay <| Aq ((slA 1 (AV.i .i64)) s'.status) <| Ay <| Ap (Ai s'.status.length) (g_len (k := 1) (nl := false) (e := 3) (A := (AV.i .i64)) (xs := s'.status) kr kr) <| Ay <| Aq (AV.b (decide (((s'.status.length : Nat) : Int) = (0 : Int)))) <| Ay <| Aq (AV.b (decide (((s'.status.length : Nat) : Int) = (0 : Int)))) <| Ay <| Aq (AV.b (decide (((s'.status.length : Nat) : Int) = (0 : Int)))) <| Aq (AV.b (decide (((s'.status.length : Nat) : Int) = (0 : Int)))) <| Aq (AV.b (decide (((s'.status.length : Nat) : Int) = (0 : Int)))) <| Ad <| Rt ?_
 have hM : m_ab s' = decide (((s'.status.length : Nat) : Int) = (0 : Int)) := by simp only [m_ab, hR1, c_2, c_3, c_4, c_5, sbt]
 refine ⟨Or.inr rfl, ?_⟩
 rw [hM]
 exact Ec
 have k_4 := of_decide_eq_true c_4
 refine An <| An <| An <| An <| An <| An <| An <| An <| An <| Ay <| Aq (AV.b true) <| Aq (AV.b true) <| Aq (AV.b true) <| Ad <| Rt ?_
 have hM : m_ab s' = true := by simp only [m_ab, hR1, c_2, c_3, c_4, sbt]
 refine ⟨Or.inr rfl, ?_⟩
 rw [hM]
 exact Ec
theorem w_law0_CopyActions (W : World) (a : List DAction) (hz : szL DAction.sz a ≤ 1048576) : PureAt Go.Proofs.Tryz.prog W 78 [((slA 3 DAction.av) a)] ((slA 3 DAction.av) (m_x a)) [] := by
 have hl := szL_len DAction.sz_one a
 refine pure_of_bodyC (fn := Go.Proofs.Tryz.f78) Go.Proofs.Tryz.func78 rfl (en78 W) (ts := [2]) rfl le <| Sq <| Rg <| Aq (AV.sl 3 true []) <| Ad <| Sq <| Rg <| Aq (AV.sl 3 true []) <| Ad <| Sq <| Sq <| Rg <| Aq (AV.i .i64 (0 : Int)) <| Ad <| Awp.block <| Awp.lim 0 (x := ((slA 3 DAction.av) a)) kr fun hlm1 => ?_
 have hB1 : a.length ≤ 281474976710656 := lim_slA hlm1
 obtain ⟨R1, hR1⟩ : ∃ R, m_a2 a 0 [] = R := ⟨_, rfl⟩
 refine Awp.loopT (fun ((out, i) : (List DAction) × Nat) => [(0, ((slA 3 DAction.av) a)), (3, (accV 0 3 DAction.av out)), (4, (Ai i))]) (fun ((out, i) : (List DAction) × Nat) => ⟨1, [(0, accO 121 3 DAction.av out)]⟩) (fun ((out, i) : (List DAction) × Nat) => i ≤ a.length ∧ out.length ≤ i ∧ m_a2 (a.drop i) i out = R1) (fun ((out, i) : (List DAction) × Nat) => a.length - i) ([], 0) ?_ ?_ ?_
 exact ⟨[1000000], ⟨by decide, rfl, (FitsObjs.cons rfl FitsObjs.nil), (Ee (Ee (Ee EntE.nil)))⟩, keep0⟩
 exact ⟨od, sdd, hR1⟩
 rintro ⟨out, i⟩ ⟨hi1, ha, hE1⟩
 try dsimp only
 refine Sq <| Sq <| Rg <| Aq (Ai i) <| Aq ((slA 3 DAction.av) a) <| Ap (Ai a.length) (g_len (k := 3) (nl := false) (e := 121) (A := DAction.av) (xs := a) kr kr) <| Aq (AV.b (decide (((i : Nat) : Int) < ((a.length : Nat) : Int)))) <| Ad ?_
 rcases Nat.lt_or_ge i a.length with hl1 | hl1
 have hc1 : decide (((i : Nat) : Int) < ((a.length : Nat) : Int)) = true := decide_eq_true (by omega)
 refine Awp.cond (t := true) (by rw [← hc1] <;> kernel_rfl) (Awp.skip ?_)
 obtain ⟨x1, hx1⟩ : ∃ x, a[i]? = some x := ⟨_, List.getElem?_eq_getElem hl1⟩
 rw [drop_at hx1, m_a2.eq_2] at hE1
 have hxz := szL_mem (sz := DAction.sz) (List.mem_of_getElem? hx1)
 have hr1 := szL_str x1.reads
 have hr2 := x1.sz_reads
 refine Sq <| Awp.block <| Sq <| Rg <| Aq ((slA 3 DAction.av) a) <| Aq (Ai i) <| Ap (AV.pt (DAction.av x1).cells) (g_idx (k := 3) (nl := false) (e := 121) (kk := .i64) (A := DAction.av) (xs := a) (i := i) kr kr kr ⟨by kernel_rfl, by decide⟩ hx1) <| Aq (DAction.av x1) <| Nn (AV.loc 1 0 0) ⟨121, 3, [(AV.st [(AV.s (⟨#[]⟩ : ByteArray)), (AV.sl 1 true []), (AV.b false)])]⟩ <| Sp 1 ⟨121, 3, [(AV.st [(AV.s x1.command), ((slA 1 AV.s) x1.reads), (AV.b x1.fails)])]⟩ <| Ad <| Sq <| Rg <| Nn (AV.own 2 0 0) ⟨9, 1, [].map AV.s⟩ <| Aq (AV.loc 1 0 1) <| Aq ((slA 1 AV.s) x1.reads) <| AOps.se (x := (AV.own 3 0 x1.reads.length)) (h' := ⟨4, [(3, some ⟨9, 1, x1.reads.map AV.s⟩), (2, none), (1, some ⟨121, 3, [(AV.st [(AV.s x1.command), ((slA 1 AV.s) x1.reads), (AV.b x1.fails)])]⟩), (0, accO 121 3 DAction.av out)]⟩) (g_appR (len := 0) (e := 9) (X := ((slA 1 AV.s) x1.reads)) (A := AV.s) (i := tI_9) (p := 2) (xs := []) (ys := x1.reads) kr kr kr (hx := kr) kr ⟨by decide, by kernel_rfl⟩ rfl sd (by show _ * 16 ≤ 140737488355328; first | omega | (simp only [List.length_append, List.length_cons, List.length_nil, List.length_set, List.length_replicate]; omega) | (simp; omega)) sd) le <| Aq (AV.loc 1 0 1) <| Sp 1 ⟨121, 3, [(AV.st [(AV.s x1.command), (AV.own 3 0 x1.reads.length), (AV.b x1.fails)])]⟩ <| Ad <| Awp.regionR <| ROps.run tabS_ok 3 le <| Aq (accV 0 3 DAction.av out) <| Aq (AV.st [(AV.s x1.command), (AV.own 3 0 x1.reads.length), (AV.b x1.fails)]) <| Nn (AV.own 4 0 1) ⟨121, 3, [(AV.st [(AV.s x1.command), (AV.own 3 0 x1.reads.length), (AV.b x1.fails)])]⟩ ?_
 refine Ad <| ROps.over (Over.fits [0] (env1 := [(0, ((slA 3 DAction.av) a)), (3, (accV 0 3 DAction.av out)), (4, (Ai i)), (21, (accV 0 3 DAction.av out)), (23, ((slA 3 DAction.av) [(⟨x1.command, x1.reads, x1.fails⟩ : DAction)]))]) (h1 := ⟨1, [(0, accO 121 3 DAction.av out)]⟩) ⟨by decide, rfl, (FitsObjs.cons (obj_acc (fun _ => rfl) (e := 121) (k := 3) (A := DAction.av) (xs := out) rfl rfl) FitsObjs.nil), (Ee (EntE.cons (ent_keepA (by decide)) (Ee (EntE.cons (ent_keepA (by decide)) (EntE.cons (EntD.kk (x' := (AV.own 4 0 1)) kr kr rfl (EntK.own (id := 4) (len := 1) (e := 121) (k := 3) (els := [(AV.st [(AV.s x1.command), (AV.own 3 0 x1.reads.length), (AV.b x1.fails)])]) rfl rfl rfl sd (EntKEs.cons (EntKE.st (EntKs.cons (EntK.cr (x := (AV.s x1.command)) kr) (EntKs.cons (EntK.row (fun _ => rfl) (A := AV.s) (id := 3) (e := 9) (k := 1) (xs := x1.reads) rfl rfl rfl sd) (EntKs.cons (EntK.cr (x := (AV.b x1.fails)) kr) EntKs.nil)))) EntKEs.nil))) EntE.nil)))))⟩ keep0) <| ROps.run tabS_ok 2 le <| AOps.se (x := (AV.own 1 0 ((out ++ [(⟨x1.command, x1.reads, x1.fails⟩ : DAction)]).length))) (h' := ⟨2, [(1, some ⟨121, 3, (out ++ [(⟨x1.command, x1.reads, x1.fails⟩ : DAction)]).map DAction.av⟩), (0, none)]⟩) (g_app (e := 121) (X := ((slA 3 DAction.av) [(⟨x1.command, x1.reads, x1.fails⟩ : DAction)])) (A := DAction.av) (i := tI_121) (p := 0) (xs := out) (ys := [(⟨x1.command, x1.reads, x1.fails⟩ : DAction)]) kr kr kr (hx := kr) kr (by simp) ⟨by decide, by kernel_rfl⟩ rfl (by intro q; first | (subst q; rfl) | (rw [q]; rfl) | (simp only [q]; rfl)) (by show _ * 48 ≤ 140737488355328; first | omega | (simp only [List.length_append, List.length_cons, List.length_nil, List.length_set, List.length_replicate]; omega) | (simp; omega)) sd) le ?_
 refine Aq (AV.own 1 0 ((out ++ [(⟨x1.command, x1.reads, x1.fails⟩ : DAction)]).length)) <| Ad <| ROps.fin rfl <| Rg <| Aq (Ai i) <| Ap (Ai (i + 1)) (g_addN (i := i) (m := 1) kr kr sd) <| Aq (Ai (i + 1)) <| Ad ?_
 refine ⟨((out ++ [(⟨x1.command, x1.reads, x1.fails⟩ : DAction)]), i + 1), od, ⟨od, sdd, hE1⟩, ?_⟩
 exact ⟨[1], ⟨by decide, rfl, (FitsObjs.cons (obj_acc' (fun _ => rfl) (e := 121) (k := 3) (A := DAction.av) (xs := (out ++ [(⟨x1.command, x1.reads, x1.fails⟩ : DAction)])) (by simp) rfl rfl) FitsObjs.nil), (Ee (EntE.cons (ent_keep (A := DAction.av) (xs := (out ++ [(⟨x1.command, x1.reads, x1.fails⟩ : DAction)])) (by decide) (by simp) rfl) (Ee EntE.nil)))⟩, keep0⟩
 have hc1 : decide (((i : Nat) : Int) < ((a.length : Nat) : Int)) = false := decide_eq_false (by omega)
 refine Awp.cond (t := false) (by rw [← hc1] <;> kernel_rfl) (Awp.exit ?_)
 rw [List.drop_eq_nil_of_le (hl1), m_a2.eq_1] at hE1
 subst hE1
 refine Sq <| Rg <| Aq (accV 0 3 DAction.av out) <| Aq (accV 0 3 DAction.av out) <| Ad <| Rt ?_
 have hM : m_x a = out := by simp only [m_x, hR1, sbt]
 refine ⟨Or.inr rfl, ?_⟩
 rw [hM]
 exact Ent.cast (x' := (accV 0 3 DAction.av out)) (y' := ((slA 3 DAction.av) out)) kr kr (Ent.cast (x' := (accV 0 3 DAction.av out)) (y' := slA 3 DAction.av out) kr kr (ent_acc (fun _ => rfl) (by decide) (by decide) (e := 121) (k := 3) rfl sd))
theorem w_law0_CopyDisk (W : World) (a : DDisk) (hz : a.sz ≤ 1048576) : PureAt Go.Proofs.Tryz.prog W 79 [(DDisk.av a)] (DDisk.av (m_o a)) [] := by
 have hl := szL_len DFile.sz_one a.files
 have hl2 := a.sz_files
 refine pure_of_bodyM tabS_ok (fn := Go.Proofs.Tryz.f79) Go.Proofs.Tryz.func79 rfl (en79 W) le <| Sq <| Rg <| Nn (AV.loc 0 0 0) ⟨60, 2, [(DDisk.av a)]⟩ <| Nn (AV.loc 1 0 0) ⟨60, 2, [(AV.st [(AV.i .i64 (0 : Int)), (AV.sl 3 true [])])]⟩ <| Ad <| Sq <| Rg <| Nn (AV.own 2 0 0) ⟨119, 3, [].map DFile.av⟩ <| Aq (AV.loc 0 0 1) <| Aq ((slA 3 DFile.av) a.files) <| AOps.se (x := (AV.own 3 0 a.files.length)) (h' := ⟨4, [(3, some ⟨119, 3, a.files.map DFile.av⟩), (2, none), (1, some ⟨60, 2, [(AV.st [(AV.i .i64 (0 : Int)), (AV.sl 3 true [])])]⟩), (0, some ⟨60, 2, [(DDisk.av a)]⟩)]⟩) (g_appR (len := 0) (e := 119) (X := ((slA 3 DFile.av) a.files)) (A := DFile.av) (i := tI_119) (p := 2) (xs := []) (ys := a.files) kr kr kr (hx := kr) kr ⟨by decide, by kernel_rfl⟩ rfl sd (by show _ * 32 ≤ 140737488355328; first | omega | (simp only [List.length_append, List.length_cons, List.length_nil, List.length_set, List.length_replicate]; omega) | (simp; omega)) sd) le <| Aq (AV.loc 0 0 1) <| Sp 0 ⟨60, 2, [(AV.st [(AV.i .i64 a.clock), (AV.own 3 0 a.files.length)])]⟩ <| Ad <| Sq <| Rg <| Aq (AV.st [(AV.i .i64 a.clock), (AV.own 3 0 a.files.length)]) <| Sp 1 ⟨60, 2, [(AV.st [(AV.i .i64 a.clock), (AV.own 3 0 a.files.length)])]⟩ <| Ad <| Rt ?_
 have hM : m_o a = (⟨a.clock, a.files⟩ : DDisk) := by simp only [m_o, sbt]
 refine ⟨Or.inr rfl, (AV.st [(AV.i .i64 a.clock), (AV.own 3 0 a.files.length)]), kr, ?_⟩
 rw [hM]
 exact Ent.cast (x' := (AV.st [(AV.i .i64 a.clock), (AV.own 3 0 a.files.length)])) (y' := (DDisk.av (⟨a.clock, a.files⟩ : DDisk))) kr kr (Ent.st ⟨Ec, ⟨(EntD.kk (x' := (AV.own 3 0 a.files.length)) kr kr rfl (EntK.row (fun _ => rfl) (A := DFile.av) (id := 3) (e := 119) (k := 3) (xs := a.files) rfl rfl rfl sd)), trivial⟩⟩ kr)
theorem w_law0_CopyFounds (W : World) (a : List DFound) (hz : szL DFound.sz a ≤ 1048576) : PureAt Go.Proofs.Tryz.prog W 80 [((slA 3 DFound.av) a)] ((slA 3 DFound.av) (m_2 a)) [] := by
 have hl := szL_len DFound.sz_one a
 refine pure_of_bodyC (fn := Go.Proofs.Tryz.f80) Go.Proofs.Tryz.func80 rfl (en80 W) (ts := [2]) rfl le <| Sq <| Rg <| Aq (AV.sl 3 true []) <| Ad <| Sq <| Rg <| Aq (AV.sl 3 true []) <| Ad <| Sq <| Sq <| Rg <| Aq (AV.i .i64 (0 : Int)) <| Ad <| Awp.block <| Awp.lim 0 (x := ((slA 3 DFound.av) a)) kr fun hlm1 => ?_
 have hB1 : a.length ≤ 281474976710656 := lim_slA hlm1
 obtain ⟨R1, hR1⟩ : ∃ R, m_a9 a 0 [] = R := ⟨_, rfl⟩
 refine Awp.loopT (fun ((out, i) : (List DFound) × Nat) => [(0, ((slA 3 DFound.av) a)), (3, (accV 0 3 DFound.av out)), (4, (Ai i))]) (fun ((out, i) : (List DFound) × Nat) => ⟨1, [(0, accO 134 3 DFound.av out)]⟩) (fun ((out, i) : (List DFound) × Nat) => i ≤ a.length ∧ out.length ≤ i ∧ m_a9 (a.drop i) i out = R1) (fun ((out, i) : (List DFound) × Nat) => a.length - i) ([], 0) ?_ ?_ ?_
 exact ⟨[1000000], ⟨by decide, rfl, (FitsObjs.cons rfl FitsObjs.nil), (Ee (Ee (Ee EntE.nil)))⟩, keep0⟩
 exact ⟨od, sdd, hR1⟩
 rintro ⟨out, i⟩ ⟨hi1, ha, hE1⟩
 try dsimp only
 refine Sq <| Sq <| Rg <| Aq (Ai i) <| Aq ((slA 3 DFound.av) a) <| Ap (Ai a.length) (g_len (k := 3) (nl := false) (e := 134) (A := DFound.av) (xs := a) kr kr) <| Aq (AV.b (decide (((i : Nat) : Int) < ((a.length : Nat) : Int)))) <| Ad ?_
 rcases Nat.lt_or_ge i a.length with hl1 | hl1
 have hc1 : decide (((i : Nat) : Int) < ((a.length : Nat) : Int)) = true := decide_eq_true (by omega)
 refine Awp.cond (t := true) (by rw [← hc1] <;> kernel_rfl) (Awp.skip ?_)
 obtain ⟨x1, hx1⟩ : ∃ x, a[i]? = some x := ⟨_, List.getElem?_eq_getElem hl1⟩
 rw [drop_at hx1, m_a9.eq_2] at hE1
 have hxz := szL_mem (sz := DFound.sz) (List.mem_of_getElem? hx1)
 have hr1 := szL_str x1.ins
 have hr2 := x1.sz_ins
 refine Sq <| Awp.block <| Sq <| Rg <| Aq ((slA 3 DFound.av) a) <| Aq (Ai i) <| Ap (AV.pt (DFound.av x1).cells) (g_idx (k := 3) (nl := false) (e := 134) (kk := .i64) (A := DFound.av) (xs := a) (i := i) kr kr kr ⟨by kernel_rfl, by decide⟩ hx1) <| Aq (DFound.av x1) <| Nn (AV.loc 1 0 0) ⟨134, 3, [(AV.st [(AV.s (⟨#[]⟩ : ByteArray)), (AV.i .i64 (0 : Int)), (AV.sl 1 true [])])]⟩ <| Sp 1 ⟨134, 3, [(AV.st [(AV.s x1.out), (AV.i .i64 x1.time), ((slA 1 AV.s) x1.ins)])]⟩ <| Ad <| Sq <| Rg <| Nn (AV.own 2 0 0) ⟨9, 1, [].map AV.s⟩ <| Aq (AV.loc 1 0 2) <| Aq ((slA 1 AV.s) x1.ins) <| AOps.se (x := (AV.own 3 0 x1.ins.length)) (h' := ⟨4, [(3, some ⟨9, 1, x1.ins.map AV.s⟩), (2, none), (1, some ⟨134, 3, [(AV.st [(AV.s x1.out), (AV.i .i64 x1.time), ((slA 1 AV.s) x1.ins)])]⟩), (0, accO 134 3 DFound.av out)]⟩) (g_appR (len := 0) (e := 9) (X := ((slA 1 AV.s) x1.ins)) (A := AV.s) (i := tI_9) (p := 2) (xs := []) (ys := x1.ins) kr kr kr (hx := kr) kr ⟨by decide, by kernel_rfl⟩ rfl sd (by show _ * 16 ≤ 140737488355328; first | omega | (simp only [List.length_append, List.length_cons, List.length_nil, List.length_set, List.length_replicate]; omega) | (simp; omega)) sd) le <| Aq (AV.loc 1 0 2) <| Sp 1 ⟨134, 3, [(AV.st [(AV.s x1.out), (AV.i .i64 x1.time), (AV.own 3 0 x1.ins.length)])]⟩ <| Ad <| Awp.regionR <| ROps.run tabS_ok 3 le <| Aq (accV 0 3 DFound.av out) <| Aq (AV.st [(AV.s x1.out), (AV.i .i64 x1.time), (AV.own 3 0 x1.ins.length)]) <| Nn (AV.own 4 0 1) ⟨134, 3, [(AV.st [(AV.s x1.out), (AV.i .i64 x1.time), (AV.own 3 0 x1.ins.length)])]⟩ ?_
 refine Ad <| ROps.over (Over.fits [0] (env1 := [(0, ((slA 3 DFound.av) a)), (3, (accV 0 3 DFound.av out)), (4, (Ai i)), (21, (accV 0 3 DFound.av out)), (23, ((slA 3 DFound.av) [(⟨x1.out, x1.time, x1.ins⟩ : DFound)]))]) (h1 := ⟨1, [(0, accO 134 3 DFound.av out)]⟩) ⟨by decide, rfl, (FitsObjs.cons (obj_acc (fun _ => rfl) (e := 134) (k := 3) (A := DFound.av) (xs := out) rfl rfl) FitsObjs.nil), (Ee (EntE.cons (ent_keepA (by decide)) (Ee (EntE.cons (ent_keepA (by decide)) (EntE.cons (EntD.kk (x' := (AV.own 4 0 1)) kr kr rfl (EntK.own (id := 4) (len := 1) (e := 134) (k := 3) (els := [(AV.st [(AV.s x1.out), (AV.i .i64 x1.time), (AV.own 3 0 x1.ins.length)])]) rfl rfl rfl sd (EntKEs.cons (EntKE.st (EntKs.cons (EntK.cr (x := (AV.s x1.out)) kr) (EntKs.cons (EntK.cr (x := (AV.i .i64 x1.time)) kr) (EntKs.cons (EntK.row (fun _ => rfl) (A := AV.s) (id := 3) (e := 9) (k := 1) (xs := x1.ins) rfl rfl rfl sd) EntKs.nil)))) EntKEs.nil))) EntE.nil)))))⟩ keep0) <| ROps.run tabS_ok 2 le <| AOps.se (x := (AV.own 1 0 ((out ++ [(⟨x1.out, x1.time, x1.ins⟩ : DFound)]).length))) (h' := ⟨2, [(1, some ⟨134, 3, (out ++ [(⟨x1.out, x1.time, x1.ins⟩ : DFound)]).map DFound.av⟩), (0, none)]⟩) (g_app (e := 134) (X := ((slA 3 DFound.av) [(⟨x1.out, x1.time, x1.ins⟩ : DFound)])) (A := DFound.av) (i := tI_134) (p := 0) (xs := out) (ys := [(⟨x1.out, x1.time, x1.ins⟩ : DFound)]) kr kr kr (hx := kr) kr (by simp) ⟨by decide, by kernel_rfl⟩ rfl (by intro q; first | (subst q; rfl) | (rw [q]; rfl) | (simp only [q]; rfl)) (by show _ * 48 ≤ 140737488355328; first | omega | (simp only [List.length_append, List.length_cons, List.length_nil, List.length_set, List.length_replicate]; omega) | (simp; omega)) sd) le ?_
 refine Aq (AV.own 1 0 ((out ++ [(⟨x1.out, x1.time, x1.ins⟩ : DFound)]).length)) <| Ad <| ROps.fin rfl <| Rg <| Aq (Ai i) <| Ap (Ai (i + 1)) (g_addN (i := i) (m := 1) kr kr sd) <| Aq (Ai (i + 1)) <| Ad ?_
 refine ⟨((out ++ [(⟨x1.out, x1.time, x1.ins⟩ : DFound)]), i + 1), od, ⟨od, sdd, hE1⟩, ?_⟩
 exact ⟨[1], ⟨by decide, rfl, (FitsObjs.cons (obj_acc' (fun _ => rfl) (e := 134) (k := 3) (A := DFound.av) (xs := (out ++ [(⟨x1.out, x1.time, x1.ins⟩ : DFound)])) (by simp) rfl rfl) FitsObjs.nil), (Ee (EntE.cons (ent_keep (A := DFound.av) (xs := (out ++ [(⟨x1.out, x1.time, x1.ins⟩ : DFound)])) (by decide) (by simp) rfl) (Ee EntE.nil)))⟩, keep0⟩
 have hc1 : decide (((i : Nat) : Int) < ((a.length : Nat) : Int)) = false := decide_eq_false (by omega)
 refine Awp.cond (t := false) (by rw [← hc1] <;> kernel_rfl) (Awp.exit ?_)
 rw [List.drop_eq_nil_of_le (hl1), m_a9.eq_1] at hE1
 subst hE1
 refine Sq <| Rg <| Aq (accV 0 3 DFound.av out) <| Aq (accV 0 3 DFound.av out) <| Ad <| Rt ?_
 have hM : m_2 a = out := by simp only [m_2, hR1, sbt]
 refine ⟨Or.inr rfl, ?_⟩
 rw [hM]
 exact Ent.cast (x' := (accV 0 3 DFound.av out)) (y' := ((slA 3 DFound.av) out)) kr kr (Ent.cast (x' := (accV 0 3 DFound.av out)) (y' := slA 3 DFound.av out) kr kr (ent_acc (fun _ => rfl) (by decide) (by decide) (e := 134) (k := 3) rfl sd))
theorem wo_law0_CopyState (W : World) (a : DState) (hz : a.sz ≤ 1048576) : PureAt Go.Proofs.Tryz.prog W 36 [(DState.av a)] (AV.st [((slA 7 DEdge.av) (((m_a a).graph).edges)), ((slA 2 DPool.av) (((m_a a).graph).pools)), ((slA 1 AV.s) (((m_a a).graph).defaults)), ((slA 3 DAction.av) ((m_a a).actions)), (AV.i .i64 (((m_a a).disk).clock)), ((slA 3 DFile.av) (((m_a a).disk).files)), ((slA 3 DRecord.av) ((m_a a).log)), ((slA 3 DFound.av) ((m_a a).deps)), (AV.i .i64 ((m_a a).jobs)), (AV.b ((m_a a).going)), (AV.own 0 0 (((m_a a).status).length))]) [⟨3, 1, ((m_a a).status).map (AV.i .i64)⟩] := by
 have hg1 : (⟨a.graph.edges, a.graph.pools, a.graph.defaults⟩ : DGraph).sz ≤ a.sz := a.sz_graph
 have hg2 := a.sz_actions
 have hg3 : (⟨a.disk.clock, a.disk.files⟩ : DDisk).sz ≤ a.sz := a.sz_disk
 have hg4 := a.sz_log
 have hg5 := a.sz_deps
 have hg6 := a.sz_status
 have hl4 := szL_len DRecord.sz_one a.log
 have hl6 := szL_len (sz := fun _ : Int => 1) (fun _ => Nat.le_refl 1) a.status
 refine pure_of_bodyMO tabS_ok (fn := Go.Proofs.Tryz.f36) Go.Proofs.Tryz.func36 rfl (en36 W) le <| Sq <| Rg <| Nn (AV.loc 0 0 0) ⟨64, 11, [(DState.av a)]⟩ <| Nn (AV.loc 1 0 0) ⟨64, 11, [(AV.st [(AV.sl 7 true []), (AV.sl 2 true []), (AV.sl 1 true []), (AV.sl 3 true []), (AV.i .i64 (0 : Int)), (AV.sl 3 true []), (AV.sl 3 true []), (AV.sl 3 true []), (AV.i .i64 (0 : Int)), (AV.b false), (AV.sl 1 true [])])]⟩ <| Ad <| Sq <| Rg <| Nn (AV.own 2 0 0) ⟨138, 3, [].map DRecord.av⟩ <| Aq (AV.loc 0 0 6) <| Aq ((slA 3 DRecord.av) a.log) <| AOps.se (x := (AV.own 3 0 a.log.length)) (h' := ⟨4, [(3, some ⟨138, 3, a.log.map DRecord.av⟩), (2, none), (1, some ⟨64, 11, [(AV.st [(AV.sl 7 true []), (AV.sl 2 true []), (AV.sl 1 true []), (AV.sl 3 true []), (AV.i .i64 (0 : Int)), (AV.sl 3 true []), (AV.sl 3 true []), (AV.sl 3 true []), (AV.i .i64 (0 : Int)), (AV.b false), (AV.sl 1 true [])])]⟩), (0, some ⟨64, 11, [(DState.av a)]⟩)]⟩) (g_appR (len := 0) (e := 138) (X := ((slA 3 DRecord.av) a.log)) (A := DRecord.av) (i := tI_138) (p := 2) (xs := []) (ys := a.log) kr kr kr (hx := kr) kr ⟨by decide, by kernel_rfl⟩ rfl sd (by show _ * 40 ≤ 140737488355328; first | omega | (simp only [List.length_append, List.length_cons, List.length_nil, List.length_set, List.length_replicate]; omega) | (simp; omega)) sd) le <| Aq (AV.own 3 0 a.log.length) <| Ad <| Sq <| Rg <| Nn (AV.own 4 0 0) ⟨3, 1, [].map (AV.i .i64)⟩ <| Aq (AV.loc 0 0 10) <| Aq ((slA 1 (AV.i .i64)) a.status) <| AOps.se (x := (AV.own 5 0 a.status.length)) (h' := ⟨6, [(5, some ⟨3, 1, a.status.map (AV.i .i64)⟩), (4, none), (3, some ⟨138, 3, a.log.map DRecord.av⟩), (2, none), (1, some ⟨64, 11, [(AV.st [(AV.sl 7 true []), (AV.sl 2 true []), (AV.sl 1 true []), (AV.sl 3 true []), (AV.i .i64 (0 : Int)), (AV.sl 3 true []), (AV.sl 3 true []), (AV.sl 3 true []), (AV.i .i64 (0 : Int)), (AV.b false), (AV.sl 1 true [])])]⟩), (0, some ⟨64, 11, [(DState.av a)]⟩)]⟩) (g_appR (len := 0) (e := 3) (X := ((slA 1 (AV.i .i64)) a.status)) (A := (AV.i .i64)) (i := tI_3) (p := 4) (xs := []) (ys := a.status) kr kr kr (hx := kr) kr ⟨by decide, by kernel_rfl⟩ rfl sd (by show _ * 8 ≤ 140737488355328; first | omega | (simp only [List.length_append, List.length_cons, List.length_nil, List.length_set, List.length_replicate]; omega) | (simp; omega)) sd) le ?_
 refine Aq (AV.own 5 0 a.status.length) <| Ad <| Sq <| Awp.drawn tabS_ok mixed 18 kr le <| Dq (AV.loc 0 0 0) <| Dq (AV.st [((slA 7 DEdge.av) a.graph.edges), ((slA 2 DPool.av) a.graph.pools), ((slA 1 AV.s) a.graph.defaults)]) <| AOpsD.sc0 (vs := [(AV.st [((slA 7 DEdge.av) a.graph.edges), ((slA 2 DPool.av) a.graph.pools), ((slA 1 AV.s) a.graph.defaults)])]) (r0 := (DGraph.av (m_f (⟨a.graph.edges, a.graph.pools, a.graph.defaults⟩ : DGraph)))) kr kr (w_law0_CopyGraph W (⟨a.graph.edges, a.graph.pools, a.graph.defaults⟩ : DGraph) sd) kr le <| Dq (AV.loc 0 0 3) <| Dq ((slA 3 DAction.av) a.actions) <| AOpsD.sc0 (vs := [((slA 3 DAction.av) a.actions)]) (r0 := ((slA 3 DAction.av) (m_x a.actions))) kr kr (w_law0_CopyActions W a.actions sd) kr le <| Dq (AV.loc 0 0 4) <| Dq (AV.st [(AV.i .i64 a.disk.clock), ((slA 3 DFile.av) a.disk.files)]) <| AOpsD.sc0 (vs := [(AV.st [(AV.i .i64 a.disk.clock), ((slA 3 DFile.av) a.disk.files)])]) (r0 := (DDisk.av (m_o (⟨a.disk.clock, a.disk.files⟩ : DDisk)))) kr kr (w_law0_CopyDisk W (⟨a.disk.clock, a.disk.files⟩ : DDisk) sd) kr le <| Dq (AV.own 3 0 a.log.length) <| Dq (AV.loc 0 0 7) <| Dq ((slA 3 DFound.av) a.deps) <| AOpsD.sc0 (vs := [((slA 3 DFound.av) a.deps)]) (r0 := ((slA 3 DFound.av) (m_2 a.deps))) kr kr (w_law0_CopyFounds W a.deps sd) kr le <| Dq (AV.loc 0 0 8) <| Dq (AV.i .i64 a.jobs) <| Dq (AV.loc 0 0 9) <| Dq (AV.b a.going) <| Dq (AV.own 5 0 a.status.length) <| AOpsD.sn (x := (AV.st [((slA 7 DEdge.av) ((m_f (⟨a.graph.edges, a.graph.pools, a.graph.defaults⟩ : DGraph)).edges)), ((slA 2 DPool.av) ((m_f (⟨a.graph.edges, a.graph.pools, a.graph.defaults⟩ : DGraph)).pools)), ((slA 1 AV.s) ((m_f (⟨a.graph.edges, a.graph.pools, a.graph.defaults⟩ : DGraph)).defaults)), ((slA 3 DAction.av) (m_x a.actions)), (AV.i .i64 ((m_o (⟨a.disk.clock, a.disk.files⟩ : DDisk)).clock)), ((slA 3 DFile.av) ((m_o (⟨a.disk.clock, a.disk.files⟩ : DDisk)).files)), (AV.own 3 0 a.log.length), ((slA 3 DFound.av) (m_2 a.deps)), (AV.i .i64 a.jobs), (AV.b a.going), (AV.own 5 0 a.status.length)])) (h' := ⟨6, [(5, some ⟨3, 1, a.status.map (AV.i .i64)⟩), (4, none), (3, some ⟨138, 3, a.log.map DRecord.av⟩), (2, none), (1, some ⟨64, 11, [(AV.st [(AV.sl 7 true []), (AV.sl 2 true []), (AV.sl 1 true []), (AV.sl 3 true []), (AV.i .i64 (0 : Int)), (AV.sl 3 true []), (AV.sl 3 true []), (AV.sl 3 true []), (AV.i .i64 (0 : Int)), (AV.b false), (AV.sl 1 true [])])]⟩), (0, some ⟨64, 11, [(DState.av a)]⟩)]⟩) kr le ?_
 refine AOpsD.st (by decide) (x := AV.und) (h' := ⟨6, [(5, some ⟨3, 1, a.status.map (AV.i .i64)⟩), (4, none), (3, some ⟨138, 3, a.log.map DRecord.av⟩), (2, none), (1, some ⟨64, 11, [(AV.st [((slA 7 DEdge.av) ((m_f (⟨a.graph.edges, a.graph.pools, a.graph.defaults⟩ : DGraph)).edges)), ((slA 2 DPool.av) ((m_f (⟨a.graph.edges, a.graph.pools, a.graph.defaults⟩ : DGraph)).pools)), ((slA 1 AV.s) ((m_f (⟨a.graph.edges, a.graph.pools, a.graph.defaults⟩ : DGraph)).defaults)), ((slA 3 DAction.av) (m_x a.actions)), (AV.i .i64 ((m_o (⟨a.disk.clock, a.disk.files⟩ : DDisk)).clock)), ((slA 3 DFile.av) ((m_o (⟨a.disk.clock, a.disk.files⟩ : DDisk)).files)), (AV.own 3 0 a.log.length), ((slA 3 DFound.av) (m_2 a.deps)), (AV.i .i64 a.jobs), (AV.b a.going), (AV.own 5 0 a.status.length)])]⟩), (0, some ⟨64, 11, [(DState.av a)]⟩)]⟩) kr <| AOpsD.fin <| Rt ?_
 have hM : m_a a = (⟨(⟨(m_f (⟨a.graph.edges, a.graph.pools, a.graph.defaults⟩ : DGraph)).edges, (m_f (⟨a.graph.edges, a.graph.pools, a.graph.defaults⟩ : DGraph)).pools, (m_f (⟨a.graph.edges, a.graph.pools, a.graph.defaults⟩ : DGraph)).defaults⟩ : DGraph), (m_x a.actions), (⟨(m_o (⟨a.disk.clock, a.disk.files⟩ : DDisk)).clock, (m_o (⟨a.disk.clock, a.disk.files⟩ : DDisk)).files⟩ : DDisk), a.log, (m_2 a.deps), a.jobs, a.going, a.status⟩ : DState) := by simp only [m_a, sbt]
 rw [hM]
 refine ⟨Or.inr rfl, (AV.st [((slA 7 DEdge.av) ((m_f (⟨a.graph.edges, a.graph.pools, a.graph.defaults⟩ : DGraph)).edges)), ((slA 2 DPool.av) ((m_f (⟨a.graph.edges, a.graph.pools, a.graph.defaults⟩ : DGraph)).pools)), ((slA 1 AV.s) ((m_f (⟨a.graph.edges, a.graph.pools, a.graph.defaults⟩ : DGraph)).defaults)), ((slA 3 DAction.av) (m_x a.actions)), (AV.i .i64 ((m_o (⟨a.disk.clock, a.disk.files⟩ : DDisk)).clock)), ((slA 3 DFile.av) ((m_o (⟨a.disk.clock, a.disk.files⟩ : DDisk)).files)), (AV.own 3 0 a.log.length), ((slA 3 DFound.av) (m_2 a.deps)), (AV.i .i64 a.jobs), (AV.b a.going), (AV.own 5 0 a.status.length)]), kr, [5], by decide, rfl, (own_row (fun _ => rfl) (e := 3) (k := 1) (A := (AV.i .i64)) (xs := a.status) rfl), ?_⟩
 exact Ent.cast (x' := (AV.st [((slA 7 DEdge.av) ((m_f (⟨a.graph.edges, a.graph.pools, a.graph.defaults⟩ : DGraph)).edges)), ((slA 2 DPool.av) ((m_f (⟨a.graph.edges, a.graph.pools, a.graph.defaults⟩ : DGraph)).pools)), ((slA 1 AV.s) ((m_f (⟨a.graph.edges, a.graph.pools, a.graph.defaults⟩ : DGraph)).defaults)), ((slA 3 DAction.av) (m_x a.actions)), (AV.i .i64 ((m_o (⟨a.disk.clock, a.disk.files⟩ : DDisk)).clock)), ((slA 3 DFile.av) ((m_o (⟨a.disk.clock, a.disk.files⟩ : DDisk)).files)), (AV.own 3 0 a.log.length), ((slA 3 DFound.av) (m_2 a.deps)), (AV.i .i64 a.jobs), (AV.b a.going), (AV.own 5 0 a.status.length)])) (y' := (AV.st [((slA 7 DEdge.av) (((⟨(⟨(m_f (⟨a.graph.edges, a.graph.pools, a.graph.defaults⟩ : DGraph)).edges, (m_f (⟨a.graph.edges, a.graph.pools, a.graph.defaults⟩ : DGraph)).pools, (m_f (⟨a.graph.edges, a.graph.pools, a.graph.defaults⟩ : DGraph)).defaults⟩ : DGraph), (m_x a.actions), (⟨(m_o (⟨a.disk.clock, a.disk.files⟩ : DDisk)).clock, (m_o (⟨a.disk.clock, a.disk.files⟩ : DDisk)).files⟩ : DDisk), a.log, (m_2 a.deps), a.jobs, a.going, a.status⟩ : DState).graph).edges)), ((slA 2 DPool.av) (((⟨(⟨(m_f (⟨a.graph.edges, a.graph.pools, a.graph.defaults⟩ : DGraph)).edges, (m_f (⟨a.graph.edges, a.graph.pools, a.graph.defaults⟩ : DGraph)).pools, (m_f (⟨a.graph.edges, a.graph.pools, a.graph.defaults⟩ : DGraph)).defaults⟩ : DGraph), (m_x a.actions), (⟨(m_o (⟨a.disk.clock, a.disk.files⟩ : DDisk)).clock, (m_o (⟨a.disk.clock, a.disk.files⟩ : DDisk)).files⟩ : DDisk), a.log, (m_2 a.deps), a.jobs, a.going, a.status⟩ : DState).graph).pools)), ((slA 1 AV.s) (((⟨(⟨(m_f (⟨a.graph.edges, a.graph.pools, a.graph.defaults⟩ : DGraph)).edges, (m_f (⟨a.graph.edges, a.graph.pools, a.graph.defaults⟩ : DGraph)).pools, (m_f (⟨a.graph.edges, a.graph.pools, a.graph.defaults⟩ : DGraph)).defaults⟩ : DGraph), (m_x a.actions), (⟨(m_o (⟨a.disk.clock, a.disk.files⟩ : DDisk)).clock, (m_o (⟨a.disk.clock, a.disk.files⟩ : DDisk)).files⟩ : DDisk), a.log, (m_2 a.deps), a.jobs, a.going, a.status⟩ : DState).graph).defaults)), ((slA 3 DAction.av) ((⟨(⟨(m_f (⟨a.graph.edges, a.graph.pools, a.graph.defaults⟩ : DGraph)).edges, (m_f (⟨a.graph.edges, a.graph.pools, a.graph.defaults⟩ : DGraph)).pools, (m_f (⟨a.graph.edges, a.graph.pools, a.graph.defaults⟩ : DGraph)).defaults⟩ : DGraph), (m_x a.actions), (⟨(m_o (⟨a.disk.clock, a.disk.files⟩ : DDisk)).clock, (m_o (⟨a.disk.clock, a.disk.files⟩ : DDisk)).files⟩ : DDisk), a.log, (m_2 a.deps), a.jobs, a.going, a.status⟩ : DState).actions)), (AV.i .i64 (((⟨(⟨(m_f (⟨a.graph.edges, a.graph.pools, a.graph.defaults⟩ : DGraph)).edges, (m_f (⟨a.graph.edges, a.graph.pools, a.graph.defaults⟩ : DGraph)).pools, (m_f (⟨a.graph.edges, a.graph.pools, a.graph.defaults⟩ : DGraph)).defaults⟩ : DGraph), (m_x a.actions), (⟨(m_o (⟨a.disk.clock, a.disk.files⟩ : DDisk)).clock, (m_o (⟨a.disk.clock, a.disk.files⟩ : DDisk)).files⟩ : DDisk), a.log, (m_2 a.deps), a.jobs, a.going, a.status⟩ : DState).disk).clock)), ((slA 3 DFile.av) (((⟨(⟨(m_f (⟨a.graph.edges, a.graph.pools, a.graph.defaults⟩ : DGraph)).edges, (m_f (⟨a.graph.edges, a.graph.pools, a.graph.defaults⟩ : DGraph)).pools, (m_f (⟨a.graph.edges, a.graph.pools, a.graph.defaults⟩ : DGraph)).defaults⟩ : DGraph), (m_x a.actions), (⟨(m_o (⟨a.disk.clock, a.disk.files⟩ : DDisk)).clock, (m_o (⟨a.disk.clock, a.disk.files⟩ : DDisk)).files⟩ : DDisk), a.log, (m_2 a.deps), a.jobs, a.going, a.status⟩ : DState).disk).files)), ((slA 3 DRecord.av) ((⟨(⟨(m_f (⟨a.graph.edges, a.graph.pools, a.graph.defaults⟩ : DGraph)).edges, (m_f (⟨a.graph.edges, a.graph.pools, a.graph.defaults⟩ : DGraph)).pools, (m_f (⟨a.graph.edges, a.graph.pools, a.graph.defaults⟩ : DGraph)).defaults⟩ : DGraph), (m_x a.actions), (⟨(m_o (⟨a.disk.clock, a.disk.files⟩ : DDisk)).clock, (m_o (⟨a.disk.clock, a.disk.files⟩ : DDisk)).files⟩ : DDisk), a.log, (m_2 a.deps), a.jobs, a.going, a.status⟩ : DState).log)), ((slA 3 DFound.av) ((⟨(⟨(m_f (⟨a.graph.edges, a.graph.pools, a.graph.defaults⟩ : DGraph)).edges, (m_f (⟨a.graph.edges, a.graph.pools, a.graph.defaults⟩ : DGraph)).pools, (m_f (⟨a.graph.edges, a.graph.pools, a.graph.defaults⟩ : DGraph)).defaults⟩ : DGraph), (m_x a.actions), (⟨(m_o (⟨a.disk.clock, a.disk.files⟩ : DDisk)).clock, (m_o (⟨a.disk.clock, a.disk.files⟩ : DDisk)).files⟩ : DDisk), a.log, (m_2 a.deps), a.jobs, a.going, a.status⟩ : DState).deps)), (AV.i .i64 ((⟨(⟨(m_f (⟨a.graph.edges, a.graph.pools, a.graph.defaults⟩ : DGraph)).edges, (m_f (⟨a.graph.edges, a.graph.pools, a.graph.defaults⟩ : DGraph)).pools, (m_f (⟨a.graph.edges, a.graph.pools, a.graph.defaults⟩ : DGraph)).defaults⟩ : DGraph), (m_x a.actions), (⟨(m_o (⟨a.disk.clock, a.disk.files⟩ : DDisk)).clock, (m_o (⟨a.disk.clock, a.disk.files⟩ : DDisk)).files⟩ : DDisk), a.log, (m_2 a.deps), a.jobs, a.going, a.status⟩ : DState).jobs)), (AV.b ((⟨(⟨(m_f (⟨a.graph.edges, a.graph.pools, a.graph.defaults⟩ : DGraph)).edges, (m_f (⟨a.graph.edges, a.graph.pools, a.graph.defaults⟩ : DGraph)).pools, (m_f (⟨a.graph.edges, a.graph.pools, a.graph.defaults⟩ : DGraph)).defaults⟩ : DGraph), (m_x a.actions), (⟨(m_o (⟨a.disk.clock, a.disk.files⟩ : DDisk)).clock, (m_o (⟨a.disk.clock, a.disk.files⟩ : DDisk)).files⟩ : DDisk), a.log, (m_2 a.deps), a.jobs, a.going, a.status⟩ : DState).going)), (AV.own 0 0 (((⟨(⟨(m_f (⟨a.graph.edges, a.graph.pools, a.graph.defaults⟩ : DGraph)).edges, (m_f (⟨a.graph.edges, a.graph.pools, a.graph.defaults⟩ : DGraph)).pools, (m_f (⟨a.graph.edges, a.graph.pools, a.graph.defaults⟩ : DGraph)).defaults⟩ : DGraph), (m_x a.actions), (⟨(m_o (⟨a.disk.clock, a.disk.files⟩ : DDisk)).clock, (m_o (⟨a.disk.clock, a.disk.files⟩ : DDisk)).files⟩ : DDisk), a.log, (m_2 a.deps), a.jobs, a.going, a.status⟩ : DState).status).length))])) kr kr (Ent.f (fin_st (FinPs.cons (fin_c kr) (FinPs.cons (fin_c kr) (FinPs.cons (fin_c kr) (FinPs.cons (fin_c kr) (FinPs.cons (fin_c kr) (FinPs.cons (fin_c kr) (FinPs.cons (fin_row (fun _ => rfl) (e := 138) (k := 3) (A := DRecord.av) (xs := a.log) (by decide) rfl rfl rfl sd) (FinPs.cons (fin_c kr) (FinPs.cons (fin_c kr) (FinPs.cons (fin_c kr) (FinPs.cons (fin_o (by decide) sd) FinPs.nil)))))))))))))
theorem wd_law22_start (W : World) : PureAt Go.Proofs.Tryz.prog W 49 [] (AV.st [(AV.own 0 0 3), (AV.own 9 0 1), (AV.own 10 0 1), (AV.own 11 0 1), (AV.i .i64 (4 : Int)), (AV.own 13 0 4), (AV.sl 3 true []), (AV.sl 3 true []), (AV.i .i64 (2 : Int)), (AV.b false), (AV.sl 1 true [])]) [⟨76, 7, [(AV.st [(AV.own 1 0 1), (AV.own 2 0 2), (AV.sl 1 true []), (AV.sl 1 true []), (AV.s (⟨#[97, 114]⟩ : ByteArray)), (AV.b false), (AV.s (⟨#[]⟩ : ByteArray))]), (AV.st [(AV.own 3 0 2), (AV.own 4 0 1), (AV.own 5 0 1), (AV.sl 1 true []), (AV.s (⟨#[99, 99, 32, 97]⟩ : ByteArray)), (AV.b true), (AV.s (⟨#[116, 119, 111]⟩ : ByteArray))]), (AV.st [(AV.own 6 0 1), (AV.own 7 0 1), (AV.sl 1 true []), (AV.own 8 0 1), (AV.s (⟨#[99, 99, 32, 98]⟩ : ByteArray)), (AV.b false), (AV.s (⟨#[116, 119, 111]⟩ : ByteArray))])]⟩, ⟨9, 1, [(⟨#[108, 105, 98]⟩ : ByteArray)].map AV.s⟩, ⟨9, 1, [(⟨#[97, 46, 111]⟩ : ByteArray), (⟨#[98, 46, 111]⟩ : ByteArray)].map AV.s⟩, ⟨9, 1, [(⟨#[97, 46, 111]⟩ : ByteArray), (⟨#[97, 46, 100]⟩ : ByteArray)].map AV.s⟩, ⟨9, 1, [(⟨#[97, 46, 99]⟩ : ByteArray)].map AV.s⟩, ⟨9, 1, [(⟨#[97, 46, 104]⟩ : ByteArray)].map AV.s⟩, ⟨9, 1, [(⟨#[98, 46, 111]⟩ : ByteArray)].map AV.s⟩, ⟨9, 1, [(⟨#[98, 46, 99]⟩ : ByteArray)].map AV.s⟩, ⟨9, 1, [(⟨#[97, 46, 111]⟩ : ByteArray)].map AV.s⟩, ⟨81, 2, [(⟨(⟨#[116, 119, 111]⟩ : ByteArray), (2 : Int)⟩ : DPool)].map DPool.av⟩, ⟨9, 1, [(⟨#[108, 105, 98]⟩ : ByteArray)].map AV.s⟩, ⟨121, 3, [(AV.st [(AV.s (⟨#[99, 99, 32, 97]⟩ : ByteArray)), (AV.own 12 0 1), (AV.b false)])]⟩, ⟨9, 1, [(⟨#[122, 46, 104]⟩ : ByteArray)].map AV.s⟩, ⟨119, 3, [lit35ef0, litb1de5, litf2893, lit881d0].map DFile.av⟩] := by
 refine pure_of_run tabS_ok (fn := Go.Proofs.Tryz.f49) Go.Proofs.Tryz.func49 rfl (en49 W) le <| Sq <| Rg <| Nn (AV.loc 0 0 0) ⟨64, 11, [(AV.st [(AV.sl 7 true []), (AV.sl 2 true []), (AV.sl 1 true []), (AV.sl 3 true []), (AV.i .i64 (0 : Int)), (AV.sl 3 true []), (AV.sl 3 true []), (AV.sl 3 true []), (AV.i .i64 (0 : Int)), (AV.b false), (AV.sl 1 true [])])]⟩ <| Ad <| Sq <| Rg <| Nn (AV.own 1 0 1) ⟨9, 1, [(⟨#[108, 105, 98]⟩ : ByteArray)].map AV.s⟩ <| Nn (AV.own 2 0 2) ⟨9, 1, [(⟨#[97, 46, 111]⟩ : ByteArray), (⟨#[98, 46, 111]⟩ : ByteArray)].map AV.s⟩ <| AOps.sn (x := (AV.st [(AV.own 1 0 1), (AV.own 2 0 2), (AV.sl 1 true []), (AV.sl 1 true []), (AV.s (⟨#[97, 114]⟩ : ByteArray)), (AV.b false), (AV.s (⟨#[]⟩ : ByteArray))])) (h' := ⟨3, [(2, some ⟨9, 1, [(⟨#[97, 46, 111]⟩ : ByteArray), (⟨#[98, 46, 111]⟩ : ByteArray)].map AV.s⟩), (1, some ⟨9, 1, [(⟨#[108, 105, 98]⟩ : ByteArray)].map AV.s⟩), (0, some ⟨64, 11, [(AV.st [(AV.sl 7 true []), (AV.sl 2 true []), (AV.sl 1 true []), (AV.sl 3 true []), (AV.i .i64 (0 : Int)), (AV.sl 3 true []), (AV.sl 3 true []), (AV.sl 3 true []), (AV.i .i64 (0 : Int)), (AV.b false), (AV.sl 1 true [])])]⟩)]⟩) kr le <| Nn (AV.own 3 0 2) ⟨9, 1, [(⟨#[97, 46, 111]⟩ : ByteArray), (⟨#[97, 46, 100]⟩ : ByteArray)].map AV.s⟩ <| Nn (AV.own 4 0 1) ⟨9, 1, [(⟨#[97, 46, 99]⟩ : ByteArray)].map AV.s⟩ <| Nn (AV.own 5 0 1) ⟨9, 1, [(⟨#[97, 46, 104]⟩ : ByteArray)].map AV.s⟩ <| AOps.sn (x := (AV.st [(AV.own 3 0 2), (AV.own 4 0 1), (AV.own 5 0 1), (AV.sl 1 true []), (AV.s (⟨#[99, 99, 32, 97]⟩ : ByteArray)), (AV.b true), (AV.s (⟨#[116, 119, 111]⟩ : ByteArray))])) (h' := ⟨6, [(5, some ⟨9, 1, [(⟨#[97, 46, 104]⟩ : ByteArray)].map AV.s⟩), (4, some ⟨9, 1, [(⟨#[97, 46, 99]⟩ : ByteArray)].map AV.s⟩), (3, some ⟨9, 1, [(⟨#[97, 46, 111]⟩ : ByteArray), (⟨#[97, 46, 100]⟩ : ByteArray)].map AV.s⟩), (2, some ⟨9, 1, [(⟨#[97, 46, 111]⟩ : ByteArray), (⟨#[98, 46, 111]⟩ : ByteArray)].map AV.s⟩), (1, some ⟨9, 1, [(⟨#[108, 105, 98]⟩ : ByteArray)].map AV.s⟩), (0, some ⟨64, 11, [(AV.st [(AV.sl 7 true []), (AV.sl 2 true []), (AV.sl 1 true []), (AV.sl 3 true []), (AV.i .i64 (0 : Int)), (AV.sl 3 true []), (AV.sl 3 true []), (AV.sl 3 true []), (AV.i .i64 (0 : Int)), (AV.b false), (AV.sl 1 true [])])]⟩)]⟩) kr le ?_
 refine Nn (AV.own 6 0 1) ⟨9, 1, [(⟨#[98, 46, 111]⟩ : ByteArray)].map AV.s⟩ <| Nn (AV.own 7 0 1) ⟨9, 1, [(⟨#[98, 46, 99]⟩ : ByteArray)].map AV.s⟩ <| Nn (AV.own 8 0 1) ⟨9, 1, [(⟨#[97, 46, 111]⟩ : ByteArray)].map AV.s⟩ <| AOps.sn (x := (AV.st [(AV.own 6 0 1), (AV.own 7 0 1), (AV.sl 1 true []), (AV.own 8 0 1), (AV.s (⟨#[99, 99, 32, 98]⟩ : ByteArray)), (AV.b false), (AV.s (⟨#[116, 119, 111]⟩ : ByteArray))])) (h' := ⟨9, [(8, some ⟨9, 1, [(⟨#[97, 46, 111]⟩ : ByteArray)].map AV.s⟩), (7, some ⟨9, 1, [(⟨#[98, 46, 99]⟩ : ByteArray)].map AV.s⟩), (6, some ⟨9, 1, [(⟨#[98, 46, 111]⟩ : ByteArray)].map AV.s⟩), (5, some ⟨9, 1, [(⟨#[97, 46, 104]⟩ : ByteArray)].map AV.s⟩), (4, some ⟨9, 1, [(⟨#[97, 46, 99]⟩ : ByteArray)].map AV.s⟩), (3, some ⟨9, 1, [(⟨#[97, 46, 111]⟩ : ByteArray), (⟨#[97, 46, 100]⟩ : ByteArray)].map AV.s⟩), (2, some ⟨9, 1, [(⟨#[97, 46, 111]⟩ : ByteArray), (⟨#[98, 46, 111]⟩ : ByteArray)].map AV.s⟩), (1, some ⟨9, 1, [(⟨#[108, 105, 98]⟩ : ByteArray)].map AV.s⟩), (0, some ⟨64, 11, [(AV.st [(AV.sl 7 true []), (AV.sl 2 true []), (AV.sl 1 true []), (AV.sl 3 true []), (AV.i .i64 (0 : Int)), (AV.sl 3 true []), (AV.sl 3 true []), (AV.sl 3 true []), (AV.i .i64 (0 : Int)), (AV.b false), (AV.sl 1 true [])])]⟩)]⟩) kr le <| Nn (AV.own 9 0 3) ⟨76, 7, [(AV.st [(AV.own 1 0 1), (AV.own 2 0 2), (AV.sl 1 true []), (AV.sl 1 true []), (AV.s (⟨#[97, 114]⟩ : ByteArray)), (AV.b false), (AV.s (⟨#[]⟩ : ByteArray))]), (AV.st [(AV.own 3 0 2), (AV.own 4 0 1), (AV.own 5 0 1), (AV.sl 1 true []), (AV.s (⟨#[99, 99, 32, 97]⟩ : ByteArray)), (AV.b true), (AV.s (⟨#[116, 119, 111]⟩ : ByteArray))]), (AV.st [(AV.own 6 0 1), (AV.own 7 0 1), (AV.sl 1 true []), (AV.own 8 0 1), (AV.s (⟨#[99, 99, 32, 98]⟩ : ByteArray)), (AV.b false), (AV.s (⟨#[116, 119, 111]⟩ : ByteArray))])]⟩ ?_
 refine AOps.sn (x := (AV.st [(AV.s (⟨#[116, 119, 111]⟩ : ByteArray)), (AV.i .i64 (2 : Int))])) (h' := ⟨10, [(9, some ⟨76, 7, [(AV.st [(AV.own 1 0 1), (AV.own 2 0 2), (AV.sl 1 true []), (AV.sl 1 true []), (AV.s (⟨#[97, 114]⟩ : ByteArray)), (AV.b false), (AV.s (⟨#[]⟩ : ByteArray))]), (AV.st [(AV.own 3 0 2), (AV.own 4 0 1), (AV.own 5 0 1), (AV.sl 1 true []), (AV.s (⟨#[99, 99, 32, 97]⟩ : ByteArray)), (AV.b true), (AV.s (⟨#[116, 119, 111]⟩ : ByteArray))]), (AV.st [(AV.own 6 0 1), (AV.own 7 0 1), (AV.sl 1 true []), (AV.own 8 0 1), (AV.s (⟨#[99, 99, 32, 98]⟩ : ByteArray)), (AV.b false), (AV.s (⟨#[116, 119, 111]⟩ : ByteArray))])]⟩), (8, some ⟨9, 1, [(⟨#[97, 46, 111]⟩ : ByteArray)].map AV.s⟩), (7, some ⟨9, 1, [(⟨#[98, 46, 99]⟩ : ByteArray)].map AV.s⟩), (6, some ⟨9, 1, [(⟨#[98, 46, 111]⟩ : ByteArray)].map AV.s⟩), (5, some ⟨9, 1, [(⟨#[97, 46, 104]⟩ : ByteArray)].map AV.s⟩), (4, some ⟨9, 1, [(⟨#[97, 46, 99]⟩ : ByteArray)].map AV.s⟩), (3, some ⟨9, 1, [(⟨#[97, 46, 111]⟩ : ByteArray), (⟨#[97, 46, 100]⟩ : ByteArray)].map AV.s⟩), (2, some ⟨9, 1, [(⟨#[97, 46, 111]⟩ : ByteArray), (⟨#[98, 46, 111]⟩ : ByteArray)].map AV.s⟩), (1, some ⟨9, 1, [(⟨#[108, 105, 98]⟩ : ByteArray)].map AV.s⟩), (0, some ⟨64, 11, [(AV.st [(AV.sl 7 true []), (AV.sl 2 true []), (AV.sl 1 true []), (AV.sl 3 true []), (AV.i .i64 (0 : Int)), (AV.sl 3 true []), (AV.sl 3 true []), (AV.sl 3 true []), (AV.i .i64 (0 : Int)), (AV.b false), (AV.sl 1 true [])])]⟩)]⟩) kr le <| Nn (AV.own 10 0 1) ⟨81, 2, [(⟨(⟨#[116, 119, 111]⟩ : ByteArray), (2 : Int)⟩ : DPool)].map DPool.av⟩ ?_
 refine Nn (AV.own 11 0 1) ⟨9, 1, [(⟨#[108, 105, 98]⟩ : ByteArray)].map AV.s⟩ <| AOps.sn (x := (AV.st [(AV.own 9 0 3), (AV.own 10 0 1), (AV.own 11 0 1)])) (h' := ⟨12, [(11, some ⟨9, 1, [(⟨#[108, 105, 98]⟩ : ByteArray)].map AV.s⟩), (10, some ⟨81, 2, [(⟨(⟨#[116, 119, 111]⟩ : ByteArray), (2 : Int)⟩ : DPool)].map DPool.av⟩), (9, some ⟨76, 7, [(AV.st [(AV.own 1 0 1), (AV.own 2 0 2), (AV.sl 1 true []), (AV.sl 1 true []), (AV.s (⟨#[97, 114]⟩ : ByteArray)), (AV.b false), (AV.s (⟨#[]⟩ : ByteArray))]), (AV.st [(AV.own 3 0 2), (AV.own 4 0 1), (AV.own 5 0 1), (AV.sl 1 true []), (AV.s (⟨#[99, 99, 32, 97]⟩ : ByteArray)), (AV.b true), (AV.s (⟨#[116, 119, 111]⟩ : ByteArray))]), (AV.st [(AV.own 6 0 1), (AV.own 7 0 1), (AV.sl 1 true []), (AV.own 8 0 1), (AV.s (⟨#[99, 99, 32, 98]⟩ : ByteArray)), (AV.b false), (AV.s (⟨#[116, 119, 111]⟩ : ByteArray))])]⟩), (8, some ⟨9, 1, [(⟨#[97, 46, 111]⟩ : ByteArray)].map AV.s⟩), (7, some ⟨9, 1, [(⟨#[98, 46, 99]⟩ : ByteArray)].map AV.s⟩), (6, some ⟨9, 1, [(⟨#[98, 46, 111]⟩ : ByteArray)].map AV.s⟩), (5, some ⟨9, 1, [(⟨#[97, 46, 104]⟩ : ByteArray)].map AV.s⟩), (4, some ⟨9, 1, [(⟨#[97, 46, 99]⟩ : ByteArray)].map AV.s⟩), (3, some ⟨9, 1, [(⟨#[97, 46, 111]⟩ : ByteArray), (⟨#[97, 46, 100]⟩ : ByteArray)].map AV.s⟩), (2, some ⟨9, 1, [(⟨#[97, 46, 111]⟩ : ByteArray), (⟨#[98, 46, 111]⟩ : ByteArray)].map AV.s⟩), (1, some ⟨9, 1, [(⟨#[108, 105, 98]⟩ : ByteArray)].map AV.s⟩), (0, some ⟨64, 11, [(AV.st [(AV.sl 7 true []), (AV.sl 2 true []), (AV.sl 1 true []), (AV.sl 3 true []), (AV.i .i64 (0 : Int)), (AV.sl 3 true []), (AV.sl 3 true []), (AV.sl 3 true []), (AV.i .i64 (0 : Int)), (AV.b false), (AV.sl 1 true [])])]⟩)]⟩) kr le ?_
 refine Nn (AV.loc 12 0 0) ⟨26, 3, [(AV.st [(AV.sl 7 true []), (AV.sl 2 true []), (AV.sl 1 true [])])]⟩ <| Sp 12 ⟨26, 3, [(AV.st [(AV.own 9 0 3), (AV.own 10 0 1), (AV.own 11 0 1)])]⟩ <| Ad <| Sq <| Rg <| AOps.sn (x := (AV.st [(AV.s (⟨#[97, 46, 99]⟩ : ByteArray)), (AV.i .i64 (1 : Int)), (AV.i .i64 (1 : Int))])) (h' := ⟨13, [(12, some ⟨26, 3, [(AV.st [(AV.own 9 0 3), (AV.own 10 0 1), (AV.own 11 0 1)])]⟩), (11, some ⟨9, 1, [(⟨#[108, 105, 98]⟩ : ByteArray)].map AV.s⟩), (10, some ⟨81, 2, [(⟨(⟨#[116, 119, 111]⟩ : ByteArray), (2 : Int)⟩ : DPool)].map DPool.av⟩), (9, some ⟨76, 7, [(AV.st [(AV.own 1 0 1), (AV.own 2 0 2), (AV.sl 1 true []), (AV.sl 1 true []), (AV.s (⟨#[97, 114]⟩ : ByteArray)), (AV.b false), (AV.s (⟨#[]⟩ : ByteArray))]), (AV.st [(AV.own 3 0 2), (AV.own 4 0 1), (AV.own 5 0 1), (AV.sl 1 true []), (AV.s (⟨#[99, 99, 32, 97]⟩ : ByteArray)), (AV.b true), (AV.s (⟨#[116, 119, 111]⟩ : ByteArray))]), (AV.st [(AV.own 6 0 1), (AV.own 7 0 1), (AV.sl 1 true []), (AV.own 8 0 1), (AV.s (⟨#[99, 99, 32, 98]⟩ : ByteArray)), (AV.b false), (AV.s (⟨#[116, 119, 111]⟩ : ByteArray))])]⟩), (8, some ⟨9, 1, [(⟨#[97, 46, 111]⟩ : ByteArray)].map AV.s⟩), (7, some ⟨9, 1, [(⟨#[98, 46, 99]⟩ : ByteArray)].map AV.s⟩), (6, some ⟨9, 1, [(⟨#[98, 46, 111]⟩ : ByteArray)].map AV.s⟩), (5, some ⟨9, 1, [(⟨#[97, 46, 104]⟩ : ByteArray)].map AV.s⟩), (4, some ⟨9, 1, [(⟨#[97, 46, 99]⟩ : ByteArray)].map AV.s⟩), (3, some ⟨9, 1, [(⟨#[97, 46, 111]⟩ : ByteArray), (⟨#[97, 46, 100]⟩ : ByteArray)].map AV.s⟩), (2, some ⟨9, 1, [(⟨#[97, 46, 111]⟩ : ByteArray), (⟨#[98, 46, 111]⟩ : ByteArray)].map AV.s⟩), (1, some ⟨9, 1, [(⟨#[108, 105, 98]⟩ : ByteArray)].map AV.s⟩), (0, some ⟨64, 11, [(AV.st [(AV.sl 7 true []), (AV.sl 2 true []), (AV.sl 1 true []), (AV.sl 3 true []), (AV.i .i64 (0 : Int)), (AV.sl 3 true []), (AV.sl 3 true []), (AV.sl 3 true []), (AV.i .i64 (0 : Int)), (AV.b false), (AV.sl 1 true [])])]⟩)]⟩) kr le ?_
 refine AOps.sn (x := (AV.st [(AV.s (⟨#[97, 46, 104]⟩ : ByteArray)), (AV.i .i64 (2 : Int)), (AV.i .i64 (2 : Int))])) (h' := ⟨13, [(12, some ⟨26, 3, [(AV.st [(AV.own 9 0 3), (AV.own 10 0 1), (AV.own 11 0 1)])]⟩), (11, some ⟨9, 1, [(⟨#[108, 105, 98]⟩ : ByteArray)].map AV.s⟩), (10, some ⟨81, 2, [(⟨(⟨#[116, 119, 111]⟩ : ByteArray), (2 : Int)⟩ : DPool)].map DPool.av⟩), (9, some ⟨76, 7, [(AV.st [(AV.own 1 0 1), (AV.own 2 0 2), (AV.sl 1 true []), (AV.sl 1 true []), (AV.s (⟨#[97, 114]⟩ : ByteArray)), (AV.b false), (AV.s (⟨#[]⟩ : ByteArray))]), (AV.st [(AV.own 3 0 2), (AV.own 4 0 1), (AV.own 5 0 1), (AV.sl 1 true []), (AV.s (⟨#[99, 99, 32, 97]⟩ : ByteArray)), (AV.b true), (AV.s (⟨#[116, 119, 111]⟩ : ByteArray))]), (AV.st [(AV.own 6 0 1), (AV.own 7 0 1), (AV.sl 1 true []), (AV.own 8 0 1), (AV.s (⟨#[99, 99, 32, 98]⟩ : ByteArray)), (AV.b false), (AV.s (⟨#[116, 119, 111]⟩ : ByteArray))])]⟩), (8, some ⟨9, 1, [(⟨#[97, 46, 111]⟩ : ByteArray)].map AV.s⟩), (7, some ⟨9, 1, [(⟨#[98, 46, 99]⟩ : ByteArray)].map AV.s⟩), (6, some ⟨9, 1, [(⟨#[98, 46, 111]⟩ : ByteArray)].map AV.s⟩), (5, some ⟨9, 1, [(⟨#[97, 46, 104]⟩ : ByteArray)].map AV.s⟩), (4, some ⟨9, 1, [(⟨#[97, 46, 99]⟩ : ByteArray)].map AV.s⟩), (3, some ⟨9, 1, [(⟨#[97, 46, 111]⟩ : ByteArray), (⟨#[97, 46, 100]⟩ : ByteArray)].map AV.s⟩), (2, some ⟨9, 1, [(⟨#[97, 46, 111]⟩ : ByteArray), (⟨#[98, 46, 111]⟩ : ByteArray)].map AV.s⟩), (1, some ⟨9, 1, [(⟨#[108, 105, 98]⟩ : ByteArray)].map AV.s⟩), (0, some ⟨64, 11, [(AV.st [(AV.sl 7 true []), (AV.sl 2 true []), (AV.sl 1 true []), (AV.sl 3 true []), (AV.i .i64 (0 : Int)), (AV.sl 3 true []), (AV.sl 3 true []), (AV.sl 3 true []), (AV.i .i64 (0 : Int)), (AV.b false), (AV.sl 1 true [])])]⟩)]⟩) kr le ?_
 refine AOps.sn (x := (AV.st [(AV.s (⟨#[98, 46, 99]⟩ : ByteArray)), (AV.i .i64 (3 : Int)), (AV.i .i64 (3 : Int))])) (h' := ⟨13, [(12, some ⟨26, 3, [(AV.st [(AV.own 9 0 3), (AV.own 10 0 1), (AV.own 11 0 1)])]⟩), (11, some ⟨9, 1, [(⟨#[108, 105, 98]⟩ : ByteArray)].map AV.s⟩), (10, some ⟨81, 2, [(⟨(⟨#[116, 119, 111]⟩ : ByteArray), (2 : Int)⟩ : DPool)].map DPool.av⟩), (9, some ⟨76, 7, [(AV.st [(AV.own 1 0 1), (AV.own 2 0 2), (AV.sl 1 true []), (AV.sl 1 true []), (AV.s (⟨#[97, 114]⟩ : ByteArray)), (AV.b false), (AV.s (⟨#[]⟩ : ByteArray))]), (AV.st [(AV.own 3 0 2), (AV.own 4 0 1), (AV.own 5 0 1), (AV.sl 1 true []), (AV.s (⟨#[99, 99, 32, 97]⟩ : ByteArray)), (AV.b true), (AV.s (⟨#[116, 119, 111]⟩ : ByteArray))]), (AV.st [(AV.own 6 0 1), (AV.own 7 0 1), (AV.sl 1 true []), (AV.own 8 0 1), (AV.s (⟨#[99, 99, 32, 98]⟩ : ByteArray)), (AV.b false), (AV.s (⟨#[116, 119, 111]⟩ : ByteArray))])]⟩), (8, some ⟨9, 1, [(⟨#[97, 46, 111]⟩ : ByteArray)].map AV.s⟩), (7, some ⟨9, 1, [(⟨#[98, 46, 99]⟩ : ByteArray)].map AV.s⟩), (6, some ⟨9, 1, [(⟨#[98, 46, 111]⟩ : ByteArray)].map AV.s⟩), (5, some ⟨9, 1, [(⟨#[97, 46, 104]⟩ : ByteArray)].map AV.s⟩), (4, some ⟨9, 1, [(⟨#[97, 46, 99]⟩ : ByteArray)].map AV.s⟩), (3, some ⟨9, 1, [(⟨#[97, 46, 111]⟩ : ByteArray), (⟨#[97, 46, 100]⟩ : ByteArray)].map AV.s⟩), (2, some ⟨9, 1, [(⟨#[97, 46, 111]⟩ : ByteArray), (⟨#[98, 46, 111]⟩ : ByteArray)].map AV.s⟩), (1, some ⟨9, 1, [(⟨#[108, 105, 98]⟩ : ByteArray)].map AV.s⟩), (0, some ⟨64, 11, [(AV.st [(AV.sl 7 true []), (AV.sl 2 true []), (AV.sl 1 true []), (AV.sl 3 true []), (AV.i .i64 (0 : Int)), (AV.sl 3 true []), (AV.sl 3 true []), (AV.sl 3 true []), (AV.i .i64 (0 : Int)), (AV.b false), (AV.sl 1 true [])])]⟩)]⟩) kr le ?_
 refine AOps.sn (x := (AV.st [(AV.s (⟨#[122, 46, 104]⟩ : ByteArray)), (AV.i .i64 (4 : Int)), (AV.i .i64 (4 : Int))])) (h' := ⟨13, [(12, some ⟨26, 3, [(AV.st [(AV.own 9 0 3), (AV.own 10 0 1), (AV.own 11 0 1)])]⟩), (11, some ⟨9, 1, [(⟨#[108, 105, 98]⟩ : ByteArray)].map AV.s⟩), (10, some ⟨81, 2, [(⟨(⟨#[116, 119, 111]⟩ : ByteArray), (2 : Int)⟩ : DPool)].map DPool.av⟩), (9, some ⟨76, 7, [(AV.st [(AV.own 1 0 1), (AV.own 2 0 2), (AV.sl 1 true []), (AV.sl 1 true []), (AV.s (⟨#[97, 114]⟩ : ByteArray)), (AV.b false), (AV.s (⟨#[]⟩ : ByteArray))]), (AV.st [(AV.own 3 0 2), (AV.own 4 0 1), (AV.own 5 0 1), (AV.sl 1 true []), (AV.s (⟨#[99, 99, 32, 97]⟩ : ByteArray)), (AV.b true), (AV.s (⟨#[116, 119, 111]⟩ : ByteArray))]), (AV.st [(AV.own 6 0 1), (AV.own 7 0 1), (AV.sl 1 true []), (AV.own 8 0 1), (AV.s (⟨#[99, 99, 32, 98]⟩ : ByteArray)), (AV.b false), (AV.s (⟨#[116, 119, 111]⟩ : ByteArray))])]⟩), (8, some ⟨9, 1, [(⟨#[97, 46, 111]⟩ : ByteArray)].map AV.s⟩), (7, some ⟨9, 1, [(⟨#[98, 46, 99]⟩ : ByteArray)].map AV.s⟩), (6, some ⟨9, 1, [(⟨#[98, 46, 111]⟩ : ByteArray)].map AV.s⟩), (5, some ⟨9, 1, [(⟨#[97, 46, 104]⟩ : ByteArray)].map AV.s⟩), (4, some ⟨9, 1, [(⟨#[97, 46, 99]⟩ : ByteArray)].map AV.s⟩), (3, some ⟨9, 1, [(⟨#[97, 46, 111]⟩ : ByteArray), (⟨#[97, 46, 100]⟩ : ByteArray)].map AV.s⟩), (2, some ⟨9, 1, [(⟨#[97, 46, 111]⟩ : ByteArray), (⟨#[98, 46, 111]⟩ : ByteArray)].map AV.s⟩), (1, some ⟨9, 1, [(⟨#[108, 105, 98]⟩ : ByteArray)].map AV.s⟩), (0, some ⟨64, 11, [(AV.st [(AV.sl 7 true []), (AV.sl 2 true []), (AV.sl 1 true []), (AV.sl 3 true []), (AV.i .i64 (0 : Int)), (AV.sl 3 true []), (AV.sl 3 true []), (AV.sl 3 true []), (AV.i .i64 (0 : Int)), (AV.b false), (AV.sl 1 true [])])]⟩)]⟩) kr le ?_
 refine Nn (AV.own 13 0 4) ⟨119, 3, [lit35ef0, litb1de5, litf2893, lit881d0].map DFile.av⟩ <| AOps.sn (x := (AV.st [(AV.i .i64 (4 : Int)), (AV.own 13 0 4)])) (h' := ⟨14, [(13, some ⟨119, 3, [lit35ef0, litb1de5, litf2893, lit881d0].map DFile.av⟩), (12, some ⟨26, 3, [(AV.st [(AV.own 9 0 3), (AV.own 10 0 1), (AV.own 11 0 1)])]⟩), (11, some ⟨9, 1, [(⟨#[108, 105, 98]⟩ : ByteArray)].map AV.s⟩), (10, some ⟨81, 2, [(⟨(⟨#[116, 119, 111]⟩ : ByteArray), (2 : Int)⟩ : DPool)].map DPool.av⟩), (9, some ⟨76, 7, [(AV.st [(AV.own 1 0 1), (AV.own 2 0 2), (AV.sl 1 true []), (AV.sl 1 true []), (AV.s (⟨#[97, 114]⟩ : ByteArray)), (AV.b false), (AV.s (⟨#[]⟩ : ByteArray))]), (AV.st [(AV.own 3 0 2), (AV.own 4 0 1), (AV.own 5 0 1), (AV.sl 1 true []), (AV.s (⟨#[99, 99, 32, 97]⟩ : ByteArray)), (AV.b true), (AV.s (⟨#[116, 119, 111]⟩ : ByteArray))]), (AV.st [(AV.own 6 0 1), (AV.own 7 0 1), (AV.sl 1 true []), (AV.own 8 0 1), (AV.s (⟨#[99, 99, 32, 98]⟩ : ByteArray)), (AV.b false), (AV.s (⟨#[116, 119, 111]⟩ : ByteArray))])]⟩), (8, some ⟨9, 1, [(⟨#[97, 46, 111]⟩ : ByteArray)].map AV.s⟩), (7, some ⟨9, 1, [(⟨#[98, 46, 99]⟩ : ByteArray)].map AV.s⟩), (6, some ⟨9, 1, [(⟨#[98, 46, 111]⟩ : ByteArray)].map AV.s⟩), (5, some ⟨9, 1, [(⟨#[97, 46, 104]⟩ : ByteArray)].map AV.s⟩), (4, some ⟨9, 1, [(⟨#[97, 46, 99]⟩ : ByteArray)].map AV.s⟩), (3, some ⟨9, 1, [(⟨#[97, 46, 111]⟩ : ByteArray), (⟨#[97, 46, 100]⟩ : ByteArray)].map AV.s⟩), (2, some ⟨9, 1, [(⟨#[97, 46, 111]⟩ : ByteArray), (⟨#[98, 46, 111]⟩ : ByteArray)].map AV.s⟩), (1, some ⟨9, 1, [(⟨#[108, 105, 98]⟩ : ByteArray)].map AV.s⟩), (0, some ⟨64, 11, [(AV.st [(AV.sl 7 true []), (AV.sl 2 true []), (AV.sl 1 true []), (AV.sl 3 true []), (AV.i .i64 (0 : Int)), (AV.sl 3 true []), (AV.sl 3 true []), (AV.sl 3 true []), (AV.i .i64 (0 : Int)), (AV.b false), (AV.sl 1 true [])])]⟩)]⟩) kr le ?_
 refine Nn (AV.loc 14 0 0) ⟨60, 2, [(AV.st [(AV.i .i64 (0 : Int)), (AV.sl 3 true [])])]⟩ <| Sp 14 ⟨60, 2, [(AV.st [(AV.i .i64 (4 : Int)), (AV.own 13 0 4)])]⟩ <| Ad <| Sq <| Rg <| Aq (AV.st [(AV.own 9 0 3), (AV.own 10 0 1), (AV.own 11 0 1)]) <| Nn (AV.own 15 0 1) ⟨9, 1, [(⟨#[122, 46, 104]⟩ : ByteArray)].map AV.s⟩ <| AOps.sn (x := (AV.st [(AV.s (⟨#[99, 99, 32, 97]⟩ : ByteArray)), (AV.own 15 0 1), (AV.b false)])) (h' := ⟨16, [(15, some ⟨9, 1, [(⟨#[122, 46, 104]⟩ : ByteArray)].map AV.s⟩), (14, some ⟨60, 2, [(AV.st [(AV.i .i64 (4 : Int)), (AV.own 13 0 4)])]⟩), (13, some ⟨119, 3, [lit35ef0, litb1de5, litf2893, lit881d0].map DFile.av⟩), (12, some ⟨26, 3, [(AV.st [(AV.own 9 0 3), (AV.own 10 0 1), (AV.own 11 0 1)])]⟩), (11, some ⟨9, 1, [(⟨#[108, 105, 98]⟩ : ByteArray)].map AV.s⟩), (10, some ⟨81, 2, [(⟨(⟨#[116, 119, 111]⟩ : ByteArray), (2 : Int)⟩ : DPool)].map DPool.av⟩), (9, some ⟨76, 7, [(AV.st [(AV.own 1 0 1), (AV.own 2 0 2), (AV.sl 1 true []), (AV.sl 1 true []), (AV.s (⟨#[97, 114]⟩ : ByteArray)), (AV.b false), (AV.s (⟨#[]⟩ : ByteArray))]), (AV.st [(AV.own 3 0 2), (AV.own 4 0 1), (AV.own 5 0 1), (AV.sl 1 true []), (AV.s (⟨#[99, 99, 32, 97]⟩ : ByteArray)), (AV.b true), (AV.s (⟨#[116, 119, 111]⟩ : ByteArray))]), (AV.st [(AV.own 6 0 1), (AV.own 7 0 1), (AV.sl 1 true []), (AV.own 8 0 1), (AV.s (⟨#[99, 99, 32, 98]⟩ : ByteArray)), (AV.b false), (AV.s (⟨#[116, 119, 111]⟩ : ByteArray))])]⟩), (8, some ⟨9, 1, [(⟨#[97, 46, 111]⟩ : ByteArray)].map AV.s⟩), (7, some ⟨9, 1, [(⟨#[98, 46, 99]⟩ : ByteArray)].map AV.s⟩), (6, some ⟨9, 1, [(⟨#[98, 46, 111]⟩ : ByteArray)].map AV.s⟩), (5, some ⟨9, 1, [(⟨#[97, 46, 104]⟩ : ByteArray)].map AV.s⟩), (4, some ⟨9, 1, [(⟨#[97, 46, 99]⟩ : ByteArray)].map AV.s⟩), (3, some ⟨9, 1, [(⟨#[97, 46, 111]⟩ : ByteArray), (⟨#[97, 46, 100]⟩ : ByteArray)].map AV.s⟩), (2, some ⟨9, 1, [(⟨#[97, 46, 111]⟩ : ByteArray), (⟨#[98, 46, 111]⟩ : ByteArray)].map AV.s⟩), (1, some ⟨9, 1, [(⟨#[108, 105, 98]⟩ : ByteArray)].map AV.s⟩), (0, some ⟨64, 11, [(AV.st [(AV.sl 7 true []), (AV.sl 2 true []), (AV.sl 1 true []), (AV.sl 3 true []), (AV.i .i64 (0 : Int)), (AV.sl 3 true []), (AV.sl 3 true []), (AV.sl 3 true []), (AV.i .i64 (0 : Int)), (AV.b false), (AV.sl 1 true [])])]⟩)]⟩) kr le ?_
 refine Nn (AV.own 16 0 1) ⟨121, 3, [(AV.st [(AV.s (⟨#[99, 99, 32, 97]⟩ : ByteArray)), (AV.own 15 0 1), (AV.b false)])]⟩ <| Aq (AV.st [(AV.i .i64 (4 : Int)), (AV.own 13 0 4)]) <| AOps.sn (x := (AV.st [(AV.own 9 0 3), (AV.own 10 0 1), (AV.own 11 0 1), (AV.own 16 0 1), (AV.i .i64 (4 : Int)), (AV.own 13 0 4), (AV.sl 3 true []), (AV.sl 3 true []), (AV.i .i64 (2 : Int)), (AV.b false), (AV.sl 1 true [])])) (h' := ⟨17, [(16, some ⟨121, 3, [(AV.st [(AV.s (⟨#[99, 99, 32, 97]⟩ : ByteArray)), (AV.own 15 0 1), (AV.b false)])]⟩), (15, some ⟨9, 1, [(⟨#[122, 46, 104]⟩ : ByteArray)].map AV.s⟩), (14, some ⟨60, 2, [(AV.st [(AV.i .i64 (4 : Int)), (AV.own 13 0 4)])]⟩), (13, some ⟨119, 3, [lit35ef0, litb1de5, litf2893, lit881d0].map DFile.av⟩), (12, some ⟨26, 3, [(AV.st [(AV.own 9 0 3), (AV.own 10 0 1), (AV.own 11 0 1)])]⟩), (11, some ⟨9, 1, [(⟨#[108, 105, 98]⟩ : ByteArray)].map AV.s⟩), (10, some ⟨81, 2, [(⟨(⟨#[116, 119, 111]⟩ : ByteArray), (2 : Int)⟩ : DPool)].map DPool.av⟩), (9, some ⟨76, 7, [(AV.st [(AV.own 1 0 1), (AV.own 2 0 2), (AV.sl 1 true []), (AV.sl 1 true []), (AV.s (⟨#[97, 114]⟩ : ByteArray)), (AV.b false), (AV.s (⟨#[]⟩ : ByteArray))]), (AV.st [(AV.own 3 0 2), (AV.own 4 0 1), (AV.own 5 0 1), (AV.sl 1 true []), (AV.s (⟨#[99, 99, 32, 97]⟩ : ByteArray)), (AV.b true), (AV.s (⟨#[116, 119, 111]⟩ : ByteArray))]), (AV.st [(AV.own 6 0 1), (AV.own 7 0 1), (AV.sl 1 true []), (AV.own 8 0 1), (AV.s (⟨#[99, 99, 32, 98]⟩ : ByteArray)), (AV.b false), (AV.s (⟨#[116, 119, 111]⟩ : ByteArray))])]⟩), (8, some ⟨9, 1, [(⟨#[97, 46, 111]⟩ : ByteArray)].map AV.s⟩), (7, some ⟨9, 1, [(⟨#[98, 46, 99]⟩ : ByteArray)].map AV.s⟩), (6, some ⟨9, 1, [(⟨#[98, 46, 111]⟩ : ByteArray)].map AV.s⟩), (5, some ⟨9, 1, [(⟨#[97, 46, 104]⟩ : ByteArray)].map AV.s⟩), (4, some ⟨9, 1, [(⟨#[97, 46, 99]⟩ : ByteArray)].map AV.s⟩), (3, some ⟨9, 1, [(⟨#[97, 46, 111]⟩ : ByteArray), (⟨#[97, 46, 100]⟩ : ByteArray)].map AV.s⟩), (2, some ⟨9, 1, [(⟨#[97, 46, 111]⟩ : ByteArray), (⟨#[98, 46, 111]⟩ : ByteArray)].map AV.s⟩), (1, some ⟨9, 1, [(⟨#[108, 105, 98]⟩ : ByteArray)].map AV.s⟩), (0, some ⟨64, 11, [(AV.st [(AV.sl 7 true []), (AV.sl 2 true []), (AV.sl 1 true []), (AV.sl 3 true []), (AV.i .i64 (0 : Int)), (AV.sl 3 true []), (AV.sl 3 true []), (AV.sl 3 true []), (AV.i .i64 (0 : Int)), (AV.b false), (AV.sl 1 true [])])]⟩)]⟩) kr le ?_
 refine Sp 0 ⟨64, 11, [(AV.st [(AV.own 9 0 3), (AV.own 10 0 1), (AV.own 11 0 1), (AV.own 16 0 1), (AV.i .i64 (4 : Int)), (AV.own 13 0 4), (AV.sl 3 true []), (AV.sl 3 true []), (AV.i .i64 (2 : Int)), (AV.b false), (AV.sl 1 true [])])]⟩ <| Ad <| Rt ?_
 have hM : m_law22_start = lit326bd := by simp only [m_law22_start, sbt]
 exact ⟨[9, 1, 2, 3, 4, 5, 6, 7, 8, 10, 11, 16, 15, 13], Or.inr rfl, by decide, rfl, ⟨kr, ⟨kr, ⟨kr, ⟨kr, ⟨kr, ⟨kr, ⟨kr, ⟨kr, ⟨kr, ⟨kr, ⟨kr, ⟨kr, ⟨kr, ⟨kr, trivial⟩⟩⟩⟩⟩⟩⟩⟩⟩⟩⟩⟩⟩⟩, (AV.st [(AV.own 9 0 3), (AV.own 10 0 1), (AV.own 11 0 1), (AV.own 16 0 1), (AV.i .i64 (4 : Int)), (AV.own 13 0 4), (AV.sl 3 true []), (AV.sl 3 true []), (AV.i .i64 (2 : Int)), (AV.b false), (AV.sl 1 true [])]), kr, kr⟩
theorem wd_law22_running (W : World) : PureAt Go.Proofs.Tryz.prog W 48 [] (AV.st [(AV.own 0 0 3), (AV.own 9 0 1), (AV.own 10 0 1), (AV.own 11 0 1), (AV.i .i64 (4 : Int)), (AV.own 13 0 4), (AV.sl 3 true []), (AV.sl 3 true []), (AV.i .i64 (3 : Int)), (AV.b true), (AV.own 14 0 3)]) [⟨76, 7, [(AV.st [(AV.own 1 0 1), (AV.own 2 0 2), (AV.sl 1 true []), (AV.sl 1 true []), (AV.s (⟨#[97, 114]⟩ : ByteArray)), (AV.b false), (AV.s (⟨#[]⟩ : ByteArray))]), (AV.st [(AV.own 3 0 2), (AV.own 4 0 1), (AV.own 5 0 1), (AV.sl 1 true []), (AV.s (⟨#[99, 99, 32, 97]⟩ : ByteArray)), (AV.b true), (AV.s (⟨#[116, 119, 111]⟩ : ByteArray))]), (AV.st [(AV.own 6 0 1), (AV.own 7 0 1), (AV.sl 1 true []), (AV.own 8 0 1), (AV.s (⟨#[99, 99, 32, 98]⟩ : ByteArray)), (AV.b false), (AV.s (⟨#[116, 119, 111]⟩ : ByteArray))])]⟩, ⟨9, 1, [(⟨#[108, 105, 98]⟩ : ByteArray)].map AV.s⟩, ⟨9, 1, [(⟨#[97, 46, 111]⟩ : ByteArray), (⟨#[98, 46, 111]⟩ : ByteArray)].map AV.s⟩, ⟨9, 1, [(⟨#[97, 46, 111]⟩ : ByteArray), (⟨#[97, 46, 100]⟩ : ByteArray)].map AV.s⟩, ⟨9, 1, [(⟨#[97, 46, 99]⟩ : ByteArray)].map AV.s⟩, ⟨9, 1, [(⟨#[97, 46, 104]⟩ : ByteArray)].map AV.s⟩, ⟨9, 1, [(⟨#[98, 46, 111]⟩ : ByteArray)].map AV.s⟩, ⟨9, 1, [(⟨#[98, 46, 99]⟩ : ByteArray)].map AV.s⟩, ⟨9, 1, [(⟨#[97, 46, 111]⟩ : ByteArray)].map AV.s⟩, ⟨81, 2, [(⟨(⟨#[116, 119, 111]⟩ : ByteArray), (2 : Int)⟩ : DPool)].map DPool.av⟩, ⟨9, 1, [(⟨#[108, 105, 98]⟩ : ByteArray)].map AV.s⟩, ⟨121, 3, [(AV.st [(AV.s (⟨#[99, 99, 32, 97]⟩ : ByteArray)), (AV.own 12 0 1), (AV.b false)])]⟩, ⟨9, 1, [(⟨#[122, 46, 104]⟩ : ByteArray)].map AV.s⟩, ⟨119, 3, [lit35ef0, litb1de5, litf2893, lit881d0].map DFile.av⟩, ⟨3, 1, [(1 : Int), (2 : Int), (2 : Int)].map (AV.i .i64)⟩] := by
 refine pure_of_run tabS_ok (fn := Go.Proofs.Tryz.f48) Go.Proofs.Tryz.func48 rfl (en48 W) le <| Sq <| Rg <| Nn (AV.loc 0 0 0) ⟨64, 11, [(AV.st [(AV.sl 7 true []), (AV.sl 2 true []), (AV.sl 1 true []), (AV.sl 3 true []), (AV.i .i64 (0 : Int)), (AV.sl 3 true []), (AV.sl 3 true []), (AV.sl 3 true []), (AV.i .i64 (0 : Int)), (AV.b false), (AV.sl 1 true [])])]⟩ <| Ad <| Sq <| Rg <| Sc (AV.st [(AV.own 1 0 3), (AV.own 10 0 1), (AV.own 11 0 1), (AV.own 12 0 1), (AV.i .i64 (4 : Int)), (AV.own 14 0 4), (AV.sl 3 true []), (AV.sl 3 true []), (AV.i .i64 (2 : Int)), (AV.b false), (AV.sl 1 true [])]) (wd_law22_start W) <| Nn (AV.loc 15 0 0) ⟨64, 11, [(AV.st [(AV.sl 7 true []), (AV.sl 2 true []), (AV.sl 1 true []), (AV.sl 3 true []), (AV.i .i64 (0 : Int)), (AV.sl 3 true []), (AV.sl 3 true []), (AV.sl 3 true []), (AV.i .i64 (0 : Int)), (AV.b false), (AV.sl 1 true [])])]⟩ <| Sp 15 ⟨64, 11, [(AV.st [(AV.own 1 0 3), (AV.own 10 0 1), (AV.own 11 0 1), (AV.own 12 0 1), (AV.i .i64 (4 : Int)), (AV.own 14 0 4), (AV.sl 3 true []), (AV.sl 3 true []), (AV.i .i64 (2 : Int)), (AV.b false), (AV.sl 1 true [])])]⟩ <| Ad <| Sq <| Rg <| Aq (AV.loc 15 0 9) <| Sp 15 ⟨64, 11, [(AV.st [(AV.own 1 0 3), (AV.own 10 0 1), (AV.own 11 0 1), (AV.own 12 0 1), (AV.i .i64 (4 : Int)), (AV.own 14 0 4), (AV.sl 3 true []), (AV.sl 3 true []), (AV.i .i64 (2 : Int)), (AV.b true), (AV.sl 1 true [])])]⟩ <| Ad <| Sq <| Rg <| Aq (AV.loc 15 0 8) <| Sp 15 ⟨64, 11, [(AV.st [(AV.own 1 0 3), (AV.own 10 0 1), (AV.own 11 0 1), (AV.own 12 0 1), (AV.i .i64 (4 : Int)), (AV.own 14 0 4), (AV.sl 3 true []), (AV.sl 3 true []), (AV.i .i64 (3 : Int)), (AV.b true), (AV.sl 1 true [])])]⟩ ?_
 refine Ad <| Sq <| Rg <| Nn (AV.own 16 0 3) ⟨3, 1, [(1 : Int), (2 : Int), (2 : Int)].map (AV.i .i64)⟩ <| Aq (AV.loc 15 0 10) <| Sp 15 ⟨64, 11, [(AV.st [(AV.own 1 0 3), (AV.own 10 0 1), (AV.own 11 0 1), (AV.own 12 0 1), (AV.i .i64 (4 : Int)), (AV.own 14 0 4), (AV.sl 3 true []), (AV.sl 3 true []), (AV.i .i64 (3 : Int)), (AV.b true), (AV.own 16 0 3)])]⟩ <| Ad <| Sq <| Rg <| Aq (AV.st [(AV.own 1 0 3), (AV.own 10 0 1), (AV.own 11 0 1), (AV.own 12 0 1), (AV.i .i64 (4 : Int)), (AV.own 14 0 4), (AV.sl 3 true []), (AV.sl 3 true []), (AV.i .i64 (3 : Int)), (AV.b true), (AV.own 16 0 3)]) <| Sp 0 ⟨64, 11, [(AV.st [(AV.own 1 0 3), (AV.own 10 0 1), (AV.own 11 0 1), (AV.own 12 0 1), (AV.i .i64 (4 : Int)), (AV.own 14 0 4), (AV.sl 3 true []), (AV.sl 3 true []), (AV.i .i64 (3 : Int)), (AV.b true), (AV.own 16 0 3)])]⟩ <| Ad <| Rt ?_
 have hM : m_e = lit06008 := by simp only [m_e, sbt]
 exact ⟨[1, 2, 3, 4, 5, 6, 7, 8, 9, 10, 11, 12, 13, 14, 16], Or.inr rfl, by decide, rfl, ⟨kr, ⟨kr, ⟨kr, ⟨kr, ⟨kr, ⟨kr, ⟨kr, ⟨kr, ⟨kr, ⟨kr, ⟨kr, ⟨kr, ⟨kr, ⟨kr, ⟨kr, trivial⟩⟩⟩⟩⟩⟩⟩⟩⟩⟩⟩⟩⟩⟩⟩, (AV.st [(AV.own 1 0 3), (AV.own 10 0 1), (AV.own 11 0 1), (AV.own 12 0 1), (AV.i .i64 (4 : Int)), (AV.own 14 0 4), (AV.sl 3 true []), (AV.sl 3 true []), (AV.i .i64 (3 : Int)), (AV.b true), (AV.own 16 0 3)]), kr, kr⟩
theorem w_law22_running (W : World) : PureAt Go.Proofs.Tryz.prog W 48 [] (DState.av m_e) [] :=
  (wd_law22_running W).freeze (Ent.st ⟨(EntD.kk (x' := (AV.own 0 0 3)) kr kr rfl (EntK.own (id := 0) (len := 3) (e := 76) (k := 7) (els := [(AV.st [(AV.own 1 0 1), (AV.own 2 0 2), (AV.sl 1 true []), (AV.sl 1 true []), (AV.s (⟨#[97, 114]⟩ : ByteArray)), (AV.b false), (AV.s (⟨#[]⟩ : ByteArray))]), (AV.st [(AV.own 3 0 2), (AV.own 4 0 1), (AV.own 5 0 1), (AV.sl 1 true []), (AV.s (⟨#[99, 99, 32, 97]⟩ : ByteArray)), (AV.b true), (AV.s (⟨#[116, 119, 111]⟩ : ByteArray))]), (AV.st [(AV.own 6 0 1), (AV.own 7 0 1), (AV.sl 1 true []), (AV.own 8 0 1), (AV.s (⟨#[99, 99, 32, 98]⟩ : ByteArray)), (AV.b false), (AV.s (⟨#[116, 119, 111]⟩ : ByteArray))])]) rfl rfl rfl sd (EntKEs.cons (EntKE.st (EntKs.cons (EntK.row (fun _ => rfl) (A := AV.s) (id := 1) (e := 9) (k := 1) (xs := [(⟨#[108, 105, 98]⟩ : ByteArray)]) rfl rfl sd sd) (EntKs.cons (EntK.row (fun _ => rfl) (A := AV.s) (id := 2) (e := 9) (k := 1) (xs := [(⟨#[97, 46, 111]⟩ : ByteArray), (⟨#[98, 46, 111]⟩ : ByteArray)]) rfl rfl sd sd) (EntKs.cons (EntK.c rfl (WeakC.nil 1)) (EntKs.cons (EntK.c rfl (WeakC.nil 1)) (EntKs.cons (EntK.cr (x := (AV.s (⟨#[97, 114]⟩ : ByteArray))) kr) (EntKs.cons (EntK.cr (x := (AV.b false)) kr) (EntKs.cons (EntK.cr (x := (AV.s (⟨#[]⟩ : ByteArray))) kr) EntKs.nil)))))))) (EntKEs.cons (EntKE.st (EntKs.cons (EntK.row (fun _ => rfl) (A := AV.s) (id := 3) (e := 9) (k := 1) (xs := [(⟨#[97, 46, 111]⟩ : ByteArray), (⟨#[97, 46, 100]⟩ : ByteArray)]) rfl rfl sd sd) (EntKs.cons (EntK.row (fun _ => rfl) (A := AV.s) (id := 4) (e := 9) (k := 1) (xs := [(⟨#[97, 46, 99]⟩ : ByteArray)]) rfl rfl sd sd) (EntKs.cons (EntK.row (fun _ => rfl) (A := AV.s) (id := 5) (e := 9) (k := 1) (xs := [(⟨#[97, 46, 104]⟩ : ByteArray)]) rfl rfl sd sd) (EntKs.cons (EntK.c rfl (WeakC.nil 1)) (EntKs.cons (EntK.cr (x := (AV.s (⟨#[99, 99, 32, 97]⟩ : ByteArray))) kr) (EntKs.cons (EntK.cr (x := (AV.b true)) kr) (EntKs.cons (EntK.cr (x := (AV.s (⟨#[116, 119, 111]⟩ : ByteArray))) kr) EntKs.nil)))))))) (EntKEs.cons (EntKE.st (EntKs.cons (EntK.row (fun _ => rfl) (A := AV.s) (id := 6) (e := 9) (k := 1) (xs := [(⟨#[98, 46, 111]⟩ : ByteArray)]) rfl rfl sd sd) (EntKs.cons (EntK.row (fun _ => rfl) (A := AV.s) (id := 7) (e := 9) (k := 1) (xs := [(⟨#[98, 46, 99]⟩ : ByteArray)]) rfl rfl sd sd) (EntKs.cons (EntK.c rfl (WeakC.nil 1)) (EntKs.cons (EntK.row (fun _ => rfl) (A := AV.s) (id := 8) (e := 9) (k := 1) (xs := [(⟨#[97, 46, 111]⟩ : ByteArray)]) rfl rfl sd sd) (EntKs.cons (EntK.cr (x := (AV.s (⟨#[99, 99, 32, 98]⟩ : ByteArray))) kr) (EntKs.cons (EntK.cr (x := (AV.b false)) kr) (EntKs.cons (EntK.cr (x := (AV.s (⟨#[116, 119, 111]⟩ : ByteArray))) kr) EntKs.nil)))))))) EntKEs.nil))))), ⟨(EntD.kk (x' := (AV.own 9 0 1)) kr kr rfl (EntK.row (fun _ => rfl) (A := DPool.av) (id := 9) (e := 81) (k := 2) (xs := [(⟨(⟨#[116, 119, 111]⟩ : ByteArray), (2 : Int)⟩ : DPool)]) rfl rfl sd sd)), ⟨(EntD.kk (x' := (AV.own 10 0 1)) kr kr rfl (EntK.row (fun _ => rfl) (A := AV.s) (id := 10) (e := 9) (k := 1) (xs := [(⟨#[108, 105, 98]⟩ : ByteArray)]) rfl rfl sd sd)), ⟨(EntD.kk (x' := (AV.own 11 0 1)) kr kr rfl (EntK.own (id := 11) (len := 1) (e := 121) (k := 3) (els := [(AV.st [(AV.s (⟨#[99, 99, 32, 97]⟩ : ByteArray)), (AV.own 12 0 1), (AV.b false)])]) rfl rfl rfl sd (EntKEs.cons (EntKE.st (EntKs.cons (EntK.cr (x := (AV.s (⟨#[99, 99, 32, 97]⟩ : ByteArray))) kr) (EntKs.cons (EntK.row (fun _ => rfl) (A := AV.s) (id := 12) (e := 9) (k := 1) (xs := [(⟨#[122, 46, 104]⟩ : ByteArray)]) rfl rfl sd sd) (EntKs.cons (EntK.cr (x := (AV.b false)) kr) EntKs.nil)))) EntKEs.nil))), ⟨(Ent.c kr kr), ⟨(EntD.kk (x' := (AV.own 13 0 4)) kr kr rfl (EntK.row (fun _ => rfl) (A := DFile.av) (id := 13) (e := 119) (k := 3) (xs := [lit35ef0, litb1de5, litf2893, lit881d0]) rfl rfl sd sd)), ⟨(Ent.w rfl (WeakC.nil 3)), ⟨(Ent.w rfl (WeakC.nil 3)), ⟨(Ent.c kr kr), ⟨(Ent.c kr kr), ⟨(EntD.kk (x' := (AV.own 14 0 3)) kr kr rfl (EntK.row (fun _ => rfl) (A := (AV.i .i64)) (id := 14) (e := 3) (k := 1) (xs := [(1 : Int), (2 : Int), (2 : Int)]) rfl rfl sd sd)), trivial⟩⟩⟩⟩⟩⟩⟩⟩⟩⟩⟩ kr)
theorem w_law22_awake (W : World) {m0 : Int} (hW : W.cell? ⟨0, 0, none⟩ = some (.int .i64 m0)) : PureAt Go.Proofs.Tryz.prog W 47 [] (AV.b m_ak) [] := by
 refine pure_of_bodyC (fn := Go.Proofs.Tryz.f47) Go.Proofs.Tryz.func47 rfl (en47 W) (ts := [0]) rfl le <| Sq <| Rg <| Aq (AV.b false) <| Ad <| Sq <| Rg <| AOps.sc0 (vs := []) (r0 := (DState.av m_e)) kr kr (w_law22_running W ) kr le <| AOps.sc0 (vs := [(DState.av m_e), (AV.i .i64 (0 : Int))]) (r0 := (AV.tup [(AV.b ((m_c m_e (0 : Int)).1)), (AV.i .i64 ((m_c m_e (0 : Int)).2))])) kr kr (w_pool_May W hW m_e (0 : Int) sd) kr le <| Aq (AV.tup [(AV.b ((m_c m_e (0 : Int)).1)), (AV.i .i64 ((m_c m_e (0 : Int)).2))]) <| Aq (AV.b ((m_c m_e (0 : Int)).1)) <| Aq (AV.i .i64 ((m_c m_e (0 : Int)).2)) <| Aq (AV.b ((m_c m_e (0 : Int)).1)) <| Aq (AV.i .i64 ((m_c m_e (0 : Int)).2)) <| Ad <| Sq <| Rg <| AOps.sc0 (vs := []) (r0 := (DState.av m_e)) kr kr (w_law22_running W ) kr le <| AOps.sc0 (vs := [(DState.av m_e), (AV.i .i64 (1 : Int))]) (r0 := (AV.tup [(AV.b ((m_c m_e (1 : Int)).1)), (AV.i .i64 ((m_c m_e (1 : Int)).2))])) kr kr (w_pool_May W hW m_e (1 : Int) sd) kr le <| Aq (AV.tup [(AV.b ((m_c m_e (1 : Int)).1)), (AV.i .i64 ((m_c m_e (1 : Int)).2))]) <| Aq (AV.b ((m_c m_e (1 : Int)).1)) <| Aq (AV.i .i64 ((m_c m_e (1 : Int)).2)) <| Aq (AV.b ((m_c m_e (1 : Int)).1)) ?_
 refine Aq (AV.i .i64 ((m_c m_e (1 : Int)).2)) <| Ad <| Sq <| Rg <| Sc (AV.st [(AV.own 0 0 3), (AV.own 9 0 1), (AV.own 10 0 1), (AV.own 11 0 1), (AV.i .i64 (4 : Int)), (AV.own 13 0 4), (AV.sl 3 true []), (AV.sl 3 true []), (AV.i .i64 (3 : Int)), (AV.b true), (AV.own 14 0 3)]) (wd_law22_running W) <| Nn (AV.loc 15 0 0) ⟨64, 11, [(AV.st [(AV.sl 7 true []), (AV.sl 2 true []), (AV.sl 1 true []), (AV.sl 3 true []), (AV.i .i64 (0 : Int)), (AV.sl 3 true []), (AV.sl 3 true []), (AV.sl 3 true []), (AV.i .i64 (0 : Int)), (AV.b false), (AV.sl 1 true [])])]⟩ <| Sp 15 ⟨64, 11, [(AV.st [(AV.own 0 0 3), (AV.own 9 0 1), (AV.own 10 0 1), (AV.own 11 0 1), (AV.i .i64 (4 : Int)), (AV.own 13 0 4), (AV.sl 3 true []), (AV.sl 3 true []), (AV.i .i64 (3 : Int)), (AV.b true), (AV.own 14 0 3)])]⟩ <| Ad <| Sq <| Rg <| Aq (AV.loc 15 0 8) <| Sp 15 ⟨64, 11, [(AV.st [(AV.own 0 0 3), (AV.own 9 0 1), (AV.own 10 0 1), (AV.own 11 0 1), (AV.i .i64 (4 : Int)), (AV.own 13 0 4), (AV.sl 3 true []), (AV.sl 3 true []), (AV.i .i64 (2 : Int)), (AV.b true), (AV.own 14 0 3)])]⟩ <| Ad <| Sq <| Rg <| Aq (AV.st [(AV.own 0 0 3), (AV.own 9 0 1), (AV.own 10 0 1), (AV.own 11 0 1), (AV.i .i64 (4 : Int)), (AV.own 13 0 4), (AV.sl 3 true []), (AV.sl 3 true []), (AV.i .i64 (2 : Int)), (AV.b true), (AV.own 14 0 3)]) <| AOps.sfw (vs := [(AV.st [(AV.own 0 0 3), (AV.own 9 0 1), (AV.own 10 0 1), (AV.own 11 0 1), (AV.i .i64 (4 : Int)), (AV.own 13 0 4), (AV.sl 3 true []), (AV.sl 3 true []), (AV.i .i64 (2 : Int)), (AV.b true), (AV.own 14 0 3)]), (AV.i .i64 (0 : Int))]) (ss := [(DState.av lit37de8), (AV.i .i64 (0 : Int))]) (r0 := (AV.tup [(AV.b ((m_c lit37de8 (0 : Int)).1)), (AV.i .i64 ((m_c lit37de8 (0 : Int)).2))])) kr (show SnapW _ _ _ from ⟨(EntK.w (EntK.cast (x' := (AV.st [(AV.own 0 0 3), (AV.own 9 0 1), (AV.own 10 0 1), (AV.own 11 0 1), (AV.i .i64 (4 : Int)), (AV.own 13 0 4), (AV.sl 3 true []), (AV.sl 3 true []), (AV.i .i64 (2 : Int)), (AV.b true), (AV.own 14 0 3)])) kr kr (EntK.st (EntKs.cons (EntK.own (id := 0) (len := 3) (e := 76) (k := 7) (els := [(AV.st [(AV.own 1 0 1), (AV.own 2 0 2), (AV.sl 1 true []), (AV.sl 1 true []), (AV.s (⟨#[97, 114]⟩ : ByteArray)), (AV.b false), (AV.s (⟨#[]⟩ : ByteArray))]), (AV.st [(AV.own 3 0 2), (AV.own 4 0 1), (AV.own 5 0 1), (AV.sl 1 true []), (AV.s (⟨#[99, 99, 32, 97]⟩ : ByteArray)), (AV.b true), (AV.s (⟨#[116, 119, 111]⟩ : ByteArray))]), (AV.st [(AV.own 6 0 1), (AV.own 7 0 1), (AV.sl 1 true []), (AV.own 8 0 1), (AV.s (⟨#[99, 99, 32, 98]⟩ : ByteArray)), (AV.b false), (AV.s (⟨#[116, 119, 111]⟩ : ByteArray))])]) rfl rfl rfl sd (EntKEs.cons (EntKE.st (EntKs.cons (EntK.row (fun _ => rfl) (A := AV.s) (id := 1) (e := 9) (k := 1) (xs := [(⟨#[108, 105, 98]⟩ : ByteArray)]) rfl rfl sd sd) (EntKs.cons (EntK.row (fun _ => rfl) (A := AV.s) (id := 2) (e := 9) (k := 1) (xs := [(⟨#[97, 46, 111]⟩ : ByteArray), (⟨#[98, 46, 111]⟩ : ByteArray)]) rfl rfl sd sd) (EntKs.cons (EntK.c rfl (WeakC.nil 1)) (EntKs.cons (EntK.c rfl (WeakC.nil 1)) (EntKs.cons (EntK.cr (x := (AV.s (⟨#[97, 114]⟩ : ByteArray))) kr) (EntKs.cons (EntK.cr (x := (AV.b false)) kr) (EntKs.cons (EntK.cr (x := (AV.s (⟨#[]⟩ : ByteArray))) kr) EntKs.nil)))))))) (EntKEs.cons (EntKE.st (EntKs.cons (EntK.row (fun _ => rfl) (A := AV.s) (id := 3) (e := 9) (k := 1) (xs := [(⟨#[97, 46, 111]⟩ : ByteArray), (⟨#[97, 46, 100]⟩ : ByteArray)]) rfl rfl sd sd) (EntKs.cons (EntK.row (fun _ => rfl) (A := AV.s) (id := 4) (e := 9) (k := 1) (xs := [(⟨#[97, 46, 99]⟩ : ByteArray)]) rfl rfl sd sd) (EntKs.cons (EntK.row (fun _ => rfl) (A := AV.s) (id := 5) (e := 9) (k := 1) (xs := [(⟨#[97, 46, 104]⟩ : ByteArray)]) rfl rfl sd sd) (EntKs.cons (EntK.c rfl (WeakC.nil 1)) (EntKs.cons (EntK.cr (x := (AV.s (⟨#[99, 99, 32, 97]⟩ : ByteArray))) kr) (EntKs.cons (EntK.cr (x := (AV.b true)) kr) (EntKs.cons (EntK.cr (x := (AV.s (⟨#[116, 119, 111]⟩ : ByteArray))) kr) EntKs.nil)))))))) (EntKEs.cons (EntKE.st (EntKs.cons (EntK.row (fun _ => rfl) (A := AV.s) (id := 6) (e := 9) (k := 1) (xs := [(⟨#[98, 46, 111]⟩ : ByteArray)]) rfl rfl sd sd) (EntKs.cons (EntK.row (fun _ => rfl) (A := AV.s) (id := 7) (e := 9) (k := 1) (xs := [(⟨#[98, 46, 99]⟩ : ByteArray)]) rfl rfl sd sd) (EntKs.cons (EntK.c rfl (WeakC.nil 1)) (EntKs.cons (EntK.row (fun _ => rfl) (A := AV.s) (id := 8) (e := 9) (k := 1) (xs := [(⟨#[97, 46, 111]⟩ : ByteArray)]) rfl rfl sd sd) (EntKs.cons (EntK.cr (x := (AV.s (⟨#[99, 99, 32, 98]⟩ : ByteArray))) kr) (EntKs.cons (EntK.cr (x := (AV.b false)) kr) (EntKs.cons (EntK.cr (x := (AV.s (⟨#[116, 119, 111]⟩ : ByteArray))) kr) EntKs.nil)))))))) EntKEs.nil)))) (EntKs.cons (EntK.row (fun _ => rfl) (A := DPool.av) (id := 9) (e := 81) (k := 2) (xs := [(⟨(⟨#[116, 119, 111]⟩ : ByteArray), (2 : Int)⟩ : DPool)]) rfl rfl sd sd) (EntKs.cons (EntK.row (fun _ => rfl) (A := AV.s) (id := 10) (e := 9) (k := 1) (xs := [(⟨#[108, 105, 98]⟩ : ByteArray)]) rfl rfl sd sd) (EntKs.cons (EntK.own (id := 11) (len := 1) (e := 121) (k := 3) (els := [(AV.st [(AV.s (⟨#[99, 99, 32, 97]⟩ : ByteArray)), (AV.own 12 0 1), (AV.b false)])]) rfl rfl rfl sd (EntKEs.cons (EntKE.st (EntKs.cons (EntK.cr (x := (AV.s (⟨#[99, 99, 32, 97]⟩ : ByteArray))) kr) (EntKs.cons (EntK.row (fun _ => rfl) (A := AV.s) (id := 12) (e := 9) (k := 1) (xs := [(⟨#[122, 46, 104]⟩ : ByteArray)]) rfl rfl sd sd) (EntKs.cons (EntK.cr (x := (AV.b false)) kr) EntKs.nil)))) EntKEs.nil)) (EntKs.cons (EntK.cr (x := (AV.i .i64 (4 : Int))) kr) (EntKs.cons (EntK.row (fun _ => rfl) (A := DFile.av) (id := 13) (e := 119) (k := 3) (xs := [lit35ef0, litb1de5, litf2893, lit881d0]) rfl rfl sd sd) (EntKs.cons (EntK.c rfl (WeakC.nil 3)) (EntKs.cons (EntK.c rfl (WeakC.nil 3)) (EntKs.cons (EntK.cr (x := (AV.i .i64 (2 : Int))) kr) (EntKs.cons (EntK.cr (x := (AV.b true)) kr) (EntKs.cons (EntK.row (fun _ => rfl) (A := (AV.i .i64)) (id := 14) (e := 3) (k := 1) (xs := [(1 : Int), (2 : Int), (2 : Int)]) rfl rfl sd sd) EntKs.nil)))))))))))))), ⟨(SnapW.e kr), trivial⟩⟩) (w_pool_May W hW lit37de8 (0 : Int) sd) rfl kr le ?_
 refine Aq (AV.tup [(AV.b ((m_c lit37de8 (0 : Int)).1)), (AV.i .i64 ((m_c lit37de8 (0 : Int)).2))]) ?_
 refine Aq (AV.b ((m_c lit37de8 (0 : Int)).1)) <| Aq (AV.i .i64 ((m_c lit37de8 (0 : Int)).2)) ?_
 refine Aq (AV.b ((m_c lit37de8 (0 : Int)).1)) <| Aq (AV.i .i64 ((m_c lit37de8 (0 : Int)).2)) ?_
 refine Ad <| Sq <| Rg <| Aq (AV.st [(AV.own 0 0 3), (AV.own 9 0 1), (AV.own 10 0 1), (AV.own 11 0 1), (AV.i .i64 (4 : Int)), (AV.own 13 0 4), (AV.sl 3 true []), (AV.sl 3 true []), (AV.i .i64 (2 : Int)), (AV.b true), (AV.own 14 0 3)]) <| AOps.sfw (vs := [(AV.st [(AV.own 0 0 3), (AV.own 9 0 1), (AV.own 10 0 1), (AV.own 11 0 1), (AV.i .i64 (4 : Int)), (AV.own 13 0 4), (AV.sl 3 true []), (AV.sl 3 true []), (AV.i .i64 (2 : Int)), (AV.b true), (AV.own 14 0 3)]), (AV.i .i64 (-1 : Int))]) (ss := [(DState.av lit37de8), (AV.i .i64 (-1 : Int))]) (r0 := (AV.tup [(AV.b ((m_c lit37de8 (-1 : Int)).1)), (AV.i .i64 ((m_c lit37de8 (-1 : Int)).2))])) kr (show SnapW _ _ _ from ⟨(EntK.w (EntK.cast (x' := (AV.st [(AV.own 0 0 3), (AV.own 9 0 1), (AV.own 10 0 1), (AV.own 11 0 1), (AV.i .i64 (4 : Int)), (AV.own 13 0 4), (AV.sl 3 true []), (AV.sl 3 true []), (AV.i .i64 (2 : Int)), (AV.b true), (AV.own 14 0 3)])) kr kr (EntK.st (EntKs.cons (EntK.own (id := 0) (len := 3) (e := 76) (k := 7) (els := [(AV.st [(AV.own 1 0 1), (AV.own 2 0 2), (AV.sl 1 true []), (AV.sl 1 true []), (AV.s (⟨#[97, 114]⟩ : ByteArray)), (AV.b false), (AV.s (⟨#[]⟩ : ByteArray))]), (AV.st [(AV.own 3 0 2), (AV.own 4 0 1), (AV.own 5 0 1), (AV.sl 1 true []), (AV.s (⟨#[99, 99, 32, 97]⟩ : ByteArray)), (AV.b true), (AV.s (⟨#[116, 119, 111]⟩ : ByteArray))]), (AV.st [(AV.own 6 0 1), (AV.own 7 0 1), (AV.sl 1 true []), (AV.own 8 0 1), (AV.s (⟨#[99, 99, 32, 98]⟩ : ByteArray)), (AV.b false), (AV.s (⟨#[116, 119, 111]⟩ : ByteArray))])]) rfl rfl rfl sd (EntKEs.cons (EntKE.st (EntKs.cons (EntK.row (fun _ => rfl) (A := AV.s) (id := 1) (e := 9) (k := 1) (xs := [(⟨#[108, 105, 98]⟩ : ByteArray)]) rfl rfl sd sd) (EntKs.cons (EntK.row (fun _ => rfl) (A := AV.s) (id := 2) (e := 9) (k := 1) (xs := [(⟨#[97, 46, 111]⟩ : ByteArray), (⟨#[98, 46, 111]⟩ : ByteArray)]) rfl rfl sd sd) (EntKs.cons (EntK.c rfl (WeakC.nil 1)) (EntKs.cons (EntK.c rfl (WeakC.nil 1)) (EntKs.cons (EntK.cr (x := (AV.s (⟨#[97, 114]⟩ : ByteArray))) kr) (EntKs.cons (EntK.cr (x := (AV.b false)) kr) (EntKs.cons (EntK.cr (x := (AV.s (⟨#[]⟩ : ByteArray))) kr) EntKs.nil)))))))) (EntKEs.cons (EntKE.st (EntKs.cons (EntK.row (fun _ => rfl) (A := AV.s) (id := 3) (e := 9) (k := 1) (xs := [(⟨#[97, 46, 111]⟩ : ByteArray), (⟨#[97, 46, 100]⟩ : ByteArray)]) rfl rfl sd sd) (EntKs.cons (EntK.row (fun _ => rfl) (A := AV.s) (id := 4) (e := 9) (k := 1) (xs := [(⟨#[97, 46, 99]⟩ : ByteArray)]) rfl rfl sd sd) (EntKs.cons (EntK.row (fun _ => rfl) (A := AV.s) (id := 5) (e := 9) (k := 1) (xs := [(⟨#[97, 46, 104]⟩ : ByteArray)]) rfl rfl sd sd) (EntKs.cons (EntK.c rfl (WeakC.nil 1)) (EntKs.cons (EntK.cr (x := (AV.s (⟨#[99, 99, 32, 97]⟩ : ByteArray))) kr) (EntKs.cons (EntK.cr (x := (AV.b true)) kr) (EntKs.cons (EntK.cr (x := (AV.s (⟨#[116, 119, 111]⟩ : ByteArray))) kr) EntKs.nil)))))))) (EntKEs.cons (EntKE.st (EntKs.cons (EntK.row (fun _ => rfl) (A := AV.s) (id := 6) (e := 9) (k := 1) (xs := [(⟨#[98, 46, 111]⟩ : ByteArray)]) rfl rfl sd sd) (EntKs.cons (EntK.row (fun _ => rfl) (A := AV.s) (id := 7) (e := 9) (k := 1) (xs := [(⟨#[98, 46, 99]⟩ : ByteArray)]) rfl rfl sd sd) (EntKs.cons (EntK.c rfl (WeakC.nil 1)) (EntKs.cons (EntK.row (fun _ => rfl) (A := AV.s) (id := 8) (e := 9) (k := 1) (xs := [(⟨#[97, 46, 111]⟩ : ByteArray)]) rfl rfl sd sd) (EntKs.cons (EntK.cr (x := (AV.s (⟨#[99, 99, 32, 98]⟩ : ByteArray))) kr) (EntKs.cons (EntK.cr (x := (AV.b false)) kr) (EntKs.cons (EntK.cr (x := (AV.s (⟨#[116, 119, 111]⟩ : ByteArray))) kr) EntKs.nil)))))))) EntKEs.nil)))) (EntKs.cons (EntK.row (fun _ => rfl) (A := DPool.av) (id := 9) (e := 81) (k := 2) (xs := [(⟨(⟨#[116, 119, 111]⟩ : ByteArray), (2 : Int)⟩ : DPool)]) rfl rfl sd sd) (EntKs.cons (EntK.row (fun _ => rfl) (A := AV.s) (id := 10) (e := 9) (k := 1) (xs := [(⟨#[108, 105, 98]⟩ : ByteArray)]) rfl rfl sd sd) (EntKs.cons (EntK.own (id := 11) (len := 1) (e := 121) (k := 3) (els := [(AV.st [(AV.s (⟨#[99, 99, 32, 97]⟩ : ByteArray)), (AV.own 12 0 1), (AV.b false)])]) rfl rfl rfl sd (EntKEs.cons (EntKE.st (EntKs.cons (EntK.cr (x := (AV.s (⟨#[99, 99, 32, 97]⟩ : ByteArray))) kr) (EntKs.cons (EntK.row (fun _ => rfl) (A := AV.s) (id := 12) (e := 9) (k := 1) (xs := [(⟨#[122, 46, 104]⟩ : ByteArray)]) rfl rfl sd sd) (EntKs.cons (EntK.cr (x := (AV.b false)) kr) EntKs.nil)))) EntKEs.nil)) (EntKs.cons (EntK.cr (x := (AV.i .i64 (4 : Int))) kr) (EntKs.cons (EntK.row (fun _ => rfl) (A := DFile.av) (id := 13) (e := 119) (k := 3) (xs := [lit35ef0, litb1de5, litf2893, lit881d0]) rfl rfl sd sd) (EntKs.cons (EntK.c rfl (WeakC.nil 3)) (EntKs.cons (EntK.c rfl (WeakC.nil 3)) (EntKs.cons (EntK.cr (x := (AV.i .i64 (2 : Int))) kr) (EntKs.cons (EntK.cr (x := (AV.b true)) kr) (EntKs.cons (EntK.row (fun _ => rfl) (A := (AV.i .i64)) (id := 14) (e := 3) (k := 1) (xs := [(1 : Int), (2 : Int), (2 : Int)]) rfl rfl sd sd) EntKs.nil)))))))))))))), ⟨(SnapW.e kr), trivial⟩⟩) (w_pool_May W hW lit37de8 (-1 : Int) sd) rfl kr le ?_
 refine Aq (AV.tup [(AV.b ((m_c lit37de8 (-1 : Int)).1)), (AV.i .i64 ((m_c lit37de8 (-1 : Int)).2))]) ?_
 refine Aq (AV.b ((m_c lit37de8 (-1 : Int)).1)) <| Aq (AV.i .i64 ((m_c lit37de8 (-1 : Int)).2)) ?_
 refine Aq (AV.b ((m_c lit37de8 (-1 : Int)).1)) <| Aq (AV.i .i64 ((m_c lit37de8 (-1 : Int)).2)) ?_
 refine Ad <| Sq <| Rg <| Aq (AV.loc 15 0 8) <| Sp 15 ⟨64, 11, [(AV.st [(AV.own 0 0 3), (AV.own 9 0 1), (AV.own 10 0 1), (AV.own 11 0 1), (AV.i .i64 (4 : Int)), (AV.own 13 0 4), (AV.sl 3 true []), (AV.sl 3 true []), (AV.i .i64 (0 : Int)), (AV.b true), (AV.own 14 0 3)])]⟩ <| Ad <| Sq <| Rg <| Aq (AV.st [(AV.own 0 0 3), (AV.own 9 0 1), (AV.own 10 0 1), (AV.own 11 0 1), (AV.i .i64 (4 : Int)), (AV.own 13 0 4), (AV.sl 3 true []), (AV.sl 3 true []), (AV.i .i64 (0 : Int)), (AV.b true), (AV.own 14 0 3)]) <| AOps.sfw (vs := [(AV.st [(AV.own 0 0 3), (AV.own 9 0 1), (AV.own 10 0 1), (AV.own 11 0 1), (AV.i .i64 (4 : Int)), (AV.own 13 0 4), (AV.sl 3 true []), (AV.sl 3 true []), (AV.i .i64 (0 : Int)), (AV.b true), (AV.own 14 0 3)]), (AV.i .i64 (0 : Int))]) (ss := [(DState.av litd4095), (AV.i .i64 (0 : Int))]) (r0 := (AV.tup [(AV.b ((m_c litd4095 (0 : Int)).1)), (AV.i .i64 ((m_c litd4095 (0 : Int)).2))])) kr (show SnapW _ _ _ from ⟨(EntK.w (EntK.cast (x' := (AV.st [(AV.own 0 0 3), (AV.own 9 0 1), (AV.own 10 0 1), (AV.own 11 0 1), (AV.i .i64 (4 : Int)), (AV.own 13 0 4), (AV.sl 3 true []), (AV.sl 3 true []), (AV.i .i64 (0 : Int)), (AV.b true), (AV.own 14 0 3)])) kr kr (EntK.st (EntKs.cons (EntK.own (id := 0) (len := 3) (e := 76) (k := 7) (els := [(AV.st [(AV.own 1 0 1), (AV.own 2 0 2), (AV.sl 1 true []), (AV.sl 1 true []), (AV.s (⟨#[97, 114]⟩ : ByteArray)), (AV.b false), (AV.s (⟨#[]⟩ : ByteArray))]), (AV.st [(AV.own 3 0 2), (AV.own 4 0 1), (AV.own 5 0 1), (AV.sl 1 true []), (AV.s (⟨#[99, 99, 32, 97]⟩ : ByteArray)), (AV.b true), (AV.s (⟨#[116, 119, 111]⟩ : ByteArray))]), (AV.st [(AV.own 6 0 1), (AV.own 7 0 1), (AV.sl 1 true []), (AV.own 8 0 1), (AV.s (⟨#[99, 99, 32, 98]⟩ : ByteArray)), (AV.b false), (AV.s (⟨#[116, 119, 111]⟩ : ByteArray))])]) rfl rfl rfl sd (EntKEs.cons (EntKE.st (EntKs.cons (EntK.row (fun _ => rfl) (A := AV.s) (id := 1) (e := 9) (k := 1) (xs := [(⟨#[108, 105, 98]⟩ : ByteArray)]) rfl rfl sd sd) (EntKs.cons (EntK.row (fun _ => rfl) (A := AV.s) (id := 2) (e := 9) (k := 1) (xs := [(⟨#[97, 46, 111]⟩ : ByteArray), (⟨#[98, 46, 111]⟩ : ByteArray)]) rfl rfl sd sd) (EntKs.cons (EntK.c rfl (WeakC.nil 1)) (EntKs.cons (EntK.c rfl (WeakC.nil 1)) (EntKs.cons (EntK.cr (x := (AV.s (⟨#[97, 114]⟩ : ByteArray))) kr) (EntKs.cons (EntK.cr (x := (AV.b false)) kr) (EntKs.cons (EntK.cr (x := (AV.s (⟨#[]⟩ : ByteArray))) kr) EntKs.nil)))))))) (EntKEs.cons (EntKE.st (EntKs.cons (EntK.row (fun _ => rfl) (A := AV.s) (id := 3) (e := 9) (k := 1) (xs := [(⟨#[97, 46, 111]⟩ : ByteArray), (⟨#[97, 46, 100]⟩ : ByteArray)]) rfl rfl sd sd) (EntKs.cons (EntK.row (fun _ => rfl) (A := AV.s) (id := 4) (e := 9) (k := 1) (xs := [(⟨#[97, 46, 99]⟩ : ByteArray)]) rfl rfl sd sd) (EntKs.cons (EntK.row (fun _ => rfl) (A := AV.s) (id := 5) (e := 9) (k := 1) (xs := [(⟨#[97, 46, 104]⟩ : ByteArray)]) rfl rfl sd sd) (EntKs.cons (EntK.c rfl (WeakC.nil 1)) (EntKs.cons (EntK.cr (x := (AV.s (⟨#[99, 99, 32, 97]⟩ : ByteArray))) kr) (EntKs.cons (EntK.cr (x := (AV.b true)) kr) (EntKs.cons (EntK.cr (x := (AV.s (⟨#[116, 119, 111]⟩ : ByteArray))) kr) EntKs.nil)))))))) (EntKEs.cons (EntKE.st (EntKs.cons (EntK.row (fun _ => rfl) (A := AV.s) (id := 6) (e := 9) (k := 1) (xs := [(⟨#[98, 46, 111]⟩ : ByteArray)]) rfl rfl sd sd) (EntKs.cons (EntK.row (fun _ => rfl) (A := AV.s) (id := 7) (e := 9) (k := 1) (xs := [(⟨#[98, 46, 99]⟩ : ByteArray)]) rfl rfl sd sd) (EntKs.cons (EntK.c rfl (WeakC.nil 1)) (EntKs.cons (EntK.row (fun _ => rfl) (A := AV.s) (id := 8) (e := 9) (k := 1) (xs := [(⟨#[97, 46, 111]⟩ : ByteArray)]) rfl rfl sd sd) (EntKs.cons (EntK.cr (x := (AV.s (⟨#[99, 99, 32, 98]⟩ : ByteArray))) kr) (EntKs.cons (EntK.cr (x := (AV.b false)) kr) (EntKs.cons (EntK.cr (x := (AV.s (⟨#[116, 119, 111]⟩ : ByteArray))) kr) EntKs.nil)))))))) EntKEs.nil)))) (EntKs.cons (EntK.row (fun _ => rfl) (A := DPool.av) (id := 9) (e := 81) (k := 2) (xs := [(⟨(⟨#[116, 119, 111]⟩ : ByteArray), (2 : Int)⟩ : DPool)]) rfl rfl sd sd) (EntKs.cons (EntK.row (fun _ => rfl) (A := AV.s) (id := 10) (e := 9) (k := 1) (xs := [(⟨#[108, 105, 98]⟩ : ByteArray)]) rfl rfl sd sd) (EntKs.cons (EntK.own (id := 11) (len := 1) (e := 121) (k := 3) (els := [(AV.st [(AV.s (⟨#[99, 99, 32, 97]⟩ : ByteArray)), (AV.own 12 0 1), (AV.b false)])]) rfl rfl rfl sd (EntKEs.cons (EntKE.st (EntKs.cons (EntK.cr (x := (AV.s (⟨#[99, 99, 32, 97]⟩ : ByteArray))) kr) (EntKs.cons (EntK.row (fun _ => rfl) (A := AV.s) (id := 12) (e := 9) (k := 1) (xs := [(⟨#[122, 46, 104]⟩ : ByteArray)]) rfl rfl sd sd) (EntKs.cons (EntK.cr (x := (AV.b false)) kr) EntKs.nil)))) EntKEs.nil)) (EntKs.cons (EntK.cr (x := (AV.i .i64 (4 : Int))) kr) (EntKs.cons (EntK.row (fun _ => rfl) (A := DFile.av) (id := 13) (e := 119) (k := 3) (xs := [lit35ef0, litb1de5, litf2893, lit881d0]) rfl rfl sd sd) (EntKs.cons (EntK.c rfl (WeakC.nil 3)) (EntKs.cons (EntK.c rfl (WeakC.nil 3)) (EntKs.cons (EntK.cr (x := (AV.i .i64 (0 : Int))) kr) (EntKs.cons (EntK.cr (x := (AV.b true)) kr) (EntKs.cons (EntK.row (fun _ => rfl) (A := (AV.i .i64)) (id := 14) (e := 3) (k := 1) (xs := [(1 : Int), (2 : Int), (2 : Int)]) rfl rfl sd sd) EntKs.nil)))))))))))))), ⟨(SnapW.e kr), trivial⟩⟩) (w_pool_May W hW litd4095 (0 : Int) sd) rfl kr le ?_
 refine Aq (AV.tup [(AV.b ((m_c litd4095 (0 : Int)).1)), (AV.i .i64 ((m_c litd4095 (0 : Int)).2))]) ?_
 refine Aq (AV.b ((m_c litd4095 (0 : Int)).1)) <| Aq (AV.i .i64 ((m_c litd4095 (0 : Int)).2)) ?_
 refine Aq (AV.b ((m_c litd4095 (0 : Int)).1)) <| Aq (AV.i .i64 ((m_c litd4095 (0 : Int)).2)) ?_
 refine Ad <| Sq <| Rg <| Aq (AV.b ((m_c m_e (0 : Int)).1)) <| Aq (AV.b ((m_c m_e (0 : Int)).1)) ?_
 cases c_1 : (m_c m_e (0 : Int)).1
 refine An <| An <| An <| Aq (AV.b false) <| Aq (AV.b false) <| An <| An <| Aq (AV.b false) <| Aq (AV.b false) <| An <| An <| An <| Aq (AV.b false) <| Aq (AV.b false) <| An <| An <| Aq (AV.b false) <| Aq (AV.b false) <| An <| An <| An <| Aq (AV.b false) <| Aq (AV.b false) <| An <| An <| An <| Aq (AV.b false) <| Aq (AV.b false) <| An <| An <| An <| Aq (AV.b false) <| Aq (AV.b false) <| Ad <| Rt ?_
 have hM : m_ak = false := by simp only [m_ak, c_1, sbt]
 refine ⟨Or.inr rfl, ?_⟩
 rw [hM]
 exact Ec
 refine Ay <| Aq (AV.i .i64 ((m_c m_e (0 : Int)).2)) <| Ay <| AOps.sc0 (vs := [(AV.i .i64 ((m_c m_e (0 : Int)).2))]) (r0 := (AV.i .i64 (m_z ((m_c m_e (0 : Int)).2)))) kr kr (w_law0_Num W ((m_c m_e (0 : Int)).2)) kr le <| Ay <| Aq (AV.b (decide ((m_z ((m_c m_e (0 : Int)).2)) = (0 : Int)))) <| Aq (AV.b (decide ((m_z ((m_c m_e (0 : Int)).2)) = (0 : Int)))) <| Aq (AV.b (decide ((m_z ((m_c m_e (0 : Int)).2)) = (0 : Int)))) ?_
 cases c_2 : decide ((m_z ((m_c m_e (0 : Int)).2)) = (0 : Int))
 have k_2 := of_decide_eq_false c_2
 refine An <| An <| Aq (AV.b false) <| Aq (AV.b false) <| An <| An <| An <| Aq (AV.b false) <| Aq (AV.b false) <| An <| An <| Aq (AV.b false) <| Aq (AV.b false) <| An <| An <| An <| Aq (AV.b false) <| Aq (AV.b false) <| An <| An <| An <| Aq (AV.b false) <| Aq (AV.b false) <| An <| An <| An <| Aq (AV.b false) <| Aq (AV.b false) <| Ad <| Rt ?_
 have hM : m_ak = false := by simp only [m_ak, c_1, c_2, sbt]
 refine ⟨Or.inr rfl, ?_⟩
 rw [hM]
 exact Ec
 have k_2 := of_decide_eq_true c_2
 refine Ay <| Aq (AV.b ((m_c m_e (1 : Int)).1)) <| Ay <| Aq (AV.b (!(m_c m_e (1 : Int)).1)) <| Aq (AV.b (!(m_c m_e (1 : Int)).1)) <| Aq (AV.b (!(m_c m_e (1 : Int)).1)) ?_
 cases c_3 : (!(m_c m_e (1 : Int)).1)
 refine An <| An <| An <| Aq (AV.b false) <| Aq (AV.b false) <| An <| An <| Aq (AV.b false) <| Aq (AV.b false) <| An <| An <| An <| Aq (AV.b false) <| Aq (AV.b false) <| An <| An <| An <| Aq (AV.b false) <| Aq (AV.b false) <| An <| An <| An <| Aq (AV.b false) <| Aq (AV.b false) <| Ad <| Rt ?_
 have hM : m_ak = false := by simp only [m_ak, c_1, c_2, c_3, sbt]
 refine ⟨Or.inr rfl, ?_⟩
 rw [hM]
 exact Ec
 refine Ay <| Aq (AV.i .i64 ((m_c m_e (1 : Int)).2)) <| Ay <| AOps.sc0 (vs := [(AV.i .i64 ((m_c m_e (1 : Int)).2))]) (r0 := (AV.i .i64 (m_z ((m_c m_e (1 : Int)).2)))) kr kr (w_law0_Num W ((m_c m_e (1 : Int)).2)) kr le <| Ay <| Aq (AV.b (decide ((m_z ((m_c m_e (1 : Int)).2)) = (0 : Int)))) <| Aq (AV.b (decide ((m_z ((m_c m_e (1 : Int)).2)) = (0 : Int)))) <| Aq (AV.b (decide ((m_z ((m_c m_e (1 : Int)).2)) = (0 : Int)))) ?_
 cases c_4 : decide ((m_z ((m_c m_e (1 : Int)).2)) = (0 : Int))
 have k_4 := of_decide_eq_false c_4
 refine An <| An <| Aq (AV.b false) <| Aq (AV.b false) <| An <| An <| An <| Aq (AV.b false) <| Aq (AV.b false) <| An <| An <| An <| Aq (AV.b false) <| Aq (AV.b false) <| An <| An <| An <| Aq (AV.b false) <| Aq (AV.b false) <| Ad <| Rt ?_
 have hM : m_ak = false := by simp only [m_ak, c_1, c_2, c_3, c_4, sbt]
 refine ⟨Or.inr rfl, ?_⟩
 rw [hM]
 exact Ec
 have k_4 := of_decide_eq_true c_4
 refine Ay <| Aq (AV.b ((m_c lit37de8 (0 : Int)).1)) <| Ay <| Aq (AV.b (!(m_c lit37de8 (0 : Int)).1)) ?_
 refine Aq (AV.b (!(m_c lit37de8 (0 : Int)).1)) <| Aq (AV.b (!(m_c lit37de8 (0 : Int)).1)) ?_
 cases c_5 : (!(m_c lit37de8 (0 : Int)).1)
 refine An <| An <| An <| Aq (AV.b false) <| Aq (AV.b false) <| An <| An <| An <| Aq (AV.b false) <| Aq (AV.b false) <| An <| An <| An <| Aq (AV.b false) <| Aq (AV.b false) <| Ad <| Rt ?_
 have hM : m_ak = false := by simp only [m_ak, c_1, c_2, c_3, c_4, c_5, sbt]
 refine ⟨Or.inr rfl, ?_⟩
 rw [hM]
 exact Ec
 refine Ay <| Aq (AV.i .i64 ((m_c lit37de8 (0 : Int)).2)) <| Ay <| AOps.sc0 (vs := [(AV.i .i64 ((m_c lit37de8 (0 : Int)).2))]) (r0 := (AV.i .i64 (m_z ((m_c lit37de8 (0 : Int)).2)))) kr kr (w_law0_Num W ((m_c lit37de8 (0 : Int)).2)) kr le ?_
 refine Ay <| Aq (AV.b (decide ((m_z ((m_c lit37de8 (0 : Int)).2)) = (0 : Int)))) <| Aq (AV.b (decide ((m_z ((m_c lit37de8 (0 : Int)).2)) = (0 : Int)))) ?_
 refine Aq (AV.b (decide ((m_z ((m_c lit37de8 (0 : Int)).2)) = (0 : Int)))) ?_
 cases c_6 : decide ((m_z ((m_c lit37de8 (0 : Int)).2)) = (0 : Int))
 have k_6 := of_decide_eq_false c_6
 refine An <| An <| An <| Aq (AV.b false) <| Aq (AV.b false) <| An <| An <| An <| Aq (AV.b false) <| Aq (AV.b false) <| Ad <| Rt ?_
 have hM : m_ak = false := by simp only [m_ak, c_1, c_2, c_3, c_4, c_5, c_6, sbt]
 refine ⟨Or.inr rfl, ?_⟩
 rw [hM]
 exact Ec
 have k_6 := of_decide_eq_true c_6
 refine Ay <| Aq (AV.i .i64 ((m_c lit37de8 (-1 : Int)).2)) <| Ay <| AOps.sc0 (vs := [(AV.i .i64 ((m_c lit37de8 (-1 : Int)).2))]) (r0 := (AV.i .i64 (m_z ((m_c lit37de8 (-1 : Int)).2)))) kr kr (w_law0_Num W ((m_c lit37de8 (-1 : Int)).2)) kr le ?_
 refine Ay <| Aq (AV.b (decide ((m_z ((m_c lit37de8 (-1 : Int)).2)) = (2200 : Int)))) <| Aq (AV.b (decide ((m_z ((m_c lit37de8 (-1 : Int)).2)) = (2200 : Int)))) ?_
 refine Aq (AV.b (decide ((m_z ((m_c lit37de8 (-1 : Int)).2)) = (2200 : Int)))) ?_
 cases c_7 : decide ((m_z ((m_c lit37de8 (-1 : Int)).2)) = (2200 : Int))
 have k_7 := of_decide_eq_false c_7
 refine An <| An <| An <| Aq (AV.b false) <| Aq (AV.b false) <| Ad <| Rt ?_
 have hM : m_ak = false := by simp only [m_ak, c_1, c_2, c_3, c_4, c_5, c_6, c_7, sbt]
 refine ⟨Or.inr rfl, ?_⟩
 rw [hM]
 exact Ec
 have k_7 := of_decide_eq_true c_7
 refine Ay <| Aq (AV.i .i64 ((m_c litd4095 (0 : Int)).2)) <| Ay <| AOps.sc0 (vs := [(AV.i .i64 ((m_c litd4095 (0 : Int)).2))]) (r0 := (AV.i .i64 (m_z ((m_c litd4095 (0 : Int)).2)))) kr kr (w_law0_Num W ((m_c litd4095 (0 : Int)).2)) kr le ?_
 refine Ay <| Aq (AV.b (decide ((m_z ((m_c litd4095 (0 : Int)).2)) = (2200 : Int)))) <| Aq (AV.b (decide ((m_z ((m_c litd4095 (0 : Int)).2)) = (2200 : Int)))) ?_
 refine Aq (AV.b (decide ((m_z ((m_c litd4095 (0 : Int)).2)) = (2200 : Int)))) <| Ad <| Rt ?_
 have hM : m_ak = decide ((m_z ((m_c litd4095 (0 : Int)).2)) = (2200 : Int)) := by simp only [m_ak, c_1, c_2, c_3, c_4, c_5, c_6, c_7, sbt]
 refine ⟨Or.inr rfl, ?_⟩
 rw [hM]
 exact Ec
theorem w_law22_RoomLess (W : World) {m0 : Int} (hW : W.cell? ⟨0, 0, none⟩ = some (.int .i64 m0)) (s' : DState) (edge : Int) (other : Int) (hz : s'.sz ≤ 1048576) : PureAt Go.Proofs.Tryz.prog W 13 [(DState.av s'), (AV.i .i64 edge), (AV.i .i64 other)] (AV.b (m_4 s' edge other)) [] := by
 have hzg := s'.sz_graph
 refine pure_of_bodyC (fn := Go.Proofs.Tryz.f13) Go.Proofs.Tryz.func13 rfl (en13 W) (ts := [6]) rfl le <| Sq <| Rg <| Nn (AV.loc 0 0 0) ⟨64, 11, [(DState.av s')]⟩ <| Aq (AV.b false) <| Ad <| Sq <| Sq <| Rg <| AOps.sc0 (vs := []) (r0 := (AV.b m_ak)) kr kr (w_law22_awake W hW ) kr le <| Aq (AV.b (!m_ak)) <| Ad ?_
 cases c_1 : (!m_ak)
 refine Cf <| Awp.skip <| Sq <| Sq <| Rg <| Aq (DState.av s') <| AOps.sc0 (vs := [(DState.av s')]) (r0 := (AV.b (m_ab s'))) kr kr (w_ref12_StateMay W s' sd) kr le <| Aq (AV.b (!(m_ab s'))) <| Aq (AV.b (!(m_ab s'))) ?_
 cases c_2 : (!(m_ab s'))
 refine Ay <| Aq (AV.loc 0 0 10) <| Ay <| Aq ((slA 1 (AV.i .i64)) s'.status) <| Ay <| Ap (Ai s'.status.length) (g_len (k := 1) (nl := false) (e := 3) (A := (AV.i .i64)) (xs := s'.status) kr kr) <| Ay <| Aq (AV.b (decide (((s'.status.length : Nat) : Int) = (0 : Int)))) <| Aq (AV.b (decide (((s'.status.length : Nat) : Int) = (0 : Int)))) <| Ad ?_
 cases c_3 : decide (((s'.status.length : Nat) : Int) = (0 : Int))
 have k_3 := of_decide_eq_false c_3
 have q_3 := rl_facts edge other hz (by assumption) c_3
 refine Cf <| Awp.skip <| Sq <| Awp.drawn tabS_ok mixed 19 kr le <| Dq (AV.i .i64 edge) <| Dq (AV.i .u64 (IntKind.wrap .u64 edge)) <| Dq (AV.loc 0 0 0) <| Dq (AV.loc 0 0 0) <| Dq ((slA 7 DEdge.av) s'.graph.edges) <| Dp (Ai s'.graph.edges.length) (g_len (k := 7) (nl := false) (e := 76) (A := DEdge.av) (xs := s'.graph.edges) kr kr) <| Dq (AV.i .u64 (IntKind.wrap .u64 ((s'.graph.edges.length : Nat) : Int))) <| Dp (AV.i .u64 (((uMod edge s'.graph.edges.length) : Nat) : Int)) (g_umod (a := edge) (k := s'.graph.edges.length) kr kr sd sd) <| Dp (AV.i .i64 (((uMod edge s'.graph.edges.length) : Nat) : Int)) (g_convN (k := .u64) (n := (uMod edge s'.graph.edges.length)) kr kr kr sd) <| Dq (AV.i .i64 other) <| Dq (AV.i .u64 (IntKind.wrap .u64 other)) <| Dq (AV.loc 0 0 0) <| Dq (AV.loc 0 0 0) <| Dq ((slA 7 DEdge.av) s'.graph.edges) <| Dp (Ai s'.graph.edges.length) (g_len (k := 7) (nl := false) (e := 76) (A := DEdge.av) (xs := s'.graph.edges) kr kr) <| Dq (AV.i .u64 (IntKind.wrap .u64 ((s'.graph.edges.length : Nat) : Int))) <| Dp (AV.i .u64 (((uMod other s'.graph.edges.length) : Nat) : Int)) (g_umod (a := other) (k := s'.graph.edges.length) kr kr sd sd) <| Dp (AV.i .i64 (((uMod other s'.graph.edges.length) : Nat) : Int)) (g_convN (k := .u64) (n := (uMod other s'.graph.edges.length)) kr kr kr sd) <| Dq (AV.i .i64 (((uMod edge s'.graph.edges.length) : Nat) : Int)) <| Dq (AV.i .i64 (((uMod other s'.graph.edges.length) : Nat) : Int)) <| AOpsD.fin <| Sq <| Rg <| Aq (DState.av s') <| Aq (AV.i .i64 (((uMod edge s'.graph.edges.length) : Nat) : Int)) ?_
 refine AOps.sc0 (vs := [(DState.av s'), (AV.i .i64 (((uMod edge s'.graph.edges.length) : Nat) : Int))]) (r0 := (AV.tup [(AV.b ((m_c s' (((uMod edge s'.graph.edges.length) : Nat) : Int)).1)), (AV.i .i64 ((m_c s' (((uMod edge s'.graph.edges.length) : Nat) : Int)).2))])) kr kr (w_pool_May W hW s' (((uMod edge s'.graph.edges.length) : Nat) : Int) (by first | exact hz | exact rl_sz hz bif_set_len | exact rl_sz hz rfl)) kr le <| Aq (AV.tup [(AV.b ((m_c s' (((uMod edge s'.graph.edges.length) : Nat) : Int)).1)), (AV.i .i64 ((m_c s' (((uMod edge s'.graph.edges.length) : Nat) : Int)).2))]) <| Aq (AV.b ((m_c s' (((uMod edge s'.graph.edges.length) : Nat) : Int)).1)) <| Aq (AV.i .i64 ((m_c s' (((uMod edge s'.graph.edges.length) : Nat) : Int)).2)) <| Aq (AV.b ((m_c s' (((uMod edge s'.graph.edges.length) : Nat) : Int)).1)) <| Aq (AV.i .i64 ((m_c s' (((uMod edge s'.graph.edges.length) : Nat) : Int)).2)) <| Ad <| Sq <| Rg <| Aq (DState.av s') <| AOps.scD (vs := [(DState.av s')]) (x := (AV.st [((slA 7 DEdge.av) (((m_a s').graph).edges)), ((slA 2 DPool.av) (((m_a s').graph).pools)), ((slA 1 AV.s) (((m_a s').graph).defaults)), ((slA 3 DAction.av) ((m_a s').actions)), (AV.i .i64 (((m_a s').disk).clock)), ((slA 3 DFile.av) (((m_a s').disk).files)), ((slA 3 DRecord.av) ((m_a s').log)), ((slA 3 DFound.av) ((m_a s').deps)), (AV.i .i64 ((m_a s').jobs)), (AV.b ((m_a s').going)), (AV.own 1 0 (((m_a s').status).length))])) (h' := ⟨2, [(1, some ⟨3, 1, ((m_a s').status).map (AV.i .i64)⟩), (0, some ⟨64, 11, [(DState.av s')]⟩)]⟩) kr kr (wo_law0_CopyState W s' sd) kr (add_row (fun _ => rfl)) le ?_
 refine Nn (AV.loc 2 0 0) ⟨64, 11, [(AV.st [(AV.sl 7 true []), (AV.sl 2 true []), (AV.sl 1 true []), (AV.sl 3 true []), (AV.i .i64 (0 : Int)), (AV.sl 3 true []), (AV.sl 3 true []), (AV.sl 3 true []), (AV.i .i64 (0 : Int)), (AV.b false), (AV.sl 1 true [])])]⟩ <| Sp 2 ⟨64, 11, [(AV.st [((slA 7 DEdge.av) (((m_a s').graph).edges)), ((slA 2 DPool.av) (((m_a s').graph).pools)), ((slA 1 AV.s) (((m_a s').graph).defaults)), ((slA 3 DAction.av) ((m_a s').actions)), (AV.i .i64 (((m_a s').disk).clock)), ((slA 3 DFile.av) (((m_a s').disk).files)), ((slA 3 DRecord.av) ((m_a s').log)), ((slA 3 DFound.av) ((m_a s').deps)), (AV.i .i64 ((m_a s').jobs)), (AV.b ((m_a s').going)), (AV.own 1 0 (((m_a s').status).length))])]⟩ <| Ad ?_
 refine Awp.cut [(3, (AV.loc 0 0 0)), (7, (AV.i .i64 (((uMod edge s'.graph.edges.length) : Nat) : Int))), (9, (AV.b ((m_c s' (((uMod edge s'.graph.edges.length) : Nat) : Int)).1))), (10, (AV.i .i64 ((m_c s' (((uMod edge s'.graph.edges.length) : Nat) : Int)).2))), (11, (AV.loc 1 0 0))] ⟨3, [(0, some ⟨64, 11, [(AV.st [((slA 7 DEdge.av) s'.graph.edges), ((slA 2 DPool.av) s'.graph.pools), ((slA 1 AV.s) s'.graph.defaults), ((slA 3 DAction.av) s'.actions), (AV.i .i64 s'.disk.clock), ((slA 3 DFile.av) s'.disk.files), ((slA 3 DRecord.av) s'.log), ((slA 3 DFound.av) s'.deps), (AV.i .i64 s'.jobs), (AV.b s'.going), ((slA 1 (AV.i .i64)) s'.status)])]⟩), (1, some ⟨64, 11, [(AV.st [((slA 7 DEdge.av) (((m_a s').graph).edges)), ((slA 2 DPool.av) (((m_a s').graph).pools)), ((slA 1 AV.s) (((m_a s').graph).defaults)), ((slA 3 DAction.av) ((m_a s').actions)), (AV.i .i64 (((m_a s').disk).clock)), ((slA 3 DFile.av) (((m_a s').disk).files)), ((slA 3 DRecord.av) ((m_a s').log)), ((slA 3 DFound.av) ((m_a s').deps)), (AV.i .i64 ((m_a s').jobs)), (AV.b ((m_a s').going)), (accV 2 1 (AV.i .i64) (bif decide ((((m_a s').status).getD (uMod other s'.graph.edges.length) default) = (2 : Int)) then (((m_a s').status).set (uMod other s'.graph.edges.length) (3 : Int)) else (m_a s').status))])]⟩), (2, accO 3 1 (AV.i .i64) (bif decide ((((m_a s').status).getD (uMod other s'.graph.edges.length) default) = (2 : Int)) then (((m_a s').status).set (uMod other s'.graph.edges.length) (3 : Int)) else (m_a s').status))]⟩ ?_ ?_
 refine Sq <| Rg <| Aq (AV.loc 2 0 10) <| Aq (AV.own 1 0 (((m_a s').status).length)) <| Aq (AV.i .i64 (((uMod other s'.graph.edges.length) : Nat) : Int)) <| Ap (AV.loc 1 (uMod other s'.graph.edges.length) 0) (g_oidx (e := 3) (id := 1) (len := (((m_a s').status).length)) (kk := .i64) (ob := ⟨3, 1, ((m_a s').status).map (AV.i .i64)⟩) (i := (uMod other s'.graph.edges.length)) kr kr kr rfl kr sd) <| Ap (AV.i .i64 (((m_a s').status).getD (uMod other s'.graph.edges.length) default)) (g_oload (e := 3) (k := 1) (i := tI_3) (id := 1) (xs := ((m_a s').status)) (A := (AV.i .i64)) (j := (uMod other s'.graph.edges.length)) kr kr rfl (getD_some sd) kr) <| Aq (AV.b (decide ((((m_a s').status).getD (uMod other s'.graph.edges.length) default) = (2 : Int)))) <| Ad ?_
 cases c_4 : decide ((((m_a s').status).getD (uMod other s'.graph.edges.length) default) = (2 : Int))
 have k_4 := of_decide_eq_false c_4
 refine Cf <| Awp.skip ?_
 exact ⟨[0, 2, 1], ⟨by decide, rfl, (FitsObjs.cons kr (FitsObjs.cons (boxG (e := 64) (k := 11) (xs := [(AV.st [((slA 7 DEdge.av) (((m_a s').graph).edges)), ((slA 2 DPool.av) (((m_a s').graph).pools)), ((slA 1 AV.s) (((m_a s').graph).defaults)), ((slA 3 DAction.av) ((m_a s').actions)), (AV.i .i64 (((m_a s').disk).clock)), ((slA 3 DFile.av) (((m_a s').disk).files)), ((slA 3 DRecord.av) ((m_a s').log)), ((slA 3 DFound.av) ((m_a s').deps)), (AV.i .i64 ((m_a s').jobs)), (AV.b ((m_a s').going)), (AV.own 1 0 (((m_a s').status).length))])]) (ys := [(AV.st [((slA 7 DEdge.av) (((m_a s').graph).edges)), ((slA 2 DPool.av) (((m_a s').graph).pools)), ((slA 1 AV.s) (((m_a s').graph).defaults)), ((slA 3 DAction.av) ((m_a s').actions)), (AV.i .i64 (((m_a s').disk).clock)), ((slA 3 DFile.av) (((m_a s').disk).files)), ((slA 3 DRecord.av) ((m_a s').log)), ((slA 3 DFound.av) ((m_a s').deps)), (AV.i .i64 ((m_a s').jobs)), (AV.b ((m_a s').going)), (accV 2 1 (AV.i .i64) (bif false then (((m_a s').status).set (uMod other s'.graph.edges.length) (3 : Int)) else (m_a s').status))])]) rfl (FinPs.cons (fin_st (FinPs.cons (fin_c kr) (FinPs.cons (fin_c kr) (FinPs.cons (fin_c kr) (FinPs.cons (fin_c kr) (FinPs.cons (fin_c kr) (FinPs.cons (fin_c kr) (FinPs.cons (fin_c kr) (FinPs.cons (fin_c kr) (FinPs.cons (fin_c kr) (FinPs.cons (fin_c kr) (FinPs.cons (fin_own (A := (AV.i .i64)) (k := 1) (xs := (bif false then (((m_a s').status).set (uMod other s'.graph.edges.length) (3 : Int)) else (m_a s').status)) (by first | (simp; done) | exact q_3.2.2.2.2.2 | exact set_ne q_3.2.2.2.2.2 _ _ | exact bif_ne (set_ne q_3.2.2.2.2.2 _ _) q_3.2.2.2.2.2) rfl (by first | (simp; done) | exact bif_set_len.symm | (simp only [List.length_set]; exact bif_set_len.symm))) FinPs.nil)))))))))))) FinPs.nil) rfl) (FitsObjs.cons (obj_acc' (fun _ => rfl) (e := 3) (k := 1) (A := (AV.i .i64)) (xs := ((m_a s').status)) (by first | (simp; done) | exact q_3.2.2.2.2.2 | exact set_ne q_3.2.2.2.2.2 _ _ | exact bif_ne (set_ne q_3.2.2.2.2.2 _ _) q_3.2.2.2.2.2) rfl kr) FitsObjs.nil))), (EntE.cons (Ent.f kr) (Ee (Ee (Ee (EntE.cons (Ent.f kr) EntE.nil)))))⟩, keep0⟩
 have k_4 := of_decide_eq_true c_4
 refine Ct <| Rg <| Aq (AV.loc 2 0 10) <| Aq (AV.own 1 0 (((m_a s').status).length)) <| Aq (AV.i .i64 (((uMod other s'.graph.edges.length) : Nat) : Int)) <| Ap (AV.loc 1 (uMod other s'.graph.edges.length) 0) (g_oidx (e := 3) (id := 1) (len := (((m_a s').status).length)) (kk := .i64) (ob := ⟨3, 1, ((m_a s').status).map (AV.i .i64)⟩) (i := (uMod other s'.graph.edges.length)) kr kr kr rfl kr sd) <| AOps.st (x := AV.und) (h' := ⟨3, [(2, some ⟨64, 11, [(AV.st [((slA 7 DEdge.av) (((m_a s').graph).edges)), ((slA 2 DPool.av) (((m_a s').graph).pools)), ((slA 1 AV.s) (((m_a s').graph).defaults)), ((slA 3 DAction.av) ((m_a s').actions)), (AV.i .i64 (((m_a s').disk).clock)), ((slA 3 DFile.av) (((m_a s').disk).files)), ((slA 3 DRecord.av) ((m_a s').log)), ((slA 3 DFound.av) ((m_a s').deps)), (AV.i .i64 ((m_a s').jobs)), (AV.b ((m_a s').going)), (AV.own 1 0 (((m_a s').status).length))])]⟩), (1, some ⟨3, 1, (((m_a s').status).set (uMod other s'.graph.edges.length) (3 : Int)).map (AV.i .i64)⟩), (0, some ⟨64, 11, [(DState.av s')]⟩)]⟩) (g_set (e := 3) (k := 1) (i := tI_3) (id := 1) (A := (AV.i .i64)) (xs := ((m_a s').status)) (y := (3 : Int)) (j := (uMod other s'.graph.edges.length)) kr kr kr rfl sd (fun _ => rfl) kr (fun _ => rfl) (fun _ => rfl)) <| Ad ?_
 exact ⟨[0, 2, 1], ⟨by decide, rfl, (FitsObjs.cons kr (FitsObjs.cons (boxG (e := 64) (k := 11) (xs := [(AV.st [((slA 7 DEdge.av) (((m_a s').graph).edges)), ((slA 2 DPool.av) (((m_a s').graph).pools)), ((slA 1 AV.s) (((m_a s').graph).defaults)), ((slA 3 DAction.av) ((m_a s').actions)), (AV.i .i64 (((m_a s').disk).clock)), ((slA 3 DFile.av) (((m_a s').disk).files)), ((slA 3 DRecord.av) ((m_a s').log)), ((slA 3 DFound.av) ((m_a s').deps)), (AV.i .i64 ((m_a s').jobs)), (AV.b ((m_a s').going)), (AV.own 1 0 (((m_a s').status).length))])]) (ys := [(AV.st [((slA 7 DEdge.av) (((m_a s').graph).edges)), ((slA 2 DPool.av) (((m_a s').graph).pools)), ((slA 1 AV.s) (((m_a s').graph).defaults)), ((slA 3 DAction.av) ((m_a s').actions)), (AV.i .i64 (((m_a s').disk).clock)), ((slA 3 DFile.av) (((m_a s').disk).files)), ((slA 3 DRecord.av) ((m_a s').log)), ((slA 3 DFound.av) ((m_a s').deps)), (AV.i .i64 ((m_a s').jobs)), (AV.b ((m_a s').going)), (accV 2 1 (AV.i .i64) (bif true then (((m_a s').status).set (uMod other s'.graph.edges.length) (3 : Int)) else (m_a s').status))])]) rfl (FinPs.cons (fin_st (FinPs.cons (fin_c kr) (FinPs.cons (fin_c kr) (FinPs.cons (fin_c kr) (FinPs.cons (fin_c kr) (FinPs.cons (fin_c kr) (FinPs.cons (fin_c kr) (FinPs.cons (fin_c kr) (FinPs.cons (fin_c kr) (FinPs.cons (fin_c kr) (FinPs.cons (fin_c kr) (FinPs.cons (fin_own (A := (AV.i .i64)) (k := 1) (xs := (bif true then (((m_a s').status).set (uMod other s'.graph.edges.length) (3 : Int)) else (m_a s').status)) (by first | (simp; done) | exact q_3.2.2.2.2.2 | exact set_ne q_3.2.2.2.2.2 _ _ | exact bif_ne (set_ne q_3.2.2.2.2.2 _ _) q_3.2.2.2.2.2) rfl (by first | (simp; done) | exact bif_set_len.symm | (simp only [List.length_set]; exact bif_set_len.symm))) FinPs.nil)))))))))))) FinPs.nil) rfl) (FitsObjs.cons (obj_acc' (fun _ => rfl) (e := 3) (k := 1) (A := (AV.i .i64)) (xs := (((m_a s').status).set (uMod other s'.graph.edges.length) (3 : Int))) (by first | (simp; done) | exact q_3.2.2.2.2.2 | exact set_ne q_3.2.2.2.2.2 _ _ | exact bif_ne (set_ne q_3.2.2.2.2.2 _ _) q_3.2.2.2.2.2) rfl kr) FitsObjs.nil))), (EntE.cons (Ent.f kr) (Ee (Ee (Ee (EntE.cons (Ent.f kr) EntE.nil)))))⟩, keep0⟩
 refine Sq <| Rg <| Aq (AV.st [((slA 7 DEdge.av) (((m_a s').graph).edges)), ((slA 2 DPool.av) (((m_a s').graph).pools)), ((slA 1 AV.s) (((m_a s').graph).defaults)), ((slA 3 DAction.av) ((m_a s').actions)), (AV.i .i64 (((m_a s').disk).clock)), ((slA 3 DFile.av) (((m_a s').disk).files)), ((slA 3 DRecord.av) ((m_a s').log)), ((slA 3 DFound.av) ((m_a s').deps)), (AV.i .i64 ((m_a s').jobs)), (AV.b ((m_a s').going)), (accV 2 1 (AV.i .i64) (bif decide ((((m_a s').status).getD (uMod other s'.graph.edges.length) default) = (2 : Int)) then (((m_a s').status).set (uMod other s'.graph.edges.length) (3 : Int)) else (m_a s').status))]) <| Aq (AV.i .i64 (((uMod edge s'.graph.edges.length) : Nat) : Int)) <| AOps.sfw (vs := [(AV.st [((slA 7 DEdge.av) (((m_a s').graph).edges)), ((slA 2 DPool.av) (((m_a s').graph).pools)), ((slA 1 AV.s) (((m_a s').graph).defaults)), ((slA 3 DAction.av) ((m_a s').actions)), (AV.i .i64 (((m_a s').disk).clock)), ((slA 3 DFile.av) (((m_a s').disk).files)), ((slA 3 DRecord.av) ((m_a s').log)), ((slA 3 DFound.av) ((m_a s').deps)), (AV.i .i64 ((m_a s').jobs)), (AV.b ((m_a s').going)), (accV 2 1 (AV.i .i64) (bif decide ((((m_a s').status).getD (uMod other s'.graph.edges.length) default) = (2 : Int)) then (((m_a s').status).set (uMod other s'.graph.edges.length) (3 : Int)) else (m_a s').status))]), (AV.i .i64 (((uMod edge s'.graph.edges.length) : Nat) : Int))]) (ss := [(DState.av (⟨(m_a s').graph, (m_a s').actions, (m_a s').disk, (m_a s').log, (m_a s').deps, (m_a s').jobs, (m_a s').going, (bif decide ((((m_a s').status).getD (uMod other s'.graph.edges.length) default) = (2 : Int)) then (((m_a s').status).set (uMod other s'.graph.edges.length) (3 : Int)) else (m_a s').status)⟩ : DState)), (AV.i .i64 (((uMod edge s'.graph.edges.length) : Nat) : Int))]) (r0 := (AV.tup [(AV.b ((m_c (⟨(m_a s').graph, (m_a s').actions, (m_a s').disk, (m_a s').log, (m_a s').deps, (m_a s').jobs, (m_a s').going, (bif decide ((((m_a s').status).getD (uMod other s'.graph.edges.length) default) = (2 : Int)) then (((m_a s').status).set (uMod other s'.graph.edges.length) (3 : Int)) else (m_a s').status)⟩ : DState) (((uMod edge s'.graph.edges.length) : Nat) : Int)).1)), (AV.i .i64 ((m_c (⟨(m_a s').graph, (m_a s').actions, (m_a s').disk, (m_a s').log, (m_a s').deps, (m_a s').jobs, (m_a s').going, (bif decide ((((m_a s').status).getD (uMod other s'.graph.edges.length) default) = (2 : Int)) then (((m_a s').status).set (uMod other s'.graph.edges.length) (3 : Int)) else (m_a s').status)⟩ : DState) (((uMod edge s'.graph.edges.length) : Nat) : Int)).2))])) kr (show SnapW _ _ _ from ⟨(EntK.w (EntK.cast (x' := (AV.st [((slA 7 DEdge.av) (((m_a s').graph).edges)), ((slA 2 DPool.av) (((m_a s').graph).pools)), ((slA 1 AV.s) (((m_a s').graph).defaults)), ((slA 3 DAction.av) ((m_a s').actions)), (AV.i .i64 (((m_a s').disk).clock)), ((slA 3 DFile.av) (((m_a s').disk).files)), ((slA 3 DRecord.av) ((m_a s').log)), ((slA 3 DFound.av) ((m_a s').deps)), (AV.i .i64 ((m_a s').jobs)), (AV.b ((m_a s').going)), (accV 2 1 (AV.i .i64) (bif decide ((((m_a s').status).getD (uMod other s'.graph.edges.length) default) = (2 : Int)) then (((m_a s').status).set (uMod other s'.graph.edges.length) (3 : Int)) else (m_a s').status))])) kr kr (EntK.st (EntKs.cons (EntK.cr (x := ((slA 7 DEdge.av) (((m_a s').graph).edges))) kr) (EntKs.cons (EntK.cr (x := ((slA 2 DPool.av) (((m_a s').graph).pools))) kr) (EntKs.cons (EntK.cr (x := ((slA 1 AV.s) (((m_a s').graph).defaults))) kr) (EntKs.cons (EntK.cr (x := ((slA 3 DAction.av) ((m_a s').actions))) kr) (EntKs.cons (EntK.cr (x := (AV.i .i64 (((m_a s').disk).clock))) kr) (EntKs.cons (EntK.cr (x := ((slA 3 DFile.av) (((m_a s').disk).files))) kr) (EntKs.cons (EntK.cr (x := ((slA 3 DRecord.av) ((m_a s').log))) kr) (EntKs.cons (EntK.cr (x := ((slA 3 DFound.av) ((m_a s').deps))) kr) (EntKs.cons (EntK.cr (x := (AV.i .i64 ((m_a s').jobs))) kr) (EntKs.cons (EntK.cr (x := (AV.b ((m_a s').going))) kr) (EntKs.cons (EntK.acc (fun _ => rfl) (A := (AV.i .i64)) (e := 3) (k := 1) (id := 2) (xs := (bif decide ((((m_a s').status).getD (uMod other s'.graph.edges.length) default) = (2 : Int)) then (((m_a s').status).set (uMod other s'.graph.edges.length) (3 : Int)) else (m_a s').status)) rfl rfl (by first | exact sd | (refine Nat.le_trans (m := 1048576) ?_ (by decide); rw [bif_set_len]; omega) | (refine Nat.le_trans (m := 1048576) ?_ (by decide); show (m_a s').status.length ≤ _; omega))) EntKs.nil)))))))))))))), ⟨(SnapW.e kr), trivial⟩⟩) (w_pool_May W hW (⟨(m_a s').graph, (m_a s').actions, (m_a s').disk, (m_a s').log, (m_a s').deps, (m_a s').jobs, (m_a s').going, (bif decide ((((m_a s').status).getD (uMod other s'.graph.edges.length) default) = (2 : Int)) then (((m_a s').status).set (uMod other s'.graph.edges.length) (3 : Int)) else (m_a s').status)⟩ : DState) (((uMod edge s'.graph.edges.length) : Nat) : Int) (by first | exact hz | exact rl_sz hz bif_set_len | exact rl_sz hz rfl)) rfl kr le ?_
 refine Aq (AV.tup [(AV.b ((m_c (⟨(m_a s').graph, (m_a s').actions, (m_a s').disk, (m_a s').log, (m_a s').deps, (m_a s').jobs, (m_a s').going, (bif decide ((((m_a s').status).getD (uMod other s'.graph.edges.length) default) = (2 : Int)) then (((m_a s').status).set (uMod other s'.graph.edges.length) (3 : Int)) else (m_a s').status)⟩ : DState) (((uMod edge s'.graph.edges.length) : Nat) : Int)).1)), (AV.i .i64 ((m_c (⟨(m_a s').graph, (m_a s').actions, (m_a s').disk, (m_a s').log, (m_a s').deps, (m_a s').jobs, (m_a s').going, (bif decide ((((m_a s').status).getD (uMod other s'.graph.edges.length) default) = (2 : Int)) then (((m_a s').status).set (uMod other s'.graph.edges.length) (3 : Int)) else (m_a s').status)⟩ : DState) (((uMod edge s'.graph.edges.length) : Nat) : Int)).2))]) <| Aq (AV.b ((m_c (⟨(m_a s').graph, (m_a s').actions, (m_a s').disk, (m_a s').log, (m_a s').deps, (m_a s').jobs, (m_a s').going, (bif decide ((((m_a s').status).getD (uMod other s'.graph.edges.length) default) = (2 : Int)) then (((m_a s').status).set (uMod other s'.graph.edges.length) (3 : Int)) else (m_a s').status)⟩ : DState) (((uMod edge s'.graph.edges.length) : Nat) : Int)).1)) ?_
 refine Aq (AV.i .i64 ((m_c (⟨(m_a s').graph, (m_a s').actions, (m_a s').disk, (m_a s').log, (m_a s').deps, (m_a s').jobs, (m_a s').going, (bif decide ((((m_a s').status).getD (uMod other s'.graph.edges.length) default) = (2 : Int)) then (((m_a s').status).set (uMod other s'.graph.edges.length) (3 : Int)) else (m_a s').status)⟩ : DState) (((uMod edge s'.graph.edges.length) : Nat) : Int)).2)) <| Aq (AV.b ((m_c (⟨(m_a s').graph, (m_a s').actions, (m_a s').disk, (m_a s').log, (m_a s').deps, (m_a s').jobs, (m_a s').going, (bif decide ((((m_a s').status).getD (uMod other s'.graph.edges.length) default) = (2 : Int)) then (((m_a s').status).set (uMod other s'.graph.edges.length) (3 : Int)) else (m_a s').status)⟩ : DState) (((uMod edge s'.graph.edges.length) : Nat) : Int)).1)) <| Aq (AV.i .i64 ((m_c (⟨(m_a s').graph, (m_a s').actions, (m_a s').disk, (m_a s').log, (m_a s').deps, (m_a s').jobs, (m_a s').going, (bif decide ((((m_a s').status).getD (uMod other s'.graph.edges.length) default) = (2 : Int)) then (((m_a s').status).set (uMod other s'.graph.edges.length) (3 : Int)) else (m_a s').status)⟩ : DState) (((uMod edge s'.graph.edges.length) : Nat) : Int)).2)) ?_
 refine Ad <| Sq <| Rg <| Aq (AV.st [((slA 7 DEdge.av) s'.graph.edges), ((slA 2 DPool.av) s'.graph.pools), ((slA 1 AV.s) s'.graph.defaults), ((slA 3 DAction.av) s'.actions), (AV.i .i64 s'.disk.clock), ((slA 3 DFile.av) s'.disk.files), ((slA 3 DRecord.av) s'.log), ((slA 3 DFound.av) s'.deps), (AV.i .i64 s'.jobs), (AV.b s'.going), ((slA 1 (AV.i .i64)) s'.status)]) <| AOps.scD (vs := [(AV.st [((slA 7 DEdge.av) s'.graph.edges), ((slA 2 DPool.av) s'.graph.pools), ((slA 1 AV.s) s'.graph.defaults), ((slA 3 DAction.av) s'.actions), (AV.i .i64 s'.disk.clock), ((slA 3 DFile.av) s'.disk.files), ((slA 3 DRecord.av) s'.log), ((slA 3 DFound.av) s'.deps), (AV.i .i64 s'.jobs), (AV.b s'.going), ((slA 1 (AV.i .i64)) s'.status)])]) (x := (AV.st [((slA 7 DEdge.av) (((m_a s').graph).edges)), ((slA 2 DPool.av) (((m_a s').graph).pools)), ((slA 1 AV.s) (((m_a s').graph).defaults)), ((slA 3 DAction.av) ((m_a s').actions)), (AV.i .i64 (((m_a s').disk).clock)), ((slA 3 DFile.av) (((m_a s').disk).files)), ((slA 3 DRecord.av) ((m_a s').log)), ((slA 3 DFound.av) ((m_a s').deps)), (AV.i .i64 ((m_a s').jobs)), (AV.b ((m_a s').going)), (AV.own 3 0 (((m_a s').status).length))])) (h' := ⟨4, [(3, some ⟨3, 1, ((m_a s').status).map (AV.i .i64)⟩), (0, some ⟨64, 11, [(AV.st [((slA 7 DEdge.av) s'.graph.edges), ((slA 2 DPool.av) s'.graph.pools), ((slA 1 AV.s) s'.graph.defaults), ((slA 3 DAction.av) s'.actions), (AV.i .i64 s'.disk.clock), ((slA 3 DFile.av) s'.disk.files), ((slA 3 DRecord.av) s'.log), ((slA 3 DFound.av) s'.deps), (AV.i .i64 s'.jobs), (AV.b s'.going), ((slA 1 (AV.i .i64)) s'.status)])]⟩), (1, some ⟨64, 11, [(AV.st [((slA 7 DEdge.av) (((m_a s').graph).edges)), ((slA 2 DPool.av) (((m_a s').graph).pools)), ((slA 1 AV.s) (((m_a s').graph).defaults)), ((slA 3 DAction.av) ((m_a s').actions)), (AV.i .i64 (((m_a s').disk).clock)), ((slA 3 DFile.av) (((m_a s').disk).files)), ((slA 3 DRecord.av) ((m_a s').log)), ((slA 3 DFound.av) ((m_a s').deps)), (AV.i .i64 ((m_a s').jobs)), (AV.b ((m_a s').going)), (accV 2 1 (AV.i .i64) (bif decide ((((m_a s').status).getD (uMod other s'.graph.edges.length) default) = (2 : Int)) then (((m_a s').status).set (uMod other s'.graph.edges.length) (3 : Int)) else (m_a s').status))])]⟩), (2, accO 3 1 (AV.i .i64) (bif decide ((((m_a s').status).getD (uMod other s'.graph.edges.length) default) = (2 : Int)) then (((m_a s').status).set (uMod other s'.graph.edges.length) (3 : Int)) else (m_a s').status))]⟩) kr kr (wo_law0_CopyState W s' sd) kr (add_row (fun _ => rfl)) le ?_
 refine Nn (AV.loc 4 0 0) ⟨64, 11, [(AV.st [(AV.sl 7 true []), (AV.sl 2 true []), (AV.sl 1 true []), (AV.sl 3 true []), (AV.i .i64 (0 : Int)), (AV.sl 3 true []), (AV.sl 3 true []), (AV.sl 3 true []), (AV.i .i64 (0 : Int)), (AV.b false), (AV.sl 1 true [])])]⟩ <| Sp 4 ⟨64, 11, [(AV.st [((slA 7 DEdge.av) (((m_a s').graph).edges)), ((slA 2 DPool.av) (((m_a s').graph).pools)), ((slA 1 AV.s) (((m_a s').graph).defaults)), ((slA 3 DAction.av) ((m_a s').actions)), (AV.i .i64 (((m_a s').disk).clock)), ((slA 3 DFile.av) (((m_a s').disk).files)), ((slA 3 DRecord.av) ((m_a s').log)), ((slA 3 DFound.av) ((m_a s').deps)), (AV.i .i64 ((m_a s').jobs)), (AV.b ((m_a s').going)), (AV.own 3 0 (((m_a s').status).length))])]⟩ ?_
 refine Ad <| Sq <| Rg <| Aq (AV.loc 4 0 8) <| Aq (AV.i .i64 ((m_a s').jobs)) <| Aq (AV.i .i64 (IntKind.wrap .i64 ((m_a s').jobs + (1 : Int)))) <| Aq (AV.i .i64 (if (IntKind.wrap .i64 ((m_a s').jobs + (1 : Int))) < (8 : Int) then (IntKind.wrap .i64 ((m_a s').jobs + (1 : Int))) else (8 : Int))) <| Aq (AV.loc 4 0 8) <| Sp 4 ⟨64, 11, [(AV.st [((slA 7 DEdge.av) (((m_a s').graph).edges)), ((slA 2 DPool.av) (((m_a s').graph).pools)), ((slA 1 AV.s) (((m_a s').graph).defaults)), ((slA 3 DAction.av) ((m_a s').actions)), (AV.i .i64 (((m_a s').disk).clock)), ((slA 3 DFile.av) (((m_a s').disk).files)), ((slA 3 DRecord.av) ((m_a s').log)), ((slA 3 DFound.av) ((m_a s').deps)), (AV.i .i64 (if (IntKind.wrap .i64 ((m_a s').jobs + (1 : Int))) < (8 : Int) then (IntKind.wrap .i64 ((m_a s').jobs + (1 : Int))) else (8 : Int))), (AV.b ((m_a s').going)), (AV.own 3 0 (((m_a s').status).length))])]⟩ ?_
 refine Ad <| Sq <| Rg <| Aq (AV.st [((slA 7 DEdge.av) (((m_a s').graph).edges)), ((slA 2 DPool.av) (((m_a s').graph).pools)), ((slA 1 AV.s) (((m_a s').graph).defaults)), ((slA 3 DAction.av) ((m_a s').actions)), (AV.i .i64 (((m_a s').disk).clock)), ((slA 3 DFile.av) (((m_a s').disk).files)), ((slA 3 DRecord.av) ((m_a s').log)), ((slA 3 DFound.av) ((m_a s').deps)), (AV.i .i64 (if (IntKind.wrap .i64 ((m_a s').jobs + (1 : Int))) < (8 : Int) then (IntKind.wrap .i64 ((m_a s').jobs + (1 : Int))) else (8 : Int))), (AV.b ((m_a s').going)), (AV.own 3 0 (((m_a s').status).length))]) ?_
 refine Aq (AV.i .i64 (((uMod edge s'.graph.edges.length) : Nat) : Int)) <| AOps.sfw (vs := [(AV.st [((slA 7 DEdge.av) (((m_a s').graph).edges)), ((slA 2 DPool.av) (((m_a s').graph).pools)), ((slA 1 AV.s) (((m_a s').graph).defaults)), ((slA 3 DAction.av) ((m_a s').actions)), (AV.i .i64 (((m_a s').disk).clock)), ((slA 3 DFile.av) (((m_a s').disk).files)), ((slA 3 DRecord.av) ((m_a s').log)), ((slA 3 DFound.av) ((m_a s').deps)), (AV.i .i64 (if (IntKind.wrap .i64 ((m_a s').jobs + (1 : Int))) < (8 : Int) then (IntKind.wrap .i64 ((m_a s').jobs + (1 : Int))) else (8 : Int))), (AV.b ((m_a s').going)), (AV.own 3 0 (((m_a s').status).length))]), (AV.i .i64 (((uMod edge s'.graph.edges.length) : Nat) : Int))]) (ss := [(DState.av (⟨(m_a s').graph, (m_a s').actions, (m_a s').disk, (m_a s').log, (m_a s').deps, (if (IntKind.wrap .i64 ((m_a s').jobs + (1 : Int))) < (8 : Int) then (IntKind.wrap .i64 ((m_a s').jobs + (1 : Int))) else (8 : Int)), (m_a s').going, (m_a s').status⟩ : DState)), (AV.i .i64 (((uMod edge s'.graph.edges.length) : Nat) : Int))]) (r0 := (AV.tup [(AV.b ((m_c (⟨(m_a s').graph, (m_a s').actions, (m_a s').disk, (m_a s').log, (m_a s').deps, (if (IntKind.wrap .i64 ((m_a s').jobs + (1 : Int))) < (8 : Int) then (IntKind.wrap .i64 ((m_a s').jobs + (1 : Int))) else (8 : Int)), (m_a s').going, (m_a s').status⟩ : DState) (((uMod edge s'.graph.edges.length) : Nat) : Int)).1)), (AV.i .i64 ((m_c (⟨(m_a s').graph, (m_a s').actions, (m_a s').disk, (m_a s').log, (m_a s').deps, (if (IntKind.wrap .i64 ((m_a s').jobs + (1 : Int))) < (8 : Int) then (IntKind.wrap .i64 ((m_a s').jobs + (1 : Int))) else (8 : Int)), (m_a s').going, (m_a s').status⟩ : DState) (((uMod edge s'.graph.edges.length) : Nat) : Int)).2))])) kr (show SnapW _ _ _ from ⟨(EntK.w (EntK.cast (x' := (AV.st [((slA 7 DEdge.av) (((m_a s').graph).edges)), ((slA 2 DPool.av) (((m_a s').graph).pools)), ((slA 1 AV.s) (((m_a s').graph).defaults)), ((slA 3 DAction.av) ((m_a s').actions)), (AV.i .i64 (((m_a s').disk).clock)), ((slA 3 DFile.av) (((m_a s').disk).files)), ((slA 3 DRecord.av) ((m_a s').log)), ((slA 3 DFound.av) ((m_a s').deps)), (AV.i .i64 (if (IntKind.wrap .i64 ((m_a s').jobs + (1 : Int))) < (8 : Int) then (IntKind.wrap .i64 ((m_a s').jobs + (1 : Int))) else (8 : Int))), (AV.b ((m_a s').going)), (AV.own 3 0 (((m_a s').status).length))])) kr kr (EntK.st (EntKs.cons (EntK.cr (x := ((slA 7 DEdge.av) (((m_a s').graph).edges))) kr) (EntKs.cons (EntK.cr (x := ((slA 2 DPool.av) (((m_a s').graph).pools))) kr) (EntKs.cons (EntK.cr (x := ((slA 1 AV.s) (((m_a s').graph).defaults))) kr) (EntKs.cons (EntK.cr (x := ((slA 3 DAction.av) ((m_a s').actions))) kr) (EntKs.cons (EntK.cr (x := (AV.i .i64 (((m_a s').disk).clock))) kr) (EntKs.cons (EntK.cr (x := ((slA 3 DFile.av) (((m_a s').disk).files))) kr) (EntKs.cons (EntK.cr (x := ((slA 3 DRecord.av) ((m_a s').log))) kr) (EntKs.cons (EntK.cr (x := ((slA 3 DFound.av) ((m_a s').deps))) kr) (EntKs.cons (EntK.cr (x := (AV.i .i64 (if (IntKind.wrap .i64 ((m_a s').jobs + (1 : Int))) < (8 : Int) then (IntKind.wrap .i64 ((m_a s').jobs + (1 : Int))) else (8 : Int)))) kr) (EntKs.cons (EntK.cr (x := (AV.b ((m_a s').going))) kr) (EntKs.cons (EntK.row (fun _ => rfl) (A := (AV.i .i64)) (id := 3) (e := 3) (k := 1) (xs := ((m_a s').status)) rfl rfl rfl (by first | exact sd | (refine Nat.le_trans (m := 1048576) ?_ (by decide); rw [bif_set_len]; omega) | (refine Nat.le_trans (m := 1048576) ?_ (by decide); show (m_a s').status.length ≤ _; omega))) EntKs.nil)))))))))))))), ⟨(SnapW.e kr), trivial⟩⟩) (w_pool_May W hW (⟨(m_a s').graph, (m_a s').actions, (m_a s').disk, (m_a s').log, (m_a s').deps, (if (IntKind.wrap .i64 ((m_a s').jobs + (1 : Int))) < (8 : Int) then (IntKind.wrap .i64 ((m_a s').jobs + (1 : Int))) else (8 : Int)), (m_a s').going, (m_a s').status⟩ : DState) (((uMod edge s'.graph.edges.length) : Nat) : Int) (by first | exact hz | exact rl_sz hz bif_set_len | exact rl_sz hz rfl)) rfl kr le ?_
 refine Aq (AV.tup [(AV.b ((m_c (⟨(m_a s').graph, (m_a s').actions, (m_a s').disk, (m_a s').log, (m_a s').deps, (if (IntKind.wrap .i64 ((m_a s').jobs + (1 : Int))) < (8 : Int) then (IntKind.wrap .i64 ((m_a s').jobs + (1 : Int))) else (8 : Int)), (m_a s').going, (m_a s').status⟩ : DState) (((uMod edge s'.graph.edges.length) : Nat) : Int)).1)), (AV.i .i64 ((m_c (⟨(m_a s').graph, (m_a s').actions, (m_a s').disk, (m_a s').log, (m_a s').deps, (if (IntKind.wrap .i64 ((m_a s').jobs + (1 : Int))) < (8 : Int) then (IntKind.wrap .i64 ((m_a s').jobs + (1 : Int))) else (8 : Int)), (m_a s').going, (m_a s').status⟩ : DState) (((uMod edge s'.graph.edges.length) : Nat) : Int)).2))]) ?_
 refine Aq (AV.b ((m_c (⟨(m_a s').graph, (m_a s').actions, (m_a s').disk, (m_a s').log, (m_a s').deps, (if (IntKind.wrap .i64 ((m_a s').jobs + (1 : Int))) < (8 : Int) then (IntKind.wrap .i64 ((m_a s').jobs + (1 : Int))) else (8 : Int)), (m_a s').going, (m_a s').status⟩ : DState) (((uMod edge s'.graph.edges.length) : Nat) : Int)).1)) ?_
 refine Aq (AV.i .i64 ((m_c (⟨(m_a s').graph, (m_a s').actions, (m_a s').disk, (m_a s').log, (m_a s').deps, (if (IntKind.wrap .i64 ((m_a s').jobs + (1 : Int))) < (8 : Int) then (IntKind.wrap .i64 ((m_a s').jobs + (1 : Int))) else (8 : Int)), (m_a s').going, (m_a s').status⟩ : DState) (((uMod edge s'.graph.edges.length) : Nat) : Int)).2)) ?_
 refine Aq (AV.b ((m_c (⟨(m_a s').graph, (m_a s').actions, (m_a s').disk, (m_a s').log, (m_a s').deps, (if (IntKind.wrap .i64 ((m_a s').jobs + (1 : Int))) < (8 : Int) then (IntKind.wrap .i64 ((m_a s').jobs + (1 : Int))) else (8 : Int)), (m_a s').going, (m_a s').status⟩ : DState) (((uMod edge s'.graph.edges.length) : Nat) : Int)).1)) ?_
 refine Aq (AV.i .i64 ((m_c (⟨(m_a s').graph, (m_a s').actions, (m_a s').disk, (m_a s').log, (m_a s').deps, (if (IntKind.wrap .i64 ((m_a s').jobs + (1 : Int))) < (8 : Int) then (IntKind.wrap .i64 ((m_a s').jobs + (1 : Int))) else (8 : Int)), (m_a s').going, (m_a s').status⟩ : DState) (((uMod edge s'.graph.edges.length) : Nat) : Int)).2)) ?_
 refine Ad <| Sq <| Rg <| Aq (AV.i .i64 ((m_c s' (((uMod edge s'.graph.edges.length) : Nat) : Int)).2)) <| AOps.sc0 (vs := [(AV.i .i64 ((m_c s' (((uMod edge s'.graph.edges.length) : Nat) : Int)).2))]) (r0 := (AV.i .i64 (m_z ((m_c s' (((uMod edge s'.graph.edges.length) : Nat) : Int)).2)))) kr kr (w_law0_Num W ((m_c s' (((uMod edge s'.graph.edges.length) : Nat) : Int)).2)) kr le <| Aq (AV.b (decide ((m_z ((m_c s' (((uMod edge s'.graph.edges.length) : Nat) : Int)).2)) = (0 : Int)))) <| Aq (AV.b (decide ((m_z ((m_c s' (((uMod edge s'.graph.edges.length) : Nat) : Int)).2)) = (0 : Int)))) ?_
 cases c_5 : decide ((m_z ((m_c s' (((uMod edge s'.graph.edges.length) : Nat) : Int)).2)) = (0 : Int))
 have k_5 := of_decide_eq_false c_5
 refine An <| An <| An <| Aq (AV.b false) <| Aq (AV.b false) <| An <| An <| An <| Aq (AV.b false) <| Aq (AV.b false) <| An <| An <| An <| An <| An <| An <| An <| An <| Aq (AV.b false) <| Aq (AV.b false) <| An <| An <| An <| An <| Aq (AV.b false) <| Aq (AV.b false) <| Ad <| Rt ?_
 have hM : m_4 s' edge other = false := by simp only [m_4, c_1, c_2, c_3, c_5, sbt]
 refine ⟨Or.inr rfl, ?_⟩
 rw [hM]
 exact Ec
 have k_5 := of_decide_eq_true c_5
 refine Ay <| Aq (AV.i .i64 ((m_c (⟨(m_a s').graph, (m_a s').actions, (m_a s').disk, (m_a s').log, (m_a s').deps, (m_a s').jobs, (m_a s').going, (bif decide ((((m_a s').status).getD (uMod other s'.graph.edges.length) default) = (2 : Int)) then (((m_a s').status).set (uMod other s'.graph.edges.length) (3 : Int)) else (m_a s').status)⟩ : DState) (((uMod edge s'.graph.edges.length) : Nat) : Int)).2)) <| Ay <| AOps.sc0 (vs := [(AV.i .i64 ((m_c (⟨(m_a s').graph, (m_a s').actions, (m_a s').disk, (m_a s').log, (m_a s').deps, (m_a s').jobs, (m_a s').going, (bif decide ((((m_a s').status).getD (uMod other s'.graph.edges.length) default) = (2 : Int)) then (((m_a s').status).set (uMod other s'.graph.edges.length) (3 : Int)) else (m_a s').status)⟩ : DState) (((uMod edge s'.graph.edges.length) : Nat) : Int)).2))]) (r0 := (AV.i .i64 (m_z ((m_c (⟨(m_a s').graph, (m_a s').actions, (m_a s').disk, (m_a s').log, (m_a s').deps, (m_a s').jobs, (m_a s').going, (bif decide ((((m_a s').status).getD (uMod other s'.graph.edges.length) default) = (2 : Int)) then (((m_a s').status).set (uMod other s'.graph.edges.length) (3 : Int)) else (m_a s').status)⟩ : DState) (((uMod edge s'.graph.edges.length) : Nat) : Int)).2)))) kr kr (w_law0_Num W ((m_c (⟨(m_a s').graph, (m_a s').actions, (m_a s').disk, (m_a s').log, (m_a s').deps, (m_a s').jobs, (m_a s').going, (bif decide ((((m_a s').status).getD (uMod other s'.graph.edges.length) default) = (2 : Int)) then (((m_a s').status).set (uMod other s'.graph.edges.length) (3 : Int)) else (m_a s').status)⟩ : DState) (((uMod edge s'.graph.edges.length) : Nat) : Int)).2)) kr le ?_
 refine Ay <| Aq (AV.b (decide ((m_z ((m_c (⟨(m_a s').graph, (m_a s').actions, (m_a s').disk, (m_a s').log, (m_a s').deps, (m_a s').jobs, (m_a s').going, (bif decide ((((m_a s').status).getD (uMod other s'.graph.edges.length) default) = (2 : Int)) then (((m_a s').status).set (uMod other s'.graph.edges.length) (3 : Int)) else (m_a s').status)⟩ : DState) (((uMod edge s'.graph.edges.length) : Nat) : Int)).2)) = (0 : Int)))) <| Aq (AV.b (decide ((m_z ((m_c (⟨(m_a s').graph, (m_a s').actions, (m_a s').disk, (m_a s').log, (m_a s').deps, (m_a s').jobs, (m_a s').going, (bif decide ((((m_a s').status).getD (uMod other s'.graph.edges.length) default) = (2 : Int)) then (((m_a s').status).set (uMod other s'.graph.edges.length) (3 : Int)) else (m_a s').status)⟩ : DState) (((uMod edge s'.graph.edges.length) : Nat) : Int)).2)) = (0 : Int)))) <| Aq (AV.b (decide ((m_z ((m_c (⟨(m_a s').graph, (m_a s').actions, (m_a s').disk, (m_a s').log, (m_a s').deps, (m_a s').jobs, (m_a s').going, (bif decide ((((m_a s').status).getD (uMod other s'.graph.edges.length) default) = (2 : Int)) then (((m_a s').status).set (uMod other s'.graph.edges.length) (3 : Int)) else (m_a s').status)⟩ : DState) (((uMod edge s'.graph.edges.length) : Nat) : Int)).2)) = (0 : Int)))) ?_
 cases c_6 : decide ((m_z ((m_c (⟨(m_a s').graph, (m_a s').actions, (m_a s').disk, (m_a s').log, (m_a s').deps, (m_a s').jobs, (m_a s').going, (bif decide ((((m_a s').status).getD (uMod other s'.graph.edges.length) default) = (2 : Int)) then (((m_a s').status).set (uMod other s'.graph.edges.length) (3 : Int)) else (m_a s').status)⟩ : DState) (((uMod edge s'.graph.edges.length) : Nat) : Int)).2)) = (0 : Int))
 have k_6 := of_decide_eq_false c_6
 refine An <| An <| An <| Aq (AV.b false) <| Aq (AV.b false) <| An <| An <| An <| An <| An <| An <| An <| An <| Aq (AV.b false) <| Aq (AV.b false) <| An <| An <| An <| An <| Aq (AV.b false) <| Aq (AV.b false) <| Ad <| Rt ?_
 have hM : m_4 s' edge other = false := by simp only [m_4, c_1, c_2, c_3, c_5, c_6, sbt]
 refine ⟨Or.inr rfl, ?_⟩
 rw [hM]
 exact Ec
 have k_6 := of_decide_eq_true c_6
 refine Ay <| Aq (AV.i .i64 ((m_c (⟨(m_a s').graph, (m_a s').actions, (m_a s').disk, (m_a s').log, (m_a s').deps, (if (IntKind.wrap .i64 ((m_a s').jobs + (1 : Int))) < (8 : Int) then (IntKind.wrap .i64 ((m_a s').jobs + (1 : Int))) else (8 : Int)), (m_a s').going, (m_a s').status⟩ : DState) (((uMod edge s'.graph.edges.length) : Nat) : Int)).2)) ?_
 refine Ay <| AOps.sc0 (vs := [(AV.i .i64 ((m_c (⟨(m_a s').graph, (m_a s').actions, (m_a s').disk, (m_a s').log, (m_a s').deps, (if (IntKind.wrap .i64 ((m_a s').jobs + (1 : Int))) < (8 : Int) then (IntKind.wrap .i64 ((m_a s').jobs + (1 : Int))) else (8 : Int)), (m_a s').going, (m_a s').status⟩ : DState) (((uMod edge s'.graph.edges.length) : Nat) : Int)).2))]) (r0 := (AV.i .i64 (m_z ((m_c (⟨(m_a s').graph, (m_a s').actions, (m_a s').disk, (m_a s').log, (m_a s').deps, (if (IntKind.wrap .i64 ((m_a s').jobs + (1 : Int))) < (8 : Int) then (IntKind.wrap .i64 ((m_a s').jobs + (1 : Int))) else (8 : Int)), (m_a s').going, (m_a s').status⟩ : DState) (((uMod edge s'.graph.edges.length) : Nat) : Int)).2)))) kr kr (w_law0_Num W ((m_c (⟨(m_a s').graph, (m_a s').actions, (m_a s').disk, (m_a s').log, (m_a s').deps, (if (IntKind.wrap .i64 ((m_a s').jobs + (1 : Int))) < (8 : Int) then (IntKind.wrap .i64 ((m_a s').jobs + (1 : Int))) else (8 : Int)), (m_a s').going, (m_a s').status⟩ : DState) (((uMod edge s'.graph.edges.length) : Nat) : Int)).2)) kr le ?_
 refine Ay <| Aq (AV.b (decide ((m_z ((m_c (⟨(m_a s').graph, (m_a s').actions, (m_a s').disk, (m_a s').log, (m_a s').deps, (if (IntKind.wrap .i64 ((m_a s').jobs + (1 : Int))) < (8 : Int) then (IntKind.wrap .i64 ((m_a s').jobs + (1 : Int))) else (8 : Int)), (m_a s').going, (m_a s').status⟩ : DState) (((uMod edge s'.graph.edges.length) : Nat) : Int)).2)) = (0 : Int)))) ?_
 refine Aq (AV.b (decide ((m_z ((m_c (⟨(m_a s').graph, (m_a s').actions, (m_a s').disk, (m_a s').log, (m_a s').deps, (if (IntKind.wrap .i64 ((m_a s').jobs + (1 : Int))) < (8 : Int) then (IntKind.wrap .i64 ((m_a s').jobs + (1 : Int))) else (8 : Int)), (m_a s').going, (m_a s').status⟩ : DState) (((uMod edge s'.graph.edges.length) : Nat) : Int)).2)) = (0 : Int)))) ?_
 refine Aq (AV.b (decide ((m_z ((m_c (⟨(m_a s').graph, (m_a s').actions, (m_a s').disk, (m_a s').log, (m_a s').deps, (if (IntKind.wrap .i64 ((m_a s').jobs + (1 : Int))) < (8 : Int) then (IntKind.wrap .i64 ((m_a s').jobs + (1 : Int))) else (8 : Int)), (m_a s').going, (m_a s').status⟩ : DState) (((uMod edge s'.graph.edges.length) : Nat) : Int)).2)) = (0 : Int)))) ?_
 cases c_7 : decide ((m_z ((m_c (⟨(m_a s').graph, (m_a s').actions, (m_a s').disk, (m_a s').log, (m_a s').deps, (if (IntKind.wrap .i64 ((m_a s').jobs + (1 : Int))) < (8 : Int) then (IntKind.wrap .i64 ((m_a s').jobs + (1 : Int))) else (8 : Int)), (m_a s').going, (m_a s').status⟩ : DState) (((uMod edge s'.graph.edges.length) : Nat) : Int)).2)) = (0 : Int))
 have k_7 := of_decide_eq_false c_7
 refine An <| An <| An <| An <| An <| An <| An <| An <| Aq (AV.b false) <| Aq (AV.b false) <| An <| An <| An <| An <| Aq (AV.b false) <| Aq (AV.b false) <| Ad <| Rt ?_
 have hM : m_4 s' edge other = false := by simp only [m_4, c_1, c_2, c_3, c_5, c_6, c_7, sbt]
 refine ⟨Or.inr rfl, ?_⟩
 rw [hM]
 exact Ec
 have k_7 := of_decide_eq_true c_7
 refine Ay <| Aq (AV.b ((m_c s' (((uMod edge s'.graph.edges.length) : Nat) : Int)).1)) <| Ay <| Aq (AV.b (!(m_c s' (((uMod edge s'.graph.edges.length) : Nat) : Int)).1)) <| Ay <| Aq (AV.b (!(m_c s' (((uMod edge s'.graph.edges.length) : Nat) : Int)).1)) ?_
 cases c_8 : (!(m_c s' (((uMod edge s'.graph.edges.length) : Nat) : Int)).1)
 refine Ay <| Aq (AV.b ((m_c (⟨(m_a s').graph, (m_a s').actions, (m_a s').disk, (m_a s').log, (m_a s').deps, (m_a s').jobs, (m_a s').going, (bif decide ((((m_a s').status).getD (uMod other s'.graph.edges.length) default) = (2 : Int)) then (((m_a s').status).set (uMod other s'.graph.edges.length) (3 : Int)) else (m_a s').status)⟩ : DState) (((uMod edge s'.graph.edges.length) : Nat) : Int)).1)) <| Ay <| Aq (AV.b ((m_c (⟨(m_a s').graph, (m_a s').actions, (m_a s').disk, (m_a s').log, (m_a s').deps, (m_a s').jobs, (m_a s').going, (bif decide ((((m_a s').status).getD (uMod other s'.graph.edges.length) default) = (2 : Int)) then (((m_a s').status).set (uMod other s'.graph.edges.length) (3 : Int)) else (m_a s').status)⟩ : DState) (((uMod edge s'.graph.edges.length) : Nat) : Int)).1)) ?_
 cases c_9 : (m_c (⟨(m_a s').graph, (m_a s').actions, (m_a s').disk, (m_a s').log, (m_a s').deps, (m_a s').jobs, (m_a s').going, (bif decide ((((m_a s').status).getD (uMod other s'.graph.edges.length) default) = (2 : Int)) then (((m_a s').status).set (uMod other s'.graph.edges.length) (3 : Int)) else (m_a s').status)⟩ : DState) (((uMod edge s'.graph.edges.length) : Nat) : Int)).1
 refine An <| Ay <| Aq (AV.b false) <| Ay <| Aq (AV.b false) <| Aq (AV.b false) <| Aq (AV.b false) <| An <| An <| An <| An <| Aq (AV.b false) <| Aq (AV.b false) <| Ad <| Rt ?_
 have hM : m_4 s' edge other = false := by simp only [m_4, c_1, c_2, c_3, c_5, c_6, c_7, c_8, c_9, sbt]
 refine ⟨Or.inr rfl, ?_⟩
 rw [hM]
 exact Ec
 refine Ay <| Aq (AV.b ((m_c (⟨(m_a s').graph, (m_a s').actions, (m_a s').disk, (m_a s').log, (m_a s').deps, (if (IntKind.wrap .i64 ((m_a s').jobs + (1 : Int))) < (8 : Int) then (IntKind.wrap .i64 ((m_a s').jobs + (1 : Int))) else (8 : Int)), (m_a s').going, (m_a s').status⟩ : DState) (((uMod edge s'.graph.edges.length) : Nat) : Int)).1)) ?_
 refine Ay <| Aq (AV.b ((m_c (⟨(m_a s').graph, (m_a s').actions, (m_a s').disk, (m_a s').log, (m_a s').deps, (if (IntKind.wrap .i64 ((m_a s').jobs + (1 : Int))) < (8 : Int) then (IntKind.wrap .i64 ((m_a s').jobs + (1 : Int))) else (8 : Int)), (m_a s').going, (m_a s').status⟩ : DState) (((uMod edge s'.graph.edges.length) : Nat) : Int)).1)) ?_
 refine Ay <| Aq (AV.b ((m_c (⟨(m_a s').graph, (m_a s').actions, (m_a s').disk, (m_a s').log, (m_a s').deps, (if (IntKind.wrap .i64 ((m_a s').jobs + (1 : Int))) < (8 : Int) then (IntKind.wrap .i64 ((m_a s').jobs + (1 : Int))) else (8 : Int)), (m_a s').going, (m_a s').status⟩ : DState) (((uMod edge s'.graph.edges.length) : Nat) : Int)).1)) ?_
 refine Aq (AV.b ((m_c (⟨(m_a s').graph, (m_a s').actions, (m_a s').disk, (m_a s').log, (m_a s').deps, (if (IntKind.wrap .i64 ((m_a s').jobs + (1 : Int))) < (8 : Int) then (IntKind.wrap .i64 ((m_a s').jobs + (1 : Int))) else (8 : Int)), (m_a s').going, (m_a s').status⟩ : DState) (((uMod edge s'.graph.edges.length) : Nat) : Int)).1)) ?_
 refine Aq (AV.b ((m_c (⟨(m_a s').graph, (m_a s').actions, (m_a s').disk, (m_a s').log, (m_a s').deps, (if (IntKind.wrap .i64 ((m_a s').jobs + (1 : Int))) < (8 : Int) then (IntKind.wrap .i64 ((m_a s').jobs + (1 : Int))) else (8 : Int)), (m_a s').going, (m_a s').status⟩ : DState) (((uMod edge s'.graph.edges.length) : Nat) : Int)).1)) ?_
 cases c_10 : (m_c (⟨(m_a s').graph, (m_a s').actions, (m_a s').disk, (m_a s').log, (m_a s').deps, (if (IntKind.wrap .i64 ((m_a s').jobs + (1 : Int))) < (8 : Int) then (IntKind.wrap .i64 ((m_a s').jobs + (1 : Int))) else (8 : Int)), (m_a s').going, (m_a s').status⟩ : DState) (((uMod edge s'.graph.edges.length) : Nat) : Int)).1
 refine An <| An <| An <| An <| Aq (AV.b false) <| Aq (AV.b false) <| Ad <| Rt ?_
 have hM : m_4 s' edge other = false := by simp only [m_4, c_1, c_2, c_3, c_5, c_6, c_7, c_8, c_9, c_10, sbt]
 refine ⟨Or.inr rfl, ?_⟩
 rw [hM]
 exact Ec
 refine Ay <| AOps.sc0 (vs := []) (r0 := (DState.av m_e)) kr kr (w_law22_running W ) kr le <| Ay <| Aq ((slA 1 (AV.i .i64)) m_e.status) <| Ay <| Ap (Ai m_e.status.length) (g_len (k := 1) (nl := false) (e := 3) (A := (AV.i .i64)) (xs := m_e.status) kr kr) <| Ay <| Aq (AV.b (decide (((m_e.status.length : Nat) : Int) = (3 : Int)))) <| Aq (AV.b (decide (((m_e.status.length : Nat) : Int) = (3 : Int)))) <| Aq (AV.b (decide (((m_e.status.length : Nat) : Int) = (3 : Int)))) <| Ad <| Rt ?_
 have hM : m_4 s' edge other = decide (((m_e.status.length : Nat) : Int) = (3 : Int)) := by simp only [m_4, c_1, c_2, c_3, c_5, c_6, c_7, c_8, c_9, c_10, sbt]
 refine ⟨Or.inr rfl, ?_⟩
 rw [hM]
 exact Ec
 refine An <| An <| An <| An <| Ay <| Aq (AV.b true) <| Aq (AV.b true) <| Aq (AV.b true) <| Ay <| AOps.sc0 (vs := []) (r0 := (DState.av m_e)) kr kr (w_law22_running W ) kr le <| Ay <| Aq ((slA 1 (AV.i .i64)) m_e.status) <| Ay <| Ap (Ai m_e.status.length) (g_len (k := 1) (nl := false) (e := 3) (A := (AV.i .i64)) (xs := m_e.status) kr kr) <| Ay <| Aq (AV.b (decide (((m_e.status.length : Nat) : Int) = (3 : Int)))) <| Aq (AV.b (decide (((m_e.status.length : Nat) : Int) = (3 : Int)))) <| Aq (AV.b (decide (((m_e.status.length : Nat) : Int) = (3 : Int)))) <| Ad <| Rt ?_
 have hM : m_4 s' edge other = decide (((m_e.status.length : Nat) : Int) = (3 : Int)) := by simp only [m_4, c_1, c_2, c_3, c_5, c_6, c_7, c_8, sbt]
 refine ⟨Or.inr rfl, ?_⟩
 rw [hM]
 exact Ec
 have k_3 := of_decide_eq_true c_3
 refine Ct <| Sq <| Rg <| Aq (AV.b true) <| Ad <| Rt ?_
 have hM : m_4 s' edge other = true := by simp only [m_4, c_1, c_2, c_3, sbt]
 refine ⟨Or.inr rfl, ?_⟩
 rw [hM]
 exact Ec
 refine An <| An <| An <| An <| Aq (AV.b true) <| Ad <| Ct <| Sq <| Rg <| Aq (AV.b true) <| Ad <| Rt ?_
 have hM : m_4 s' edge other = true := by simp only [m_4, c_1, c_2, sbt]
 refine ⟨Or.inr rfl, ?_⟩
 rw [hM]
 exact Ec
 refine Ct <| Sq <| Rg <| Aq (AV.b false) <| Ad <| Rt ?_
 have hM : m_4 s' edge other = false := by simp only [m_4, c_1, sbt]
 refine ⟨Or.inr rfl, ?_⟩
 rw [hM]
 exact Ec
end
end Go.Lift
