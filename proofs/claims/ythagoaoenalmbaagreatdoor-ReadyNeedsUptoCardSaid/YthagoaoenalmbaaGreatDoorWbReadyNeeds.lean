/-
  Lemmas of this claim: a layer over the kit's calls, contracts of the functions that the law reaches, and the law's row. No condition of its own.
-/
import Derived.Test.YthagoaoenalmbaaGreatDoorWaReadyNeeds
namespace Go.Lift
noncomputable section
open Go Go.RowKit
set_option linter.unusedSimpArgs false
set_option linter.unusedVariables false
set_option linter.unusedSectionVars false
set_option maxRecDepth 20000
theorem w_disk_May (W : World) {m0 : Int} (hW : W.cell? ⟨0, 0, none⟩ = some (.int .i64 m0)) (d : DDisk) : PureAt Go.Proofs.Tryz.prog W 153 [DDisk.av d] (.b (dmayS m_8 d)) [] where
 enters := en153 W
 calls := fun w Y vs hG hY hvs => by
    refine calls_of_wp Go.Proofs.Tryz.func153 rfl ?_
    have F0 := CF.start (P := Go.Proofs.Tryz.prog) (n := 77) hG hY rfl hvs (by simp)
    refine wp_seq (wp_mono (F0.run (Q := fun e env => e = .normal ∧ env = [(1, (AV.pt (DDisk.av d).cells))]) ?_) ?_)
    · refine Rg ?_
      refine Nn (AV.loc 0 0 0) ⟨60, 2, [(DDisk.av d)]⟩ <| Aq (AV.b false) <| Ad ?_
      exact ⟨[], [(1, (AV.pt (DDisk.av d).cells))], ⟨0, []⟩, ⟨by decide, rfl, FitsObjs.nil, (EntE.cons (EntD.kk (x' := (AV.loc 0 0 0)) kr kr rfl (EntK.loc (id := 0) (j := 0) (o := 0) (ob := ⟨60, 2, [(DDisk.av d)]⟩) (x := (DDisk.av d)) rfl rfl rfl (EntKs.cons (EntK.cr (x := (AV.i .i64 d.clock)) kr) (EntKs.cons (EntK.cr (x := ((slA 3 DFile.av) d.files)) kr) EntKs.nil)))) EntE.nil)⟩, rfl, rfl, ⟨rfl, rfl⟩⟩
    rintro e a1 w1 ⟨env1, ⟨rfl, rfl⟩, F1, hb1⟩
    have hr0 : w.heap.size ≤ w1.heap.size := hb1.size
    have hrW : W.heap.size ≤ w1.heap.size := Nat.le_trans hG.size hr0
    refine wp_seq (wp_region ?_)
    show wpOps _ _ _ [0, 1] _ _
    refine wpOps_one rfl rfl (v := .map (some w1.heap.size)) (w' := w1.alloc (.map #[] 0)) rfl ?_
    have F2 := (F1.made (.map #[] 0)).put (t := 6) (x := .raw (.map (some w1.heap.size))) (v := .map (some w1.heap.size)) (by decide) (by simp only [CR])
    refine wpOps_one rfl rfl (v := (a1.put (some 6) (.map (some w1.heap.size))).eval (.tmp 6)) (w' := w1.alloc (.map #[] 0)) rfl ?_
    have F3 := F2.put (t := 3) (by decide) (F2.env 6)
    have hr3 : (w1.alloc (.map #[] 0)).heap[w1.heap.size]? = some (.map #[] 0) := heap_push_new _ _
    obtain ⟨r, hrr⟩ : ∃ r, w1.heap.size = r := ⟨_, rfl⟩
    rw [hrr] at hr0 hrW hr3 F3
    simp only [hrr]
    refine wp_seq (wp_seq (wp_mono (F3.run (Q := fun e env => e = .normal ∧ env = [(1, (AV.pt (DDisk.av d).cells)), (3, (AV.raw (Value.map (some r)))), (8, ((slA 3 DFile.av) d.files)), (9, (Ai d.files.length)), (10, (AV.i .i64 (0 : Int)))]) ?_) ?_))
    · refine Rg ?_
      refine Aq (AV.pt ((DDisk.av d).cells.drop 1)) <| Aq ((slA 3 DFile.av) d.files) <| Ap (Ai d.files.length) (g_len (k := 3) (nl := false) (e := 119) (A := DFile.av) (xs := d.files) kr kr) <| Aq (AV.i .i64 (0 : Int)) <| Ad ?_
      exact ⟨[], [(1, (AV.pt (DDisk.av d).cells)), (3, (AV.raw (Value.map (some r)))), (8, ((slA 3 DFile.av) d.files)), (9, (Ai d.files.length)), (10, (AV.i .i64 (0 : Int)))], ⟨0, []⟩, ⟨by decide, rfl, FitsObjs.nil, (Ee (Ee (Ee (Ee (Ee EntE.nil)))))⟩, rfl, rfl, ⟨rfl, rfl⟩⟩
    rintro e a2 w2 ⟨env2, ⟨rfl, rfl⟩, F4, hb2⟩
    have hr4 := Below.blk hb2 hr3
    have hB : d.files.length ≤ 281474976710656 := F4.len (t := 8) rfl
    obtain ⟨R, hR0⟩ : ∃ R, dmayL m_8 d.clock d.files [] none = R := ⟨_, rfl⟩
    refine wp_block <| wp_loop_k (fun k a w' => ∃ (i : Nat) (es : Array MapEntry) (clock : Nat), k = d.files.length - i ∧ i ≤ d.files.length ∧ CF 77 W w Y [(1, (AV.pt (DDisk.av d).cells)), (3, (AV.raw (Value.map (some r)))), (8, ((slA 3 DFile.av) d.files)), (9, (Ai d.files.length)), (10, (Ai i))] a w' ∧ w'.heap[r]? = some (.map es clock) ∧ EsOk es ((d.files.take i).map DFile.time) ∧ dmayL m_8 d.clock (d.files.drop i) ((d.files.take i).map DFile.time) (d.files.take i).getLast? = R) (k0 := d.files.length) ⟨0, #[], 0, rfl, Nat.zero_le _, F4, hr4, EsOk.nil, hR0⟩ ?_
    rintro k a3 w3 ⟨i, es, clock, hk, hi, F5, hr5, hes, hR⟩
    refine wp_seq (wp_mono (F5.run (Q := fun e env => e = .normal ∧ env = [(1, (AV.pt (DDisk.av d).cells)), (3, (AV.raw (Value.map (some r)))), (8, ((slA 3 DFile.av) d.files)), (9, (Ai d.files.length)), (10, (Ai i)), (11, (AV.b (decide (((i : Nat) : Int) < ((d.files.length : Nat) : Int)))))]) ?_) ?_)
    · refine Rg ?_
      refine Aq (AV.b (decide (((i : Nat) : Int) < ((d.files.length : Nat) : Int)))) <| Ad ?_
      exact ⟨[], [(1, (AV.pt (DDisk.av d).cells)), (3, (AV.raw (Value.map (some r)))), (8, ((slA 3 DFile.av) d.files)), (9, (Ai d.files.length)), (10, (Ai i)), (11, (AV.b (decide (((i : Nat) : Int) < ((d.files.length : Nat) : Int)))))], ⟨0, []⟩, ⟨by decide, rfl, FitsObjs.nil, (Ee (Ee (Ee (Ee (Ee (Ee EntE.nil))))))⟩, rfl, rfl, ⟨rfl, rfl⟩⟩
    rintro e a4 w4 ⟨env4, ⟨rfl, rfl⟩, F6, hb4⟩
    have hr6 := Below.blk hb4 hr5
    refine wp_seq ?_
    rcases Nat.lt_or_ge i d.files.length with hl | hl
    · refine wp_cond (t := true) ((F6.bool (t := 11) rfl).trans (congrArg Value.bool (decide_eq_true (by omega)))) (wp_skip ?_)
      obtain ⟨x, hx⟩ : ∃ x, d.files[i]? = some x := ⟨_, List.getElem?_eq_getElem hl⟩
      have hst := dmay_step (d := d) hx
      obtain ⟨ts, hts⟩ : ∃ ts, (d.files.take i).map DFile.time = ts := ⟨_, rfl⟩
      rw [hts] at hes hR hst
      refine wp_seq (wp_block (wp_seq (wp_mono (F6.run (Q := fun e env => e = .normal ∧ env = [(1, (AV.pt (DDisk.av d).cells)), (3, (AV.raw (Value.map (some r)))), (4, (Ai i)), (5, (AV.pt (DFile.av x).cells)), (8, ((slA 3 DFile.av) d.files)), (9, (Ai d.files.length)), (10, (Ai i))]) ?_) ?_)))
      · refine Rg ?_
        refine Aq (Ai i) <| Ap (AV.pt (DFile.av x).cells) (g_idx (k := 3) (nl := false) (e := 119) (kk := .i64) (A := DFile.av) (xs := d.files) (i := i) kr kr kr ⟨by kernel_rfl, by decide⟩ hx) <| Aq (DFile.av x) <| Nn (AV.loc 0 0 0) ⟨119, 3, [(AV.st [(AV.s (⟨#[]⟩ : ByteArray)), (AV.i .i64 (0 : Int)), (AV.i .i64 (0 : Int))])]⟩ <| Aq (Ai i) <| Sp 0 ⟨119, 3, [(AV.st [(AV.s x.name), (AV.i .i64 x.content), (AV.i .i64 x.time)])]⟩ <| Ad ?_
        exact ⟨[], [(1, (AV.pt (DDisk.av d).cells)), (3, (AV.raw (Value.map (some r)))), (4, (Ai i)), (5, (AV.pt (DFile.av x).cells)), (8, ((slA 3 DFile.av) d.files)), (9, (Ai d.files.length)), (10, (Ai i))], ⟨0, []⟩, ⟨by decide, rfl, FitsObjs.nil, (Ee (Ee (Ee (EntE.cons (EntD.kk (x' := (AV.loc 0 0 0)) kr kr rfl (EntK.loc (id := 0) (j := 0) (o := 0) (ob := ⟨119, 3, [(AV.st [(AV.s x.name), (AV.i .i64 x.content), (AV.i .i64 x.time)])]⟩) (x := (AV.st [(AV.s x.name), (AV.i .i64 x.content), (AV.i .i64 x.time)])) rfl rfl rfl (EntKs.cons (EntK.cr (x := (AV.s x.name)) kr) (EntKs.cons (EntK.cr (x := (AV.i .i64 x.content)) kr) (EntKs.cons (EntK.cr (x := (AV.i .i64 x.time)) kr) EntKs.nil))))) (Ee (Ee (Ee EntE.nil)))))))⟩, rfl, rfl, ⟨rfl, rfl⟩⟩
      rintro e a5 w5 ⟨env5, ⟨rfl, rfl⟩, F7, hb5⟩
      have hr := Below.blk hb5 hr6
      have hWw5 := F7.glob.cell hW
      refine wp_seq (wp_mono (F7.run (Q := fun e env => (e = .ret ∧ env = [(2, (AV.b false))] ∧ diskC d ts x i = false) ∨ (e = .normal ∧ env = [(1, (AV.pt (DDisk.av d).cells)), (3, (AV.raw (Value.map (some r)))), (5, (AV.pt (DFile.av x).cells)), (8, ((slA 3 DFile.av) d.files)), (9, (Ai d.files.length)), (10, (Ai i))] ∧ diskC d ts x i = true)) ?_) ?_)
      · refine Sq ?_
        refine Awp.drawn tabS_ok mixed 41 kr le <| Dq (AV.pt ((DFile.av x).cells.drop 0)) <| Dq (AV.s x.name) <| AOpsD.sc0 (vs := [(AV.s x.name)]) (r0 := (AV.b (m_8 x.name))) kr kr (w_path_Is w5 hWw5 x.name) kr le <| Dq (AV.b (!(m_8 x.name))) <| Dq (AV.b (!(m_8 x.name))) ?_
        cases c_1 : (!(m_8 x.name))
        refine Dy <| Dq (AV.pt ((DFile.av x).cells.drop 1)) <| Dy <| Dq (AV.i .i64 x.content) <| Dy <| AOpsD.sc0 (vs := [(AV.i .i64 x.content)]) (r0 := (AV.b (m_bh x.content))) kr kr (w_disk_content w5 x.content) kr le <| Dy <| Dq (AV.b (!(m_bh x.content))) <| Dq (AV.b (!(m_bh x.content))) <| Dq (AV.b (!(m_bh x.content))) ?_
        cases c_2 : (!(m_bh x.content))
        refine Dy <| Dq (AV.pt ((DFile.av x).cells.drop 2)) <| Dy <| Dq (AV.i .i64 x.time) <| Dy <| Dq (AV.b (decide (x.time < (1 : Int)))) <| Dq (AV.b (decide (x.time < (1 : Int)))) <| Dq (AV.b (decide (x.time < (1 : Int)))) ?_
        cases c_3 : decide (x.time < (1 : Int))
        have k_3 := of_decide_eq_false c_3
        refine Dy <| Dq (AV.pt ((DFile.av x).cells.drop 2)) <| Dy <| Dq (AV.i .i64 x.time) <| Dy <| Dq (AV.pt ((DDisk.av d).cells.drop 0)) <| Dy <| Dq (AV.i .i64 d.clock) <| Dy <| Dq (AV.b (decide (d.clock < x.time))) <| Dq (AV.b (decide (d.clock < x.time))) <| Dq (AV.b (decide (d.clock < x.time))) ?_
        cases c_4 : decide (d.clock < x.time)
        have k_4 := of_decide_eq_false c_4
        refine Dy <| Dq (AV.raw (Value.map (some r))) <| Dy <| Dq (AV.pt ((DFile.av x).cells.drop 2)) <| Dy <| Dq (AV.i .i64 x.time) <| Dy <| AOpsD.sg (x := (AV.b (ts.any (fun t => decide (t = x.time))))) (lookup_ok (vt := 4) Go.Proofs.Tryz.underlying196 Go.Proofs.Tryz.underlying3 (fun _ => by kernel_rfl) hr hes rfl rfl) le <| Dq (AV.b (ts.any (fun t => decide (t = x.time)))) <| Dq (AV.b (ts.any (fun t => decide (t = x.time)))) ?_
        cases c_5 : (ts.any (fun t => decide (t = x.time)))
        refine Dy <| Dq (Ai i) <| Dy <| Dq (AV.b (decide ((0 : Int) < ((i : Nat) : Int)))) <| Dy <| Dq (AV.b (decide ((0 : Int) < ((i : Nat) : Int)))) ?_
        cases c_6 : decide ((0 : Int) < ((i : Nat) : Int))
        have k_6 := of_decide_eq_false c_6
        refine Dn <| Dn <| Dn <| Dn <| Dn <| Dn <| Dn <| Dn <| Dn <| Dn <| Dy <| Dq (AV.b false) <| Dq (AV.b false) <| AOpsD.fin <| Cf <| Awp.skip ?_
        have hM : diskC d ts x i = true := by simp only [diskC, c_1, c_2, c_3, c_4, c_5, c_6, sbt]
        exact ⟨[], [(1, (AV.pt (DDisk.av d).cells)), (3, (AV.raw (Value.map (some r)))), (5, (AV.pt (DFile.av x).cells)), (8, ((slA 3 DFile.av) d.files)), (9, (Ai d.files.length)), (10, (Ai i))], ⟨0, []⟩, ⟨by decide, rfl, FitsObjs.nil, (Ee (Ee (Ee (Ee (Ee (Ee EntE.nil))))))⟩, rfl, rfl, Or.inr ⟨rfl, rfl, hM⟩⟩
        have k_6 := of_decide_eq_true c_6
        refine Dy <| Dq (AV.pt ((DDisk.av d).cells.drop 1)) <| Dy <| Dq ((slA 3 DFile.av) d.files) <| Dy <| Dq (Ai i) <| Dy <| Dp (AV.i .i64 ((i - 1 : Nat) : Int)) (g_subN (i := i) (m := 1) kr kr sd sd) <| Dy <| Dp (AV.pt (DFile.av (d.files.getD (i - 1) default)).cells) (g_idx (k := 3) (nl := false) (e := 119) (kk := .i64) (A := DFile.av) (xs := d.files) (i := i - 1) kr kr kr ⟨by kernel_rfl, by decide⟩ (getD_some sd)) <| Dy <| Dq (AV.pt ((DFile.av (d.files.getD (i - 1) default)).cells.drop 0)) <| Dy <| Dq (AV.s ((d.files.getD (i - 1) default).name)) <| Dy <| Dq (AV.pt ((DFile.av x).cells.drop 0)) <| Dy <| Dq (AV.s x.name) <| Dy <| Dq (AV.b (!Op.bytesLess ((d.files.getD (i - 1) default).name).toList x.name.toList)) <| Dy <| Dq (AV.b (!Op.bytesLess ((d.files.getD (i - 1) default).name).toList x.name.toList)) <| Dq (AV.b (!Op.bytesLess ((d.files.getD (i - 1) default).name).toList x.name.toList)) <| AOpsD.fin ?_
        cases c_7 : (!Op.bytesLess ((d.files.getD (i - 1) default).name).toList x.name.toList)
        refine Cf <| Awp.skip ?_
        have hM : diskC d ts x i = true := by simp only [diskC, c_1, c_2, c_3, c_4, c_5, c_6, c_7, sbt]
        exact ⟨[], [(1, (AV.pt (DDisk.av d).cells)), (3, (AV.raw (Value.map (some r)))), (5, (AV.pt (DFile.av x).cells)), (8, ((slA 3 DFile.av) d.files)), (9, (Ai d.files.length)), (10, (Ai i))], ⟨0, []⟩, ⟨by decide, rfl, FitsObjs.nil, (Ee (Ee (Ee (Ee (Ee (Ee EntE.nil))))))⟩, rfl, rfl, Or.inr ⟨rfl, rfl, hM⟩⟩
        refine Ct <| Sq <| Rg <| Aq (AV.b false) <| Ad <| Rt ?_
        have hM : diskC d ts x i = false := by simp only [diskC, c_1, c_2, c_3, c_4, c_5, c_6, c_7, sbt]
        exact ⟨[], [(2, (AV.b false))], ⟨0, []⟩, ⟨by decide, rfl, FitsObjs.nil, (Ee EntE.nil)⟩, rfl, rfl, Or.inl ⟨rfl, rfl, hM⟩⟩
        refine Dn <| Dn <| Dn <| Dn <| Dn <| Dn <| Dn <| Dn <| Dn <| Dn <| Dn <| Dn <| Dn <| Dn <| Dq (AV.b true) <| AOpsD.fin <| Ct <| Sq <| Rg <| Aq (AV.b false) <| Ad <| Rt ?_
        have hM : diskC d ts x i = false := by simp only [diskC, c_1, c_2, c_3, c_4, c_5, sbt]
        exact ⟨[], [(2, (AV.b false))], ⟨0, []⟩, ⟨by decide, rfl, FitsObjs.nil, (Ee EntE.nil)⟩, rfl, rfl, Or.inl ⟨rfl, rfl, hM⟩⟩
        have k_4 := of_decide_eq_true c_4
        refine Dn <| Dn <| Dn <| Dn <| Dq (AV.b true) <| Dq (AV.b true) <| Dn <| Dn <| Dn <| Dn <| Dn <| Dn <| Dn <| Dn <| Dn <| Dn <| Dn <| Dn <| Dn <| Dn <| Dq (AV.b true) <| AOpsD.fin <| Ct <| Sq <| Rg <| Aq (AV.b false) <| Ad <| Rt ?_
        have hM : diskC d ts x i = false := by simp only [diskC, c_1, c_2, c_3, c_4, sbt]
        exact ⟨[], [(2, (AV.b false))], ⟨0, []⟩, ⟨by decide, rfl, FitsObjs.nil, (Ee EntE.nil)⟩, rfl, rfl, Or.inl ⟨rfl, rfl, hM⟩⟩
        have k_3 := of_decide_eq_true c_3
        refine Dn <| Dn <| Dn <| Dn <| Dn <| Dq (AV.b true) <| Dq (AV.b true) <| Dn <| Dn <| Dn <| Dn <| Dq (AV.b true) <| Dq (AV.b true) <| Dn <| Dn <| Dn <| Dn <| Dn <| Dn <| Dn <| Dn <| Dn <| Dn <| Dn <| Dn <| Dn <| Dn <| Dq (AV.b true) <| AOpsD.fin <| Ct <| Sq <| Rg <| Aq (AV.b false) <| Ad <| Rt ?_
        have hM : diskC d ts x i = false := by simp only [diskC, c_1, c_2, c_3, sbt]
        exact ⟨[], [(2, (AV.b false))], ⟨0, []⟩, ⟨by decide, rfl, FitsObjs.nil, (Ee EntE.nil)⟩, rfl, rfl, Or.inl ⟨rfl, rfl, hM⟩⟩
        refine Dn <| Dn <| Dn <| Dq (AV.b true) <| Dq (AV.b true) <| Dn <| Dn <| Dn <| Dn <| Dn <| Dq (AV.b true) <| Dq (AV.b true) <| Dn <| Dn <| Dn <| Dn <| Dq (AV.b true) <| Dq (AV.b true) <| Dn <| Dn <| Dn <| Dn <| Dn <| Dn <| Dn <| Dn <| Dn <| Dn <| Dn <| Dn <| Dn <| Dn <| Dq (AV.b true) <| AOpsD.fin <| Ct <| Sq <| Rg <| Aq (AV.b false) <| Ad <| Rt ?_
        have hM : diskC d ts x i = false := by simp only [diskC, c_1, c_2, sbt]
        exact ⟨[], [(2, (AV.b false))], ⟨0, []⟩, ⟨by decide, rfl, FitsObjs.nil, (Ee EntE.nil)⟩, rfl, rfl, Or.inl ⟨rfl, rfl, hM⟩⟩
        refine Dn <| Dn <| Dn <| Dn <| Dq (AV.b true) <| Dq (AV.b true) <| Dn <| Dn <| Dn <| Dq (AV.b true) <| Dq (AV.b true) <| Dn <| Dn <| Dn <| Dn <| Dn <| Dq (AV.b true) <| Dq (AV.b true) <| Dn <| Dn <| Dn <| Dn <| Dq (AV.b true) <| Dq (AV.b true) <| Dn <| Dn <| Dn <| Dn <| Dn <| Dn <| Dn <| Dn <| Dn <| Dn <| Dn <| Dn <| Dn <| Dn <| Dq (AV.b true) <| AOpsD.fin <| Ct <| Sq <| Rg <| Aq (AV.b false) <| Ad <| Rt ?_
        have hM : diskC d ts x i = false := by simp only [diskC, c_1, sbt]
        exact ⟨[], [(2, (AV.b false))], ⟨0, []⟩, ⟨by decide, rfl, FitsObjs.nil, (Ee EntE.nil)⟩, rfl, rfl, Or.inl ⟨rfl, rfl, hM⟩⟩
      rintro e a6 w6 ⟨env6, hq, F8, hb6⟩
      rcases hq with ⟨rfl, rfl, hC⟩ | ⟨rfl, rfl, hC⟩
      · show a6.defers = [] ∧ ∃ v, _
        have hD : dmayS m_8 d = false := by
          unfold dmayS
          rw [hR0, ← hR, hst, hC]; rfl
        rw [hD]
        exact F8.done (t := 2) rfl rfl rfl
      · have hr8 := Below.blk hb6 hr
        rw [hC, Bool.true_and] at hst
        refine wp_region ?_
        show wpOps _ _ _ (List.range 3 ++ [3]) _ _
        refine region_first tabS_ok 3 [3] (by decide) (R := fun env h => CQ (fun e env => e = .normal ∧ env = [(1, (AV.pt (DDisk.av d).cells)), (3, (AV.raw (Value.map (some r)))), (8, ((slA 3 DFile.av) d.files)), (9, (Ai d.files.length)), (10, (Ai i)), (59, (AV.raw (Value.map (some r)))), (61, (AV.i .i64 x.time))]) .normal env h) ?_ rfl F8.rel ?_
        · refine Aq (AV.raw (Value.map (some r))) ?_
          refine Aq (AV.pt ((DFile.av x).cells.drop 2)) <| Aq (AV.i .i64 x.time) <| Ad ?_
          exact ⟨[], [(1, (AV.pt (DDisk.av d).cells)), (3, (AV.raw (Value.map (some r)))), (8, ((slA 3 DFile.av) d.files)), (9, (Ai d.files.length)), (10, (Ai i)), (59, (AV.raw (Value.map (some r)))), (61, (AV.i .i64 x.time))], ⟨0, []⟩, ⟨by decide, rfl, FitsObjs.nil, (Ee (Ee (Ee (Ee (Ee (Ee (Ee EntE.nil)))))))⟩, rfl, rfl, ⟨rfl, rfl⟩⟩
        rintro env' h' μ' a7 w7 ⟨keep, env7, h7, hf, hn, hc, _, rfl⟩ R7
        obtain ⟨F9, hb7⟩ := F8.of_rel hn hc (rel_finW R7 hf (fun i hi => by simp at hi))
        have hr9 := Below.blk hb7 hr8
        have hnk : ts.any (fun t => decide (t = x.time)) = false := diskC_any hC
        refine wpOps_unit rfl rfl (w' := { w7 with heap := w7.heap.setIfInBounds r (.map (es.push ⟨.int .i64 x.time, .bool true, clock⟩) (clock + 1)) }) ?_ ?_
        · unfold execOp
          refine run_uu ?_
          rw [F9.raw (t := 59) rfl, F9.int (t := 61) rfl]
          exact run_mapUpdate_new Go.Proofs.Tryz.underlying196 Go.Proofs.Tryz.underlying3 hr9 hes hnk
        obtain ⟨F10, hr10⟩ := F9.turn (es' := es.push ⟨.int .i64 x.time, .bool true, clock⟩) (c' := clock + 1) hr9 hr0 hrW
        refine wp_mono (F10.run (Q := fun e env => e = .normal ∧ env = [(1, (AV.pt (DDisk.av d).cells)), (3, (AV.raw (Value.map (some r)))), (8, ((slA 3 DFile.av) d.files)), (9, (Ai d.files.length)), (10, (Ai (i + 1)))]) ?_) ?_
        · refine Rg ?_
          refine Ap (Ai (i + 1)) (g_addN (i := i) (m := 1) kr kr sd) <| Aq (Ai (i + 1)) <| Ad ?_
          exact ⟨[], [(1, (AV.pt (DDisk.av d).cells)), (3, (AV.raw (Value.map (some r)))), (8, ((slA 3 DFile.av) d.files)), (9, (Ai d.files.length)), (10, (Ai (i + 1)))], ⟨0, []⟩, ⟨by decide, rfl, FitsObjs.nil, (Ee (Ee (Ee (Ee (Ee EntE.nil)))))⟩, rfl, rfl, ⟨rfl, rfl⟩⟩
        rintro e a8 w8 ⟨env8, ⟨rfl, rfl⟩, F11, hb8⟩
        refine ⟨d.files.length - (i + 1), by omega, i + 1, _, _, rfl, by omega, F11, Below.blk hb8 hr10, ?_, by rw [← hst]; exact hR⟩
        have := hes.push x.time clock
        rw [← hts] at this
        rw [take_snoc hx, List.map_append]
        exact this
    · refine wp_cond (t := false) ((F6.bool (t := 11) rfl).trans (congrArg Value.bool (decide_eq_false (by omega)))) (wp_exit ?_)
      show (Code.seq _ _).wp _ _ _ _
      have hD : dmayS m_8 d = diskF d := by
        have e : R = true := by rw [← hR, List.drop_eq_nil_of_le hl]; rfl
        unfold dmayS
        rw [hR0, e]
        exact diskF_eq d
      rw [hD]
      refine wp_seq (wp_mono (F6.run (Q := fun e env => e = .normal ∧ env = [(2, (AV.b (diskF d)))]) ?_) ?_)
      · refine Rg ?_
        refine Aq (AV.pt ((DDisk.av d).cells.drop 0)) <| Aq (AV.i .i64 d.clock) <| Aq (AV.b (decide ((0 : Int) ≤ d.clock))) <| Aq (AV.b (decide ((0 : Int) ≤ d.clock))) ?_
        cases c_1 : decide ((0 : Int) ≤ d.clock)
        have k_1 := of_decide_eq_false c_1
        refine An <| An <| An <| Aq (AV.b false) <| Aq (AV.b false) <| An <| An <| An <| An <| Aq (AV.b false) <| Aq (AV.b false) <| Ad ?_
        have hM : diskF d = false := by simp only [diskF, c_1, sbt]
        rw [hM]
        exact ⟨[], [(2, (AV.b false))], ⟨0, []⟩, ⟨by decide, rfl, FitsObjs.nil, (Ee EntE.nil)⟩, rfl, rfl, ⟨rfl, rfl⟩⟩
        have k_1 := of_decide_eq_true c_1
        refine Ay <| Aq (AV.pt ((DDisk.av d).cells.drop 0)) <| Ay <| Aq (AV.i .i64 d.clock) <| Ay <| Aq (AV.b (decide (d.clock ≤ (1048576 : Int)))) <| Aq (AV.b (decide (d.clock ≤ (1048576 : Int)))) <| Aq (AV.b (decide (d.clock ≤ (1048576 : Int)))) ?_
        cases c_2 : decide (d.clock ≤ (1048576 : Int))
        have k_2 := of_decide_eq_false c_2
        refine An <| An <| An <| An <| Aq (AV.b false) <| Aq (AV.b false) <| Ad ?_
        have hM : diskF d = false := by simp only [diskF, c_1, c_2, sbt]
        rw [hM]
        exact ⟨[], [(2, (AV.b false))], ⟨0, []⟩, ⟨by decide, rfl, FitsObjs.nil, (Ee EntE.nil)⟩, rfl, rfl, ⟨rfl, rfl⟩⟩
        have k_2 := of_decide_eq_true c_2
        refine Ay <| Aq (AV.pt ((DDisk.av d).cells.drop 1)) <| Ay <| Aq ((slA 3 DFile.av) d.files) <| Ay <| Ap (Ai d.files.length) (g_len (k := 3) (nl := false) (e := 119) (A := DFile.av) (xs := d.files) kr kr) <| Ay <| Aq (AV.b (decide (((d.files.length : Nat) : Int) ≤ (64 : Int)))) <| Aq (AV.b (decide (((d.files.length : Nat) : Int) ≤ (64 : Int)))) <| Aq (AV.b (decide (((d.files.length : Nat) : Int) ≤ (64 : Int)))) <| Ad ?_
        have hM : diskF d = decide (((d.files.length : Nat) : Int) ≤ (64 : Int)) := by simp only [diskF, c_1, c_2, sbt]
        rw [hM]
        exact ⟨[], [(2, (AV.b (decide (((d.files.length : Nat) : Int) ≤ (64 : Int)))))], ⟨0, []⟩, ⟨by decide, rfl, FitsObjs.nil, (Ee EntE.nil)⟩, rfl, rfl, ⟨rfl, rfl⟩⟩
      rintro e a9 w9 ⟨env9, ⟨rfl, rfl⟩, F12, hb9⟩
      refine wp_ret ?_
      show a9.defers = [] ∧ ∃ v, _
      exact F12.done (t := 2) rfl rfl rfl
theorem w_dirty_May (W : World) {m0 : Int} (hW : W.cell? ⟨0, 0, none⟩ = some (.int .i64 m0)) (s' : DState) (hz : s'.sz ≤ 1048576) : PureAt Go.Proofs.Tryz.prog W 136 [(AV.pt (DState.av s').cells)] (AV.b (m_a4 s')) [] := by
 have hzg := s'.sz_graph
 refine pure_of_bodyC (fn := Go.Proofs.Tryz.f136) Go.Proofs.Tryz.func136 rfl (en136 W) (ts := [2]) rfl le <| Sq <| Rg <| Aq (AV.b false) <| Ad <| Sq <| Rg <| Aq (AV.pt (DState.av s').cells) <| Aq (AV.pt (DState.av s').cells) <| Aq (AV.pt ((DState.av s').cells.drop 0)) <| Aq (DGraph.av s'.graph) <| AOps.sc0 (vs := [(DGraph.av s'.graph)]) (r0 := (AV.tup [((slA 1 (AV.i .i64)) ((m_av s'.graph).1)), (AV.i .i64 ((m_av s'.graph).2))])) kr kr (w_order_Of W hW s'.graph sd) kr le <| Aq (AV.tup [((slA 1 (AV.i .i64)) ((m_av s'.graph).1)), (AV.i .i64 ((m_av s'.graph).2))]) <| Aq ((slA 1 (AV.i .i64)) ((m_av s'.graph).1)) <| Aq (AV.i .i64 ((m_av s'.graph).2)) <| Aq ((slA 1 (AV.i .i64)) ((m_av s'.graph).1)) <| Aq (AV.i .i64 ((m_av s'.graph).2)) <| Ad <| Sq <| Rg <| Aq (AV.i .i64 ((m_av s'.graph).2)) <| Aq (AV.b (decide ((m_av s'.graph).2 = (0 : Int)))) <| Aq (AV.b (decide ((m_av s'.graph).2 = (0 : Int)))) ?_
 cases c_1 : decide ((m_av s'.graph).2 = (0 : Int))
 have k_1 := of_decide_eq_false c_1
 refine An <| An <| An <| An <| An <| Aq (AV.b false) <| Aq (AV.b false) <| An <| An <| An <| An <| An <| Aq (AV.b false) <| Aq (AV.b false) <| An <| An <| An <| An <| An <| Aq (AV.b false) <| Aq (AV.b false) <| An <| An <| An <| An <| An <| Aq (AV.b false) <| Aq (AV.b false) <| Ad <| Rt ?_
 have hM : m_a4 s' = false := by simp only [m_a4, c_1, sbt]
 refine ⟨Or.inr rfl, ?_⟩
 rw [hM]
 exact Ec
 have k_1 := of_decide_eq_true c_1
 refine Ay <| Aq (AV.pt (DState.av s').cells) <| Ay <| Aq (AV.pt (DState.av s').cells) <| Ay <| Aq (AV.pt ((DState.av s').cells.drop 3)) <| Ay <| Aq ((slA 3 DAction.av) s'.actions) <| Ay <| AOps.sc0 (vs := [((slA 3 DAction.av) s'.actions)]) (r0 := (AV.b (m_br s'.actions))) kr kr (w_command_May W hW s'.actions) kr le <| Aq (AV.b (m_br s'.actions)) <| Aq (AV.b (m_br s'.actions)) ?_
 cases c_2 : (m_br s'.actions)
 refine An <| An <| An <| An <| An <| Aq (AV.b false) <| Aq (AV.b false) <| An <| An <| An <| An <| An <| Aq (AV.b false) <| Aq (AV.b false) <| An <| An <| An <| An <| An <| Aq (AV.b false) <| Aq (AV.b false) <| Ad <| Rt ?_
 have hM : m_a4 s' = false := by simp only [m_a4, c_1, c_2, sbt]
 refine ⟨Or.inr rfl, ?_⟩
 rw [hM]
 exact Ec
 refine Ay <| Aq (AV.pt (DState.av s').cells) <| Ay <| Aq (AV.pt (DState.av s').cells) <| Ay <| Aq (AV.pt ((DState.av s').cells.drop 4)) <| Ay <| Aq (DDisk.av s'.disk) <| Ay <| AOps.sc0 (vs := [(DDisk.av s'.disk)]) (r0 := (AV.b (dmayS m_8 s'.disk))) kr kr (w_disk_May W hW s'.disk) kr le <| Aq (AV.b (dmayS m_8 s'.disk)) <| Aq (AV.b (dmayS m_8 s'.disk)) ?_
 cases c_3 : (dmayS m_8 s'.disk)
 refine An <| An <| An <| An <| An <| Aq (AV.b false) <| Aq (AV.b false) <| An <| An <| An <| An <| An <| Aq (AV.b false) <| Aq (AV.b false) <| Ad <| Rt ?_
 have hM : m_a4 s' = false := by simp only [m_a4, c_1, c_2, c_3, sbt]
 refine ⟨Or.inr rfl, ?_⟩
 rw [hM]
 exact Ec
 refine Ay <| Aq (AV.pt (DState.av s').cells) <| Ay <| Aq (AV.pt (DState.av s').cells) <| Ay <| Aq (AV.pt ((DState.av s').cells.drop 6)) <| Ay <| Aq ((slA 3 DRecord.av) s'.log) <| Ay <| AOps.sc0 (vs := [((slA 3 DRecord.av) s'.log)]) (r0 := (AV.b (m_cd s'.log))) kr kr (w_log_May W hW s'.log) kr le <| Aq (AV.b (m_cd s'.log)) <| Aq (AV.b (m_cd s'.log)) ?_
 cases c_4 : (m_cd s'.log)
 refine An <| An <| An <| An <| An <| Aq (AV.b false) <| Aq (AV.b false) <| Ad <| Rt ?_
 have hM : m_a4 s' = false := by simp only [m_a4, c_1, c_2, c_3, c_4, sbt]
 refine ⟨Or.inr rfl, ?_⟩
 rw [hM]
 exact Ec
 refine Ay <| Aq (AV.pt (DState.av s').cells) <| Ay <| Aq (AV.pt (DState.av s').cells) <| Ay <| Aq (AV.pt ((DState.av s').cells.drop 7)) <| Ay <| Aq ((slA 3 DFound.av) s'.deps) <| Ay <| AOps.sc0 (vs := [((slA 3 DFound.av) s'.deps)]) (r0 := (AV.b (m_by s'.deps))) kr kr (w_deplog_May W hW s'.deps) kr le <| Aq (AV.b (m_by s'.deps)) <| Aq (AV.b (m_by s'.deps)) <| Ad <| Rt ?_
 have hM : m_a4 s' = (m_by s'.deps) := by simp only [m_a4, c_1, c_2, c_3, c_4, sbt]
 refine ⟨Or.inr rfl, ?_⟩
 rw [hM]
 exact Ec
theorem w_ready_May_1 (W : World) (x' : Int) : PureAt Go.Proofs.Tryz.prog W 135 [(AV.i .i64 x')] (AV.b (m_bs x')) [] := by
 refine pure_of_bodyC (fn := Go.Proofs.Tryz.f135) Go.Proofs.Tryz.func135 rfl (en135 W) (ts := [2]) rfl le <| Sq <| Rg <| Aq (AV.b false) <| Ad <| Sq <| Rg <| Aq (AV.i .i64 x') <| Aq (AV.b (decide (x' < (0 : Int)))) <| Aq (AV.b (decide (x' < (0 : Int)))) ?_
 cases c_1 : decide (x' < (0 : Int))
 have k_1 := of_decide_eq_false c_1
 refine Ay <| Aq (AV.i .i64 x') <| Ay <| Aq (AV.b (decide ((4 : Int) < x'))) <| Aq (AV.b (decide ((4 : Int) < x'))) <| Aq (AV.b (decide ((4 : Int) < x'))) <| Ad <| Rt ?_
 have hM : m_bs x' = decide ((4 : Int) < x') := by simp only [m_bs, c_1, sbt]
 refine ⟨Or.inr rfl, ?_⟩
 rw [hM]
 exact Ec
 have k_1 := of_decide_eq_true c_1
 refine An <| An <| Aq (AV.b true) <| Aq (AV.b true) <| Ad <| Rt ?_
 have hM : m_bs x' = true := by simp only [m_bs, c_1, sbt]
 refine ⟨Or.inr rfl, ?_⟩
 rw [hM]
 exact Ec
theorem w_ready_May (W : World) {m0 : Int} (hW : W.cell? ⟨0, 0, none⟩ = some (.int .i64 m0)) (s' : DState) (hz : s'.sz ≤ 1048576) : PureAt Go.Proofs.Tryz.prog W 108 [(AV.pt (DState.av s').cells)] (AV.b (m_ao s')) [] := by
 have hzg := s'.sz_graph
 refine pure_of_bodyC (fn := Go.Proofs.Tryz.f108) Go.Proofs.Tryz.func108 rfl (en108 W) (ts := [2]) rfl le <| Sq <| Rg <| Aq (AV.b false) <| Ad <| Sq <| Rg <| Aq (AV.fn 135 []) <| Ad <| Sq <| Sq <| Rg <| Aq (AV.pt (DState.av s').cells) <| AOps.sc0 (vs := [(AV.pt (DState.av s').cells)]) (r0 := (AV.b (m_a4 s'))) kr kr (w_dirty_May W hW s' sd) kr le <| Aq (AV.b (!(m_a4 s'))) <| Aq (AV.b (!(m_a4 s'))) ?_
 cases c_1 : (!(m_a4 s'))
 refine Ay <| Aq (AV.pt (DState.av s').cells) <| Ay <| Aq (AV.pt (DState.av s').cells) <| Ay <| Aq (AV.pt ((DState.av s').cells.drop 8)) <| Ay <| Aq (AV.i .i64 s'.jobs) <| Ay <| Aq (AV.b (decide (s'.jobs < (1 : Int)))) <| Aq (AV.b (decide (s'.jobs < (1 : Int)))) <| Aq (AV.b (decide (s'.jobs < (1 : Int)))) ?_
 cases c_2 : decide (s'.jobs < (1 : Int))
 have k_2 := of_decide_eq_false c_2
 refine Ay <| Aq (AV.pt (DState.av s').cells) <| Ay <| Aq (AV.pt (DState.av s').cells) <| Ay <| Aq (AV.pt ((DState.av s').cells.drop 8)) <| Ay <| Aq (AV.i .i64 s'.jobs) <| Ay <| Aq (AV.b (decide ((8 : Int) < s'.jobs))) <| Aq (AV.b (decide ((8 : Int) < s'.jobs))) <| Aq (AV.b (decide ((8 : Int) < s'.jobs))) ?_
 cases c_3 : decide ((8 : Int) < s'.jobs)
 have k_3 := of_decide_eq_false c_3
 refine Ay <| Aq (AV.pt (DState.av s').cells) <| Ay <| Aq (AV.pt (DState.av s').cells) <| Ay <| Aq (AV.pt ((DState.av s').cells.drop 10)) <| Ay <| Aq ((slA 1 (AV.i .i64)) s'.status) <| Ay <| Aq (AV.fn 135 []) <| Ay <| AOps.sc0 (vs := [((slA 1 (AV.i .i64)) s'.status), (AV.fn 135 [])]) (r0 := (AV.b (m_e s'.status (fun z0 => m_bs z0)))) kr (by simp only [closedL, Bool.and_eq_true]; exact ⟨by kernel_rfl, kr, trivial⟩) (w_slices_ContainsFunc_int_int W s'.status 135 [] (fun z0 => m_bs z0) kr (fun z0 => (w_ready_May_1 W z0))) kr le <| Aq (AV.b (m_e s'.status (fun z0 => m_bs z0))) <| Ad ?_
 cases c_4 : (m_e s'.status (fun z0 => m_bs z0))
 refine Cf <| Awp.skip <| Sq <| Awp.drawn tabS_ok mixed 11 kr le <| Dq (AV.pt (DState.av s').cells) <| Dq (AV.pt (DState.av s').cells) <| Dq (AV.pt ((DState.av s').cells.drop 10)) <| Dq ((slA 1 (AV.i .i64)) s'.status) <| Dp (Ai s'.status.length) (g_len (k := 1) (nl := false) (e := 3) (A := (AV.i .i64)) (xs := s'.status) kr kr) <| Dq (AV.pt (DState.av s').cells) <| Dq (AV.pt (DState.av s').cells) <| Dq (AV.pt ((DState.av s').cells.drop 0)) <| Dq (AV.pt ((DState.av s').cells.drop 0)) <| Dq ((slA 7 DEdge.av) s'.graph.edges) <| Dp (Ai s'.graph.edges.length) (g_len (k := 7) (nl := false) (e := 76) (A := DEdge.av) (xs := s'.graph.edges) kr kr) <| Dq (AV.b (decide (((s'.status.length : Nat) : Int) = ((s'.graph.edges.length : Nat) : Int)))) <| Dq (AV.b (decide (((s'.status.length : Nat) : Int) = ((s'.graph.edges.length : Nat) : Int)))) ?_
 cases c_5 : decide (((s'.status.length : Nat) : Int) = ((s'.graph.edges.length : Nat) : Int))
 have k_5 := of_decide_eq_false c_5
 refine Dy <| Dq (AV.pt (DState.av s').cells) <| Dy <| Dq (AV.pt (DState.av s').cells) <| Dy <| Dq (AV.pt ((DState.av s').cells.drop 9)) <| Dy <| Dq (AV.b s'.going) <| Dy <| Dq (AV.b (!s'.going)) <| Dy <| Dq (AV.b (!s'.going)) ?_
 cases c_6 : (!s'.going)
 refine Dn <| Dn <| Dn <| Dn <| Dn <| Dn <| Dy <| Dq (AV.b false) <| Dq (AV.b false) <| Dq (AV.b false) <| AOpsD.fin <| Rt ?_
 have hM : m_ao s' = false := by simp only [m_ao, c_1, c_2, c_3, c_4, c_5, c_6, sbt]
 refine ⟨Or.inr rfl, ?_⟩
 rw [hM]
 exact Ec
 refine Dy <| Dq (AV.pt (DState.av s').cells) <| Dy <| Dq (AV.pt (DState.av s').cells) <| Dy <| Dq (AV.pt ((DState.av s').cells.drop 10)) <| Dy <| Dq ((slA 1 (AV.i .i64)) s'.status) <| Dy <| Dp (Ai s'.status.length) (g_len (k := 1) (nl := false) (e := 3) (A := (AV.i .i64)) (xs := s'.status) kr kr) <| Dy <| Dq (AV.b (decide (((s'.status.length : Nat) : Int) = (0 : Int)))) <| Dy <| Dq (AV.b (decide (((s'.status.length : Nat) : Int) = (0 : Int)))) <| Dq (AV.b (decide (((s'.status.length : Nat) : Int) = (0 : Int)))) <| Dq (AV.b (decide (((s'.status.length : Nat) : Int) = (0 : Int)))) <| AOpsD.fin <| Rt ?_
 have hM : m_ao s' = decide (((s'.status.length : Nat) : Int) = (0 : Int)) := by simp only [m_ao, c_1, c_2, c_3, c_4, c_5, c_6, sbt]
 refine ⟨Or.inr rfl, ?_⟩
 rw [hM]
 exact Ec
 have k_5 := of_decide_eq_true c_5
 refine Dn <| Dn <| Dn <| Dn <| Dn <| Dn <| Dn <| Dn <| Dn <| Dn <| Dn <| Dn <| Dn <| Dq (AV.b true) <| Dq (AV.b true) <| AOpsD.fin <| Rt ?_
 have hM : m_ao s' = true := by simp only [m_ao, c_1, c_2, c_3, c_4, c_5, sbt]
 refine ⟨Or.inr rfl, ?_⟩
 rw [hM]
 exact Ec
 refine Ct <| Sq <| Rg <| Aq (AV.b false) <| Ad <| Rt ?_
 have hM : m_ao s' = false := by simp only [m_ao, c_1, c_2, c_3, c_4, sbt]
 refine ⟨Or.inr rfl, ?_⟩
 rw [hM]
 exact Ec
 have k_3 := of_decide_eq_true c_3
 refine An <| An <| An <| An <| An <| An <| Aq (AV.b true) <| Ad <| Ct <| Sq <| Rg <| Aq (AV.b false) <| Ad <| Rt ?_
 have hM : m_ao s' = false := by simp only [m_ao, c_1, c_2, c_3, sbt]
 refine ⟨Or.inr rfl, ?_⟩
 rw [hM]
 exact Ec
 have k_2 := of_decide_eq_true c_2
 refine An <| An <| An <| An <| An <| Aq (AV.b true) <| Aq (AV.b true) <| An <| An <| An <| An <| An <| An <| Aq (AV.b true) <| Ad <| Ct <| Sq <| Rg <| Aq (AV.b false) <| Ad <| Rt ?_
 have hM : m_ao s' = false := by simp only [m_ao, c_1, c_2, sbt]
 refine ⟨Or.inr rfl, ?_⟩
 rw [hM]
 exact Ec
 refine An <| An <| An <| An <| An <| Aq (AV.b true) <| Aq (AV.b true) <| An <| An <| An <| An <| An <| Aq (AV.b true) <| Aq (AV.b true) <| An <| An <| An <| An <| An <| An <| Aq (AV.b true) <| Ad <| Ct <| Sq <| Rg <| Aq (AV.b false) <| Ad <| Rt ?_
 have hM : m_ao s' = false := by simp only [m_ao, c_1, sbt]
 refine ⟨Or.inr rfl, ?_⟩
 rw [hM]
 exact Ec
theorem w_ready_There (W : World) {m0 : Int} (hW : W.cell? ⟨0, 0, none⟩ = some (.int .i64 m0)) (s' : DState) (edge : Int) (hz : s'.sz ≤ 1048576) : PureAt Go.Proofs.Tryz.prog W 81 [(AV.pt (DState.av s').cells), (AV.i .i64 edge)] (AV.b (m_an s' edge)) [] := by
 have hzg := s'.sz_graph
 refine pure_of_bodyC (fn := Go.Proofs.Tryz.f81) Go.Proofs.Tryz.func81 rfl (en81 W) (ts := [4]) rfl le <| Sq <| Rg <| Aq (AV.b false) <| Ad <| Sq <| Rg <| Aq (AV.pt (DState.av s').cells) <| AOps.sc0 (vs := [(AV.pt (DState.av s').cells)]) (r0 := (AV.b (m_ao s'))) kr kr (w_ready_May W hW s' sd) kr le <| Aq (AV.b (m_ao s')) ?_
 cases c_1 : (m_ao s')
 refine An <| An <| Aq (AV.b false) <| Aq (AV.b false) <| An <| An <| An <| An <| An <| An <| An <| An <| Aq (AV.b false) <| Aq (AV.b false) <| Ad <| Rt ?_
 have hM : m_an s' edge = false := by simp only [m_an, c_1, sbt]
 refine ⟨Or.inr rfl, ?_⟩
 rw [hM]
 exact Ec
 refine Ay <| Aq (AV.i .i64 edge) <| Ay <| Aq (AV.b (decide ((0 : Int) ≤ edge))) <| Aq (AV.b (decide ((0 : Int) ≤ edge))) <| Aq (AV.b (decide ((0 : Int) ≤ edge))) ?_
 cases c_2 : decide ((0 : Int) ≤ edge)
 have k_2 := of_decide_eq_false c_2
 refine An <| An <| An <| An <| An <| An <| An <| An <| Aq (AV.b false) <| Aq (AV.b false) <| Ad <| Rt ?_
 have hM : m_an s' edge = false := by simp only [m_an, c_1, c_2, sbt]
 refine ⟨Or.inr rfl, ?_⟩
 rw [hM]
 exact Ec
 have k_2 := of_decide_eq_true c_2
 refine Ay <| Aq (AV.i .i64 edge) <| Ay <| Aq (AV.pt (DState.av s').cells) <| Ay <| Aq (AV.pt (DState.av s').cells) <| Ay <| Aq (AV.pt ((DState.av s').cells.drop 0)) <| Ay <| Aq (AV.pt ((DState.av s').cells.drop 0)) <| Ay <| Aq ((slA 7 DEdge.av) s'.graph.edges) <| Ay <| Ap (Ai s'.graph.edges.length) (g_len (k := 7) (nl := false) (e := 76) (A := DEdge.av) (xs := s'.graph.edges) kr kr) <| Ay <| Aq (AV.b (decide (edge < ((s'.graph.edges.length : Nat) : Int)))) <| Aq (AV.b (decide (edge < ((s'.graph.edges.length : Nat) : Int)))) <| Aq (AV.b (decide (edge < ((s'.graph.edges.length : Nat) : Int)))) <| Ad <| Rt ?_
 have hM : m_an s' edge = decide (edge < ((s'.graph.edges.length : Nat) : Int)) := by simp only [m_an, c_1, c_2, sbt]
 refine ⟨Or.inr rfl, ?_⟩
 rw [hM]
 exact Ec
theorem w_ready_Ready_1 (W : World) (at' : Int) (s' : DState) (hb : 0 ≤ at' ∧ at'.toNat < s'.status.length) : PureAt Go.Proofs.Tryz.prog W 109 [(AV.i .i64 at'), (AV.pt ((ptA DState.av) s').cells)] (AV.b (m_ak at' s')) [] := by
 refine pure_of_bodyC (fn := Go.Proofs.Tryz.f109) Go.Proofs.Tryz.func109 rfl (en109 W) (ts := [3]) rfl le <| Sq <| Rg <| Aq (AV.b false) <| Ad <| Sq <| Rg <| Aq (AV.pt (DState.av s').cells) <| Aq (AV.pt (DState.av s').cells) <| Aq (AV.pt ((DState.av s').cells.drop 10)) <| Aq ((slA 1 (AV.i .i64)) s'.status) <| Aq (AV.i .i64 at') <| Ap (AV.pt ((AV.i .i64) (s'.status.getD at'.toNat default)).cells) (g_idxI (k := 1) (nl := false) (e := 3) (kk := .i64) (A := (AV.i .i64)) (xs := s'.status) (n := at') kr kr kr ⟨by kernel_rfl, by decide⟩ sd (getD_some sd)) <| Aq (AV.i .i64 (s'.status.getD at'.toNat default)) <| Aq (AV.b (!decide ((s'.status.getD at'.toNat default) = (0 : Int)))) <| Aq (AV.b (!decide ((s'.status.getD at'.toNat default) = (0 : Int)))) ?_
 cases c_1 : (!decide ((s'.status.getD at'.toNat default) = (0 : Int)))
 have k_1 := nde c_1
 refine An <| An <| An <| An <| An <| An <| An <| An <| Aq (AV.b false) <| Aq (AV.b false) <| Ad <| Rt ?_
 have hM : m_ak at' s' = false := by simp only [m_ak, c_1, sbt]
 refine ⟨Or.inr rfl, ?_⟩
 rw [hM]
 exact Ec
 have k_1 := ndt c_1
 refine Ay <| Aq (AV.pt (DState.av s').cells) <| Ay <| Aq (AV.pt (DState.av s').cells) <| Ay <| Aq (AV.pt ((DState.av s').cells.drop 10)) <| Ay <| Aq ((slA 1 (AV.i .i64)) s'.status) <| Ay <| Aq (AV.i .i64 at') <| Ay <| Ap (AV.pt ((AV.i .i64) (s'.status.getD at'.toNat default)).cells) (g_idxI (k := 1) (nl := false) (e := 3) (kk := .i64) (A := (AV.i .i64)) (xs := s'.status) (n := at') kr kr kr ⟨by kernel_rfl, by decide⟩ sd (getD_some sd)) <| Ay <| Aq (AV.i .i64 (s'.status.getD at'.toNat default)) <| Ay <| Aq (AV.b (!decide ((s'.status.getD at'.toNat default) = (3 : Int)))) <| Aq (AV.b (!decide ((s'.status.getD at'.toNat default) = (3 : Int)))) <| Aq (AV.b (!decide ((s'.status.getD at'.toNat default) = (3 : Int)))) <| Ad <| Rt ?_
 have hM : m_ak at' s' = (!decide ((s'.status.getD at'.toNat default) = (3 : Int))) := by simp only [m_ak, c_1, sbt]
 refine ⟨Or.inr rfl, ?_⟩
 rw [hM]
 exact Ec
theorem w_ready_Ready (W : World) {m0 : Int} (hW : W.cell? ⟨0, 0, none⟩ = some (.int .i64 m0)) (s' : DState) (edge : Int) (hz : s'.sz ≤ 1048576) (ht : ThereP s' edge) : PureAt Go.Proofs.Tryz.prog W 82 [(AV.pt (DState.av s').cells), (AV.i .i64 edge)] (AV.b (m_au s' edge)) [] := by
 have hzg := s'.sz_graph
 obtain ⟨ht1, ht2, ht3, ht4, ht5⟩ := ht
 refine pure_of_bodyC (fn := Go.Proofs.Tryz.f82) Go.Proofs.Tryz.func82 rfl (en82 W) (ts := [4]) rfl le <| Sq <| Rg <| Nn (AV.loc 0 0 0) ⟨112, 1, [(AV.pt (DState.av s').cells)]⟩ <| Aq (AV.b false) <| Ad <| Sq <| Sq <| Rg <| Aq (AV.pt (DState.av s').cells) <| Aq (AV.pt (DState.av s').cells) <| Aq (AV.pt ((DState.av s').cells.drop 9)) <| Aq (AV.b s'.going) <| Aq (AV.b (!s'.going)) <| Aq (AV.b (!s'.going)) ?_
 cases c_1 : (!s'.going)
 have q_1 := ht3 (by simpa using c_1)
 refine Ay <| Aq (AV.pt (DState.av s').cells) <| Ay <| Aq (AV.pt (DState.av s').cells) <| Ay <| Aq (AV.pt ((DState.av s').cells.drop 10)) <| Ay <| Aq ((slA 1 (AV.i .i64)) s'.status) <| Ay <| Aq (AV.i .i64 edge) <| Ay <| Ap (AV.pt ((AV.i .i64) (s'.status.getD edge.toNat default)).cells) (g_idxI (k := 1) (nl := false) (e := 3) (kk := .i64) (A := (AV.i .i64)) (xs := s'.status) (n := edge) kr kr kr ⟨by kernel_rfl, by decide⟩ sd (getD_some sd)) <| Ay <| Aq (AV.i .i64 (s'.status.getD edge.toNat default)) <| Ay <| Aq (AV.b (!decide ((s'.status.getD edge.toNat default) = (1 : Int)))) <| Aq (AV.b (!decide ((s'.status.getD edge.toNat default) = (1 : Int)))) <| Ad ?_
 cases c_2 : (!decide ((s'.status.getD edge.toNat default) = (1 : Int)))
 have k_2 := nde c_2
 refine Cf <| Awp.skip <| Sq <| Rg <| Aq (AV.pt (DState.av s').cells) <| Aq (AV.pt (DState.av s').cells) <| Aq (AV.pt ((DState.av s').cells.drop 0)) <| Aq (AV.i .i64 edge) <| AOps.sc0 (vs := [(AV.pt ((DState.av s').cells.drop 0)), (AV.i .i64 edge)]) (r0 := ((slA 1 (AV.i .i64)) (m_1 s'.graph edge))) kr kr ((w_order_Needs W s'.graph edge ⟨by omega, by omega⟩ (Nat.le_trans (needsN_sz _ _) (by omega))).wk ⟨WeakC.ptK 3 kr, ⟨WeakC.refl _, trivial⟩⟩) kr le <| Aq (AV.fn 109 [(AV.loc 0 0 0)]) <| AOps.sfw (vs := [((slA 1 (AV.i .i64)) (m_1 s'.graph edge)), (AV.fn 109 [(AV.loc 0 0 0)])]) (ss := [((slA 1 (AV.i .i64)) (m_1 s'.graph edge)), (AV.fn 109 [(AV.pt ((ptA DState.av) s').cells)])]) (r0 := (AV.b (m_e (m_1 s'.graph edge) (fun z0 => m_ak z0 s')))) kr (show SnapW _ _ _ from ⟨(SnapW.e kr), ⟨(EntK.w (EntK.cast (x' := (AV.fn 109 [(AV.loc 0 0 0)])) kr kr (EntK.fn (EntKs.cons (EntK.loc1 (id := 0) (j := 0) (ob := ⟨112, 1, [(AV.pt (DState.av s').cells)]⟩) (x := (AV.pt (DState.av s').cells)) rfl rfl rfl rfl (EntK.cr (x := (AV.pt (DState.av s').cells)) kr)) EntKs.nil)))), trivial⟩⟩) (w_slices_ContainsFunc_int_int_dom W (m_1 s'.graph edge) 109 [(AV.pt ((ptA DState.av) s').cells)] (fun z0 => m_ak z0 s') kr (fun z0 hz0 => (w_ready_Ready_1 W z0 s' (by have hnm := needs_mem hz0; omega)))) rfl kr le <| Aq (AV.b (!(m_e (m_1 s'.graph edge) (fun z0 => m_ak z0 s')))) ?_
 refine Aq (AV.b (!(m_e (m_1 s'.graph edge) (fun z0 => m_ak z0 s')))) <| Ad <| Rt ?_
 have hM : m_au s' edge = (!(m_e (m_1 s'.graph edge) (fun z0 => m_ak z0 s'))) := by simp only [m_au, c_1, c_2, sbt]
 refine ⟨Or.inr rfl, ?_⟩
 rw [hM]
 exact Ec
 have k_2 := ndt c_2
 refine Ct <| Sq <| Rg <| Aq (AV.b false) <| Ad <| Rt ?_
 have hM : m_au s' edge = false := by simp only [m_au, c_1, c_2, sbt]
 refine ⟨Or.inr rfl, ?_⟩
 rw [hM]
 exact Ec
 refine An <| An <| An <| An <| An <| An <| An <| An <| Aq (AV.b true) <| Ad <| Ct <| Sq <| Rg <| Aq (AV.b false) <| Ad <| Rt ?_
 have hM : m_au s' edge = false := by simp only [m_au, c_1, sbt]
 refine ⟨Or.inr rfl, ?_⟩
 rw [hM]
 exact Ec
theorem w_ready_Is (W : World) {m0 : Int} (hW : W.cell? ⟨0, 0, none⟩ = some (.int .i64 m0)) (s' : DState) (edge : Int) (hz : s'.sz ≤ 1048576) : PureAt Go.Proofs.Tryz.prog W 37 [(DState.av s'), (AV.i .i64 edge)] (AV.tup [(AV.b ((m_b s' edge).1)), (AV.i .i64 ((m_b s' edge).2))]) [] := by
 refine pure_of_bodyC (fn := Go.Proofs.Tryz.f37) Go.Proofs.Tryz.func37 rfl (en37 W) (ts := [4, 5]) rfl le <| Sq <| Rg <| Nn (AV.loc 0 0 0) ⟨64, 11, [(DState.av s')]⟩ <| Aq (AV.b false) <| Aq (AV.i .i64 (0 : Int)) <| Ad <| Sq <| Sq <| Rg <| Aq (AV.i .i64 edge) <| AOps.sfw (vs := [(AV.loc 0 0 0), (AV.i .i64 edge)]) (ss := [(AV.pt (DState.av s').cells), (AV.i .i64 edge)]) (r0 := (AV.b (m_an s' edge))) kr (show SnapW _ _ _ from ⟨(EntK.w (EntK.cast (x' := (AV.loc 0 0 0)) kr kr (EntK.loc (id := 0) (j := 0) (o := 0) (ob := ⟨64, 11, [(DState.av s')]⟩) (x := (DState.av s')) rfl rfl rfl (EntKs.cons (EntK.cr (x := ((slA 7 DEdge.av) s'.graph.edges)) kr) (EntKs.cons (EntK.cr (x := ((slA 2 DPool.av) s'.graph.pools)) kr) (EntKs.cons (EntK.cr (x := ((slA 1 AV.s) s'.graph.defaults)) kr) (EntKs.cons (EntK.cr (x := ((slA 3 DAction.av) s'.actions)) kr) (EntKs.cons (EntK.cr (x := (AV.i .i64 s'.disk.clock)) kr) (EntKs.cons (EntK.cr (x := ((slA 3 DFile.av) s'.disk.files)) kr) (EntKs.cons (EntK.cr (x := ((slA 3 DRecord.av) s'.log)) kr) (EntKs.cons (EntK.cr (x := ((slA 3 DFound.av) s'.deps)) kr) (EntKs.cons (EntK.cr (x := (AV.i .i64 s'.jobs)) kr) (EntKs.cons (EntK.cr (x := (AV.b s'.going)) kr) (EntKs.cons (EntK.cr (x := ((slA 1 (AV.i .i64)) s'.status)) kr) EntKs.nil)))))))))))))), ⟨(SnapW.e kr), trivial⟩⟩) (w_ready_There W hW s' edge sd) rfl kr le <| Aq (AV.b (!(m_an s' edge))) <| Ad ?_
 cases c_1 : (!(m_an s' edge))
 have q_1 := there_ok c_1
 refine Cf <| Awp.skip <| Sq <| Rg <| Aq (AV.i .i64 edge) <| AOps.sfw (vs := [(AV.loc 0 0 0), (AV.i .i64 edge)]) (ss := [(AV.pt (DState.av s').cells), (AV.i .i64 edge)]) (r0 := (AV.b (m_au s' edge))) kr (show SnapW _ _ _ from ⟨(EntK.w (EntK.cast (x' := (AV.loc 0 0 0)) kr kr (EntK.loc (id := 0) (j := 0) (o := 0) (ob := ⟨64, 11, [(DState.av s')]⟩) (x := (DState.av s')) rfl rfl rfl (EntKs.cons (EntK.cr (x := ((slA 7 DEdge.av) s'.graph.edges)) kr) (EntKs.cons (EntK.cr (x := ((slA 2 DPool.av) s'.graph.pools)) kr) (EntKs.cons (EntK.cr (x := ((slA 1 AV.s) s'.graph.defaults)) kr) (EntKs.cons (EntK.cr (x := ((slA 3 DAction.av) s'.actions)) kr) (EntKs.cons (EntK.cr (x := (AV.i .i64 s'.disk.clock)) kr) (EntKs.cons (EntK.cr (x := ((slA 3 DFile.av) s'.disk.files)) kr) (EntKs.cons (EntK.cr (x := ((slA 3 DRecord.av) s'.log)) kr) (EntKs.cons (EntK.cr (x := ((slA 3 DFound.av) s'.deps)) kr) (EntKs.cons (EntK.cr (x := (AV.i .i64 s'.jobs)) kr) (EntKs.cons (EntK.cr (x := (AV.b s'.going)) kr) (EntKs.cons (EntK.cr (x := ((slA 1 (AV.i .i64)) s'.status)) kr) EntKs.nil)))))))))))))), ⟨(SnapW.e kr), trivial⟩⟩) (w_ready_Ready W hW s' edge hz (by assumption)) rfl kr le <| Aq (AV.b (m_au s' edge)) <| Aq (AV.i .i64 (0 : Int)) <| Ad <| Rt ?_
 have hM : m_b s' edge = ((m_au s' edge), (0 : Int)) := by simp only [m_b, c_1, sbt]
 refine ⟨Or.inr rfl, ?_⟩
 rw [hM]
 exact Ent.cast (x' := (AV.tup [(AV.b (m_au s' edge)), (AV.i .i64 (0 : Int))])) (y' := (AV.tup [(AV.b (((m_au s' edge), (0 : Int)).1)), (AV.i .i64 (((m_au s' edge), (0 : Int)).2))])) kr kr (Ent.tup ⟨Ec, ⟨Ec, trivial⟩⟩ kr)
 refine Ct <| Sq <| Rg <| Aq (AV.b false) <| Aq (AV.i .i64 (2100 : Int)) <| Ad <| Rt ?_
 have hM : m_b s' edge = (false, (2100 : Int)) := by simp only [m_b, c_1, sbt]
 refine ⟨Or.inr rfl, ?_⟩
 rw [hM]
 exact Ent.cast (x' := (AV.tup [(AV.b false), (AV.i .i64 (2100 : Int))])) (y' := (AV.tup [(AV.b ((false, (2100 : Int)).1)), (AV.i .i64 ((false, (2100 : Int)).2))])) kr kr (Ent.tup ⟨Ec, ⟨Ec, trivial⟩⟩ kr)
theorem w_ref12_upTo (W : World) (x' : Int) (least : Int) (most' : Int) : PureAt Go.Proofs.Tryz.prog W 83 [(AV.i .i64 x'), (AV.i .i64 least), (AV.i .i64 most')] (AV.b (m_r x' least most')) [] := by
 refine pure_of_bodyC (fn := Go.Proofs.Tryz.f83) Go.Proofs.Tryz.func83 rfl (en83 W) (ts := [6]) rfl le <| Sq <| Rg <| Aq (AV.b false) <| Ad <| Sq <| Rg <| Aq (AV.i .i64 x') <| Aq (AV.i .i64 least) <| Aq (AV.b (decide (least ≤ x'))) <| Aq (AV.b (decide (least ≤ x'))) ?_
 cases c_1 : decide (least ≤ x')
 have k_1 := of_decide_eq_false c_1
 refine An <| An <| An <| Aq (AV.b false) <| Aq (AV.b false) <| Ad <| Rt ?_
 have hM : m_r x' least most' = false := by simp only [m_r, c_1, sbt]
 refine ⟨Or.inr rfl, ?_⟩
 rw [hM]
 exact Ec
 have k_1 := of_decide_eq_true c_1
 refine Ay <| Aq (AV.i .i64 x') <| Ay <| Aq (AV.i .i64 most') <| Ay <| Aq (AV.b (decide (x' ≤ most'))) <| Aq (AV.b (decide (x' ≤ most'))) <| Aq (AV.b (decide (x' ≤ most'))) <| Ad <| Rt ?_
 have hM : m_r x' least most' = decide (x' ≤ most') := by simp only [m_r, c_1, sbt]
 refine ⟨Or.inr rfl, ?_⟩
 rw [hM]
 exact Ec
theorem w_ref12_ActionsMay (W : World) (as' : List DAction) : PureAt Go.Proofs.Tryz.prog W 112 [((slA 3 DAction.av) as')] (AV.b (m_ai as')) [] := by
 refine pure_of_bodyC (fn := Go.Proofs.Tryz.f112) Go.Proofs.Tryz.func112 rfl (en112 W) (ts := [2]) rfl le <| Sq <| Rg <| Aq (AV.b false) <| Ad <| Sq <| Sq <| Rg <| Aq (AV.i .i64 (0 : Int)) <| Ad <| Awp.block <| Awp.lim 0 (x := ((slA 3 DAction.av) as')) kr fun hlm1 => ?_
 have hB1 : as'.length ≤ 281474976710656 := lim_slA hlm1
 obtain ⟨R1, hR1⟩ : ∃ R, m_a8 as' 0 = R := ⟨_, rfl⟩
 refine Awp.loopT (fun (i : Nat) => [(0, ((slA 3 DAction.av) as')), (3, (Ai i))]) (fun (i : Nat) => ⟨0, []⟩) (fun (i : Nat) => i ≤ as'.length ∧ m_a8 (as'.drop i) i = R1) (fun (i : Nat) => as'.length - i) 0 ?_ ?_ ?_
 exact ⟨[], ⟨by decide, rfl, FitsObjs.nil, (Ee (Ee EntE.nil))⟩, keep0⟩
 exact ⟨od, hR1⟩
 rintro i ⟨hi1, hE1⟩
 try dsimp only
 refine Sq <| Sq <| Rg <| Aq (Ai i) <| Aq ((slA 3 DAction.av) as') <| Ap (Ai as'.length) (g_len (k := 3) (nl := false) (e := 121) (A := DAction.av) (xs := as') kr kr) <| Aq (AV.b (decide (((i : Nat) : Int) < ((as'.length : Nat) : Int)))) <| Ad ?_
 rcases Nat.lt_or_ge i as'.length with hl1 | hl1
 have hc1 : decide (((i : Nat) : Int) < ((as'.length : Nat) : Int)) = true := decide_eq_true (by omega)
 refine Awp.cond (t := true) (by rw [← hc1] <;> kernel_rfl) (Awp.skip ?_)
 obtain ⟨x1, hx1⟩ : ∃ x, as'[i]? = some x := ⟨_, List.getElem?_eq_getElem hl1⟩
 rw [drop_at hx1, m_a8.eq_2] at hE1
 refine Sq <| Awp.block <| Sq <| Rg <| Aq ((slA 3 DAction.av) as') <| Aq (Ai i) <| Ap (AV.pt (DAction.av x1).cells) (g_idx (k := 3) (nl := false) (e := 121) (kk := .i64) (A := DAction.av) (xs := as') (i := i) kr kr kr ⟨by kernel_rfl, by decide⟩ hx1) <| Aq (AV.pt ((DAction.av x1).cells.drop 0)) <| Aq (AV.s x1.command) <| AOps.sc0 (vs := [(AV.s x1.command), (AV.i .i64 (1 : Int)), (AV.i .i64 (256 : Int))]) (r0 := (AV.b (m_ae x1.command (1 : Int) (256 : Int)))) kr kr (w_ref1_Plain W x1.command (1 : Int) (256 : Int)) kr le <| Aq (AV.b (!(m_ae x1.command (1 : Int) (256 : Int)))) <| Aq (AV.b (!(m_ae x1.command (1 : Int) (256 : Int)))) ?_
 cases c_1 : (!(m_ae x1.command (1 : Int) (256 : Int)))
 refine Ay <| Aq ((slA 3 DAction.av) as') <| Ay <| Aq (Ai i) <| Ay <| Ap (AV.pt (DAction.av x1).cells) (g_idx (k := 3) (nl := false) (e := 121) (kk := .i64) (A := DAction.av) (xs := as') (i := i) kr kr kr ⟨by kernel_rfl, by decide⟩ hx1) <| Ay <| Aq (AV.pt ((DAction.av x1).cells.drop 1)) <| Ay <| Aq ((slA 1 AV.s) x1.reads) <| Ay <| AOps.sc0 (vs := [((slA 1 AV.s) x1.reads)]) (r0 := (AV.b (m_f x1.reads))) kr kr (w_ref1_PathsMay W x1.reads) kr le <| Ay <| Aq (AV.b (!(m_f x1.reads))) <| Aq (AV.b (!(m_f x1.reads))) <| Ad ?_
 cases c_2 : (!(m_f x1.reads))
 refine Cf <| Awp.skip <| Rg <| Aq (Ai i) <| Ap (Ai (i + 1)) (g_addN (i := i) (m := 1) kr kr sd) <| Aq (Ai (i + 1)) <| Ad ?_
 try simp only [c_1, c_2, sbt] at hE1
 refine ⟨i + 1, od, ⟨od, hE1⟩, ?_⟩
 exact ⟨[], ⟨by decide, rfl, FitsObjs.nil, (Ee (Ee EntE.nil))⟩, keep0⟩
 refine Ct <| Sq <| Rg <| Aq (AV.b false) <| Ad <| Rt ?_
 try simp only [c_1, c_2, sbt] at hE1
 subst hE1
 have hM : m_ai as' = false := by simp only [m_ai, hR1, sbt]
 refine ⟨Or.inr rfl, ?_⟩
 rw [hM]
 exact Ec
 refine An <| An <| An <| An <| An <| An <| An <| Aq (AV.b true) <| Ad <| Ct <| Sq <| Rg <| Aq (AV.b false) <| Ad <| Rt ?_
 try simp only [c_1, sbt] at hE1
 subst hE1
 have hM : m_ai as' = false := by simp only [m_ai, hR1, sbt]
 refine ⟨Or.inr rfl, ?_⟩
 rw [hM]
 exact Ec
 have hc1 : decide (((i : Nat) : Int) < ((as'.length : Nat) : Int)) = false := decide_eq_false (by omega)
 refine Awp.cond (t := false) (by rw [← hc1] <;> kernel_rfl) (Awp.exit ?_)
 rw [List.drop_eq_nil_of_le (hl1), m_a8.eq_1] at hE1
 subst hE1
 refine Sq <| Rg <| Aq ((slA 3 DAction.av) as') <| Ap (Ai as'.length) (g_len (k := 3) (nl := false) (e := 121) (A := DAction.av) (xs := as') kr kr) <| Aq (AV.b (decide (((as'.length : Nat) : Int) ≤ (16 : Int)))) <| Aq (AV.b (decide (((as'.length : Nat) : Int) ≤ (16 : Int)))) <| Ad <| Rt ?_
 have hM : m_ai as' = decide (((as'.length : Nat) : Int) ≤ (16 : Int)) := by simp only [m_ai, hR1, sbt]
 refine ⟨Or.inr rfl, ?_⟩
 rw [hM]
 exact Ec
theorem w_ref12_DiskMay (W : World) (d : DDisk) : PureAt Go.Proofs.Tryz.prog W 113 [(DDisk.av d)] (AV.b (m_4 d)) [] := by
 refine pure_of_bodyC (fn := Go.Proofs.Tryz.f113) Go.Proofs.Tryz.func113 rfl (en113 W) (ts := [2]) rfl le <| Sq <| Rg <| Nn (AV.loc 0 0 0) ⟨60, 2, [(DDisk.av d)]⟩ <| Aq (AV.b false) <| Ad <| Sq <| Sq <| Rg <| Aq (AV.i .i64 (0 : Int)) <| Ad <| Awp.block <| Awp.lim 0 (x := (DDisk.av d)) kr fun hlm1 => ?_
 have hB1 : d.files.length ≤ 281474976710656 := lim_slA (DDisk.lim_files hlm1)
 obtain ⟨R1, hR1⟩ : ∃ R, m_a5 d d.files 0 = R := ⟨_, rfl⟩
 refine Awp.loopT (fun (i : Nat) => [(1, (AV.loc 0 0 0)), (3, (Ai i))]) (fun (i : Nat) => ⟨1, [(0, some ⟨60, 2, [(DDisk.av d)]⟩)]⟩) (fun (i : Nat) => i ≤ d.files.length ∧ m_a5 d (d.files.drop i) i = R1) (fun (i : Nat) => d.files.length - i) 0 ?_ ?_ ?_
 exact ⟨[0], ⟨by decide, rfl, (FitsObjs.cons kr FitsObjs.nil), (EntE.cons (Ent.f kr) (Ee EntE.nil))⟩, keep0⟩
 exact ⟨od, hR1⟩
 rintro i ⟨hi1, hE1⟩
 try dsimp only
 refine Sq <| Sq <| Rg <| Aq (Ai i) <| Aq (AV.loc 0 0 1) <| Aq ((slA 3 DFile.av) d.files) <| Ap (Ai d.files.length) (g_len (k := 3) (nl := false) (e := 119) (A := DFile.av) (xs := d.files) kr kr) <| Aq (AV.b (decide (((i : Nat) : Int) < ((d.files.length : Nat) : Int)))) <| Ad ?_
 rcases Nat.lt_or_ge i d.files.length with hl1 | hl1
 have hc1 : decide (((i : Nat) : Int) < ((d.files.length : Nat) : Int)) = true := decide_eq_true (by omega)
 refine Awp.cond (t := true) (by rw [← hc1] <;> kernel_rfl) (Awp.skip ?_)
 obtain ⟨x1, hx1⟩ : ∃ x, d.files[i]? = some x := ⟨_, List.getElem?_eq_getElem hl1⟩
 rw [drop_at hx1, m_a5.eq_2] at hE1
 refine Sq <| Awp.block <| Sq <| Rg <| Aq (AV.loc 0 0 1) <| Aq ((slA 3 DFile.av) d.files) <| Aq (Ai i) <| Ap (AV.pt (DFile.av x1).cells) (g_idx (k := 3) (nl := false) (e := 119) (kk := .i64) (A := DFile.av) (xs := d.files) (i := i) kr kr kr ⟨by kernel_rfl, by decide⟩ hx1) <| Aq (DFile.av x1) <| Nn (AV.loc 1 0 0) ⟨119, 3, [(AV.st [(AV.s (⟨#[]⟩ : ByteArray)), (AV.i .i64 (0 : Int)), (AV.i .i64 (0 : Int))])]⟩ <| Sp 1 ⟨119, 3, [(AV.st [(AV.s x1.name), (AV.i .i64 x1.content), (AV.i .i64 x1.time)])]⟩ <| Ad <| Sq <| Sq <| Awp.drawn tabS_ok mixed 31 kr le <| Dq (AV.loc 1 0 0) <| Dq (AV.s x1.name) <| AOpsD.sc0 (vs := [(AV.s x1.name)]) (r0 := (AV.b (m_aa x1.name))) kr kr (w_ref1_PathMay W x1.name) kr le <| Dq (AV.b (!(m_aa x1.name))) <| Dq (AV.b (!(m_aa x1.name))) ?_
 cases c_1 : (!(m_aa x1.name))
 refine Dy <| Dq (AV.loc 1 0 1) <| Dy <| Dq (AV.i .i64 x1.content) <| Dy <| AOpsD.sc0 (vs := [(AV.i .i64 x1.content), (AV.i .i64 (0 : Int)), (AV.i .i64 (2147483647 : Int))]) (r0 := (AV.b (m_r x1.content (0 : Int) (2147483647 : Int)))) kr kr (w_ref12_upTo W x1.content (0 : Int) (2147483647 : Int)) kr le <| Dy <| Dq (AV.b (!(m_r x1.content (0 : Int) (2147483647 : Int)))) <| Dq (AV.b (!(m_r x1.content (0 : Int) (2147483647 : Int)))) <| Dq (AV.b (!(m_r x1.content (0 : Int) (2147483647 : Int)))) ?_
 cases c_2 : (!(m_r x1.content (0 : Int) (2147483647 : Int)))
 refine Dy <| Dq (AV.loc 1 0 2) <| Dy <| Dq (AV.i .i64 x1.time) <| Dy <| Dq (AV.loc 0 0 0) <| Dy <| Dq (AV.i .i64 d.clock) <| Dy <| AOpsD.sc0 (vs := [(AV.i .i64 x1.time), (AV.i .i64 (1 : Int)), (AV.i .i64 d.clock)]) (r0 := (AV.b (m_r x1.time (1 : Int) d.clock))) kr kr (w_ref12_upTo W x1.time (1 : Int) d.clock) kr le <| Dy <| Dq (AV.b (!(m_r x1.time (1 : Int) d.clock))) <| Dq (AV.b (!(m_r x1.time (1 : Int) d.clock))) <| Dq (AV.b (!(m_r x1.time (1 : Int) d.clock))) ?_
 cases c_3 : (!(m_r x1.time (1 : Int) d.clock))
 refine Dy <| Dq (Ai i) <| Dy <| Dq (AV.b (decide ((0 : Int) < ((i : Nat) : Int)))) <| Dy <| Dq (AV.b (decide ((0 : Int) < ((i : Nat) : Int)))) ?_
 cases c_4 : decide ((0 : Int) < ((i : Nat) : Int))
 have k_4 := of_decide_eq_false c_4
 refine Dn <| Dn <| Dn <| Dn <| Dn <| Dn <| Dn <| Dn <| Dn <| Dn <| Dy <| Dq (AV.b false) <| Dq (AV.b false) <| AOpsD.fin <| Cf <| Awp.skip <| Sq <| Rg <| Aq (AV.i .i64 (0 : Int)) <| Ad <| Awp.block ?_
 obtain ⟨R2, hR2⟩ : ∃ R, m_ar i d x1 (i - 0 + 1) 0 = R := ⟨_, rfl⟩
 refine Awp.loopT (fun ((kf2, k) : Nat × Nat) => [(1, (AV.loc 0 0 0)), (3, (Ai i)), (4, (AV.loc 1 0 0)), (5, (Ai k))]) (fun ((kf2, k) : Nat × Nat) => ⟨2, [(0, some ⟨60, 2, [(DDisk.av d)]⟩), (1, some ⟨119, 3, [(AV.st [(AV.s x1.name), (AV.i .i64 x1.content), (AV.i .i64 x1.time)])]⟩)]⟩) (fun ((kf2, k) : Nat × Nat) => i - k < kf2 ∧ m_ar i d x1 kf2 k = R2) (fun ((kf2, k) : Nat × Nat) => kf2) (i - 0 + 1, 0) ?_ ?_ ?_
 exact ⟨[0, 1], ⟨by decide, rfl, (FitsObjs.cons kr (FitsObjs.cons kr FitsObjs.nil)), (EntE.cons (Ent.f kr) (Ee (EntE.cons (Ent.f kr) (Ee EntE.nil))))⟩, keep0⟩
 exact ⟨od, hR2⟩
 rintro ⟨kf2, k⟩ ⟨hi2, hE2⟩
 try dsimp only
 rcases kf2 with _ | kf2
 exact absurd hi2 (Nat.not_lt_zero _)
 rw [m_ar.eq_2] at hE2
 refine Sq <| Sq <| Rg <| Aq (Ai k) <| Aq (Ai i) <| Aq (AV.b (decide (((k : Nat) : Int) < ((i : Nat) : Int)))) <| Ad ?_
 cases c_5 : decide (((k : Nat) : Int) < ((i : Nat) : Int))
 have k_5 := of_decide_eq_false c_5
 refine Cf <| Awp.exit ?_
 try simp only [c_5, sbt] at hE2
 subst hE2
 refine Rg <| Aq (Ai i) <| Ap (Ai (i + 1)) (g_addN (i := i) (m := 1) kr kr sd) <| Aq (Ai (i + 1)) <| Ad ?_
 try simp only [c_1, c_2, c_3, c_4, hR2, sbt] at hE1
 refine ⟨i + 1, od, ⟨od, hE1⟩, ?_⟩
 exact ⟨[0], ⟨by decide, rfl, (FitsObjs.cons kr FitsObjs.nil), (EntE.cons (Ent.f kr) (Ee EntE.nil))⟩, keep0⟩
 have k_5 := of_decide_eq_true c_5
 refine Ct <| Awp.skip <| Sq <| Awp.block <| Sq <| Awp.drawn tabS_ok mixed 8 kr le <| Dq (AV.loc 0 0 1) <| Dq ((slA 3 DFile.av) d.files) <| Dq (Ai k) <| Dp (AV.pt (DFile.av (d.files.getD k default)).cells) (g_idx (k := 3) (nl := false) (e := 119) (kk := .i64) (A := DFile.av) (xs := d.files) (i := k) kr kr kr ⟨by kernel_rfl, by decide⟩ (getD_some sd)) <| Dq (AV.pt ((DFile.av (d.files.getD k default)).cells.drop 2)) <| Dq (AV.i .i64 ((d.files.getD k default).time)) <| Dq (AV.loc 1 0 2) <| Dq (AV.i .i64 x1.time) <| Dq (AV.b (decide ((d.files.getD k default).time = x1.time))) <| AOpsD.fin ?_
 cases c_6 : decide ((d.files.getD k default).time = x1.time)
 have k_6 := of_decide_eq_false c_6
 refine Cf <| Awp.skip <| Rg <| Aq (Ai k) <| Ap (Ai (k + 1)) (g_addN (i := k) (m := 1) kr kr sd) <| Aq (Ai (k + 1)) <| Ad ?_
 try simp only [c_5, c_6, sbt] at hE2
 refine ⟨(kf2, k + 1), od, ⟨sdd, hE2⟩, ?_⟩
 exact ⟨[0, 1], ⟨by decide, rfl, (FitsObjs.cons kr (FitsObjs.cons kr FitsObjs.nil)), (EntE.cons (Ent.f kr) (Ee (EntE.cons (Ent.f kr) (Ee EntE.nil))))⟩, keep0⟩
 have k_6 := of_decide_eq_true c_6
 refine Ct <| Sq <| Rg <| Aq (AV.b false) <| Ad <| Rt ?_
 try simp only [c_5, c_6, sbt] at hE2
 subst hE2
 try simp only [c_1, c_2, c_3, c_4, hR2, sbt] at hE1
 subst hE1
 have hM : m_4 d = false := by simp only [m_4, hR1, sbt]
 refine ⟨Or.inr rfl, ?_⟩
 rw [hM]
 exact Ec
 have k_4 := of_decide_eq_true c_4
 refine Dy <| Dq (AV.loc 0 0 1) <| Dy <| Dq ((slA 3 DFile.av) d.files) <| Dy <| Dq (Ai i) <| Dy <| Dp (AV.i .i64 ((i - 1 : Nat) : Int)) (g_subN (i := i) (m := 1) kr kr sd sd) <| Dy <| Dp (AV.pt (DFile.av (d.files.getD (i - 1) default)).cells) (g_idx (k := 3) (nl := false) (e := 119) (kk := .i64) (A := DFile.av) (xs := d.files) (i := i - 1) kr kr kr ⟨by kernel_rfl, by decide⟩ (getD_some sd)) <| Dy <| Dq (AV.pt ((DFile.av (d.files.getD (i - 1) default)).cells.drop 0)) <| Dy <| Dq (AV.s ((d.files.getD (i - 1) default).name)) <| Dy <| Dq (AV.loc 1 0 0) <| Dy <| Dq (AV.s x1.name) <| Dy <| Dq (AV.b (!Op.bytesLess ((d.files.getD (i - 1) default).name).toList x1.name.toList)) <| Dy <| Dq (AV.b (!Op.bytesLess ((d.files.getD (i - 1) default).name).toList x1.name.toList)) <| Dq (AV.b (!Op.bytesLess ((d.files.getD (i - 1) default).name).toList x1.name.toList)) <| AOpsD.fin ?_
 cases c_7 : (!Op.bytesLess ((d.files.getD (i - 1) default).name).toList x1.name.toList)
 refine Cf <| Awp.skip <| Sq <| Rg <| Aq (AV.i .i64 (0 : Int)) <| Ad <| Awp.block ?_
 obtain ⟨R2, hR2⟩ : ∃ R, m_ar i d x1 (i - 0 + 1) 0 = R := ⟨_, rfl⟩
 refine Awp.loopT (fun ((kf2, k2) : Nat × Nat) => [(1, (AV.loc 0 0 0)), (3, (Ai i)), (4, (AV.loc 1 0 0)), (5, (Ai k2))]) (fun ((kf2, k2) : Nat × Nat) => ⟨2, [(0, some ⟨60, 2, [(DDisk.av d)]⟩), (1, some ⟨119, 3, [(AV.st [(AV.s x1.name), (AV.i .i64 x1.content), (AV.i .i64 x1.time)])]⟩)]⟩) (fun ((kf2, k2) : Nat × Nat) => i - k2 < kf2 ∧ m_ar i d x1 kf2 k2 = R2) (fun ((kf2, k2) : Nat × Nat) => kf2) (i - 0 + 1, 0) ?_ ?_ ?_
 exact ⟨[0, 1], ⟨by decide, rfl, (FitsObjs.cons kr (FitsObjs.cons kr FitsObjs.nil)), (EntE.cons (Ent.f kr) (Ee (EntE.cons (Ent.f kr) (Ee EntE.nil))))⟩, keep0⟩
 exact ⟨od, hR2⟩
 rintro ⟨kf2, k2⟩ ⟨hi2, hE2⟩
 try dsimp only
 rcases kf2 with _ | kf2
 exact absurd hi2 (Nat.not_lt_zero _)
 rw [m_ar.eq_2] at hE2
 refine Sq <| Sq <| Rg <| Aq (Ai k2) <| Aq (Ai i) <| Aq (AV.b (decide (((k2 : Nat) : Int) < ((i : Nat) : Int)))) <| Ad ?_
 cases c_8 : decide (((k2 : Nat) : Int) < ((i : Nat) : Int))
 have k_8 := of_decide_eq_false c_8
 refine Cf <| Awp.exit ?_
 try simp only [c_8, sbt] at hE2
 subst hE2
 refine Rg <| Aq (Ai i) <| Ap (Ai (i + 1)) (g_addN (i := i) (m := 1) kr kr sd) <| Aq (Ai (i + 1)) <| Ad ?_
 try simp only [c_1, c_2, c_3, c_4, c_7, hR2, sbt] at hE1
 refine ⟨i + 1, od, ⟨od, hE1⟩, ?_⟩
 exact ⟨[0], ⟨by decide, rfl, (FitsObjs.cons kr FitsObjs.nil), (EntE.cons (Ent.f kr) (Ee EntE.nil))⟩, keep0⟩
 have k_8 := of_decide_eq_true c_8
 refine Ct <| Awp.skip <| Sq <| Awp.block <| Sq <| Awp.drawn tabS_ok mixed 8 kr le <| Dq (AV.loc 0 0 1) <| Dq ((slA 3 DFile.av) d.files) <| Dq (Ai k2) <| Dp (AV.pt (DFile.av (d.files.getD k2 default)).cells) (g_idx (k := 3) (nl := false) (e := 119) (kk := .i64) (A := DFile.av) (xs := d.files) (i := k2) kr kr kr ⟨by kernel_rfl, by decide⟩ (getD_some sd)) <| Dq (AV.pt ((DFile.av (d.files.getD k2 default)).cells.drop 2)) <| Dq (AV.i .i64 ((d.files.getD k2 default).time)) <| Dq (AV.loc 1 0 2) <| Dq (AV.i .i64 x1.time) <| Dq (AV.b (decide ((d.files.getD k2 default).time = x1.time))) <| AOpsD.fin ?_
 cases c_9 : decide ((d.files.getD k2 default).time = x1.time)
 have k_9 := of_decide_eq_false c_9
 refine Cf <| Awp.skip <| Rg <| Aq (Ai k2) <| Ap (Ai (k2 + 1)) (g_addN (i := k2) (m := 1) kr kr sd) <| Aq (Ai (k2 + 1)) <| Ad ?_
 try simp only [c_8, c_9, sbt] at hE2
 refine ⟨(kf2, k2 + 1), od, ⟨sdd, hE2⟩, ?_⟩
 exact ⟨[0, 1], ⟨by decide, rfl, (FitsObjs.cons kr (FitsObjs.cons kr FitsObjs.nil)), (EntE.cons (Ent.f kr) (Ee (EntE.cons (Ent.f kr) (Ee EntE.nil))))⟩, keep0⟩
 have k_9 := of_decide_eq_true c_9
 refine Ct <| Sq <| Rg <| Aq (AV.b false) <| Ad <| Rt ?_
 try simp only [c_8, c_9, sbt] at hE2
 subst hE2
 try simp only [c_1, c_2, c_3, c_4, c_7, hR2, sbt] at hE1
 subst hE1
 have hM : m_4 d = false := by simp only [m_4, hR1, sbt]
 refine ⟨Or.inr rfl, ?_⟩
 rw [hM]
 exact Ec
 refine Ct <| Sq <| Rg <| Aq (AV.b false) <| Ad <| Rt ?_
 try simp only [c_1, c_2, c_3, c_4, c_7, sbt] at hE1
 subst hE1
 have hM : m_4 d = false := by simp only [m_4, hR1, sbt]
 refine ⟨Or.inr rfl, ?_⟩
 rw [hM]
 exact Ec
 refine Dn <| Dn <| Dn <| Dn <| Dn <| Dn <| Dn <| Dn <| Dn <| Dn <| Dn <| Dn <| Dn <| Dn <| Dq (AV.b true) <| AOpsD.fin <| Ct <| Sq <| Rg <| Aq (AV.b false) <| Ad <| Rt ?_
 try simp only [c_1, c_2, c_3, sbt] at hE1
 subst hE1
 have hM : m_4 d = false := by simp only [m_4, hR1, sbt]
 refine ⟨Or.inr rfl, ?_⟩
 rw [hM]
 exact Ec
 refine Dn <| Dn <| Dn <| Dn <| Dn <| Dn <| Dq (AV.b true) <| Dq (AV.b true) <| Dn <| Dn <| Dn <| Dn <| Dn <| Dn <| Dn <| Dn <| Dn <| Dn <| Dn <| Dn <| Dn <| Dn <| Dq (AV.b true) <| AOpsD.fin <| Ct <| Sq <| Rg <| Aq (AV.b false) <| Ad <| Rt ?_
 try simp only [c_1, c_2, sbt] at hE1
 subst hE1
 have hM : m_4 d = false := by simp only [m_4, hR1, sbt]
 refine ⟨Or.inr rfl, ?_⟩
 rw [hM]
 exact Ec
 refine Dn <| Dn <| Dn <| Dn <| Dq (AV.b true) <| Dq (AV.b true) <| Dn <| Dn <| Dn <| Dn <| Dn <| Dn <| Dq (AV.b true) <| Dq (AV.b true) <| Dn <| Dn <| Dn <| Dn <| Dn <| Dn <| Dn <| Dn <| Dn <| Dn <| Dn <| Dn <| Dn <| Dn <| Dq (AV.b true) <| AOpsD.fin <| Ct <| Sq <| Rg <| Aq (AV.b false) <| Ad <| Rt ?_
 try simp only [c_1, sbt] at hE1
 subst hE1
 have hM : m_4 d = false := by simp only [m_4, hR1, sbt]
 refine ⟨Or.inr rfl, ?_⟩
 rw [hM]
 exact Ec
 have hc1 : decide (((i : Nat) : Int) < ((d.files.length : Nat) : Int)) = false := decide_eq_false (by omega)
 refine Awp.cond (t := false) (by rw [← hc1] <;> kernel_rfl) (Awp.exit ?_)
 rw [List.drop_eq_nil_of_le (hl1), m_a5.eq_1] at hE1
 subst hE1
 refine Sq <| Rg <| Aq (AV.loc 0 0 0) <| Aq (AV.i .i64 d.clock) <| AOps.sc0 (vs := [(AV.i .i64 d.clock), (AV.i .i64 (0 : Int)), (AV.i .i64 (1048576 : Int))]) (r0 := (AV.b (m_r d.clock (0 : Int) (1048576 : Int)))) kr kr (w_ref12_upTo W d.clock (0 : Int) (1048576 : Int)) kr le <| Aq (AV.b (m_r d.clock (0 : Int) (1048576 : Int))) ?_
 cases c_10 : (m_r d.clock (0 : Int) (1048576 : Int))
 refine An <| An <| An <| An <| Aq (AV.b false) <| Aq (AV.b false) <| Ad <| Rt ?_
 have hM : m_4 d = false := by simp only [m_4, hR1, c_10, sbt]
 refine ⟨Or.inr rfl, ?_⟩
 rw [hM]
 exact Ec
 refine Ay <| Aq (AV.loc 0 0 1) <| Ay <| Aq ((slA 3 DFile.av) d.files) <| Ay <| Ap (Ai d.files.length) (g_len (k := 3) (nl := false) (e := 119) (A := DFile.av) (xs := d.files) kr kr) <| Ay <| Aq (AV.b (decide (((d.files.length : Nat) : Int) ≤ (64 : Int)))) <| Aq (AV.b (decide (((d.files.length : Nat) : Int) ≤ (64 : Int)))) <| Aq (AV.b (decide (((d.files.length : Nat) : Int) ≤ (64 : Int)))) <| Ad <| Rt ?_
 have hM : m_4 d = decide (((d.files.length : Nat) : Int) ≤ (64 : Int)) := by simp only [m_4, hR1, c_10, sbt]
 refine ⟨Or.inr rfl, ?_⟩
 rw [hM]
 exact Ec
theorem w_ref12_RecordMay (W : World) (r : DRecord) : PureAt Go.Proofs.Tryz.prog W 137 [(DRecord.av r)] (AV.b (m_as r)) [] := by
 refine pure_of_bodyC (fn := Go.Proofs.Tryz.f137) Go.Proofs.Tryz.func137 rfl (en137 W) (ts := [2]) rfl le <| Sq <| Rg <| Nn (AV.loc 0 0 0) ⟨138, 3, [(DRecord.av r)]⟩ <| Aq (AV.b false) <| Ad <| Sq <| Rg <| Aq (AV.loc 0 0 0) <| Aq (AV.s r.out) <| AOps.sc0 (vs := [(AV.s r.out)]) (r0 := (AV.b (m_aa r.out))) kr kr (w_ref1_PathMay W r.out) kr le <| Aq (AV.b (m_aa r.out)) ?_
 cases c_1 : (m_aa r.out)
 refine An <| An <| An <| Aq (AV.b false) <| Aq (AV.b false) <| An <| An <| An <| Aq (AV.b false) <| Aq (AV.b false) <| Ad <| Rt ?_
 have hM : m_as r = false := by simp only [m_as, c_1, sbt]
 refine ⟨Or.inr rfl, ?_⟩
 rw [hM]
 exact Ec
 refine Ay <| Aq (AV.loc 0 0 1) <| Ay <| Aq (AV.i .i64 r.time) <| Ay <| AOps.sc0 (vs := [(AV.i .i64 r.time), (AV.i .i64 (1 : Int)), (AV.i .i64 (1048576 : Int))]) (r0 := (AV.b (m_r r.time (1 : Int) (1048576 : Int)))) kr kr (w_ref12_upTo W r.time (1 : Int) (1048576 : Int)) kr le <| Aq (AV.b (m_r r.time (1 : Int) (1048576 : Int))) <| Aq (AV.b (m_r r.time (1 : Int) (1048576 : Int))) ?_
 cases c_2 : (m_r r.time (1 : Int) (1048576 : Int))
 refine An <| An <| An <| Aq (AV.b false) <| Aq (AV.b false) <| Ad <| Rt ?_
 have hM : m_as r = false := by simp only [m_as, c_1, c_2, sbt]
 refine ⟨Or.inr rfl, ?_⟩
 rw [hM]
 exact Ec
 refine Ay <| Aq (AV.loc 0 0 2) <| Ay <| Aq (AV.s r.sign) <| Ay <| AOps.sc0 (vs := [(AV.s r.sign), (AV.i .i64 (1 : Int)), (AV.i .i64 (2048 : Int))]) (r0 := (AV.b (m_ae r.sign (1 : Int) (2048 : Int)))) kr kr (w_ref1_Plain W r.sign (1 : Int) (2048 : Int)) kr le <| Aq (AV.b (m_ae r.sign (1 : Int) (2048 : Int))) <| Aq (AV.b (m_ae r.sign (1 : Int) (2048 : Int))) <| Ad <| Rt ?_
 have hM : m_as r = (m_ae r.sign (1 : Int) (2048 : Int)) := by simp only [m_as, c_1, c_2, sbt]
 refine ⟨Or.inr rfl, ?_⟩
 rw [hM]
 exact Ec
theorem w_ref12_LogMay (W : World) (rs : List DRecord) : PureAt Go.Proofs.Tryz.prog W 114 [((slA 3 DRecord.av) rs)] (AV.b (m_bi rs)) [] := by
 refine pure_of_bodyC (fn := Go.Proofs.Tryz.f114) Go.Proofs.Tryz.func114 rfl (en114 W) (ts := [2]) rfl le <| Sq <| Rg <| Aq (AV.b false) <| Ad <| Sq <| Sq <| Rg <| Aq (AV.i .i64 (0 : Int)) <| Ad <| Awp.block <| Awp.lim 0 (x := ((slA 3 DRecord.av) rs)) kr fun hlm1 => ?_
 have hB1 : rs.length ≤ 281474976710656 := lim_slA hlm1
 obtain ⟨R1, hR1⟩ : ∃ R, m_bt rs 0 = R := ⟨_, rfl⟩
 refine Awp.loopT (fun (i : Nat) => [(0, ((slA 3 DRecord.av) rs)), (3, (Ai i))]) (fun (i : Nat) => ⟨0, []⟩) (fun (i : Nat) => i ≤ rs.length ∧ m_bt (rs.drop i) i = R1) (fun (i : Nat) => rs.length - i) 0 ?_ ?_ ?_
 exact ⟨[], ⟨by decide, rfl, FitsObjs.nil, (Ee (Ee EntE.nil))⟩, keep0⟩
 exact ⟨od, hR1⟩
 rintro i ⟨hi1, hE1⟩
 try dsimp only
 refine Sq <| Sq <| Rg <| Aq (Ai i) <| Aq ((slA 3 DRecord.av) rs) <| Ap (Ai rs.length) (g_len (k := 3) (nl := false) (e := 138) (A := DRecord.av) (xs := rs) kr kr) <| Aq (AV.b (decide (((i : Nat) : Int) < ((rs.length : Nat) : Int)))) <| Ad ?_
 rcases Nat.lt_or_ge i rs.length with hl1 | hl1
 have hc1 : decide (((i : Nat) : Int) < ((rs.length : Nat) : Int)) = true := decide_eq_true (by omega)
 refine Awp.cond (t := true) (by rw [← hc1] <;> kernel_rfl) (Awp.skip ?_)
 obtain ⟨x1, hx1⟩ : ∃ x, rs[i]? = some x := ⟨_, List.getElem?_eq_getElem hl1⟩
 rw [drop_at hx1, m_bt.eq_2] at hE1
 refine Sq <| Awp.block <| Sq <| Rg <| Aq ((slA 3 DRecord.av) rs) <| Aq (Ai i) <| Ap (AV.pt (DRecord.av x1).cells) (g_idx (k := 3) (nl := false) (e := 138) (kk := .i64) (A := DRecord.av) (xs := rs) (i := i) kr kr kr ⟨by kernel_rfl, by decide⟩ hx1) <| Aq (DRecord.av x1) <| AOps.sc0 (vs := [(DRecord.av x1)]) (r0 := (AV.b (m_as x1))) kr kr (w_ref12_RecordMay W x1) kr le <| Aq (AV.b (!(m_as x1))) <| Ad ?_
 cases c_1 : (!(m_as x1))
 refine Cf <| Awp.skip <| Rg <| Aq (Ai i) <| Ap (Ai (i + 1)) (g_addN (i := i) (m := 1) kr kr sd) <| Aq (Ai (i + 1)) <| Ad ?_
 try simp only [c_1, sbt] at hE1
 refine ⟨i + 1, od, ⟨od, hE1⟩, ?_⟩
 exact ⟨[], ⟨by decide, rfl, FitsObjs.nil, (Ee (Ee EntE.nil))⟩, keep0⟩
 refine Ct <| Sq <| Rg <| Aq (AV.b false) <| Ad <| Rt ?_
 try simp only [c_1, sbt] at hE1
 subst hE1
 have hM : m_bi rs = false := by simp only [m_bi, hR1, sbt]
 refine ⟨Or.inr rfl, ?_⟩
 rw [hM]
 exact Ec
 have hc1 : decide (((i : Nat) : Int) < ((rs.length : Nat) : Int)) = false := decide_eq_false (by omega)
 refine Awp.cond (t := false) (by rw [← hc1] <;> kernel_rfl) (Awp.exit ?_)
 rw [List.drop_eq_nil_of_le (hl1), m_bt.eq_1] at hE1
 subst hE1
 refine Sq <| Rg <| Aq ((slA 3 DRecord.av) rs) <| Ap (Ai rs.length) (g_len (k := 3) (nl := false) (e := 138) (A := DRecord.av) (xs := rs) kr kr) <| Aq (AV.b (decide (((rs.length : Nat) : Int) ≤ (256 : Int)))) <| Aq (AV.b (decide (((rs.length : Nat) : Int) ≤ (256 : Int)))) <| Ad <| Rt ?_
 have hM : m_bi rs = decide (((rs.length : Nat) : Int) ≤ (256 : Int)) := by simp only [m_bi, hR1, sbt]
 refine ⟨Or.inr rfl, ?_⟩
 rw [hM]
 exact Ec
theorem w_ref12_FoundMay (W : World) (f : DFound) : PureAt Go.Proofs.Tryz.prog W 138 [(DFound.av f)] (AV.b (m_a0 f)) [] := by
 refine pure_of_bodyC (fn := Go.Proofs.Tryz.f138) Go.Proofs.Tryz.func138 rfl (en138 W) (ts := [2]) rfl le <| Sq <| Rg <| Nn (AV.loc 0 0 0) ⟨134, 3, [(DFound.av f)]⟩ <| Aq (AV.b false) <| Ad <| Sq <| Rg <| Aq (AV.loc 0 0 0) <| Aq (AV.s f.out) <| AOps.sc0 (vs := [(AV.s f.out)]) (r0 := (AV.b (m_aa f.out))) kr kr (w_ref1_PathMay W f.out) kr le <| Aq (AV.b (m_aa f.out)) ?_
 cases c_1 : (m_aa f.out)
 refine An <| An <| An <| Aq (AV.b false) <| Aq (AV.b false) <| An <| An <| An <| Aq (AV.b false) <| Aq (AV.b false) <| Ad <| Rt ?_
 have hM : m_a0 f = false := by simp only [m_a0, c_1, sbt]
 refine ⟨Or.inr rfl, ?_⟩
 rw [hM]
 exact Ec
 refine Ay <| Aq (AV.loc 0 0 1) <| Ay <| Aq (AV.i .i64 f.time) <| Ay <| AOps.sc0 (vs := [(AV.i .i64 f.time), (AV.i .i64 (1 : Int)), (AV.i .i64 (1048576 : Int))]) (r0 := (AV.b (m_r f.time (1 : Int) (1048576 : Int)))) kr kr (w_ref12_upTo W f.time (1 : Int) (1048576 : Int)) kr le <| Aq (AV.b (m_r f.time (1 : Int) (1048576 : Int))) <| Aq (AV.b (m_r f.time (1 : Int) (1048576 : Int))) ?_
 cases c_2 : (m_r f.time (1 : Int) (1048576 : Int))
 refine An <| An <| An <| Aq (AV.b false) <| Aq (AV.b false) <| Ad <| Rt ?_
 have hM : m_a0 f = false := by simp only [m_a0, c_1, c_2, sbt]
 refine ⟨Or.inr rfl, ?_⟩
 rw [hM]
 exact Ec
 refine Ay <| Aq (AV.loc 0 0 2) <| Ay <| Aq ((slA 1 AV.s) f.ins) <| Ay <| AOps.sc0 (vs := [((slA 1 AV.s) f.ins)]) (r0 := (AV.b (m_f f.ins))) kr kr (w_ref1_PathsMay W f.ins) kr le <| Aq (AV.b (m_f f.ins)) <| Aq (AV.b (m_f f.ins)) <| Ad <| Rt ?_
 have hM : m_a0 f = (m_f f.ins) := by simp only [m_a0, c_1, c_2, sbt]
 refine ⟨Or.inr rfl, ?_⟩
 rw [hM]
 exact Ec
theorem w_ref12_DepsMay (W : World) (fs : List DFound) : PureAt Go.Proofs.Tryz.prog W 115 [((slA 3 DFound.av) fs)] (AV.b (m_bd fs)) [] := by
 refine pure_of_bodyC (fn := Go.Proofs.Tryz.f115) Go.Proofs.Tryz.func115 rfl (en115 W) (ts := [2]) rfl le <| Sq <| Rg <| Aq (AV.b false) <| Ad <| Sq <| Sq <| Rg <| Aq (AV.i .i64 (0 : Int)) <| Ad <| Awp.block <| Awp.lim 0 (x := ((slA 3 DFound.av) fs)) kr fun hlm1 => ?_
 have hB1 : fs.length ≤ 281474976710656 := lim_slA hlm1
 obtain ⟨R1, hR1⟩ : ∃ R, m_bj fs 0 = R := ⟨_, rfl⟩
 refine Awp.loopT (fun (i : Nat) => [(0, ((slA 3 DFound.av) fs)), (3, (Ai i))]) (fun (i : Nat) => ⟨0, []⟩) (fun (i : Nat) => i ≤ fs.length ∧ m_bj (fs.drop i) i = R1) (fun (i : Nat) => fs.length - i) 0 ?_ ?_ ?_
 exact ⟨[], ⟨by decide, rfl, FitsObjs.nil, (Ee (Ee EntE.nil))⟩, keep0⟩
 exact ⟨od, hR1⟩
 rintro i ⟨hi1, hE1⟩
 try dsimp only
 refine Sq <| Sq <| Rg <| Aq (Ai i) <| Aq ((slA 3 DFound.av) fs) <| Ap (Ai fs.length) (g_len (k := 3) (nl := false) (e := 134) (A := DFound.av) (xs := fs) kr kr) <| Aq (AV.b (decide (((i : Nat) : Int) < ((fs.length : Nat) : Int)))) <| Ad ?_
 rcases Nat.lt_or_ge i fs.length with hl1 | hl1
 have hc1 : decide (((i : Nat) : Int) < ((fs.length : Nat) : Int)) = true := decide_eq_true (by omega)
 refine Awp.cond (t := true) (by rw [← hc1] <;> kernel_rfl) (Awp.skip ?_)
 obtain ⟨x1, hx1⟩ : ∃ x, fs[i]? = some x := ⟨_, List.getElem?_eq_getElem hl1⟩
 rw [drop_at hx1, m_bj.eq_2] at hE1
 refine Sq <| Awp.block <| Sq <| Rg <| Aq ((slA 3 DFound.av) fs) <| Aq (Ai i) <| Ap (AV.pt (DFound.av x1).cells) (g_idx (k := 3) (nl := false) (e := 134) (kk := .i64) (A := DFound.av) (xs := fs) (i := i) kr kr kr ⟨by kernel_rfl, by decide⟩ hx1) <| Aq (DFound.av x1) <| AOps.sc0 (vs := [(DFound.av x1)]) (r0 := (AV.b (m_a0 x1))) kr kr (w_ref12_FoundMay W x1) kr le <| Aq (AV.b (!(m_a0 x1))) <| Ad ?_
 cases c_1 : (!(m_a0 x1))
 refine Cf <| Awp.skip <| Rg <| Aq (Ai i) <| Ap (Ai (i + 1)) (g_addN (i := i) (m := 1) kr kr sd) <| Aq (Ai (i + 1)) <| Ad ?_
 try simp only [c_1, sbt] at hE1
 refine ⟨i + 1, od, ⟨od, hE1⟩, ?_⟩
 exact ⟨[], ⟨by decide, rfl, FitsObjs.nil, (Ee (Ee EntE.nil))⟩, keep0⟩
 refine Ct <| Sq <| Rg <| Aq (AV.b false) <| Ad <| Rt ?_
 try simp only [c_1, sbt] at hE1
 subst hE1
 have hM : m_bd fs = false := by simp only [m_bd, hR1, sbt]
 refine ⟨Or.inr rfl, ?_⟩
 rw [hM]
 exact Ec
 have hc1 : decide (((i : Nat) : Int) < ((fs.length : Nat) : Int)) = false := decide_eq_false (by omega)
 refine Awp.cond (t := false) (by rw [← hc1] <;> kernel_rfl) (Awp.exit ?_)
 rw [List.drop_eq_nil_of_le (hl1), m_bj.eq_1] at hE1
 subst hE1
 refine Sq <| Rg <| Aq ((slA 3 DFound.av) fs) <| Ap (Ai fs.length) (g_len (k := 3) (nl := false) (e := 134) (A := DFound.av) (xs := fs) kr kr) <| Aq (AV.b (decide (((fs.length : Nat) : Int) ≤ (256 : Int)))) <| Aq (AV.b (decide (((fs.length : Nat) : Int) ≤ (256 : Int)))) <| Ad <| Rt ?_
 have hM : m_bd fs = decide (((fs.length : Nat) : Int) ≤ (256 : Int)) := by simp only [m_bd, hR1, sbt]
 refine ⟨Or.inr rfl, ?_⟩
 rw [hM]
 exact Ec
theorem w_ref12_partsMay (W : World) (s' : DState) (hz : s'.sz ≤ 1048576) : PureAt Go.Proofs.Tryz.prog W 89 [(DState.av s')] (AV.b (m_ag s')) [] := by
 have hzg := s'.sz_graph
 refine pure_of_bodyC (fn := Go.Proofs.Tryz.f89) Go.Proofs.Tryz.func89 rfl (en89 W) (ts := [2]) rfl le <| Sq <| Rg <| Nn (AV.loc 0 0 0) ⟨64, 11, [(DState.av s')]⟩ <| Aq (AV.b false) <| Ad <| Sq <| Rg <| Aq (AV.loc 0 0 0) <| Aq (AV.st [((slA 7 DEdge.av) s'.graph.edges), ((slA 2 DPool.av) s'.graph.pools), ((slA 1 AV.s) s'.graph.defaults)]) <| AOps.sc0 (vs := [(AV.st [((slA 7 DEdge.av) s'.graph.edges), ((slA 2 DPool.av) s'.graph.pools), ((slA 1 AV.s) s'.graph.defaults)])]) (r0 := (AV.tup [((slA 1 (AV.i .i64)) ((m_am (⟨s'.graph.edges, s'.graph.pools, s'.graph.defaults⟩ : DGraph)).1)), (AV.i .i64 ((m_am (⟨s'.graph.edges, s'.graph.pools, s'.graph.defaults⟩ : DGraph)).2))])) kr kr (w_ref1_Order W (⟨s'.graph.edges, s'.graph.pools, s'.graph.defaults⟩ : DGraph) (Nat.le_trans s'.sz_graph hz)) kr le <| Aq (AV.tup [((slA 1 (AV.i .i64)) ((m_am (⟨s'.graph.edges, s'.graph.pools, s'.graph.defaults⟩ : DGraph)).1)), (AV.i .i64 ((m_am (⟨s'.graph.edges, s'.graph.pools, s'.graph.defaults⟩ : DGraph)).2))]) <| Aq ((slA 1 (AV.i .i64)) ((m_am (⟨s'.graph.edges, s'.graph.pools, s'.graph.defaults⟩ : DGraph)).1)) <| Aq (AV.i .i64 ((m_am (⟨s'.graph.edges, s'.graph.pools, s'.graph.defaults⟩ : DGraph)).2)) <| Aq ((slA 1 (AV.i .i64)) ((m_am (⟨s'.graph.edges, s'.graph.pools, s'.graph.defaults⟩ : DGraph)).1)) <| Aq (AV.i .i64 ((m_am (⟨s'.graph.edges, s'.graph.pools, s'.graph.defaults⟩ : DGraph)).2)) <| Ad <| Sq <| Rg <| Aq (AV.i .i64 ((m_am (⟨s'.graph.edges, s'.graph.pools, s'.graph.defaults⟩ : DGraph)).2)) ?_
 refine Aq (AV.b (decide ((m_am (⟨s'.graph.edges, s'.graph.pools, s'.graph.defaults⟩ : DGraph)).2 = (0 : Int)))) <| Aq (AV.b (decide ((m_am (⟨s'.graph.edges, s'.graph.pools, s'.graph.defaults⟩ : DGraph)).2 = (0 : Int)))) ?_
 cases c_1 : decide ((m_am (⟨s'.graph.edges, s'.graph.pools, s'.graph.defaults⟩ : DGraph)).2 = (0 : Int))
 have k_1 := of_decide_eq_false c_1
 refine An <| An <| An <| Aq (AV.b false) <| Aq (AV.b false) <| An <| An <| An <| Aq (AV.b false) <| Aq (AV.b false) <| An <| An <| An <| Aq (AV.b false) <| Aq (AV.b false) <| An <| An <| An <| Aq (AV.b false) <| Aq (AV.b false) <| Ad <| Rt ?_
 have hM : m_ag s' = false := by simp only [m_ag, c_1, sbt]
 refine ⟨Or.inr rfl, ?_⟩
 rw [hM]
 exact Ec
 have k_1 := of_decide_eq_true c_1
 refine Ay <| Aq (AV.loc 0 0 3) <| Ay <| Aq ((slA 3 DAction.av) s'.actions) <| Ay <| AOps.sc0 (vs := [((slA 3 DAction.av) s'.actions)]) (r0 := (AV.b (m_ai s'.actions))) kr kr (w_ref12_ActionsMay W s'.actions) kr le <| Aq (AV.b (m_ai s'.actions)) <| Aq (AV.b (m_ai s'.actions)) ?_
 cases c_2 : (m_ai s'.actions)
 refine An <| An <| An <| Aq (AV.b false) <| Aq (AV.b false) <| An <| An <| An <| Aq (AV.b false) <| Aq (AV.b false) <| An <| An <| An <| Aq (AV.b false) <| Aq (AV.b false) <| Ad <| Rt ?_
 have hM : m_ag s' = false := by simp only [m_ag, c_1, c_2, sbt]
 refine ⟨Or.inr rfl, ?_⟩
 rw [hM]
 exact Ec
 refine Ay <| Aq (AV.loc 0 0 4) <| Ay <| Aq (AV.st [(AV.i .i64 s'.disk.clock), ((slA 3 DFile.av) s'.disk.files)]) <| Ay <| AOps.sc0 (vs := [(AV.st [(AV.i .i64 s'.disk.clock), ((slA 3 DFile.av) s'.disk.files)])]) (r0 := (AV.b (m_4 (⟨s'.disk.clock, s'.disk.files⟩ : DDisk)))) kr kr (w_ref12_DiskMay W (⟨s'.disk.clock, s'.disk.files⟩ : DDisk)) kr le <| Aq (AV.b (m_4 (⟨s'.disk.clock, s'.disk.files⟩ : DDisk))) <| Aq (AV.b (m_4 (⟨s'.disk.clock, s'.disk.files⟩ : DDisk))) ?_
 cases c_3 : (m_4 (⟨s'.disk.clock, s'.disk.files⟩ : DDisk))
 refine An <| An <| An <| Aq (AV.b false) <| Aq (AV.b false) <| An <| An <| An <| Aq (AV.b false) <| Aq (AV.b false) <| Ad <| Rt ?_
 have hM : m_ag s' = false := by simp only [m_ag, c_1, c_2, c_3, sbt]
 refine ⟨Or.inr rfl, ?_⟩
 rw [hM]
 exact Ec
 refine Ay <| Aq (AV.loc 0 0 6) <| Ay <| Aq ((slA 3 DRecord.av) s'.log) <| Ay <| AOps.sc0 (vs := [((slA 3 DRecord.av) s'.log)]) (r0 := (AV.b (m_bi s'.log))) kr kr (w_ref12_LogMay W s'.log) kr le <| Aq (AV.b (m_bi s'.log)) <| Aq (AV.b (m_bi s'.log)) ?_
 cases c_4 : (m_bi s'.log)
 refine An <| An <| An <| Aq (AV.b false) <| Aq (AV.b false) <| Ad <| Rt ?_
 have hM : m_ag s' = false := by simp only [m_ag, c_1, c_2, c_3, c_4, sbt]
 refine ⟨Or.inr rfl, ?_⟩
 rw [hM]
 exact Ec
 refine Ay <| Aq (AV.loc 0 0 7) <| Ay <| Aq ((slA 3 DFound.av) s'.deps) <| Ay <| AOps.sc0 (vs := [((slA 3 DFound.av) s'.deps)]) (r0 := (AV.b (m_bd s'.deps))) kr kr (w_ref12_DepsMay W s'.deps) kr le <| Aq (AV.b (m_bd s'.deps)) <| Aq (AV.b (m_bd s'.deps)) <| Ad <| Rt ?_
 have hM : m_ag s' = (m_bd s'.deps) := by simp only [m_ag, c_1, c_2, c_3, c_4, sbt]
 refine ⟨Or.inr rfl, ?_⟩
 rw [hM]
 exact Ec
theorem w_ref12_StateMay (W : World) (s' : DState) (hz : s'.sz ≤ 1048576) : PureAt Go.Proofs.Tryz.prog W 43 [(DState.av s')] (AV.b (m_ab s')) [] := by
 have hzg := s'.sz_graph
 refine pure_of_bodyC (fn := Go.Proofs.Tryz.f43) Go.Proofs.Tryz.func43 rfl (en43 W) (ts := [2]) rfl le <| Sq <| Rg <| Nn (AV.loc 0 0 0) ⟨64, 11, [(DState.av s')]⟩ <| Aq (AV.b false) <| Ad <| Sq <| Sq <| Rg <| Aq (AV.i .i64 (0 : Int)) <| Ad <| Awp.block <| Awp.lim 0 (x := (DState.av s')) kr fun hlm1 => ?_
 have hB1 : s'.status.length ≤ 281474976710656 := lim_slA (DState.lim_status hlm1)
 obtain ⟨R1, hR1⟩ : ∃ R, m_bg s'.status 0 = R := ⟨_, rfl⟩
 refine Awp.loopT (fun (i : Nat) => [(1, (AV.loc 0 0 0)), (3, (Ai i))]) (fun (i : Nat) => ⟨1, [(0, some ⟨64, 11, [(DState.av s')]⟩)]⟩) (fun (i : Nat) => i ≤ s'.status.length ∧ m_bg (s'.status.drop i) i = R1) (fun (i : Nat) => s'.status.length - i) 0 ?_ ?_ ?_
 exact ⟨[0], ⟨by decide, rfl, (FitsObjs.cons kr FitsObjs.nil), (EntE.cons (Ent.f kr) (Ee EntE.nil))⟩, keep0⟩
 exact ⟨od, hR1⟩
 rintro i ⟨hi1, hE1⟩
 try dsimp only
 refine Sq <| Sq <| Rg <| Aq (Ai i) <| Aq (AV.loc 0 0 10) <| Aq ((slA 1 (AV.i .i64)) s'.status) <| Ap (Ai s'.status.length) (g_len (k := 1) (nl := false) (e := 3) (A := (AV.i .i64)) (xs := s'.status) kr kr) <| Aq (AV.b (decide (((i : Nat) : Int) < ((s'.status.length : Nat) : Int)))) <| Ad ?_
 rcases Nat.lt_or_ge i s'.status.length with hl1 | hl1
 have hc1 : decide (((i : Nat) : Int) < ((s'.status.length : Nat) : Int)) = true := decide_eq_true (by omega)
 refine Awp.cond (t := true) (by rw [← hc1] <;> kernel_rfl) (Awp.skip ?_)
 obtain ⟨x1, hx1⟩ : ∃ x, s'.status[i]? = some x := ⟨_, List.getElem?_eq_getElem hl1⟩
 rw [drop_at hx1, m_bg.eq_2] at hE1
 refine Sq <| Awp.block <| Sq <| Rg <| Aq (AV.loc 0 0 10) <| Aq ((slA 1 (AV.i .i64)) s'.status) <| Aq (Ai i) <| Ap (AV.pt ((AV.i .i64) x1).cells) (g_idx (k := 1) (nl := false) (e := 3) (kk := .i64) (A := (AV.i .i64)) (xs := s'.status) (i := i) kr kr kr ⟨by kernel_rfl, by decide⟩ hx1) <| Aq (AV.i .i64 x1) <| AOps.sc0 (vs := [(AV.i .i64 x1), (AV.i .i64 (0 : Int)), (AV.i .i64 (4 : Int))]) (r0 := (AV.b (m_r x1 (0 : Int) (4 : Int)))) kr kr (w_ref12_upTo W x1 (0 : Int) (4 : Int)) kr le <| Aq (AV.b (!(m_r x1 (0 : Int) (4 : Int)))) <| Ad ?_
 cases c_1 : (!(m_r x1 (0 : Int) (4 : Int)))
 refine Cf <| Awp.skip <| Rg <| Aq (Ai i) <| Ap (Ai (i + 1)) (g_addN (i := i) (m := 1) kr kr sd) <| Aq (Ai (i + 1)) <| Ad ?_
 try simp only [c_1, sbt] at hE1
 refine ⟨i + 1, od, ⟨od, hE1⟩, ?_⟩
 exact ⟨[0], ⟨by decide, rfl, (FitsObjs.cons kr FitsObjs.nil), (EntE.cons (Ent.f kr) (Ee EntE.nil))⟩, keep0⟩
 refine Ct <| Sq <| Rg <| Aq (AV.b false) <| Ad <| Rt ?_
 try simp only [c_1, sbt] at hE1
 subst hE1
 have hM : m_ab s' = false := by simp only [m_ab, hR1, sbt]
 refine ⟨Or.inr rfl, ?_⟩
 rw [hM]
 exact Ec
 have hc1 : decide (((i : Nat) : Int) < ((s'.status.length : Nat) : Int)) = false := decide_eq_false (by omega)
 refine Awp.cond (t := false) (by rw [← hc1] <;> kernel_rfl) (Awp.exit ?_)
 rw [List.drop_eq_nil_of_le (hl1), m_bg.eq_1] at hE1
 subst hE1
 refine Sq <| Rg <| Aq (DState.av s') <| AOps.sc0 (vs := [(DState.av s')]) (r0 := (AV.b (m_ag s'))) kr kr (w_ref12_partsMay W s' sd) kr le <| Aq (AV.b (m_ag s')) ?_
 cases c_2 : (m_ag s')
 refine An <| An <| An <| Aq (AV.b false) <| Aq (AV.b false) <| An <| An <| An <| An <| An <| An <| An <| An <| An <| An <| An <| An <| An <| An <| An <| An <| An <| An <| An <| Aq (AV.b false) <| Aq (AV.b false) <| Ad <| Rt ?_
 have hM : m_ab s' = false := by simp only [m_ab, hR1, c_2, sbt]
 refine ⟨Or.inr rfl, ?_⟩
 rw [hM]
 exact Ec
 refine Ay <| Aq (AV.loc 0 0 8) <| Ay <| Aq (AV.i .i64 s'.jobs) <| Ay <| AOps.sc0 (vs := [(AV.i .i64 s'.jobs), (AV.i .i64 (1 : Int)), (AV.i .i64 (8 : Int))]) (r0 := (AV.b (m_r s'.jobs (1 : Int) (8 : Int)))) kr kr (w_ref12_upTo W s'.jobs (1 : Int) (8 : Int)) kr le <| Aq (AV.b (m_r s'.jobs (1 : Int) (8 : Int))) <| Aq (AV.b (m_r s'.jobs (1 : Int) (8 : Int))) ?_
 cases c_3 : (m_r s'.jobs (1 : Int) (8 : Int))
 refine An <| An <| An <| An <| An <| An <| An <| An <| An <| An <| An <| An <| An <| An <| An <| An <| An <| An <| An <| Aq (AV.b false) <| Aq (AV.b false) <| Ad <| Rt ?_
 have hM : m_ab s' = false := by simp only [m_ab, hR1, c_2, c_3, sbt]
 refine ⟨Or.inr rfl, ?_⟩
 rw [hM]
 exact Ec
 refine Ay <| Aq (AV.loc 0 0 10) <| Ay <| Aq ((slA 1 (AV.i .i64)) s'.status) <| Ay <| Ap (Ai s'.status.length) (g_len (k := 1) (nl := false) (e := 3) (A := (AV.i .i64)) (xs := s'.status) kr kr) <| Ay <| Aq (AV.loc 0 0 0) <| Ay <| Aq (AV.loc 0 0 0) <| Ay <| Aq ((slA 7 DEdge.av) s'.graph.edges) <| Ay <| Ap (Ai s'.graph.edges.length) (g_len (k := 7) (nl := false) (e := 76) (A := DEdge.av) (xs := s'.graph.edges) kr kr) <| Ay <| Aq (AV.b (decide (((s'.status.length : Nat) : Int) = ((s'.graph.edges.length : Nat) : Int)))) <| Ay <| Aq (AV.b (decide (((s'.status.length : Nat) : Int) = ((s'.graph.edges.length : Nat) : Int)))) ?_
 cases c_4 : decide (((s'.status.length : Nat) : Int) = ((s'.graph.edges.length : Nat) : Int))
 have k_4 := of_decide_eq_false c_4
 refine Ay <| Aq (AV.loc 0 0 9) <| Ay <| Aq (AV.b s'.going) <| Ay <| Aq (AV.b (!s'.going)) <| Ay <| Aq (AV.b (!s'.going)) ?_
 cases c_5 : (!s'.going)
 refine An <| An <| An <| An <| Ay <| Aq (AV.b false) <| Ay <| Aq (AV.b false) <| Aq (AV.b false) <| Aq (AV.b false) <| Ad <| Rt ?_
 have hM : m_ab s' = false := by simp only [m_ab, hR1, c_2, c_3, c_4, c_5, sbt]
 refine ⟨Or.inr rfl, ?_⟩
 rw [hM]
 exact Ec
 refine Ay <| Aq (AV.loc 0 0 10) <| Ay <| Aq ((slA 1 (AV.i .i64)) s'.status) <| Ay <| Ap (Ai s'.status.length) (g_len (k := 1) (nl := false) (e := 3) (A := (AV.i .i64)) (xs := s'.status) kr kr) <| Ay <| Aq (AV.b (decide (((s'.status.length : Nat) : Int) = (0 : Int)))) <| Ay <| Aq (AV.b (decide (((s'.status.length : Nat) : Int) = (0 : Int)))) <| Ay <| Aq (AV.b (decide (((s'.status.length : Nat) : Int) = (0 : Int)))) <| Aq (AV.b (decide (((s'.status.length : Nat) : Int) = (0 : Int)))) <| Aq (AV.b (decide (((s'.status.length : Nat) : Int) = (0 : Int)))) <| Ad <| Rt ?_
 have hM : m_ab s' = decide (((s'.status.length : Nat) : Int) = (0 : Int)) := by simp only [m_ab, hR1, c_2, c_3, c_4, c_5, sbt]
 refine ⟨Or.inr rfl, ?_⟩
 rw [hM]
 exact Ec
 have k_4 := of_decide_eq_true c_4
 refine An <| An <| An <| An <| An <| An <| An <| An <| An <| Ay <| Aq (AV.b true) <| Aq (AV.b true) <| Aq (AV.b true) <| Ad <| Rt ?_
 have hM : m_ab s' = true := by simp only [m_ab, hR1, c_2, c_3, c_4, sbt]
 refine ⟨Or.inr rfl, ?_⟩
 rw [hM]
 exact Ec
theorem wd_law21_start (W : World) : PureAt Go.Proofs.Tryz.prog W 42 [] (AV.st [(AV.own 0 0 3), (AV.own 9 0 1), (AV.own 10 0 1), (AV.own 11 0 1), (AV.i .i64 (4 : Int)), (AV.own 13 0 4), (AV.sl 3 true []), (AV.sl 3 true []), (AV.i .i64 (2 : Int)), (AV.b false), (AV.sl 1 true [])]) [⟨76, 7, [(AV.st [(AV.own 1 0 1), (AV.own 2 0 2), (AV.sl 1 true []), (AV.sl 1 true []), (AV.s (⟨#[97, 114]⟩ : ByteArray)), (AV.b false), (AV.s (⟨#[]⟩ : ByteArray))]), (AV.st [(AV.own 3 0 2), (AV.own 4 0 1), (AV.own 5 0 1), (AV.sl 1 true []), (AV.s (⟨#[99, 99, 32, 97]⟩ : ByteArray)), (AV.b true), (AV.s (⟨#[116, 119, 111]⟩ : ByteArray))]), (AV.st [(AV.own 6 0 1), (AV.own 7 0 1), (AV.sl 1 true []), (AV.own 8 0 1), (AV.s (⟨#[99, 99, 32, 98]⟩ : ByteArray)), (AV.b false), (AV.s (⟨#[116, 119, 111]⟩ : ByteArray))])]⟩, ⟨9, 1, [(⟨#[108, 105, 98]⟩ : ByteArray)].map AV.s⟩, ⟨9, 1, [(⟨#[97, 46, 111]⟩ : ByteArray), (⟨#[98, 46, 111]⟩ : ByteArray)].map AV.s⟩, ⟨9, 1, [(⟨#[97, 46, 111]⟩ : ByteArray), (⟨#[97, 46, 100]⟩ : ByteArray)].map AV.s⟩, ⟨9, 1, [(⟨#[97, 46, 99]⟩ : ByteArray)].map AV.s⟩, ⟨9, 1, [(⟨#[97, 46, 104]⟩ : ByteArray)].map AV.s⟩, ⟨9, 1, [(⟨#[98, 46, 111]⟩ : ByteArray)].map AV.s⟩, ⟨9, 1, [(⟨#[98, 46, 99]⟩ : ByteArray)].map AV.s⟩, ⟨9, 1, [(⟨#[97, 46, 111]⟩ : ByteArray)].map AV.s⟩, ⟨81, 2, [(⟨(⟨#[116, 119, 111]⟩ : ByteArray), (2 : Int)⟩ : DPool)].map DPool.av⟩, ⟨9, 1, [(⟨#[108, 105, 98]⟩ : ByteArray)].map AV.s⟩, ⟨121, 3, [(AV.st [(AV.s (⟨#[99, 99, 32, 97]⟩ : ByteArray)), (AV.own 12 0 1), (AV.b false)])]⟩, ⟨9, 1, [(⟨#[122, 46, 104]⟩ : ByteArray)].map AV.s⟩, ⟨119, 3, [lit35ef0, litb1de5, litf2893, lit881d0].map DFile.av⟩] := by
 refine pure_of_run tabS_ok (fn := Go.Proofs.Tryz.f42) Go.Proofs.Tryz.func42 rfl (en42 W) le <| Sq <| Rg <| Nn (AV.loc 0 0 0) ⟨64, 11, [(AV.st [(AV.sl 7 true []), (AV.sl 2 true []), (AV.sl 1 true []), (AV.sl 3 true []), (AV.i .i64 (0 : Int)), (AV.sl 3 true []), (AV.sl 3 true []), (AV.sl 3 true []), (AV.i .i64 (0 : Int)), (AV.b false), (AV.sl 1 true [])])]⟩ <| Ad <| Sq <| Rg <| Nn (AV.own 1 0 1) ⟨9, 1, [(⟨#[108, 105, 98]⟩ : ByteArray)].map AV.s⟩ <| Nn (AV.own 2 0 2) ⟨9, 1, [(⟨#[97, 46, 111]⟩ : ByteArray), (⟨#[98, 46, 111]⟩ : ByteArray)].map AV.s⟩ <| AOps.sn (x := (AV.st [(AV.own 1 0 1), (AV.own 2 0 2), (AV.sl 1 true []), (AV.sl 1 true []), (AV.s (⟨#[97, 114]⟩ : ByteArray)), (AV.b false), (AV.s (⟨#[]⟩ : ByteArray))])) (h' := ⟨3, [(2, some ⟨9, 1, [(⟨#[97, 46, 111]⟩ : ByteArray), (⟨#[98, 46, 111]⟩ : ByteArray)].map AV.s⟩), (1, some ⟨9, 1, [(⟨#[108, 105, 98]⟩ : ByteArray)].map AV.s⟩), (0, some ⟨64, 11, [(AV.st [(AV.sl 7 true []), (AV.sl 2 true []), (AV.sl 1 true []), (AV.sl 3 true []), (AV.i .i64 (0 : Int)), (AV.sl 3 true []), (AV.sl 3 true []), (AV.sl 3 true []), (AV.i .i64 (0 : Int)), (AV.b false), (AV.sl 1 true [])])]⟩)]⟩) kr le <| Nn (AV.own 3 0 2) ⟨9, 1, [(⟨#[97, 46, 111]⟩ : ByteArray), (⟨#[97, 46, 100]⟩ : ByteArray)].map AV.s⟩ <| Nn (AV.own 4 0 1) ⟨9, 1, [(⟨#[97, 46, 99]⟩ : ByteArray)].map AV.s⟩ <| Nn (AV.own 5 0 1) ⟨9, 1, [(⟨#[97, 46, 104]⟩ : ByteArray)].map AV.s⟩ <| AOps.sn (x := (AV.st [(AV.own 3 0 2), (AV.own 4 0 1), (AV.own 5 0 1), (AV.sl 1 true []), (AV.s (⟨#[99, 99, 32, 97]⟩ : ByteArray)), (AV.b true), (AV.s (⟨#[116, 119, 111]⟩ : ByteArray))])) (h' := ⟨6, [(5, some ⟨9, 1, [(⟨#[97, 46, 104]⟩ : ByteArray)].map AV.s⟩), (4, some ⟨9, 1, [(⟨#[97, 46, 99]⟩ : ByteArray)].map AV.s⟩), (3, some ⟨9, 1, [(⟨#[97, 46, 111]⟩ : ByteArray), (⟨#[97, 46, 100]⟩ : ByteArray)].map AV.s⟩), (2, some ⟨9, 1, [(⟨#[97, 46, 111]⟩ : ByteArray), (⟨#[98, 46, 111]⟩ : ByteArray)].map AV.s⟩), (1, some ⟨9, 1, [(⟨#[108, 105, 98]⟩ : ByteArray)].map AV.s⟩), (0, some ⟨64, 11, [(AV.st [(AV.sl 7 true []), (AV.sl 2 true []), (AV.sl 1 true []), (AV.sl 3 true []), (AV.i .i64 (0 : Int)), (AV.sl 3 true []), (AV.sl 3 true []), (AV.sl 3 true []), (AV.i .i64 (0 : Int)), (AV.b false), (AV.sl 1 true [])])]⟩)]⟩) kr le ?_
 refine Nn (AV.own 6 0 1) ⟨9, 1, [(⟨#[98, 46, 111]⟩ : ByteArray)].map AV.s⟩ <| Nn (AV.own 7 0 1) ⟨9, 1, [(⟨#[98, 46, 99]⟩ : ByteArray)].map AV.s⟩ <| Nn (AV.own 8 0 1) ⟨9, 1, [(⟨#[97, 46, 111]⟩ : ByteArray)].map AV.s⟩ <| AOps.sn (x := (AV.st [(AV.own 6 0 1), (AV.own 7 0 1), (AV.sl 1 true []), (AV.own 8 0 1), (AV.s (⟨#[99, 99, 32, 98]⟩ : ByteArray)), (AV.b false), (AV.s (⟨#[116, 119, 111]⟩ : ByteArray))])) (h' := ⟨9, [(8, some ⟨9, 1, [(⟨#[97, 46, 111]⟩ : ByteArray)].map AV.s⟩), (7, some ⟨9, 1, [(⟨#[98, 46, 99]⟩ : ByteArray)].map AV.s⟩), (6, some ⟨9, 1, [(⟨#[98, 46, 111]⟩ : ByteArray)].map AV.s⟩), (5, some ⟨9, 1, [(⟨#[97, 46, 104]⟩ : ByteArray)].map AV.s⟩), (4, some ⟨9, 1, [(⟨#[97, 46, 99]⟩ : ByteArray)].map AV.s⟩), (3, some ⟨9, 1, [(⟨#[97, 46, 111]⟩ : ByteArray), (⟨#[97, 46, 100]⟩ : ByteArray)].map AV.s⟩), (2, some ⟨9, 1, [(⟨#[97, 46, 111]⟩ : ByteArray), (⟨#[98, 46, 111]⟩ : ByteArray)].map AV.s⟩), (1, some ⟨9, 1, [(⟨#[108, 105, 98]⟩ : ByteArray)].map AV.s⟩), (0, some ⟨64, 11, [(AV.st [(AV.sl 7 true []), (AV.sl 2 true []), (AV.sl 1 true []), (AV.sl 3 true []), (AV.i .i64 (0 : Int)), (AV.sl 3 true []), (AV.sl 3 true []), (AV.sl 3 true []), (AV.i .i64 (0 : Int)), (AV.b false), (AV.sl 1 true [])])]⟩)]⟩) kr le <| Nn (AV.own 9 0 3) ⟨76, 7, [(AV.st [(AV.own 1 0 1), (AV.own 2 0 2), (AV.sl 1 true []), (AV.sl 1 true []), (AV.s (⟨#[97, 114]⟩ : ByteArray)), (AV.b false), (AV.s (⟨#[]⟩ : ByteArray))]), (AV.st [(AV.own 3 0 2), (AV.own 4 0 1), (AV.own 5 0 1), (AV.sl 1 true []), (AV.s (⟨#[99, 99, 32, 97]⟩ : ByteArray)), (AV.b true), (AV.s (⟨#[116, 119, 111]⟩ : ByteArray))]), (AV.st [(AV.own 6 0 1), (AV.own 7 0 1), (AV.sl 1 true []), (AV.own 8 0 1), (AV.s (⟨#[99, 99, 32, 98]⟩ : ByteArray)), (AV.b false), (AV.s (⟨#[116, 119, 111]⟩ : ByteArray))])]⟩ ?_
 refine AOps.sn (x := (AV.st [(AV.s (⟨#[116, 119, 111]⟩ : ByteArray)), (AV.i .i64 (2 : Int))])) (h' := ⟨10, [(9, some ⟨76, 7, [(AV.st [(AV.own 1 0 1), (AV.own 2 0 2), (AV.sl 1 true []), (AV.sl 1 true []), (AV.s (⟨#[97, 114]⟩ : ByteArray)), (AV.b false), (AV.s (⟨#[]⟩ : ByteArray))]), (AV.st [(AV.own 3 0 2), (AV.own 4 0 1), (AV.own 5 0 1), (AV.sl 1 true []), (AV.s (⟨#[99, 99, 32, 97]⟩ : ByteArray)), (AV.b true), (AV.s (⟨#[116, 119, 111]⟩ : ByteArray))]), (AV.st [(AV.own 6 0 1), (AV.own 7 0 1), (AV.sl 1 true []), (AV.own 8 0 1), (AV.s (⟨#[99, 99, 32, 98]⟩ : ByteArray)), (AV.b false), (AV.s (⟨#[116, 119, 111]⟩ : ByteArray))])]⟩), (8, some ⟨9, 1, [(⟨#[97, 46, 111]⟩ : ByteArray)].map AV.s⟩), (7, some ⟨9, 1, [(⟨#[98, 46, 99]⟩ : ByteArray)].map AV.s⟩), (6, some ⟨9, 1, [(⟨#[98, 46, 111]⟩ : ByteArray)].map AV.s⟩), (5, some ⟨9, 1, [(⟨#[97, 46, 104]⟩ : ByteArray)].map AV.s⟩), (4, some ⟨9, 1, [(⟨#[97, 46, 99]⟩ : ByteArray)].map AV.s⟩), (3, some ⟨9, 1, [(⟨#[97, 46, 111]⟩ : ByteArray), (⟨#[97, 46, 100]⟩ : ByteArray)].map AV.s⟩), (2, some ⟨9, 1, [(⟨#[97, 46, 111]⟩ : ByteArray), (⟨#[98, 46, 111]⟩ : ByteArray)].map AV.s⟩), (1, some ⟨9, 1, [(⟨#[108, 105, 98]⟩ : ByteArray)].map AV.s⟩), (0, some ⟨64, 11, [(AV.st [(AV.sl 7 true []), (AV.sl 2 true []), (AV.sl 1 true []), (AV.sl 3 true []), (AV.i .i64 (0 : Int)), (AV.sl 3 true []), (AV.sl 3 true []), (AV.sl 3 true []), (AV.i .i64 (0 : Int)), (AV.b false), (AV.sl 1 true [])])]⟩)]⟩) kr le <| Nn (AV.own 10 0 1) ⟨81, 2, [(⟨(⟨#[116, 119, 111]⟩ : ByteArray), (2 : Int)⟩ : DPool)].map DPool.av⟩ ?_
 refine Nn (AV.own 11 0 1) ⟨9, 1, [(⟨#[108, 105, 98]⟩ : ByteArray)].map AV.s⟩ <| AOps.sn (x := (AV.st [(AV.own 9 0 3), (AV.own 10 0 1), (AV.own 11 0 1)])) (h' := ⟨12, [(11, some ⟨9, 1, [(⟨#[108, 105, 98]⟩ : ByteArray)].map AV.s⟩), (10, some ⟨81, 2, [(⟨(⟨#[116, 119, 111]⟩ : ByteArray), (2 : Int)⟩ : DPool)].map DPool.av⟩), (9, some ⟨76, 7, [(AV.st [(AV.own 1 0 1), (AV.own 2 0 2), (AV.sl 1 true []), (AV.sl 1 true []), (AV.s (⟨#[97, 114]⟩ : ByteArray)), (AV.b false), (AV.s (⟨#[]⟩ : ByteArray))]), (AV.st [(AV.own 3 0 2), (AV.own 4 0 1), (AV.own 5 0 1), (AV.sl 1 true []), (AV.s (⟨#[99, 99, 32, 97]⟩ : ByteArray)), (AV.b true), (AV.s (⟨#[116, 119, 111]⟩ : ByteArray))]), (AV.st [(AV.own 6 0 1), (AV.own 7 0 1), (AV.sl 1 true []), (AV.own 8 0 1), (AV.s (⟨#[99, 99, 32, 98]⟩ : ByteArray)), (AV.b false), (AV.s (⟨#[116, 119, 111]⟩ : ByteArray))])]⟩), (8, some ⟨9, 1, [(⟨#[97, 46, 111]⟩ : ByteArray)].map AV.s⟩), (7, some ⟨9, 1, [(⟨#[98, 46, 99]⟩ : ByteArray)].map AV.s⟩), (6, some ⟨9, 1, [(⟨#[98, 46, 111]⟩ : ByteArray)].map AV.s⟩), (5, some ⟨9, 1, [(⟨#[97, 46, 104]⟩ : ByteArray)].map AV.s⟩), (4, some ⟨9, 1, [(⟨#[97, 46, 99]⟩ : ByteArray)].map AV.s⟩), (3, some ⟨9, 1, [(⟨#[97, 46, 111]⟩ : ByteArray), (⟨#[97, 46, 100]⟩ : ByteArray)].map AV.s⟩), (2, some ⟨9, 1, [(⟨#[97, 46, 111]⟩ : ByteArray), (⟨#[98, 46, 111]⟩ : ByteArray)].map AV.s⟩), (1, some ⟨9, 1, [(⟨#[108, 105, 98]⟩ : ByteArray)].map AV.s⟩), (0, some ⟨64, 11, [(AV.st [(AV.sl 7 true []), (AV.sl 2 true []), (AV.sl 1 true []), (AV.sl 3 true []), (AV.i .i64 (0 : Int)), (AV.sl 3 true []), (AV.sl 3 true []), (AV.sl 3 true []), (AV.i .i64 (0 : Int)), (AV.b false), (AV.sl 1 true [])])]⟩)]⟩) kr le ?_
 refine Nn (AV.loc 12 0 0) ⟨26, 3, [(AV.st [(AV.sl 7 true []), (AV.sl 2 true []), (AV.sl 1 true [])])]⟩ <| Sp 12 ⟨26, 3, [(AV.st [(AV.own 9 0 3), (AV.own 10 0 1), (AV.own 11 0 1)])]⟩ <| Ad <| Sq <| Rg <| AOps.sn (x := (AV.st [(AV.s (⟨#[97, 46, 99]⟩ : ByteArray)), (AV.i .i64 (1 : Int)), (AV.i .i64 (1 : Int))])) (h' := ⟨13, [(12, some ⟨26, 3, [(AV.st [(AV.own 9 0 3), (AV.own 10 0 1), (AV.own 11 0 1)])]⟩), (11, some ⟨9, 1, [(⟨#[108, 105, 98]⟩ : ByteArray)].map AV.s⟩), (10, some ⟨81, 2, [(⟨(⟨#[116, 119, 111]⟩ : ByteArray), (2 : Int)⟩ : DPool)].map DPool.av⟩), (9, some ⟨76, 7, [(AV.st [(AV.own 1 0 1), (AV.own 2 0 2), (AV.sl 1 true []), (AV.sl 1 true []), (AV.s (⟨#[97, 114]⟩ : ByteArray)), (AV.b false), (AV.s (⟨#[]⟩ : ByteArray))]), (AV.st [(AV.own 3 0 2), (AV.own 4 0 1), (AV.own 5 0 1), (AV.sl 1 true []), (AV.s (⟨#[99, 99, 32, 97]⟩ : ByteArray)), (AV.b true), (AV.s (⟨#[116, 119, 111]⟩ : ByteArray))]), (AV.st [(AV.own 6 0 1), (AV.own 7 0 1), (AV.sl 1 true []), (AV.own 8 0 1), (AV.s (⟨#[99, 99, 32, 98]⟩ : ByteArray)), (AV.b false), (AV.s (⟨#[116, 119, 111]⟩ : ByteArray))])]⟩), (8, some ⟨9, 1, [(⟨#[97, 46, 111]⟩ : ByteArray)].map AV.s⟩), (7, some ⟨9, 1, [(⟨#[98, 46, 99]⟩ : ByteArray)].map AV.s⟩), (6, some ⟨9, 1, [(⟨#[98, 46, 111]⟩ : ByteArray)].map AV.s⟩), (5, some ⟨9, 1, [(⟨#[97, 46, 104]⟩ : ByteArray)].map AV.s⟩), (4, some ⟨9, 1, [(⟨#[97, 46, 99]⟩ : ByteArray)].map AV.s⟩), (3, some ⟨9, 1, [(⟨#[97, 46, 111]⟩ : ByteArray), (⟨#[97, 46, 100]⟩ : ByteArray)].map AV.s⟩), (2, some ⟨9, 1, [(⟨#[97, 46, 111]⟩ : ByteArray), (⟨#[98, 46, 111]⟩ : ByteArray)].map AV.s⟩), (1, some ⟨9, 1, [(⟨#[108, 105, 98]⟩ : ByteArray)].map AV.s⟩), (0, some ⟨64, 11, [(AV.st [(AV.sl 7 true []), (AV.sl 2 true []), (AV.sl 1 true []), (AV.sl 3 true []), (AV.i .i64 (0 : Int)), (AV.sl 3 true []), (AV.sl 3 true []), (AV.sl 3 true []), (AV.i .i64 (0 : Int)), (AV.b false), (AV.sl 1 true [])])]⟩)]⟩) kr le ?_
 refine AOps.sn (x := (AV.st [(AV.s (⟨#[97, 46, 104]⟩ : ByteArray)), (AV.i .i64 (2 : Int)), (AV.i .i64 (2 : Int))])) (h' := ⟨13, [(12, some ⟨26, 3, [(AV.st [(AV.own 9 0 3), (AV.own 10 0 1), (AV.own 11 0 1)])]⟩), (11, some ⟨9, 1, [(⟨#[108, 105, 98]⟩ : ByteArray)].map AV.s⟩), (10, some ⟨81, 2, [(⟨(⟨#[116, 119, 111]⟩ : ByteArray), (2 : Int)⟩ : DPool)].map DPool.av⟩), (9, some ⟨76, 7, [(AV.st [(AV.own 1 0 1), (AV.own 2 0 2), (AV.sl 1 true []), (AV.sl 1 true []), (AV.s (⟨#[97, 114]⟩ : ByteArray)), (AV.b false), (AV.s (⟨#[]⟩ : ByteArray))]), (AV.st [(AV.own 3 0 2), (AV.own 4 0 1), (AV.own 5 0 1), (AV.sl 1 true []), (AV.s (⟨#[99, 99, 32, 97]⟩ : ByteArray)), (AV.b true), (AV.s (⟨#[116, 119, 111]⟩ : ByteArray))]), (AV.st [(AV.own 6 0 1), (AV.own 7 0 1), (AV.sl 1 true []), (AV.own 8 0 1), (AV.s (⟨#[99, 99, 32, 98]⟩ : ByteArray)), (AV.b false), (AV.s (⟨#[116, 119, 111]⟩ : ByteArray))])]⟩), (8, some ⟨9, 1, [(⟨#[97, 46, 111]⟩ : ByteArray)].map AV.s⟩), (7, some ⟨9, 1, [(⟨#[98, 46, 99]⟩ : ByteArray)].map AV.s⟩), (6, some ⟨9, 1, [(⟨#[98, 46, 111]⟩ : ByteArray)].map AV.s⟩), (5, some ⟨9, 1, [(⟨#[97, 46, 104]⟩ : ByteArray)].map AV.s⟩), (4, some ⟨9, 1, [(⟨#[97, 46, 99]⟩ : ByteArray)].map AV.s⟩), (3, some ⟨9, 1, [(⟨#[97, 46, 111]⟩ : ByteArray), (⟨#[97, 46, 100]⟩ : ByteArray)].map AV.s⟩), (2, some ⟨9, 1, [(⟨#[97, 46, 111]⟩ : ByteArray), (⟨#[98, 46, 111]⟩ : ByteArray)].map AV.s⟩), (1, some ⟨9, 1, [(⟨#[108, 105, 98]⟩ : ByteArray)].map AV.s⟩), (0, some ⟨64, 11, [(AV.st [(AV.sl 7 true []), (AV.sl 2 true []), (AV.sl 1 true []), (AV.sl 3 true []), (AV.i .i64 (0 : Int)), (AV.sl 3 true []), (AV.sl 3 true []), (AV.sl 3 true []), (AV.i .i64 (0 : Int)), (AV.b false), (AV.sl 1 true [])])]⟩)]⟩) kr le ?_
 refine AOps.sn (x := (AV.st [(AV.s (⟨#[98, 46, 99]⟩ : ByteArray)), (AV.i .i64 (3 : Int)), (AV.i .i64 (3 : Int))])) (h' := ⟨13, [(12, some ⟨26, 3, [(AV.st [(AV.own 9 0 3), (AV.own 10 0 1), (AV.own 11 0 1)])]⟩), (11, some ⟨9, 1, [(⟨#[108, 105, 98]⟩ : ByteArray)].map AV.s⟩), (10, some ⟨81, 2, [(⟨(⟨#[116, 119, 111]⟩ : ByteArray), (2 : Int)⟩ : DPool)].map DPool.av⟩), (9, some ⟨76, 7, [(AV.st [(AV.own 1 0 1), (AV.own 2 0 2), (AV.sl 1 true []), (AV.sl 1 true []), (AV.s (⟨#[97, 114]⟩ : ByteArray)), (AV.b false), (AV.s (⟨#[]⟩ : ByteArray))]), (AV.st [(AV.own 3 0 2), (AV.own 4 0 1), (AV.own 5 0 1), (AV.sl 1 true []), (AV.s (⟨#[99, 99, 32, 97]⟩ : ByteArray)), (AV.b true), (AV.s (⟨#[116, 119, 111]⟩ : ByteArray))]), (AV.st [(AV.own 6 0 1), (AV.own 7 0 1), (AV.sl 1 true []), (AV.own 8 0 1), (AV.s (⟨#[99, 99, 32, 98]⟩ : ByteArray)), (AV.b false), (AV.s (⟨#[116, 119, 111]⟩ : ByteArray))])]⟩), (8, some ⟨9, 1, [(⟨#[97, 46, 111]⟩ : ByteArray)].map AV.s⟩), (7, some ⟨9, 1, [(⟨#[98, 46, 99]⟩ : ByteArray)].map AV.s⟩), (6, some ⟨9, 1, [(⟨#[98, 46, 111]⟩ : ByteArray)].map AV.s⟩), (5, some ⟨9, 1, [(⟨#[97, 46, 104]⟩ : ByteArray)].map AV.s⟩), (4, some ⟨9, 1, [(⟨#[97, 46, 99]⟩ : ByteArray)].map AV.s⟩), (3, some ⟨9, 1, [(⟨#[97, 46, 111]⟩ : ByteArray), (⟨#[97, 46, 100]⟩ : ByteArray)].map AV.s⟩), (2, some ⟨9, 1, [(⟨#[97, 46, 111]⟩ : ByteArray), (⟨#[98, 46, 111]⟩ : ByteArray)].map AV.s⟩), (1, some ⟨9, 1, [(⟨#[108, 105, 98]⟩ : ByteArray)].map AV.s⟩), (0, some ⟨64, 11, [(AV.st [(AV.sl 7 true []), (AV.sl 2 true []), (AV.sl 1 true []), (AV.sl 3 true []), (AV.i .i64 (0 : Int)), (AV.sl 3 true []), (AV.sl 3 true []), (AV.sl 3 true []), (AV.i .i64 (0 : Int)), (AV.b false), (AV.sl 1 true [])])]⟩)]⟩) kr le ?_
 refine AOps.sn (x := (AV.st [(AV.s (⟨#[122, 46, 104]⟩ : ByteArray)), (AV.i .i64 (4 : Int)), (AV.i .i64 (4 : Int))])) (h' := ⟨13, [(12, some ⟨26, 3, [(AV.st [(AV.own 9 0 3), (AV.own 10 0 1), (AV.own 11 0 1)])]⟩), (11, some ⟨9, 1, [(⟨#[108, 105, 98]⟩ : ByteArray)].map AV.s⟩), (10, some ⟨81, 2, [(⟨(⟨#[116, 119, 111]⟩ : ByteArray), (2 : Int)⟩ : DPool)].map DPool.av⟩), (9, some ⟨76, 7, [(AV.st [(AV.own 1 0 1), (AV.own 2 0 2), (AV.sl 1 true []), (AV.sl 1 true []), (AV.s (⟨#[97, 114]⟩ : ByteArray)), (AV.b false), (AV.s (⟨#[]⟩ : ByteArray))]), (AV.st [(AV.own 3 0 2), (AV.own 4 0 1), (AV.own 5 0 1), (AV.sl 1 true []), (AV.s (⟨#[99, 99, 32, 97]⟩ : ByteArray)), (AV.b true), (AV.s (⟨#[116, 119, 111]⟩ : ByteArray))]), (AV.st [(AV.own 6 0 1), (AV.own 7 0 1), (AV.sl 1 true []), (AV.own 8 0 1), (AV.s (⟨#[99, 99, 32, 98]⟩ : ByteArray)), (AV.b false), (AV.s (⟨#[116, 119, 111]⟩ : ByteArray))])]⟩), (8, some ⟨9, 1, [(⟨#[97, 46, 111]⟩ : ByteArray)].map AV.s⟩), (7, some ⟨9, 1, [(⟨#[98, 46, 99]⟩ : ByteArray)].map AV.s⟩), (6, some ⟨9, 1, [(⟨#[98, 46, 111]⟩ : ByteArray)].map AV.s⟩), (5, some ⟨9, 1, [(⟨#[97, 46, 104]⟩ : ByteArray)].map AV.s⟩), (4, some ⟨9, 1, [(⟨#[97, 46, 99]⟩ : ByteArray)].map AV.s⟩), (3, some ⟨9, 1, [(⟨#[97, 46, 111]⟩ : ByteArray), (⟨#[97, 46, 100]⟩ : ByteArray)].map AV.s⟩), (2, some ⟨9, 1, [(⟨#[97, 46, 111]⟩ : ByteArray), (⟨#[98, 46, 111]⟩ : ByteArray)].map AV.s⟩), (1, some ⟨9, 1, [(⟨#[108, 105, 98]⟩ : ByteArray)].map AV.s⟩), (0, some ⟨64, 11, [(AV.st [(AV.sl 7 true []), (AV.sl 2 true []), (AV.sl 1 true []), (AV.sl 3 true []), (AV.i .i64 (0 : Int)), (AV.sl 3 true []), (AV.sl 3 true []), (AV.sl 3 true []), (AV.i .i64 (0 : Int)), (AV.b false), (AV.sl 1 true [])])]⟩)]⟩) kr le ?_
 refine Nn (AV.own 13 0 4) ⟨119, 3, [lit35ef0, litb1de5, litf2893, lit881d0].map DFile.av⟩ <| AOps.sn (x := (AV.st [(AV.i .i64 (4 : Int)), (AV.own 13 0 4)])) (h' := ⟨14, [(13, some ⟨119, 3, [lit35ef0, litb1de5, litf2893, lit881d0].map DFile.av⟩), (12, some ⟨26, 3, [(AV.st [(AV.own 9 0 3), (AV.own 10 0 1), (AV.own 11 0 1)])]⟩), (11, some ⟨9, 1, [(⟨#[108, 105, 98]⟩ : ByteArray)].map AV.s⟩), (10, some ⟨81, 2, [(⟨(⟨#[116, 119, 111]⟩ : ByteArray), (2 : Int)⟩ : DPool)].map DPool.av⟩), (9, some ⟨76, 7, [(AV.st [(AV.own 1 0 1), (AV.own 2 0 2), (AV.sl 1 true []), (AV.sl 1 true []), (AV.s (⟨#[97, 114]⟩ : ByteArray)), (AV.b false), (AV.s (⟨#[]⟩ : ByteArray))]), (AV.st [(AV.own 3 0 2), (AV.own 4 0 1), (AV.own 5 0 1), (AV.sl 1 true []), (AV.s (⟨#[99, 99, 32, 97]⟩ : ByteArray)), (AV.b true), (AV.s (⟨#[116, 119, 111]⟩ : ByteArray))]), (AV.st [(AV.own 6 0 1), (AV.own 7 0 1), (AV.sl 1 true []), (AV.own 8 0 1), (AV.s (⟨#[99, 99, 32, 98]⟩ : ByteArray)), (AV.b false), (AV.s (⟨#[116, 119, 111]⟩ : ByteArray))])]⟩), (8, some ⟨9, 1, [(⟨#[97, 46, 111]⟩ : ByteArray)].map AV.s⟩), (7, some ⟨9, 1, [(⟨#[98, 46, 99]⟩ : ByteArray)].map AV.s⟩), (6, some ⟨9, 1, [(⟨#[98, 46, 111]⟩ : ByteArray)].map AV.s⟩), (5, some ⟨9, 1, [(⟨#[97, 46, 104]⟩ : ByteArray)].map AV.s⟩), (4, some ⟨9, 1, [(⟨#[97, 46, 99]⟩ : ByteArray)].map AV.s⟩), (3, some ⟨9, 1, [(⟨#[97, 46, 111]⟩ : ByteArray), (⟨#[97, 46, 100]⟩ : ByteArray)].map AV.s⟩), (2, some ⟨9, 1, [(⟨#[97, 46, 111]⟩ : ByteArray), (⟨#[98, 46, 111]⟩ : ByteArray)].map AV.s⟩), (1, some ⟨9, 1, [(⟨#[108, 105, 98]⟩ : ByteArray)].map AV.s⟩), (0, some ⟨64, 11, [(AV.st [(AV.sl 7 true []), (AV.sl 2 true []), (AV.sl 1 true []), (AV.sl 3 true []), (AV.i .i64 (0 : Int)), (AV.sl 3 true []), (AV.sl 3 true []), (AV.sl 3 true []), (AV.i .i64 (0 : Int)), (AV.b false), (AV.sl 1 true [])])]⟩)]⟩) kr le ?_
 refine Nn (AV.loc 14 0 0) ⟨60, 2, [(AV.st [(AV.i .i64 (0 : Int)), (AV.sl 3 true [])])]⟩ <| Sp 14 ⟨60, 2, [(AV.st [(AV.i .i64 (4 : Int)), (AV.own 13 0 4)])]⟩ <| Ad <| Sq <| Rg <| Aq (AV.st [(AV.own 9 0 3), (AV.own 10 0 1), (AV.own 11 0 1)]) <| Nn (AV.own 15 0 1) ⟨9, 1, [(⟨#[122, 46, 104]⟩ : ByteArray)].map AV.s⟩ <| AOps.sn (x := (AV.st [(AV.s (⟨#[99, 99, 32, 97]⟩ : ByteArray)), (AV.own 15 0 1), (AV.b false)])) (h' := ⟨16, [(15, some ⟨9, 1, [(⟨#[122, 46, 104]⟩ : ByteArray)].map AV.s⟩), (14, some ⟨60, 2, [(AV.st [(AV.i .i64 (4 : Int)), (AV.own 13 0 4)])]⟩), (13, some ⟨119, 3, [lit35ef0, litb1de5, litf2893, lit881d0].map DFile.av⟩), (12, some ⟨26, 3, [(AV.st [(AV.own 9 0 3), (AV.own 10 0 1), (AV.own 11 0 1)])]⟩), (11, some ⟨9, 1, [(⟨#[108, 105, 98]⟩ : ByteArray)].map AV.s⟩), (10, some ⟨81, 2, [(⟨(⟨#[116, 119, 111]⟩ : ByteArray), (2 : Int)⟩ : DPool)].map DPool.av⟩), (9, some ⟨76, 7, [(AV.st [(AV.own 1 0 1), (AV.own 2 0 2), (AV.sl 1 true []), (AV.sl 1 true []), (AV.s (⟨#[97, 114]⟩ : ByteArray)), (AV.b false), (AV.s (⟨#[]⟩ : ByteArray))]), (AV.st [(AV.own 3 0 2), (AV.own 4 0 1), (AV.own 5 0 1), (AV.sl 1 true []), (AV.s (⟨#[99, 99, 32, 97]⟩ : ByteArray)), (AV.b true), (AV.s (⟨#[116, 119, 111]⟩ : ByteArray))]), (AV.st [(AV.own 6 0 1), (AV.own 7 0 1), (AV.sl 1 true []), (AV.own 8 0 1), (AV.s (⟨#[99, 99, 32, 98]⟩ : ByteArray)), (AV.b false), (AV.s (⟨#[116, 119, 111]⟩ : ByteArray))])]⟩), (8, some ⟨9, 1, [(⟨#[97, 46, 111]⟩ : ByteArray)].map AV.s⟩), (7, some ⟨9, 1, [(⟨#[98, 46, 99]⟩ : ByteArray)].map AV.s⟩), (6, some ⟨9, 1, [(⟨#[98, 46, 111]⟩ : ByteArray)].map AV.s⟩), (5, some ⟨9, 1, [(⟨#[97, 46, 104]⟩ : ByteArray)].map AV.s⟩), (4, some ⟨9, 1, [(⟨#[97, 46, 99]⟩ : ByteArray)].map AV.s⟩), (3, some ⟨9, 1, [(⟨#[97, 46, 111]⟩ : ByteArray), (⟨#[97, 46, 100]⟩ : ByteArray)].map AV.s⟩), (2, some ⟨9, 1, [(⟨#[97, 46, 111]⟩ : ByteArray), (⟨#[98, 46, 111]⟩ : ByteArray)].map AV.s⟩), (1, some ⟨9, 1, [(⟨#[108, 105, 98]⟩ : ByteArray)].map AV.s⟩), (0, some ⟨64, 11, [(AV.st [(AV.sl 7 true []), (AV.sl 2 true []), (AV.sl 1 true []), (AV.sl 3 true []), (AV.i .i64 (0 : Int)), (AV.sl 3 true []), (AV.sl 3 true []), (AV.sl 3 true []), (AV.i .i64 (0 : Int)), (AV.b false), (AV.sl 1 true [])])]⟩)]⟩) kr le ?_
 refine Nn (AV.own 16 0 1) ⟨121, 3, [(AV.st [(AV.s (⟨#[99, 99, 32, 97]⟩ : ByteArray)), (AV.own 15 0 1), (AV.b false)])]⟩ <| Aq (AV.st [(AV.i .i64 (4 : Int)), (AV.own 13 0 4)]) <| AOps.sn (x := (AV.st [(AV.own 9 0 3), (AV.own 10 0 1), (AV.own 11 0 1), (AV.own 16 0 1), (AV.i .i64 (4 : Int)), (AV.own 13 0 4), (AV.sl 3 true []), (AV.sl 3 true []), (AV.i .i64 (2 : Int)), (AV.b false), (AV.sl 1 true [])])) (h' := ⟨17, [(16, some ⟨121, 3, [(AV.st [(AV.s (⟨#[99, 99, 32, 97]⟩ : ByteArray)), (AV.own 15 0 1), (AV.b false)])]⟩), (15, some ⟨9, 1, [(⟨#[122, 46, 104]⟩ : ByteArray)].map AV.s⟩), (14, some ⟨60, 2, [(AV.st [(AV.i .i64 (4 : Int)), (AV.own 13 0 4)])]⟩), (13, some ⟨119, 3, [lit35ef0, litb1de5, litf2893, lit881d0].map DFile.av⟩), (12, some ⟨26, 3, [(AV.st [(AV.own 9 0 3), (AV.own 10 0 1), (AV.own 11 0 1)])]⟩), (11, some ⟨9, 1, [(⟨#[108, 105, 98]⟩ : ByteArray)].map AV.s⟩), (10, some ⟨81, 2, [(⟨(⟨#[116, 119, 111]⟩ : ByteArray), (2 : Int)⟩ : DPool)].map DPool.av⟩), (9, some ⟨76, 7, [(AV.st [(AV.own 1 0 1), (AV.own 2 0 2), (AV.sl 1 true []), (AV.sl 1 true []), (AV.s (⟨#[97, 114]⟩ : ByteArray)), (AV.b false), (AV.s (⟨#[]⟩ : ByteArray))]), (AV.st [(AV.own 3 0 2), (AV.own 4 0 1), (AV.own 5 0 1), (AV.sl 1 true []), (AV.s (⟨#[99, 99, 32, 97]⟩ : ByteArray)), (AV.b true), (AV.s (⟨#[116, 119, 111]⟩ : ByteArray))]), (AV.st [(AV.own 6 0 1), (AV.own 7 0 1), (AV.sl 1 true []), (AV.own 8 0 1), (AV.s (⟨#[99, 99, 32, 98]⟩ : ByteArray)), (AV.b false), (AV.s (⟨#[116, 119, 111]⟩ : ByteArray))])]⟩), (8, some ⟨9, 1, [(⟨#[97, 46, 111]⟩ : ByteArray)].map AV.s⟩), (7, some ⟨9, 1, [(⟨#[98, 46, 99]⟩ : ByteArray)].map AV.s⟩), (6, some ⟨9, 1, [(⟨#[98, 46, 111]⟩ : ByteArray)].map AV.s⟩), (5, some ⟨9, 1, [(⟨#[97, 46, 104]⟩ : ByteArray)].map AV.s⟩), (4, some ⟨9, 1, [(⟨#[97, 46, 99]⟩ : ByteArray)].map AV.s⟩), (3, some ⟨9, 1, [(⟨#[97, 46, 111]⟩ : ByteArray), (⟨#[97, 46, 100]⟩ : ByteArray)].map AV.s⟩), (2, some ⟨9, 1, [(⟨#[97, 46, 111]⟩ : ByteArray), (⟨#[98, 46, 111]⟩ : ByteArray)].map AV.s⟩), (1, some ⟨9, 1, [(⟨#[108, 105, 98]⟩ : ByteArray)].map AV.s⟩), (0, some ⟨64, 11, [(AV.st [(AV.sl 7 true []), (AV.sl 2 true []), (AV.sl 1 true []), (AV.sl 3 true []), (AV.i .i64 (0 : Int)), (AV.sl 3 true []), (AV.sl 3 true []), (AV.sl 3 true []), (AV.i .i64 (0 : Int)), (AV.b false), (AV.sl 1 true [])])]⟩)]⟩) kr le ?_
 refine Sp 0 ⟨64, 11, [(AV.st [(AV.own 9 0 3), (AV.own 10 0 1), (AV.own 11 0 1), (AV.own 16 0 1), (AV.i .i64 (4 : Int)), (AV.own 13 0 4), (AV.sl 3 true []), (AV.sl 3 true []), (AV.i .i64 (2 : Int)), (AV.b false), (AV.sl 1 true [])])]⟩ <| Ad <| Rt ?_
 have hM : m_2 = lit326bd := by simp only [m_2, sbt]
 exact ⟨[9, 1, 2, 3, 4, 5, 6, 7, 8, 10, 11, 16, 15, 13], Or.inr rfl, by decide, rfl, ⟨kr, ⟨kr, ⟨kr, ⟨kr, ⟨kr, ⟨kr, ⟨kr, ⟨kr, ⟨kr, ⟨kr, ⟨kr, ⟨kr, ⟨kr, ⟨kr, trivial⟩⟩⟩⟩⟩⟩⟩⟩⟩⟩⟩⟩⟩⟩, (AV.st [(AV.own 9 0 3), (AV.own 10 0 1), (AV.own 11 0 1), (AV.own 16 0 1), (AV.i .i64 (4 : Int)), (AV.own 13 0 4), (AV.sl 3 true []), (AV.sl 3 true []), (AV.i .i64 (2 : Int)), (AV.b false), (AV.sl 1 true [])]), kr, kr⟩
theorem w_law21_start (W : World) : PureAt Go.Proofs.Tryz.prog W 42 [] (DState.av m_2) [] :=
  (wd_law21_start W).freeze (Ent.st ⟨(EntD.kk (x' := (AV.own 0 0 3)) kr kr rfl (EntK.own (id := 0) (len := 3) (e := 76) (k := 7) (els := [(AV.st [(AV.own 1 0 1), (AV.own 2 0 2), (AV.sl 1 true []), (AV.sl 1 true []), (AV.s (⟨#[97, 114]⟩ : ByteArray)), (AV.b false), (AV.s (⟨#[]⟩ : ByteArray))]), (AV.st [(AV.own 3 0 2), (AV.own 4 0 1), (AV.own 5 0 1), (AV.sl 1 true []), (AV.s (⟨#[99, 99, 32, 97]⟩ : ByteArray)), (AV.b true), (AV.s (⟨#[116, 119, 111]⟩ : ByteArray))]), (AV.st [(AV.own 6 0 1), (AV.own 7 0 1), (AV.sl 1 true []), (AV.own 8 0 1), (AV.s (⟨#[99, 99, 32, 98]⟩ : ByteArray)), (AV.b false), (AV.s (⟨#[116, 119, 111]⟩ : ByteArray))])]) rfl rfl rfl sd (EntKEs.cons (EntKE.st (EntKs.cons (EntK.row (fun _ => rfl) (A := AV.s) (id := 1) (e := 9) (k := 1) (xs := [(⟨#[108, 105, 98]⟩ : ByteArray)]) rfl rfl sd sd) (EntKs.cons (EntK.row (fun _ => rfl) (A := AV.s) (id := 2) (e := 9) (k := 1) (xs := [(⟨#[97, 46, 111]⟩ : ByteArray), (⟨#[98, 46, 111]⟩ : ByteArray)]) rfl rfl sd sd) (EntKs.cons (EntK.c rfl (WeakC.nil 1)) (EntKs.cons (EntK.c rfl (WeakC.nil 1)) (EntKs.cons (EntK.cr (x := (AV.s (⟨#[97, 114]⟩ : ByteArray))) kr) (EntKs.cons (EntK.cr (x := (AV.b false)) kr) (EntKs.cons (EntK.cr (x := (AV.s (⟨#[]⟩ : ByteArray))) kr) EntKs.nil)))))))) (EntKEs.cons (EntKE.st (EntKs.cons (EntK.row (fun _ => rfl) (A := AV.s) (id := 3) (e := 9) (k := 1) (xs := [(⟨#[97, 46, 111]⟩ : ByteArray), (⟨#[97, 46, 100]⟩ : ByteArray)]) rfl rfl sd sd) (EntKs.cons (EntK.row (fun _ => rfl) (A := AV.s) (id := 4) (e := 9) (k := 1) (xs := [(⟨#[97, 46, 99]⟩ : ByteArray)]) rfl rfl sd sd) (EntKs.cons (EntK.row (fun _ => rfl) (A := AV.s) (id := 5) (e := 9) (k := 1) (xs := [(⟨#[97, 46, 104]⟩ : ByteArray)]) rfl rfl sd sd) (EntKs.cons (EntK.c rfl (WeakC.nil 1)) (EntKs.cons (EntK.cr (x := (AV.s (⟨#[99, 99, 32, 97]⟩ : ByteArray))) kr) (EntKs.cons (EntK.cr (x := (AV.b true)) kr) (EntKs.cons (EntK.cr (x := (AV.s (⟨#[116, 119, 111]⟩ : ByteArray))) kr) EntKs.nil)))))))) (EntKEs.cons (EntKE.st (EntKs.cons (EntK.row (fun _ => rfl) (A := AV.s) (id := 6) (e := 9) (k := 1) (xs := [(⟨#[98, 46, 111]⟩ : ByteArray)]) rfl rfl sd sd) (EntKs.cons (EntK.row (fun _ => rfl) (A := AV.s) (id := 7) (e := 9) (k := 1) (xs := [(⟨#[98, 46, 99]⟩ : ByteArray)]) rfl rfl sd sd) (EntKs.cons (EntK.c rfl (WeakC.nil 1)) (EntKs.cons (EntK.row (fun _ => rfl) (A := AV.s) (id := 8) (e := 9) (k := 1) (xs := [(⟨#[97, 46, 111]⟩ : ByteArray)]) rfl rfl sd sd) (EntKs.cons (EntK.cr (x := (AV.s (⟨#[99, 99, 32, 98]⟩ : ByteArray))) kr) (EntKs.cons (EntK.cr (x := (AV.b false)) kr) (EntKs.cons (EntK.cr (x := (AV.s (⟨#[116, 119, 111]⟩ : ByteArray))) kr) EntKs.nil)))))))) EntKEs.nil))))), ⟨(EntD.kk (x' := (AV.own 9 0 1)) kr kr rfl (EntK.row (fun _ => rfl) (A := DPool.av) (id := 9) (e := 81) (k := 2) (xs := [(⟨(⟨#[116, 119, 111]⟩ : ByteArray), (2 : Int)⟩ : DPool)]) rfl rfl sd sd)), ⟨(EntD.kk (x' := (AV.own 10 0 1)) kr kr rfl (EntK.row (fun _ => rfl) (A := AV.s) (id := 10) (e := 9) (k := 1) (xs := [(⟨#[108, 105, 98]⟩ : ByteArray)]) rfl rfl sd sd)), ⟨(EntD.kk (x' := (AV.own 11 0 1)) kr kr rfl (EntK.own (id := 11) (len := 1) (e := 121) (k := 3) (els := [(AV.st [(AV.s (⟨#[99, 99, 32, 97]⟩ : ByteArray)), (AV.own 12 0 1), (AV.b false)])]) rfl rfl rfl sd (EntKEs.cons (EntKE.st (EntKs.cons (EntK.cr (x := (AV.s (⟨#[99, 99, 32, 97]⟩ : ByteArray))) kr) (EntKs.cons (EntK.row (fun _ => rfl) (A := AV.s) (id := 12) (e := 9) (k := 1) (xs := [(⟨#[122, 46, 104]⟩ : ByteArray)]) rfl rfl sd sd) (EntKs.cons (EntK.cr (x := (AV.b false)) kr) EntKs.nil)))) EntKEs.nil))), ⟨(Ent.c kr kr), ⟨(EntD.kk (x' := (AV.own 13 0 4)) kr kr rfl (EntK.row (fun _ => rfl) (A := DFile.av) (id := 13) (e := 119) (k := 3) (xs := [lit35ef0, litb1de5, litf2893, lit881d0]) rfl rfl sd sd)), ⟨(Ent.w rfl (WeakC.nil 3)), ⟨(Ent.w rfl (WeakC.nil 3)), ⟨(Ent.c kr kr), ⟨(Ent.c kr kr), ⟨(Ent.w rfl (WeakC.nil 1)), trivial⟩⟩⟩⟩⟩⟩⟩⟩⟩⟩⟩ kr)
theorem wd_law21_going (W : World) : PureAt Go.Proofs.Tryz.prog W 41 [] (AV.st [(AV.own 0 0 3), (AV.own 9 0 1), (AV.own 10 0 1), (AV.own 11 0 1), (AV.i .i64 (4 : Int)), (AV.own 13 0 4), (AV.sl 3 true []), (AV.sl 3 true []), (AV.i .i64 (2 : Int)), (AV.b true), (AV.own 14 0 3)]) [⟨76, 7, [(AV.st [(AV.own 1 0 1), (AV.own 2 0 2), (AV.sl 1 true []), (AV.sl 1 true []), (AV.s (⟨#[97, 114]⟩ : ByteArray)), (AV.b false), (AV.s (⟨#[]⟩ : ByteArray))]), (AV.st [(AV.own 3 0 2), (AV.own 4 0 1), (AV.own 5 0 1), (AV.sl 1 true []), (AV.s (⟨#[99, 99, 32, 97]⟩ : ByteArray)), (AV.b true), (AV.s (⟨#[116, 119, 111]⟩ : ByteArray))]), (AV.st [(AV.own 6 0 1), (AV.own 7 0 1), (AV.sl 1 true []), (AV.own 8 0 1), (AV.s (⟨#[99, 99, 32, 98]⟩ : ByteArray)), (AV.b false), (AV.s (⟨#[116, 119, 111]⟩ : ByteArray))])]⟩, ⟨9, 1, [(⟨#[108, 105, 98]⟩ : ByteArray)].map AV.s⟩, ⟨9, 1, [(⟨#[97, 46, 111]⟩ : ByteArray), (⟨#[98, 46, 111]⟩ : ByteArray)].map AV.s⟩, ⟨9, 1, [(⟨#[97, 46, 111]⟩ : ByteArray), (⟨#[97, 46, 100]⟩ : ByteArray)].map AV.s⟩, ⟨9, 1, [(⟨#[97, 46, 99]⟩ : ByteArray)].map AV.s⟩, ⟨9, 1, [(⟨#[97, 46, 104]⟩ : ByteArray)].map AV.s⟩, ⟨9, 1, [(⟨#[98, 46, 111]⟩ : ByteArray)].map AV.s⟩, ⟨9, 1, [(⟨#[98, 46, 99]⟩ : ByteArray)].map AV.s⟩, ⟨9, 1, [(⟨#[97, 46, 111]⟩ : ByteArray)].map AV.s⟩, ⟨81, 2, [(⟨(⟨#[116, 119, 111]⟩ : ByteArray), (2 : Int)⟩ : DPool)].map DPool.av⟩, ⟨9, 1, [(⟨#[108, 105, 98]⟩ : ByteArray)].map AV.s⟩, ⟨121, 3, [(AV.st [(AV.s (⟨#[99, 99, 32, 97]⟩ : ByteArray)), (AV.own 12 0 1), (AV.b false)])]⟩, ⟨9, 1, [(⟨#[122, 46, 104]⟩ : ByteArray)].map AV.s⟩, ⟨119, 3, [lit35ef0, litb1de5, litf2893, lit881d0].map DFile.av⟩, ⟨3, 1, [(1 : Int), (1 : Int), (1 : Int)].map (AV.i .i64)⟩] := by
 refine pure_of_run tabS_ok (fn := Go.Proofs.Tryz.f41) Go.Proofs.Tryz.func41 rfl (en41 W) le <| Sq <| Rg <| Nn (AV.loc 0 0 0) ⟨64, 11, [(AV.st [(AV.sl 7 true []), (AV.sl 2 true []), (AV.sl 1 true []), (AV.sl 3 true []), (AV.i .i64 (0 : Int)), (AV.sl 3 true []), (AV.sl 3 true []), (AV.sl 3 true []), (AV.i .i64 (0 : Int)), (AV.b false), (AV.sl 1 true [])])]⟩ <| Ad <| Sq <| Rg <| Sc (AV.st [(AV.own 1 0 3), (AV.own 10 0 1), (AV.own 11 0 1), (AV.own 12 0 1), (AV.i .i64 (4 : Int)), (AV.own 14 0 4), (AV.sl 3 true []), (AV.sl 3 true []), (AV.i .i64 (2 : Int)), (AV.b false), (AV.sl 1 true [])]) (wd_law21_start W) <| Nn (AV.loc 15 0 0) ⟨64, 11, [(AV.st [(AV.sl 7 true []), (AV.sl 2 true []), (AV.sl 1 true []), (AV.sl 3 true []), (AV.i .i64 (0 : Int)), (AV.sl 3 true []), (AV.sl 3 true []), (AV.sl 3 true []), (AV.i .i64 (0 : Int)), (AV.b false), (AV.sl 1 true [])])]⟩ <| Sp 15 ⟨64, 11, [(AV.st [(AV.own 1 0 3), (AV.own 10 0 1), (AV.own 11 0 1), (AV.own 12 0 1), (AV.i .i64 (4 : Int)), (AV.own 14 0 4), (AV.sl 3 true []), (AV.sl 3 true []), (AV.i .i64 (2 : Int)), (AV.b false), (AV.sl 1 true [])])]⟩ <| Ad <| Sq <| Rg <| Aq (AV.loc 15 0 9) <| Sp 15 ⟨64, 11, [(AV.st [(AV.own 1 0 3), (AV.own 10 0 1), (AV.own 11 0 1), (AV.own 12 0 1), (AV.i .i64 (4 : Int)), (AV.own 14 0 4), (AV.sl 3 true []), (AV.sl 3 true []), (AV.i .i64 (2 : Int)), (AV.b true), (AV.sl 1 true [])])]⟩ <| Ad <| Sq <| Rg <| Nn (AV.own 16 0 3) ⟨3, 1, [(1 : Int), (1 : Int), (1 : Int)].map (AV.i .i64)⟩ <| Aq (AV.loc 15 0 10) <| Sp 15 ⟨64, 11, [(AV.st [(AV.own 1 0 3), (AV.own 10 0 1), (AV.own 11 0 1), (AV.own 12 0 1), (AV.i .i64 (4 : Int)), (AV.own 14 0 4), (AV.sl 3 true []), (AV.sl 3 true []), (AV.i .i64 (2 : Int)), (AV.b true), (AV.own 16 0 3)])]⟩ ?_
 refine Ad <| Sq <| Rg <| Aq (AV.st [(AV.own 1 0 3), (AV.own 10 0 1), (AV.own 11 0 1), (AV.own 12 0 1), (AV.i .i64 (4 : Int)), (AV.own 14 0 4), (AV.sl 3 true []), (AV.sl 3 true []), (AV.i .i64 (2 : Int)), (AV.b true), (AV.own 16 0 3)]) <| Sp 0 ⟨64, 11, [(AV.st [(AV.own 1 0 3), (AV.own 10 0 1), (AV.own 11 0 1), (AV.own 12 0 1), (AV.i .i64 (4 : Int)), (AV.own 14 0 4), (AV.sl 3 true []), (AV.sl 3 true []), (AV.i .i64 (2 : Int)), (AV.b true), (AV.own 16 0 3)])]⟩ <| Ad <| Rt ?_
 have hM : m_d = lit3a71b := by simp only [m_d, sbt]
 exact ⟨[1, 2, 3, 4, 5, 6, 7, 8, 9, 10, 11, 12, 13, 14, 16], Or.inr rfl, by decide, rfl, ⟨kr, ⟨kr, ⟨kr, ⟨kr, ⟨kr, ⟨kr, ⟨kr, ⟨kr, ⟨kr, ⟨kr, ⟨kr, ⟨kr, ⟨kr, ⟨kr, ⟨kr, trivial⟩⟩⟩⟩⟩⟩⟩⟩⟩⟩⟩⟩⟩⟩⟩, (AV.st [(AV.own 1 0 3), (AV.own 10 0 1), (AV.own 11 0 1), (AV.own 12 0 1), (AV.i .i64 (4 : Int)), (AV.own 14 0 4), (AV.sl 3 true []), (AV.sl 3 true []), (AV.i .i64 (2 : Int)), (AV.b true), (AV.own 16 0 3)]), kr, kr⟩
theorem w_law21_going (W : World) : PureAt Go.Proofs.Tryz.prog W 41 [] (DState.av m_d) [] :=
  (wd_law21_going W).freeze (Ent.st ⟨(EntD.kk (x' := (AV.own 0 0 3)) kr kr rfl (EntK.own (id := 0) (len := 3) (e := 76) (k := 7) (els := [(AV.st [(AV.own 1 0 1), (AV.own 2 0 2), (AV.sl 1 true []), (AV.sl 1 true []), (AV.s (⟨#[97, 114]⟩ : ByteArray)), (AV.b false), (AV.s (⟨#[]⟩ : ByteArray))]), (AV.st [(AV.own 3 0 2), (AV.own 4 0 1), (AV.own 5 0 1), (AV.sl 1 true []), (AV.s (⟨#[99, 99, 32, 97]⟩ : ByteArray)), (AV.b true), (AV.s (⟨#[116, 119, 111]⟩ : ByteArray))]), (AV.st [(AV.own 6 0 1), (AV.own 7 0 1), (AV.sl 1 true []), (AV.own 8 0 1), (AV.s (⟨#[99, 99, 32, 98]⟩ : ByteArray)), (AV.b false), (AV.s (⟨#[116, 119, 111]⟩ : ByteArray))])]) rfl rfl rfl sd (EntKEs.cons (EntKE.st (EntKs.cons (EntK.row (fun _ => rfl) (A := AV.s) (id := 1) (e := 9) (k := 1) (xs := [(⟨#[108, 105, 98]⟩ : ByteArray)]) rfl rfl sd sd) (EntKs.cons (EntK.row (fun _ => rfl) (A := AV.s) (id := 2) (e := 9) (k := 1) (xs := [(⟨#[97, 46, 111]⟩ : ByteArray), (⟨#[98, 46, 111]⟩ : ByteArray)]) rfl rfl sd sd) (EntKs.cons (EntK.c rfl (WeakC.nil 1)) (EntKs.cons (EntK.c rfl (WeakC.nil 1)) (EntKs.cons (EntK.cr (x := (AV.s (⟨#[97, 114]⟩ : ByteArray))) kr) (EntKs.cons (EntK.cr (x := (AV.b false)) kr) (EntKs.cons (EntK.cr (x := (AV.s (⟨#[]⟩ : ByteArray))) kr) EntKs.nil)))))))) (EntKEs.cons (EntKE.st (EntKs.cons (EntK.row (fun _ => rfl) (A := AV.s) (id := 3) (e := 9) (k := 1) (xs := [(⟨#[97, 46, 111]⟩ : ByteArray), (⟨#[97, 46, 100]⟩ : ByteArray)]) rfl rfl sd sd) (EntKs.cons (EntK.row (fun _ => rfl) (A := AV.s) (id := 4) (e := 9) (k := 1) (xs := [(⟨#[97, 46, 99]⟩ : ByteArray)]) rfl rfl sd sd) (EntKs.cons (EntK.row (fun _ => rfl) (A := AV.s) (id := 5) (e := 9) (k := 1) (xs := [(⟨#[97, 46, 104]⟩ : ByteArray)]) rfl rfl sd sd) (EntKs.cons (EntK.c rfl (WeakC.nil 1)) (EntKs.cons (EntK.cr (x := (AV.s (⟨#[99, 99, 32, 97]⟩ : ByteArray))) kr) (EntKs.cons (EntK.cr (x := (AV.b true)) kr) (EntKs.cons (EntK.cr (x := (AV.s (⟨#[116, 119, 111]⟩ : ByteArray))) kr) EntKs.nil)))))))) (EntKEs.cons (EntKE.st (EntKs.cons (EntK.row (fun _ => rfl) (A := AV.s) (id := 6) (e := 9) (k := 1) (xs := [(⟨#[98, 46, 111]⟩ : ByteArray)]) rfl rfl sd sd) (EntKs.cons (EntK.row (fun _ => rfl) (A := AV.s) (id := 7) (e := 9) (k := 1) (xs := [(⟨#[98, 46, 99]⟩ : ByteArray)]) rfl rfl sd sd) (EntKs.cons (EntK.c rfl (WeakC.nil 1)) (EntKs.cons (EntK.row (fun _ => rfl) (A := AV.s) (id := 8) (e := 9) (k := 1) (xs := [(⟨#[97, 46, 111]⟩ : ByteArray)]) rfl rfl sd sd) (EntKs.cons (EntK.cr (x := (AV.s (⟨#[99, 99, 32, 98]⟩ : ByteArray))) kr) (EntKs.cons (EntK.cr (x := (AV.b false)) kr) (EntKs.cons (EntK.cr (x := (AV.s (⟨#[116, 119, 111]⟩ : ByteArray))) kr) EntKs.nil)))))))) EntKEs.nil))))), ⟨(EntD.kk (x' := (AV.own 9 0 1)) kr kr rfl (EntK.row (fun _ => rfl) (A := DPool.av) (id := 9) (e := 81) (k := 2) (xs := [(⟨(⟨#[116, 119, 111]⟩ : ByteArray), (2 : Int)⟩ : DPool)]) rfl rfl sd sd)), ⟨(EntD.kk (x' := (AV.own 10 0 1)) kr kr rfl (EntK.row (fun _ => rfl) (A := AV.s) (id := 10) (e := 9) (k := 1) (xs := [(⟨#[108, 105, 98]⟩ : ByteArray)]) rfl rfl sd sd)), ⟨(EntD.kk (x' := (AV.own 11 0 1)) kr kr rfl (EntK.own (id := 11) (len := 1) (e := 121) (k := 3) (els := [(AV.st [(AV.s (⟨#[99, 99, 32, 97]⟩ : ByteArray)), (AV.own 12 0 1), (AV.b false)])]) rfl rfl rfl sd (EntKEs.cons (EntKE.st (EntKs.cons (EntK.cr (x := (AV.s (⟨#[99, 99, 32, 97]⟩ : ByteArray))) kr) (EntKs.cons (EntK.row (fun _ => rfl) (A := AV.s) (id := 12) (e := 9) (k := 1) (xs := [(⟨#[122, 46, 104]⟩ : ByteArray)]) rfl rfl sd sd) (EntKs.cons (EntK.cr (x := (AV.b false)) kr) EntKs.nil)))) EntKEs.nil))), ⟨(Ent.c kr kr), ⟨(EntD.kk (x' := (AV.own 13 0 4)) kr kr rfl (EntK.row (fun _ => rfl) (A := DFile.av) (id := 13) (e := 119) (k := 3) (xs := [lit35ef0, litb1de5, litf2893, lit881d0]) rfl rfl sd sd)), ⟨(Ent.w rfl (WeakC.nil 3)), ⟨(Ent.w rfl (WeakC.nil 3)), ⟨(Ent.c kr kr), ⟨(Ent.c kr kr), ⟨(EntD.kk (x' := (AV.own 14 0 3)) kr kr rfl (EntK.row (fun _ => rfl) (A := (AV.i .i64)) (id := 14) (e := 3) (k := 1) (xs := [(1 : Int), (1 : Int), (1 : Int)]) rfl rfl sd sd)), trivial⟩⟩⟩⟩⟩⟩⟩⟩⟩⟩⟩ kr)
theorem w_law21_awake (W : World) {m0 : Int} (hW : W.cell? ⟨0, 0, none⟩ = some (.int .i64 m0)) : PureAt Go.Proofs.Tryz.prog W 40 [] (AV.b m_af) [] := by
 refine pure_of_bodyC (fn := Go.Proofs.Tryz.f40) Go.Proofs.Tryz.func40 rfl (en40 W) (ts := [0]) rfl le <| Sq <| Rg <| Aq (AV.b false) <| Ad <| Sq <| Rg <| AOps.sc0 (vs := []) (r0 := (DState.av m_d)) kr kr (w_law21_going W ) kr le <| AOps.sc0 (vs := [(DState.av m_d), (AV.i .i64 (1 : Int))]) (r0 := (AV.tup [(AV.b ((m_b m_d (1 : Int)).1)), (AV.i .i64 ((m_b m_d (1 : Int)).2))])) kr kr (w_ready_Is W hW m_d (1 : Int) sd) kr le <| Aq (AV.tup [(AV.b ((m_b m_d (1 : Int)).1)), (AV.i .i64 ((m_b m_d (1 : Int)).2))]) <| Aq (AV.b ((m_b m_d (1 : Int)).1)) <| Aq (AV.i .i64 ((m_b m_d (1 : Int)).2)) <| Aq (AV.b ((m_b m_d (1 : Int)).1)) <| Aq (AV.i .i64 ((m_b m_d (1 : Int)).2)) <| Ad <| Sq <| Rg <| AOps.sc0 (vs := []) (r0 := (DState.av m_d)) kr kr (w_law21_going W ) kr le <| AOps.sc0 (vs := [(DState.av m_d), (AV.i .i64 (2 : Int))]) (r0 := (AV.tup [(AV.b ((m_b m_d (2 : Int)).1)), (AV.i .i64 ((m_b m_d (2 : Int)).2))])) kr kr (w_ready_Is W hW m_d (2 : Int) sd) kr le <| Aq (AV.tup [(AV.b ((m_b m_d (2 : Int)).1)), (AV.i .i64 ((m_b m_d (2 : Int)).2))]) <| Aq (AV.b ((m_b m_d (2 : Int)).1)) <| Aq (AV.i .i64 ((m_b m_d (2 : Int)).2)) <| Aq (AV.b ((m_b m_d (2 : Int)).1)) <| Aq (AV.i .i64 ((m_b m_d (2 : Int)).2)) ?_
 refine Ad <| Sq <| Rg <| AOps.sc0 (vs := []) (r0 := (DState.av m_2)) kr kr (w_law21_start W ) kr le <| AOps.sc0 (vs := [(DState.av m_2), (AV.i .i64 (1 : Int))]) (r0 := (AV.tup [(AV.b ((m_b m_2 (1 : Int)).1)), (AV.i .i64 ((m_b m_2 (1 : Int)).2))])) kr kr (w_ready_Is W hW m_2 (1 : Int) sd) kr le <| Aq (AV.tup [(AV.b ((m_b m_2 (1 : Int)).1)), (AV.i .i64 ((m_b m_2 (1 : Int)).2))]) <| Aq (AV.b ((m_b m_2 (1 : Int)).1)) <| Aq (AV.i .i64 ((m_b m_2 (1 : Int)).2)) <| Aq (AV.b ((m_b m_2 (1 : Int)).1)) <| Aq (AV.i .i64 ((m_b m_2 (1 : Int)).2)) <| Ad <| Sq <| Rg <| AOps.sc0 (vs := []) (r0 := (DState.av m_d)) kr kr (w_law21_going W ) kr le <| AOps.sc0 (vs := [(DState.av m_d), (AV.i .i64 (3 : Int))]) (r0 := (AV.tup [(AV.b ((m_b m_d (3 : Int)).1)), (AV.i .i64 ((m_b m_d (3 : Int)).2))])) kr kr (w_ready_Is W hW m_d (3 : Int) sd) kr le <| Aq (AV.tup [(AV.b ((m_b m_d (3 : Int)).1)), (AV.i .i64 ((m_b m_d (3 : Int)).2))]) <| Aq (AV.b ((m_b m_d (3 : Int)).1)) <| Aq (AV.i .i64 ((m_b m_d (3 : Int)).2)) <| Aq (AV.b ((m_b m_d (3 : Int)).1)) <| Aq (AV.i .i64 ((m_b m_d (3 : Int)).2)) <| Ad <| Sq <| Rg <| Sc (AV.st [(AV.own 0 0 3), (AV.own 9 0 1), (AV.own 10 0 1), (AV.own 11 0 1), (AV.i .i64 (4 : Int)), (AV.own 13 0 4), (AV.sl 3 true []), (AV.sl 3 true []), (AV.i .i64 (2 : Int)), (AV.b true), (AV.own 14 0 3)]) (wd_law21_going W) ?_
 refine Nn (AV.loc 15 0 0) ⟨64, 11, [(AV.st [(AV.sl 7 true []), (AV.sl 2 true []), (AV.sl 1 true []), (AV.sl 3 true []), (AV.i .i64 (0 : Int)), (AV.sl 3 true []), (AV.sl 3 true []), (AV.sl 3 true []), (AV.i .i64 (0 : Int)), (AV.b false), (AV.sl 1 true [])])]⟩ <| Sp 15 ⟨64, 11, [(AV.st [(AV.own 0 0 3), (AV.own 9 0 1), (AV.own 10 0 1), (AV.own 11 0 1), (AV.i .i64 (4 : Int)), (AV.own 13 0 4), (AV.sl 3 true []), (AV.sl 3 true []), (AV.i .i64 (2 : Int)), (AV.b true), (AV.own 14 0 3)])]⟩ <| Ad <| Sq <| Awp.regionR <| ROps.run tabS_ok 2 le <| Aq (AV.loc 15 0 10) <| Aq (AV.own 14 0 3) <| Ad <| ROps.over (Over.fits [0, 1, 2, 3, 4, 5, 6, 7, 8, 9, 10, 11, 12, 13, 15] (env1 := [(1, (AV.b ((m_b m_d (1 : Int)).1))), (2, (AV.i .i64 ((m_b m_d (1 : Int)).2))), (3, (AV.b ((m_b m_d (2 : Int)).1))), (4, (AV.i .i64 ((m_b m_d (2 : Int)).2))), (5, (AV.b ((m_b m_2 (1 : Int)).1))), (6, (AV.i .i64 ((m_b m_2 (1 : Int)).2))), (8, (AV.i .i64 ((m_b m_d (3 : Int)).2))), (9, (AV.loc 14 0 0)), (34, ((slA 1 (AV.i .i64)) [(1 : Int), (1 : Int), (1 : Int)]))]) (h1 := ⟨15, [(14, some ⟨64, 11, [(AV.st [(AV.own 0 0 3), (AV.own 9 0 1), (AV.own 10 0 1), (AV.own 11 0 1), (AV.i .i64 (4 : Int)), (AV.own 13 0 4), (AV.sl 3 true []), (AV.sl 3 true []), (AV.i .i64 (2 : Int)), (AV.b true), ((slA 1 (AV.i .i64)) [(1 : Int), (1 : Int), (1 : Int)])])]⟩), (13, some ⟨119, 3, [lit35ef0, litb1de5, litf2893, lit881d0].map DFile.av⟩), (12, some ⟨9, 1, [(⟨#[122, 46, 104]⟩ : ByteArray)].map AV.s⟩), (11, some ⟨121, 3, [(AV.st [(AV.s (⟨#[99, 99, 32, 97]⟩ : ByteArray)), (AV.own 12 0 1), (AV.b false)])]⟩), (10, some ⟨9, 1, [(⟨#[108, 105, 98]⟩ : ByteArray)].map AV.s⟩), (9, some ⟨81, 2, [(⟨(⟨#[116, 119, 111]⟩ : ByteArray), (2 : Int)⟩ : DPool)].map DPool.av⟩), (8, some ⟨9, 1, [(⟨#[97, 46, 111]⟩ : ByteArray)].map AV.s⟩), (7, some ⟨9, 1, [(⟨#[98, 46, 99]⟩ : ByteArray)].map AV.s⟩), (6, some ⟨9, 1, [(⟨#[98, 46, 111]⟩ : ByteArray)].map AV.s⟩), (5, some ⟨9, 1, [(⟨#[97, 46, 104]⟩ : ByteArray)].map AV.s⟩), (4, some ⟨9, 1, [(⟨#[97, 46, 99]⟩ : ByteArray)].map AV.s⟩), (3, some ⟨9, 1, [(⟨#[97, 46, 111]⟩ : ByteArray), (⟨#[97, 46, 100]⟩ : ByteArray)].map AV.s⟩), (2, some ⟨9, 1, [(⟨#[97, 46, 111]⟩ : ByteArray), (⟨#[98, 46, 111]⟩ : ByteArray)].map AV.s⟩), (1, some ⟨9, 1, [(⟨#[108, 105, 98]⟩ : ByteArray)].map AV.s⟩), (0, some ⟨76, 7, [(AV.st [(AV.own 1 0 1), (AV.own 2 0 2), (AV.sl 1 true []), (AV.sl 1 true []), (AV.s (⟨#[97, 114]⟩ : ByteArray)), (AV.b false), (AV.s (⟨#[]⟩ : ByteArray))]), (AV.st [(AV.own 3 0 2), (AV.own 4 0 1), (AV.own 5 0 1), (AV.sl 1 true []), (AV.s (⟨#[99, 99, 32, 97]⟩ : ByteArray)), (AV.b true), (AV.s (⟨#[116, 119, 111]⟩ : ByteArray))]), (AV.st [(AV.own 6 0 1), (AV.own 7 0 1), (AV.sl 1 true []), (AV.own 8 0 1), (AV.s (⟨#[99, 99, 32, 98]⟩ : ByteArray)), (AV.b false), (AV.s (⟨#[116, 119, 111]⟩ : ByteArray))])]⟩)]⟩) ⟨by decide, rfl, (FitsObjs.cons kr (FitsObjs.cons (obj_row (fun _ => rfl) (e := 9) (k := 1) (A := AV.s) (xs := [(⟨#[108, 105, 98]⟩ : ByteArray)]) rfl rfl) (FitsObjs.cons (obj_row (fun _ => rfl) (e := 9) (k := 1) (A := AV.s) (xs := [(⟨#[97, 46, 111]⟩ : ByteArray), (⟨#[98, 46, 111]⟩ : ByteArray)]) rfl rfl) (FitsObjs.cons (obj_row (fun _ => rfl) (e := 9) (k := 1) (A := AV.s) (xs := [(⟨#[97, 46, 111]⟩ : ByteArray), (⟨#[97, 46, 100]⟩ : ByteArray)]) rfl rfl) (FitsObjs.cons (obj_row (fun _ => rfl) (e := 9) (k := 1) (A := AV.s) (xs := [(⟨#[97, 46, 99]⟩ : ByteArray)]) rfl rfl) (FitsObjs.cons (obj_row (fun _ => rfl) (e := 9) (k := 1) (A := AV.s) (xs := [(⟨#[97, 46, 104]⟩ : ByteArray)]) rfl rfl) (FitsObjs.cons (obj_row (fun _ => rfl) (e := 9) (k := 1) (A := AV.s) (xs := [(⟨#[98, 46, 111]⟩ : ByteArray)]) rfl rfl) (FitsObjs.cons (obj_row (fun _ => rfl) (e := 9) (k := 1) (A := AV.s) (xs := [(⟨#[98, 46, 99]⟩ : ByteArray)]) rfl rfl) (FitsObjs.cons (obj_row (fun _ => rfl) (e := 9) (k := 1) (A := AV.s) (xs := [(⟨#[97, 46, 111]⟩ : ByteArray)]) rfl rfl) (FitsObjs.cons (obj_row (fun _ => rfl) (e := 81) (k := 2) (A := DPool.av) (xs := [(⟨(⟨#[116, 119, 111]⟩ : ByteArray), (2 : Int)⟩ : DPool)]) rfl rfl) (FitsObjs.cons (obj_row (fun _ => rfl) (e := 9) (k := 1) (A := AV.s) (xs := [(⟨#[108, 105, 98]⟩ : ByteArray)]) rfl rfl) (FitsObjs.cons kr (FitsObjs.cons (obj_row (fun _ => rfl) (e := 9) (k := 1) (A := AV.s) (xs := [(⟨#[122, 46, 104]⟩ : ByteArray)]) rfl rfl) (FitsObjs.cons (obj_row (fun _ => rfl) (e := 119) (k := 3) (A := DFile.av) (xs := [lit35ef0, litb1de5, litf2893, lit881d0]) rfl rfl) (FitsObjs.cons kr FitsObjs.nil))))))))))))))), (Ee (Ee (Ee (Ee (Ee (Ee (Ee (EntE.cons (Ent.f kr) (EntE.cons (EntD.kk (x' := (AV.own 14 0 3)) kr kr rfl (EntK.row (fun _ => rfl) (A := (AV.i .i64)) (id := 14) (e := 3) (k := 1) (xs := [(1 : Int), (1 : Int), (1 : Int)]) rfl rfl sd sd)) EntE.nil)))))))))⟩ keep0) ?_
 refine ROps.run tabS_ok 3 le <| Ap ((slA 1 (AV.i .i64)) (([(1 : Int), (1 : Int), (1 : Int)].take [(1 : Int), (1 : Int), (1 : Int)].length).drop 1)) (g_cutL (k := 1) (nl := false) (e := 3) (l := (some (1 : Int))) (g := none) (A := (AV.i .i64)) (xs := [(1 : Int), (1 : Int), (1 : Int)]) (a := 1) (b := [(1 : Int), (1 : Int), (1 : Int)].length) kr kr ⟨by kernel_rfl, by decide⟩ kr kr rfl rfl sd sd) <| Aq (AV.loc 14 0 10) <| Sp 14 ⟨64, 11, [(AV.st [(AV.own 0 0 3), (AV.own 9 0 1), (AV.own 10 0 1), (AV.own 11 0 1), (AV.i .i64 (4 : Int)), (AV.own 13 0 4), (AV.sl 3 true []), (AV.sl 3 true []), (AV.i .i64 (2 : Int)), (AV.b true), ((slA 1 (AV.i .i64)) (([(1 : Int), (1 : Int), (1 : Int)].take [(1 : Int), (1 : Int), (1 : Int)].length).drop 1))])]⟩ <| Ad <| ROps.fin rfl <| Sq <| Rg <| Aq (AV.st [(AV.own 0 0 3), (AV.own 9 0 1), (AV.own 10 0 1), (AV.own 11 0 1), (AV.i .i64 (4 : Int)), (AV.own 13 0 4), (AV.sl 3 true []), (AV.sl 3 true []), (AV.i .i64 (2 : Int)), (AV.b true), ((slA 1 (AV.i .i64)) (([(1 : Int), (1 : Int), (1 : Int)].take [(1 : Int), (1 : Int), (1 : Int)].length).drop 1))]) <| AOps.sfw (vs := [(AV.st [(AV.own 0 0 3), (AV.own 9 0 1), (AV.own 10 0 1), (AV.own 11 0 1), (AV.i .i64 (4 : Int)), (AV.own 13 0 4), (AV.sl 3 true []), (AV.sl 3 true []), (AV.i .i64 (2 : Int)), (AV.b true), ((slA 1 (AV.i .i64)) (([(1 : Int), (1 : Int), (1 : Int)].take [(1 : Int), (1 : Int), (1 : Int)].length).drop 1))]), (AV.i .i64 (1 : Int))]) (ss := [(DState.av (⟨lit7e8b3, [lit2ad7b], lit8f7a1, [], [], (2 : Int), true, (([(1 : Int), (1 : Int), (1 : Int)].take [(1 : Int), (1 : Int), (1 : Int)].length).drop 1)⟩ : DState)), (AV.i .i64 (1 : Int))]) (r0 := (AV.tup [(AV.b ((m_b (⟨lit7e8b3, [lit2ad7b], lit8f7a1, [], [], (2 : Int), true, (([(1 : Int), (1 : Int), (1 : Int)].take [(1 : Int), (1 : Int), (1 : Int)].length).drop 1)⟩ : DState) (1 : Int)).1)), (AV.i .i64 ((m_b (⟨lit7e8b3, [lit2ad7b], lit8f7a1, [], [], (2 : Int), true, (([(1 : Int), (1 : Int), (1 : Int)].take [(1 : Int), (1 : Int), (1 : Int)].length).drop 1)⟩ : DState) (1 : Int)).2))])) kr (show SnapW _ _ _ from ⟨(EntK.w (EntK.cast (x' := (AV.st [(AV.own 0 0 3), (AV.own 9 0 1), (AV.own 10 0 1), (AV.own 11 0 1), (AV.i .i64 (4 : Int)), (AV.own 13 0 4), (AV.sl 3 true []), (AV.sl 3 true []), (AV.i .i64 (2 : Int)), (AV.b true), ((slA 1 (AV.i .i64)) (([(1 : Int), (1 : Int), (1 : Int)].take [(1 : Int), (1 : Int), (1 : Int)].length).drop 1))])) kr kr (EntK.st (EntKs.cons (EntK.own (id := 0) (len := 3) (e := 76) (k := 7) (els := [(AV.st [(AV.own 1 0 1), (AV.own 2 0 2), (AV.sl 1 true []), (AV.sl 1 true []), (AV.s (⟨#[97, 114]⟩ : ByteArray)), (AV.b false), (AV.s (⟨#[]⟩ : ByteArray))]), (AV.st [(AV.own 3 0 2), (AV.own 4 0 1), (AV.own 5 0 1), (AV.sl 1 true []), (AV.s (⟨#[99, 99, 32, 97]⟩ : ByteArray)), (AV.b true), (AV.s (⟨#[116, 119, 111]⟩ : ByteArray))]), (AV.st [(AV.own 6 0 1), (AV.own 7 0 1), (AV.sl 1 true []), (AV.own 8 0 1), (AV.s (⟨#[99, 99, 32, 98]⟩ : ByteArray)), (AV.b false), (AV.s (⟨#[116, 119, 111]⟩ : ByteArray))])]) rfl rfl rfl sd (EntKEs.cons (EntKE.st (EntKs.cons (EntK.row (fun _ => rfl) (A := AV.s) (id := 1) (e := 9) (k := 1) (xs := [(⟨#[108, 105, 98]⟩ : ByteArray)]) rfl rfl sd sd) (EntKs.cons (EntK.row (fun _ => rfl) (A := AV.s) (id := 2) (e := 9) (k := 1) (xs := [(⟨#[97, 46, 111]⟩ : ByteArray), (⟨#[98, 46, 111]⟩ : ByteArray)]) rfl rfl sd sd) (EntKs.cons (EntK.c rfl (WeakC.nil 1)) (EntKs.cons (EntK.c rfl (WeakC.nil 1)) (EntKs.cons (EntK.cr (x := (AV.s (⟨#[97, 114]⟩ : ByteArray))) kr) (EntKs.cons (EntK.cr (x := (AV.b false)) kr) (EntKs.cons (EntK.cr (x := (AV.s (⟨#[]⟩ : ByteArray))) kr) EntKs.nil)))))))) (EntKEs.cons (EntKE.st (EntKs.cons (EntK.row (fun _ => rfl) (A := AV.s) (id := 3) (e := 9) (k := 1) (xs := [(⟨#[97, 46, 111]⟩ : ByteArray), (⟨#[97, 46, 100]⟩ : ByteArray)]) rfl rfl sd sd) (EntKs.cons (EntK.row (fun _ => rfl) (A := AV.s) (id := 4) (e := 9) (k := 1) (xs := [(⟨#[97, 46, 99]⟩ : ByteArray)]) rfl rfl sd sd) (EntKs.cons (EntK.row (fun _ => rfl) (A := AV.s) (id := 5) (e := 9) (k := 1) (xs := [(⟨#[97, 46, 104]⟩ : ByteArray)]) rfl rfl sd sd) (EntKs.cons (EntK.c rfl (WeakC.nil 1)) (EntKs.cons (EntK.cr (x := (AV.s (⟨#[99, 99, 32, 97]⟩ : ByteArray))) kr) (EntKs.cons (EntK.cr (x := (AV.b true)) kr) (EntKs.cons (EntK.cr (x := (AV.s (⟨#[116, 119, 111]⟩ : ByteArray))) kr) EntKs.nil)))))))) (EntKEs.cons (EntKE.st (EntKs.cons (EntK.row (fun _ => rfl) (A := AV.s) (id := 6) (e := 9) (k := 1) (xs := [(⟨#[98, 46, 111]⟩ : ByteArray)]) rfl rfl sd sd) (EntKs.cons (EntK.row (fun _ => rfl) (A := AV.s) (id := 7) (e := 9) (k := 1) (xs := [(⟨#[98, 46, 99]⟩ : ByteArray)]) rfl rfl sd sd) (EntKs.cons (EntK.c rfl (WeakC.nil 1)) (EntKs.cons (EntK.row (fun _ => rfl) (A := AV.s) (id := 8) (e := 9) (k := 1) (xs := [(⟨#[97, 46, 111]⟩ : ByteArray)]) rfl rfl sd sd) (EntKs.cons (EntK.cr (x := (AV.s (⟨#[99, 99, 32, 98]⟩ : ByteArray))) kr) (EntKs.cons (EntK.cr (x := (AV.b false)) kr) (EntKs.cons (EntK.cr (x := (AV.s (⟨#[116, 119, 111]⟩ : ByteArray))) kr) EntKs.nil)))))))) EntKEs.nil)))) (EntKs.cons (EntK.row (fun _ => rfl) (A := DPool.av) (id := 9) (e := 81) (k := 2) (xs := [(⟨(⟨#[116, 119, 111]⟩ : ByteArray), (2 : Int)⟩ : DPool)]) rfl rfl sd sd) (EntKs.cons (EntK.row (fun _ => rfl) (A := AV.s) (id := 10) (e := 9) (k := 1) (xs := [(⟨#[108, 105, 98]⟩ : ByteArray)]) rfl rfl sd sd) (EntKs.cons (EntK.own (id := 11) (len := 1) (e := 121) (k := 3) (els := [(AV.st [(AV.s (⟨#[99, 99, 32, 97]⟩ : ByteArray)), (AV.own 12 0 1), (AV.b false)])]) rfl rfl rfl sd (EntKEs.cons (EntKE.st (EntKs.cons (EntK.cr (x := (AV.s (⟨#[99, 99, 32, 97]⟩ : ByteArray))) kr) (EntKs.cons (EntK.row (fun _ => rfl) (A := AV.s) (id := 12) (e := 9) (k := 1) (xs := [(⟨#[122, 46, 104]⟩ : ByteArray)]) rfl rfl sd sd) (EntKs.cons (EntK.cr (x := (AV.b false)) kr) EntKs.nil)))) EntKEs.nil)) (EntKs.cons (EntK.cr (x := (AV.i .i64 (4 : Int))) kr) (EntKs.cons (EntK.row (fun _ => rfl) (A := DFile.av) (id := 13) (e := 119) (k := 3) (xs := [lit35ef0, litb1de5, litf2893, lit881d0]) rfl rfl sd sd) (EntKs.cons (EntK.c rfl (WeakC.nil 3)) (EntKs.cons (EntK.c rfl (WeakC.nil 3)) (EntKs.cons (EntK.cr (x := (AV.i .i64 (2 : Int))) kr) (EntKs.cons (EntK.cr (x := (AV.b true)) kr) (EntKs.cons (EntK.cr (x := ((slA 1 (AV.i .i64)) (([(1 : Int), (1 : Int), (1 : Int)].take [(1 : Int), (1 : Int), (1 : Int)].length).drop 1))) kr) EntKs.nil)))))))))))))), ⟨(SnapW.e kr), trivial⟩⟩) (w_ready_Is W hW (⟨lit7e8b3, [lit2ad7b], lit8f7a1, [], [], (2 : Int), true, (([(1 : Int), (1 : Int), (1 : Int)].take [(1 : Int), (1 : Int), (1 : Int)].length).drop 1)⟩ : DState) (1 : Int) sd) rfl kr le ?_
 refine Aq (AV.tup [(AV.b ((m_b (⟨lit7e8b3, [lit2ad7b], lit8f7a1, [], [], (2 : Int), true, (([(1 : Int), (1 : Int), (1 : Int)].take [(1 : Int), (1 : Int), (1 : Int)].length).drop 1)⟩ : DState) (1 : Int)).1)), (AV.i .i64 ((m_b (⟨lit7e8b3, [lit2ad7b], lit8f7a1, [], [], (2 : Int), true, (([(1 : Int), (1 : Int), (1 : Int)].take [(1 : Int), (1 : Int), (1 : Int)].length).drop 1)⟩ : DState) (1 : Int)).2))]) ?_
 refine Aq (AV.b ((m_b (⟨lit7e8b3, [lit2ad7b], lit8f7a1, [], [], (2 : Int), true, (([(1 : Int), (1 : Int), (1 : Int)].take [(1 : Int), (1 : Int), (1 : Int)].length).drop 1)⟩ : DState) (1 : Int)).1)) <| Aq (AV.i .i64 ((m_b (⟨lit7e8b3, [lit2ad7b], lit8f7a1, [], [], (2 : Int), true, (([(1 : Int), (1 : Int), (1 : Int)].take [(1 : Int), (1 : Int), (1 : Int)].length).drop 1)⟩ : DState) (1 : Int)).2)) ?_
 refine Aq (AV.b ((m_b (⟨lit7e8b3, [lit2ad7b], lit8f7a1, [], [], (2 : Int), true, (([(1 : Int), (1 : Int), (1 : Int)].take [(1 : Int), (1 : Int), (1 : Int)].length).drop 1)⟩ : DState) (1 : Int)).1)) <| Aq (AV.i .i64 ((m_b (⟨lit7e8b3, [lit2ad7b], lit8f7a1, [], [], (2 : Int), true, (([(1 : Int), (1 : Int), (1 : Int)].take [(1 : Int), (1 : Int), (1 : Int)].length).drop 1)⟩ : DState) (1 : Int)).2)) ?_
 refine Ad <| Sq <| Rg <| Aq (AV.b ((m_b m_d (1 : Int)).1)) <| Aq (AV.b ((m_b m_d (1 : Int)).1)) ?_
 cases c_1 : (m_b m_d (1 : Int)).1
 refine An <| An <| An <| Aq (AV.b false) <| Aq (AV.b false) <| An <| An <| Aq (AV.b false) <| Aq (AV.b false) <| An <| An <| An <| Aq (AV.b false) <| Aq (AV.b false) <| An <| An <| Aq (AV.b false) <| Aq (AV.b false) <| An <| An <| An <| Aq (AV.b false) <| Aq (AV.b false) <| An <| An <| An <| Aq (AV.b false) <| Aq (AV.b false) <| An <| An <| An <| Aq (AV.b false) <| Aq (AV.b false) <| Ad <| Rt ?_
 have hM : m_af = false := by simp only [m_af, c_1, sbt]
 refine ⟨Or.inr rfl, ?_⟩
 rw [hM]
 exact Ec
 refine Ay <| Aq (AV.i .i64 ((m_b m_d (1 : Int)).2)) <| Ay <| AOps.sc0 (vs := [(AV.i .i64 ((m_b m_d (1 : Int)).2))]) (r0 := (AV.i .i64 (m_z ((m_b m_d (1 : Int)).2)))) kr kr (w_law0_Num W ((m_b m_d (1 : Int)).2)) kr le <| Ay <| Aq (AV.b (decide ((m_z ((m_b m_d (1 : Int)).2)) = (0 : Int)))) <| Aq (AV.b (decide ((m_z ((m_b m_d (1 : Int)).2)) = (0 : Int)))) <| Aq (AV.b (decide ((m_z ((m_b m_d (1 : Int)).2)) = (0 : Int)))) ?_
 cases c_2 : decide ((m_z ((m_b m_d (1 : Int)).2)) = (0 : Int))
 have k_2 := of_decide_eq_false c_2
 refine An <| An <| Aq (AV.b false) <| Aq (AV.b false) <| An <| An <| An <| Aq (AV.b false) <| Aq (AV.b false) <| An <| An <| Aq (AV.b false) <| Aq (AV.b false) <| An <| An <| An <| Aq (AV.b false) <| Aq (AV.b false) <| An <| An <| An <| Aq (AV.b false) <| Aq (AV.b false) <| An <| An <| An <| Aq (AV.b false) <| Aq (AV.b false) <| Ad <| Rt ?_
 have hM : m_af = false := by simp only [m_af, c_1, c_2, sbt]
 refine ⟨Or.inr rfl, ?_⟩
 rw [hM]
 exact Ec
 have k_2 := of_decide_eq_true c_2
 refine Ay <| Aq (AV.b ((m_b m_d (2 : Int)).1)) <| Ay <| Aq (AV.b (!(m_b m_d (2 : Int)).1)) <| Aq (AV.b (!(m_b m_d (2 : Int)).1)) <| Aq (AV.b (!(m_b m_d (2 : Int)).1)) ?_
 cases c_3 : (!(m_b m_d (2 : Int)).1)
 refine An <| An <| An <| Aq (AV.b false) <| Aq (AV.b false) <| An <| An <| Aq (AV.b false) <| Aq (AV.b false) <| An <| An <| An <| Aq (AV.b false) <| Aq (AV.b false) <| An <| An <| An <| Aq (AV.b false) <| Aq (AV.b false) <| An <| An <| An <| Aq (AV.b false) <| Aq (AV.b false) <| Ad <| Rt ?_
 have hM : m_af = false := by simp only [m_af, c_1, c_2, c_3, sbt]
 refine ⟨Or.inr rfl, ?_⟩
 rw [hM]
 exact Ec
 refine Ay <| Aq (AV.i .i64 ((m_b m_d (2 : Int)).2)) <| Ay <| AOps.sc0 (vs := [(AV.i .i64 ((m_b m_d (2 : Int)).2))]) (r0 := (AV.i .i64 (m_z ((m_b m_d (2 : Int)).2)))) kr kr (w_law0_Num W ((m_b m_d (2 : Int)).2)) kr le <| Ay <| Aq (AV.b (decide ((m_z ((m_b m_d (2 : Int)).2)) = (0 : Int)))) <| Aq (AV.b (decide ((m_z ((m_b m_d (2 : Int)).2)) = (0 : Int)))) <| Aq (AV.b (decide ((m_z ((m_b m_d (2 : Int)).2)) = (0 : Int)))) ?_
 cases c_4 : decide ((m_z ((m_b m_d (2 : Int)).2)) = (0 : Int))
 have k_4 := of_decide_eq_false c_4
 refine An <| An <| Aq (AV.b false) <| Aq (AV.b false) <| An <| An <| An <| Aq (AV.b false) <| Aq (AV.b false) <| An <| An <| An <| Aq (AV.b false) <| Aq (AV.b false) <| An <| An <| An <| Aq (AV.b false) <| Aq (AV.b false) <| Ad <| Rt ?_
 have hM : m_af = false := by simp only [m_af, c_1, c_2, c_3, c_4, sbt]
 refine ⟨Or.inr rfl, ?_⟩
 rw [hM]
 exact Ec
 have k_4 := of_decide_eq_true c_4
 refine Ay <| Aq (AV.b ((m_b m_2 (1 : Int)).1)) <| Ay <| Aq (AV.b (!(m_b m_2 (1 : Int)).1)) <| Aq (AV.b (!(m_b m_2 (1 : Int)).1)) <| Aq (AV.b (!(m_b m_2 (1 : Int)).1)) ?_
 cases c_5 : (!(m_b m_2 (1 : Int)).1)
 refine An <| An <| An <| Aq (AV.b false) <| Aq (AV.b false) <| An <| An <| An <| Aq (AV.b false) <| Aq (AV.b false) <| An <| An <| An <| Aq (AV.b false) <| Aq (AV.b false) <| Ad <| Rt ?_
 have hM : m_af = false := by simp only [m_af, c_1, c_2, c_3, c_4, c_5, sbt]
 refine ⟨Or.inr rfl, ?_⟩
 rw [hM]
 exact Ec
 refine Ay <| Aq (AV.i .i64 ((m_b m_2 (1 : Int)).2)) <| Ay <| AOps.sc0 (vs := [(AV.i .i64 ((m_b m_2 (1 : Int)).2))]) (r0 := (AV.i .i64 (m_z ((m_b m_2 (1 : Int)).2)))) kr kr (w_law0_Num W ((m_b m_2 (1 : Int)).2)) kr le <| Ay <| Aq (AV.b (decide ((m_z ((m_b m_2 (1 : Int)).2)) = (0 : Int)))) <| Aq (AV.b (decide ((m_z ((m_b m_2 (1 : Int)).2)) = (0 : Int)))) <| Aq (AV.b (decide ((m_z ((m_b m_2 (1 : Int)).2)) = (0 : Int)))) ?_
 cases c_6 : decide ((m_z ((m_b m_2 (1 : Int)).2)) = (0 : Int))
 have k_6 := of_decide_eq_false c_6
 refine An <| An <| An <| Aq (AV.b false) <| Aq (AV.b false) <| An <| An <| An <| Aq (AV.b false) <| Aq (AV.b false) <| Ad <| Rt ?_
 have hM : m_af = false := by simp only [m_af, c_1, c_2, c_3, c_4, c_5, c_6, sbt]
 refine ⟨Or.inr rfl, ?_⟩
 rw [hM]
 exact Ec
 have k_6 := of_decide_eq_true c_6
 refine Ay <| Aq (AV.i .i64 ((m_b m_d (3 : Int)).2)) <| Ay <| AOps.sc0 (vs := [(AV.i .i64 ((m_b m_d (3 : Int)).2))]) (r0 := (AV.i .i64 (m_z ((m_b m_d (3 : Int)).2)))) kr kr (w_law0_Num W ((m_b m_d (3 : Int)).2)) kr le <| Ay <| Aq (AV.b (decide ((m_z ((m_b m_d (3 : Int)).2)) = (2100 : Int)))) <| Aq (AV.b (decide ((m_z ((m_b m_d (3 : Int)).2)) = (2100 : Int)))) <| Aq (AV.b (decide ((m_z ((m_b m_d (3 : Int)).2)) = (2100 : Int)))) ?_
 cases c_7 : decide ((m_z ((m_b m_d (3 : Int)).2)) = (2100 : Int))
 have k_7 := of_decide_eq_false c_7
 refine An <| An <| An <| Aq (AV.b false) <| Aq (AV.b false) <| Ad <| Rt ?_
 have hM : m_af = false := by simp only [m_af, c_1, c_2, c_3, c_4, c_5, c_6, c_7, sbt]
 refine ⟨Or.inr rfl, ?_⟩
 rw [hM]
 exact Ec
 have k_7 := of_decide_eq_true c_7
 refine Ay <| Aq (AV.i .i64 ((m_b (⟨lit7e8b3, [lit2ad7b], lit8f7a1, [], [], (2 : Int), true, (([(1 : Int), (1 : Int), (1 : Int)].take [(1 : Int), (1 : Int), (1 : Int)].length).drop 1)⟩ : DState) (1 : Int)).2)) <| Ay <| AOps.sc0 (vs := [(AV.i .i64 ((m_b (⟨lit7e8b3, [lit2ad7b], lit8f7a1, [], [], (2 : Int), true, (([(1 : Int), (1 : Int), (1 : Int)].take [(1 : Int), (1 : Int), (1 : Int)].length).drop 1)⟩ : DState) (1 : Int)).2))]) (r0 := (AV.i .i64 (m_z ((m_b (⟨lit7e8b3, [lit2ad7b], lit8f7a1, [], [], (2 : Int), true, (([(1 : Int), (1 : Int), (1 : Int)].take [(1 : Int), (1 : Int), (1 : Int)].length).drop 1)⟩ : DState) (1 : Int)).2)))) kr kr (w_law0_Num W ((m_b (⟨lit7e8b3, [lit2ad7b], lit8f7a1, [], [], (2 : Int), true, (([(1 : Int), (1 : Int), (1 : Int)].take [(1 : Int), (1 : Int), (1 : Int)].length).drop 1)⟩ : DState) (1 : Int)).2)) kr le ?_
 refine Ay <| Aq (AV.b (decide ((m_z ((m_b (⟨lit7e8b3, [lit2ad7b], lit8f7a1, [], [], (2 : Int), true, (([(1 : Int), (1 : Int), (1 : Int)].take [(1 : Int), (1 : Int), (1 : Int)].length).drop 1)⟩ : DState) (1 : Int)).2)) = (2100 : Int)))) <| Aq (AV.b (decide ((m_z ((m_b (⟨lit7e8b3, [lit2ad7b], lit8f7a1, [], [], (2 : Int), true, (([(1 : Int), (1 : Int), (1 : Int)].take [(1 : Int), (1 : Int), (1 : Int)].length).drop 1)⟩ : DState) (1 : Int)).2)) = (2100 : Int)))) ?_
 refine Aq (AV.b (decide ((m_z ((m_b (⟨lit7e8b3, [lit2ad7b], lit8f7a1, [], [], (2 : Int), true, (([(1 : Int), (1 : Int), (1 : Int)].take [(1 : Int), (1 : Int), (1 : Int)].length).drop 1)⟩ : DState) (1 : Int)).2)) = (2100 : Int)))) <| Ad <| Rt ?_
 have hM : m_af = decide ((m_z ((m_b (⟨lit7e8b3, [lit2ad7b], lit8f7a1, [], [], (2 : Int), true, (([(1 : Int), (1 : Int), (1 : Int)].take [(1 : Int), (1 : Int), (1 : Int)].length).drop 1)⟩ : DState) (1 : Int)).2)) = (2100 : Int)) := by simp only [m_af, c_1, c_2, c_3, c_4, c_5, c_6, c_7, sbt]
 refine ⟨Or.inr rfl, ?_⟩
 rw [hM]
 exact Ec
theorem w_law21_ReadyNeeds (W : World) {m0 : Int} (hW : W.cell? ⟨0, 0, none⟩ = some (.int .i64 m0)) (s' : DState) (edge : Int) (hz : s'.sz ≤ 1048576) : PureAt Go.Proofs.Tryz.prog W 9 [(DState.av s'), (AV.i .i64 edge)] (AV.b (m_0 s' edge)) [] := by
 have hzg := s'.sz_graph
 have hgl := Nat.le_trans s'.graph.sz_len (Nat.le_trans hzg hz)
 have hu := uMod_lt (a := edge) (k := 1 + s'.graph.edges.length) (by omega)
 refine pure_of_bodyC (fn := Go.Proofs.Tryz.f9) Go.Proofs.Tryz.func9 rfl (en9 W) (ts := [4]) rfl le <| Sq <| Rg <| Nn (AV.loc 0 0 0) ⟨64, 11, [(DState.av s')]⟩ <| Aq (AV.b false) <| Ad <| Sq <| Sq <| Rg <| AOps.sc0 (vs := []) (r0 := (AV.b m_af)) kr kr (w_law21_awake W hW ) kr le <| Aq (AV.b (!m_af)) <| Ad ?_
 cases c_1 : (!m_af)
 refine Cf <| Awp.skip <| Sq <| Rg <| Aq (AV.i .i64 edge) <| Aq (AV.i .u64 (IntKind.wrap .u64 edge)) <| Aq (AV.loc 0 0 0) <| Aq (AV.loc 0 0 0) <| Aq ((slA 7 DEdge.av) s'.graph.edges) <| Ap (Ai s'.graph.edges.length) (g_len (k := 7) (nl := false) (e := 76) (A := DEdge.av) (xs := s'.graph.edges) kr kr) <| Ap (Ai (1 + s'.graph.edges.length)) (g_addN (i := 1) (m := s'.graph.edges.length) kr kr sd) <| Aq (AV.i .u64 (IntKind.wrap .u64 ((1 + s'.graph.edges.length : Nat) : Int))) <| Ap (AV.i .u64 (((uMod edge (1 + s'.graph.edges.length)) : Nat) : Int)) (g_umod (a := edge) (k := (1 + s'.graph.edges.length)) kr kr sd sd) <| Ap (AV.i .i64 (((uMod edge (1 + s'.graph.edges.length)) : Nat) : Int)) (g_convN (k := .u64) (n := (uMod edge (1 + s'.graph.edges.length))) kr kr kr sd) <| Aq (AV.i .i64 (((uMod edge (1 + s'.graph.edges.length)) : Nat) : Int)) <| Ad <| Sq <| Rg <| Aq (DState.av s') <| Aq (AV.i .i64 (((uMod edge (1 + s'.graph.edges.length)) : Nat) : Int)) <| AOps.sc0 (vs := [(DState.av s'), (AV.i .i64 (((uMod edge (1 + s'.graph.edges.length)) : Nat) : Int))]) (r0 := (AV.tup [(AV.b ((m_b s' (((uMod edge (1 + s'.graph.edges.length)) : Nat) : Int)).1)), (AV.i .i64 ((m_b s' (((uMod edge (1 + s'.graph.edges.length)) : Nat) : Int)).2))])) kr kr (w_ready_Is W hW s' (((uMod edge (1 + s'.graph.edges.length)) : Nat) : Int) sd) kr le <| Aq (AV.tup [(AV.b ((m_b s' (((uMod edge (1 + s'.graph.edges.length)) : Nat) : Int)).1)), (AV.i .i64 ((m_b s' (((uMod edge (1 + s'.graph.edges.length)) : Nat) : Int)).2))]) ?_
 refine Aq (AV.b ((m_b s' (((uMod edge (1 + s'.graph.edges.length)) : Nat) : Int)).1)) <| Aq (AV.i .i64 ((m_b s' (((uMod edge (1 + s'.graph.edges.length)) : Nat) : Int)).2)) <| Aq (AV.b ((m_b s' (((uMod edge (1 + s'.graph.edges.length)) : Nat) : Int)).1)) <| Aq (AV.i .i64 ((m_b s' (((uMod edge (1 + s'.graph.edges.length)) : Nat) : Int)).2)) <| Ad <| Sq <| Sq <| Rg <| Aq (AV.i .i64 (((uMod edge (1 + s'.graph.edges.length)) : Nat) : Int)) <| Aq (AV.loc 0 0 0) <| Aq (AV.loc 0 0 0) <| Aq ((slA 7 DEdge.av) s'.graph.edges) <| Ap (Ai s'.graph.edges.length) (g_len (k := 7) (nl := false) (e := 76) (A := DEdge.av) (xs := s'.graph.edges) kr kr) <| Aq (AV.b (decide ((((uMod edge (1 + s'.graph.edges.length)) : Nat) : Int) = ((s'.graph.edges.length : Nat) : Int)))) <| Aq (AV.b (decide ((((uMod edge (1 + s'.graph.edges.length)) : Nat) : Int) = ((s'.graph.edges.length : Nat) : Int)))) ?_
 cases c_2 : decide ((((uMod edge (1 + s'.graph.edges.length)) : Nat) : Int) = ((s'.graph.edges.length : Nat) : Int))
 have k_2 := of_decide_eq_false c_2
 refine Ay <| Aq (DState.av s') <| Ay <| AOps.sc0 (vs := [(DState.av s')]) (r0 := (AV.b (m_ab s'))) kr kr (w_ref12_StateMay W s' sd) kr le <| Ay <| Aq (AV.b (!(m_ab s'))) <| Aq (AV.b (!(m_ab s'))) <| Ad ?_
 cases c_3 : (!(m_ab s'))
 have q_3 := state_ok c_3
 refine Cf <| Awp.skip <| Sq <| Sq <| Rg <| Aq (AV.i .i64 ((m_b s' (((uMod edge (1 + s'.graph.edges.length)) : Nat) : Int)).2)) <| AOps.sc0 (vs := [(AV.i .i64 ((m_b s' (((uMod edge (1 + s'.graph.edges.length)) : Nat) : Int)).2))]) (r0 := (AV.i .i64 (m_z ((m_b s' (((uMod edge (1 + s'.graph.edges.length)) : Nat) : Int)).2)))) kr kr (w_law0_Num W ((m_b s' (((uMod edge (1 + s'.graph.edges.length)) : Nat) : Int)).2)) kr le <| Aq (AV.b (!decide ((m_z ((m_b s' (((uMod edge (1 + s'.graph.edges.length)) : Nat) : Int)).2)) = (0 : Int)))) <| Ad ?_
 cases c_4 : (!decide ((m_z ((m_b s' (((uMod edge (1 + s'.graph.edges.length)) : Nat) : Int)).2)) = (0 : Int)))
 have k_4 := nde c_4
 refine Cf <| Awp.skip <| Sq <| Sq <| Rg <| Aq (AV.loc 0 0 9) <| Aq (AV.b s'.going) <| Aq (AV.b (!s'.going)) <| Ad ?_
 cases c_5 : (!s'.going)
 have q_5 := (state_ok (by assumption)).2 (by simpa using c_5)
 refine Cf <| Awp.skip <| Sq <| Rg <| Aq (AV.loc 0 0 0) <| Aq (AV.st [((slA 7 DEdge.av) s'.graph.edges), ((slA 2 DPool.av) s'.graph.pools), ((slA 1 AV.s) s'.graph.defaults)]) <| Aq (AV.i .i64 (((uMod edge (1 + s'.graph.edges.length)) : Nat) : Int)) <| AOps.sc0 (vs := [(AV.st [((slA 7 DEdge.av) s'.graph.edges), ((slA 2 DPool.av) s'.graph.pools), ((slA 1 AV.s) s'.graph.defaults)]), (AV.i .i64 (((uMod edge (1 + s'.graph.edges.length)) : Nat) : Int))]) (r0 := ((slA 1 (AV.i .i64)) (m_n (⟨s'.graph.edges, s'.graph.pools, s'.graph.defaults⟩ : DGraph) (((uMod edge (1 + s'.graph.edges.length)) : Nat) : Int)))) kr kr (w_ref1_Needs W (⟨s'.graph.edges, s'.graph.pools, s'.graph.defaults⟩ : DGraph) (((uMod edge (1 + s'.graph.edges.length)) : Nat) : Int) ⟨by show _ < s'.graph.edges.length; have := uMod_lt (a := edge) (k := 1 + s'.graph.edges.length) (by omega); omega, by omega⟩ (Nat.le_trans (needsN_sz _ _) (Nat.le_trans s'.sz_graph hz))) kr le <| Aq ((slA 1 (AV.i .i64)) (m_n (⟨s'.graph.edges, s'.graph.pools, s'.graph.defaults⟩ : DGraph) (((uMod edge (1 + s'.graph.edges.length)) : Nat) : Int))) <| Ad <| Sq <| Rg <| Aq (AV.loc 0 0 10) <| Aq ((slA 1 (AV.i .i64)) s'.status) <| Aq (AV.i .i64 (((uMod edge (1 + s'.graph.edges.length)) : Nat) : Int)) <| Ap (AV.pt ((AV.i .i64) (s'.status.getD (uMod edge (1 + s'.graph.edges.length)) default)).cells) (g_idx (k := 1) (nl := false) (e := 3) (kk := .i64) (A := (AV.i .i64)) (xs := s'.status) (i := (uMod edge (1 + s'.graph.edges.length))) kr kr kr ⟨by kernel_rfl, by decide⟩ (getD_some sd)) ?_
 refine Aq (AV.i .i64 (s'.status.getD (uMod edge (1 + s'.graph.edges.length)) default)) <| Aq (AV.b (decide ((s'.status.getD (uMod edge (1 + s'.graph.edges.length)) default) = (1 : Int)))) <| Aq (AV.b (decide ((s'.status.getD (uMod edge (1 + s'.graph.edges.length)) default) = (1 : Int)))) <| Ad <| Sq <| Sq <| Rg <| Aq (AV.i .i64 (0 : Int)) <| Ad <| Awp.block <| Awp.lim 59 (x := ((slA 1 (AV.i .i64)) (m_n (⟨s'.graph.edges, s'.graph.pools, s'.graph.defaults⟩ : DGraph) (((uMod edge (1 + s'.graph.edges.length)) : Nat) : Int)))) kr fun hlm1 => ?_
 have hB1 : (m_n (⟨s'.graph.edges, s'.graph.pools, s'.graph.defaults⟩ : DGraph) (((uMod edge (1 + s'.graph.edges.length)) : Nat) : Int)).length ≤ 281474976710656 := lim_slA hlm1
 obtain ⟨R1, hR1⟩ : ∃ R, m_al s' (m_n (⟨s'.graph.edges, s'.graph.pools, s'.graph.defaults⟩ : DGraph) (((uMod edge (1 + s'.graph.edges.length)) : Nat) : Int)) 0 (decide ((s'.status.getD (uMod edge (1 + s'.graph.edges.length)) default) = (1 : Int))) = R := ⟨_, rfl⟩
 refine Awp.loopT (fun ((fine, i) : Bool × Nat) => [(2, (AV.loc 0 0 0)), (6, (AV.b ((m_b s' (((uMod edge (1 + s'.graph.edges.length)) : Nat) : Int)).1))), (8, ((slA 1 (AV.i .i64)) (m_n (⟨s'.graph.edges, s'.graph.pools, s'.graph.defaults⟩ : DGraph) (((uMod edge (1 + s'.graph.edges.length)) : Nat) : Int)))), (9, (AV.b fine)), (10, (Ai i))]) (fun ((fine, i) : Bool × Nat) => ⟨1, [(0, some ⟨64, 11, [(DState.av s')]⟩)]⟩) (fun ((fine, i) : Bool × Nat) => i ≤ (m_n (⟨s'.graph.edges, s'.graph.pools, s'.graph.defaults⟩ : DGraph) (((uMod edge (1 + s'.graph.edges.length)) : Nat) : Int)).length ∧ m_al s' ((m_n (⟨s'.graph.edges, s'.graph.pools, s'.graph.defaults⟩ : DGraph) (((uMod edge (1 + s'.graph.edges.length)) : Nat) : Int)).drop i) i fine = R1) (fun ((fine, i) : Bool × Nat) => (m_n (⟨s'.graph.edges, s'.graph.pools, s'.graph.defaults⟩ : DGraph) (((uMod edge (1 + s'.graph.edges.length)) : Nat) : Int)).length - i) (decide ((s'.status.getD (uMod edge (1 + s'.graph.edges.length)) default) = (1 : Int)), 0) ?_ ?_ ?_
 exact ⟨[0], ⟨by decide, rfl, (FitsObjs.cons kr FitsObjs.nil), (EntE.cons (Ent.f kr) (Ee (Ee (Ee (Ee EntE.nil)))))⟩, keep0⟩
 exact ⟨od, hR1⟩
 rintro ⟨fine, i⟩ ⟨hi1, hE1⟩
 try dsimp only
 refine Sq <| Sq <| Rg <| Aq (Ai i) <| Aq ((slA 1 (AV.i .i64)) (m_n (⟨s'.graph.edges, s'.graph.pools, s'.graph.defaults⟩ : DGraph) (((uMod edge (1 + s'.graph.edges.length)) : Nat) : Int))) <| Ap (AV.i .i64 (((m_n (⟨s'.graph.edges, s'.graph.pools, s'.graph.defaults⟩ : DGraph) (((uMod edge (1 + s'.graph.edges.length)) : Nat) : Int)).length : Nat) : Int)) (g_len (k := 1) (nl := false) (e := 3) (A := (AV.i .i64)) (xs := (m_n (⟨s'.graph.edges, s'.graph.pools, s'.graph.defaults⟩ : DGraph) (((uMod edge (1 + s'.graph.edges.length)) : Nat) : Int))) kr kr) <| Aq (AV.b (decide (((i : Nat) : Int) < (((m_n (⟨s'.graph.edges, s'.graph.pools, s'.graph.defaults⟩ : DGraph) (((uMod edge (1 + s'.graph.edges.length)) : Nat) : Int)).length : Nat) : Int)))) <| Ad ?_
 rcases Nat.lt_or_ge i (m_n (⟨s'.graph.edges, s'.graph.pools, s'.graph.defaults⟩ : DGraph) (((uMod edge (1 + s'.graph.edges.length)) : Nat) : Int)).length with hl1 | hl1
 have hc1 : decide (((i : Nat) : Int) < (((m_n (⟨s'.graph.edges, s'.graph.pools, s'.graph.defaults⟩ : DGraph) (((uMod edge (1 + s'.graph.edges.length)) : Nat) : Int)).length : Nat) : Int)) = true := decide_eq_true (by omega)
 refine Awp.cond (t := true) (by rw [← hc1] <;> kernel_rfl) (Awp.skip ?_)
 obtain ⟨x1, hx1⟩ : ∃ x, (m_n (⟨s'.graph.edges, s'.graph.pools, s'.graph.defaults⟩ : DGraph) (((uMod edge (1 + s'.graph.edges.length)) : Nat) : Int))[i]? = some x := ⟨_, List.getElem?_eq_getElem hl1⟩
 rw [drop_at hx1, m_al.eq_2] at hE1
 have hk1 : 0 ≤ x1 ∧ x1.toNat < s'.graph.edges.length := rneeds_mem (List.mem_of_getElem? hx1)
 refine Sq <| Awp.block <| Sq <| Awp.drawn tabS_ok mixed 6 kr le <| Dq (AV.loc 0 0 10) <| Dq ((slA 1 (AV.i .i64)) s'.status) <| Dq ((slA 1 (AV.i .i64)) (m_n (⟨s'.graph.edges, s'.graph.pools, s'.graph.defaults⟩ : DGraph) (((uMod edge (1 + s'.graph.edges.length)) : Nat) : Int))) <| Dq (Ai i) <| Dp (AV.pt ((AV.i .i64) x1).cells) (g_idx (k := 1) (nl := false) (e := 3) (kk := .i64) (A := (AV.i .i64)) (xs := (m_n (⟨s'.graph.edges, s'.graph.pools, s'.graph.defaults⟩ : DGraph) (((uMod edge (1 + s'.graph.edges.length)) : Nat) : Int))) (i := i) kr kr kr ⟨by kernel_rfl, by decide⟩ hx1) <| Dq (AV.i .i64 x1) <| Dp (AV.pt ((AV.i .i64) (s'.status.getD x1.toNat default)).cells) (g_idxI (k := 1) (nl := false) (e := 3) (kk := .i64) (A := (AV.i .i64)) (xs := s'.status) (n := x1) kr kr kr ⟨by kernel_rfl, by decide⟩ sd (getD_some sd)) <| Dq (AV.i .i64 (s'.status.getD x1.toNat default)) <| Dq (AV.i .i64 (s'.status.getD x1.toNat default)) <| AOpsD.fin <| Rg <| Aq (AV.b fine) <| Aq (AV.b fine) ?_
 cases c_6 : fine
 refine An <| An <| An <| An <| An <| An <| Aq (AV.b false) <| Aq (AV.b false) <| Ad <| Rg <| Aq (Ai i) <| Ap (Ai (i + 1)) (g_addN (i := i) (m := 1) kr kr sd) <| Aq (Ai (i + 1)) <| Ad ?_
 try simp only [c_6, sbt] at hE1
 refine ⟨(false, i + 1), od, ⟨od, hE1⟩, ?_⟩
 exact ⟨[0], ⟨by decide, rfl, (FitsObjs.cons kr FitsObjs.nil), (EntE.cons (Ent.f kr) (Ee (Ee (Ee (Ee EntE.nil)))))⟩, keep0⟩
 refine Ay <| Aq (AV.i .i64 (s'.status.getD x1.toNat default)) <| Ay <| Aq (AV.b (decide ((s'.status.getD x1.toNat default) = (0 : Int)))) <| Ay <| Aq (AV.b (decide ((s'.status.getD x1.toNat default) = (0 : Int)))) ?_
 cases c_7 : decide ((s'.status.getD x1.toNat default) = (0 : Int))
 have k_7 := of_decide_eq_false c_7
 refine Ay <| Aq (AV.i .i64 (s'.status.getD x1.toNat default)) <| Ay <| Aq (AV.b (decide ((s'.status.getD x1.toNat default) = (3 : Int)))) <| Ay <| Aq (AV.b (decide ((s'.status.getD x1.toNat default) = (3 : Int)))) <| Aq (AV.b (decide ((s'.status.getD x1.toNat default) = (3 : Int)))) <| Aq (AV.b (decide ((s'.status.getD x1.toNat default) = (3 : Int)))) <| Ad <| Rg <| Aq (Ai i) <| Ap (Ai (i + 1)) (g_addN (i := i) (m := 1) kr kr sd) <| Aq (Ai (i + 1)) <| Ad ?_
 try simp only [c_6, c_7, sbt] at hE1
 refine ⟨(decide ((s'.status.getD x1.toNat default) = (3 : Int)), i + 1), od, ⟨od, hE1⟩, ?_⟩
 exact ⟨[0], ⟨by decide, rfl, (FitsObjs.cons kr FitsObjs.nil), (EntE.cons (Ent.f kr) (Ee (Ee (Ee (Ee EntE.nil)))))⟩, keep0⟩
 have k_7 := of_decide_eq_true c_7
 refine An <| An <| Ay <| Aq (AV.b true) <| Aq (AV.b true) <| Aq (AV.b true) <| Ad <| Rg <| Aq (Ai i) <| Ap (Ai (i + 1)) (g_addN (i := i) (m := 1) kr kr sd) <| Aq (Ai (i + 1)) <| Ad ?_
 try simp only [c_6, c_7, sbt] at hE1
 refine ⟨(true, i + 1), od, ⟨od, hE1⟩, ?_⟩
 exact ⟨[0], ⟨by decide, rfl, (FitsObjs.cons kr FitsObjs.nil), (EntE.cons (Ent.f kr) (Ee (Ee (Ee (Ee EntE.nil)))))⟩, keep0⟩
 have hc1 : decide (((i : Nat) : Int) < (((m_n (⟨s'.graph.edges, s'.graph.pools, s'.graph.defaults⟩ : DGraph) (((uMod edge (1 + s'.graph.edges.length)) : Nat) : Int)).length : Nat) : Int)) = false := decide_eq_false (by omega)
 refine Awp.cond (t := false) (by rw [← hc1] <;> kernel_rfl) (Awp.exit ?_)
 rw [List.drop_eq_nil_of_le (hl1), m_al.eq_1] at hE1
 subst hE1
 refine Sq <| Rg <| Aq (AV.b ((m_b s' (((uMod edge (1 + s'.graph.edges.length)) : Nat) : Int)).1)) <| Aq (AV.b fine) <| Aq (AV.b ((m_b s' (((uMod edge (1 + s'.graph.edges.length)) : Nat) : Int)).1 == fine)) <| Aq (AV.b ((m_b s' (((uMod edge (1 + s'.graph.edges.length)) : Nat) : Int)).1 == fine)) ?_
 cases c_8 : ((m_b s' (((uMod edge (1 + s'.graph.edges.length)) : Nat) : Int)).1 == fine)
 refine An <| An <| An <| An <| Aq (AV.b false) <| Aq (AV.b false) <| Ad <| Rt ?_
 have hM : m_0 s' edge = false := by simp only [m_0, c_1, c_2, c_3, c_4, c_5, hR1, c_8, sbt]
 refine ⟨Or.inr rfl, ?_⟩
 rw [hM]
 exact Ec
 refine Ay <| AOps.sc0 (vs := []) (r0 := (DState.av m_d)) kr kr (w_law21_going W ) kr le <| Ay <| Aq ((slA 1 (AV.i .i64)) m_d.status) <| Ay <| Ap (Ai m_d.status.length) (g_len (k := 1) (nl := false) (e := 3) (A := (AV.i .i64)) (xs := m_d.status) kr kr) <| Ay <| Aq (AV.b (decide (((m_d.status.length : Nat) : Int) = (3 : Int)))) <| Aq (AV.b (decide (((m_d.status.length : Nat) : Int) = (3 : Int)))) <| Aq (AV.b (decide (((m_d.status.length : Nat) : Int) = (3 : Int)))) <| Ad <| Rt ?_
 have hM : m_0 s' edge = decide (((m_d.status.length : Nat) : Int) = (3 : Int)) := by simp only [m_0, c_1, c_2, c_3, c_4, c_5, hR1, c_8, sbt]
 refine ⟨Or.inr rfl, ?_⟩
 rw [hM]
 exact Ec
 refine Ct <| Sq <| Rg <| Aq (AV.b ((m_b s' (((uMod edge (1 + s'.graph.edges.length)) : Nat) : Int)).1)) <| Aq (AV.b (!(m_b s' (((uMod edge (1 + s'.graph.edges.length)) : Nat) : Int)).1)) <| Aq (AV.b (!(m_b s' (((uMod edge (1 + s'.graph.edges.length)) : Nat) : Int)).1)) <| Ad <| Rt ?_
 have hM : m_0 s' edge = (!(m_b s' (((uMod edge (1 + s'.graph.edges.length)) : Nat) : Int)).1) := by simp only [m_0, c_1, c_2, c_3, c_4, c_5, sbt]
 refine ⟨Or.inr rfl, ?_⟩
 rw [hM]
 exact Ec
 have k_4 := ndt c_4
 refine Ct <| Sq <| Rg <| Aq (AV.b false) <| Ad <| Rt ?_
 have hM : m_0 s' edge = false := by simp only [m_0, c_1, c_2, c_3, c_4, sbt]
 refine ⟨Or.inr rfl, ?_⟩
 rw [hM]
 exact Ec
 refine Ct <| Sq <| Rg <| Aq (AV.b ((m_b s' (((uMod edge (1 + s'.graph.edges.length)) : Nat) : Int)).1)) <| Aq (AV.b (!(m_b s' (((uMod edge (1 + s'.graph.edges.length)) : Nat) : Int)).1)) <| Aq (AV.b (!(m_b s' (((uMod edge (1 + s'.graph.edges.length)) : Nat) : Int)).1)) ?_
 cases c_9 : (!(m_b s' (((uMod edge (1 + s'.graph.edges.length)) : Nat) : Int)).1)
 refine An <| An <| An <| Aq (AV.b false) <| Aq (AV.b false) <| Ad <| Rt ?_
 have hM : m_0 s' edge = false := by simp only [m_0, c_1, c_2, c_3, c_9, sbt]
 refine ⟨Or.inr rfl, ?_⟩
 rw [hM]
 exact Ec
 refine Ay <| Aq (AV.i .i64 ((m_b s' (((uMod edge (1 + s'.graph.edges.length)) : Nat) : Int)).2)) <| Ay <| AOps.sc0 (vs := [(AV.i .i64 ((m_b s' (((uMod edge (1 + s'.graph.edges.length)) : Nat) : Int)).2))]) (r0 := (AV.i .i64 (m_z ((m_b s' (((uMod edge (1 + s'.graph.edges.length)) : Nat) : Int)).2)))) kr kr (w_law0_Num W ((m_b s' (((uMod edge (1 + s'.graph.edges.length)) : Nat) : Int)).2)) kr le <| Ay <| Aq (AV.b (decide ((m_z ((m_b s' (((uMod edge (1 + s'.graph.edges.length)) : Nat) : Int)).2)) = (2100 : Int)))) <| Aq (AV.b (decide ((m_z ((m_b s' (((uMod edge (1 + s'.graph.edges.length)) : Nat) : Int)).2)) = (2100 : Int)))) <| Aq (AV.b (decide ((m_z ((m_b s' (((uMod edge (1 + s'.graph.edges.length)) : Nat) : Int)).2)) = (2100 : Int)))) <| Ad <| Rt ?_
 have hM : m_0 s' edge = decide ((m_z ((m_b s' (((uMod edge (1 + s'.graph.edges.length)) : Nat) : Int)).2)) = (2100 : Int)) := by simp only [m_0, c_1, c_2, c_3, c_9, sbt]
 refine ⟨Or.inr rfl, ?_⟩
 rw [hM]
 exact Ec
 have k_2 := of_decide_eq_true c_2
 refine An <| An <| An <| Aq (AV.b true) <| Ad <| Ct <| Sq <| Rg <| Aq (AV.b ((m_b s' (((uMod edge (1 + s'.graph.edges.length)) : Nat) : Int)).1)) <| Aq (AV.b (!(m_b s' (((uMod edge (1 + s'.graph.edges.length)) : Nat) : Int)).1)) <| Aq (AV.b (!(m_b s' (((uMod edge (1 + s'.graph.edges.length)) : Nat) : Int)).1)) ?_
 cases c_10 : (!(m_b s' (((uMod edge (1 + s'.graph.edges.length)) : Nat) : Int)).1)
 refine An <| An <| An <| Aq (AV.b false) <| Aq (AV.b false) <| Ad <| Rt ?_
 have hM : m_0 s' edge = false := by simp only [m_0, c_1, c_2, c_10, sbt]
 refine ⟨Or.inr rfl, ?_⟩
 rw [hM]
 exact Ec
 refine Ay <| Aq (AV.i .i64 ((m_b s' (((uMod edge (1 + s'.graph.edges.length)) : Nat) : Int)).2)) <| Ay <| AOps.sc0 (vs := [(AV.i .i64 ((m_b s' (((uMod edge (1 + s'.graph.edges.length)) : Nat) : Int)).2))]) (r0 := (AV.i .i64 (m_z ((m_b s' (((uMod edge (1 + s'.graph.edges.length)) : Nat) : Int)).2)))) kr kr (w_law0_Num W ((m_b s' (((uMod edge (1 + s'.graph.edges.length)) : Nat) : Int)).2)) kr le <| Ay <| Aq (AV.b (decide ((m_z ((m_b s' (((uMod edge (1 + s'.graph.edges.length)) : Nat) : Int)).2)) = (2100 : Int)))) <| Aq (AV.b (decide ((m_z ((m_b s' (((uMod edge (1 + s'.graph.edges.length)) : Nat) : Int)).2)) = (2100 : Int)))) <| Aq (AV.b (decide ((m_z ((m_b s' (((uMod edge (1 + s'.graph.edges.length)) : Nat) : Int)).2)) = (2100 : Int)))) <| Ad <| Rt ?_
 have hM : m_0 s' edge = decide ((m_z ((m_b s' (((uMod edge (1 + s'.graph.edges.length)) : Nat) : Int)).2)) = (2100 : Int)) := by simp only [m_0, c_1, c_2, c_10, sbt]
 refine ⟨Or.inr rfl, ?_⟩
 rw [hM]
 exact Ec
 refine Ct <| Sq <| Rg <| Aq (AV.b false) <| Ad <| Rt ?_
 have hM : m_0 s' edge = false := by simp only [m_0, c_1, sbt]
 refine ⟨Or.inr rfl, ?_⟩
 rw [hM]
 exact Ec
end
end Go.Lift
