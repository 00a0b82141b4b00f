/-
  Lemmas of this claim: a layer over the kit's calls, contracts of the functions that the law reaches, and the law's row. No condition of its own.
-/
import Derived.Test.YtjfhbchfhpgefaaGreatDoorSaDirtyOwn
import Derived.Test.YtjfhbchfhpgefaaGreatDoorLbDirtyOwn
import Derived.Test.YtjfhbchfhpgefaaGreatDoorScDirtyOwn
namespace Go.Lift
noncomputable section
open Go Go.RowKit
set_option linter.unusedSimpArgs false
set_option linter.unusedVariables false
set_option linter.unusedSectionVars false
set_option maxRecDepth 20000
theorem gOf_av (g : DGraph) : (gOf g).av = DGraph.av g := by
  have h1 : EdgeD.av ∘ eOf = DEdge.av := rfl
  have h2 : PoolD.av ∘ pOf = DPool.av := rfl
  simp only [GraphD.av, gOf, DGraph.av, slA, List.map_map, h1, h2, Strs.av]
theorem Rg {W : World} {n N : Nat} {env : Env} {h : Store} {Q : Post} {id : Nat} {ops : Array Oper} (k : AOps Go.Proofs.Tryz.prog W tabS n ops ops.toList env h (Q .normal)) : Awp Go.Proofs.Tryz.prog W n N (.region id ops false) env h Q := Awp.region tabS_ok k
theorem w_name_May (W : World) (s : ByteArray) : PureAt Go.Proofs.Tryz.prog W 199 [.s s] (.b (mayS s)) [] := name_may W s
theorem w_path_Clean (W : World) {m0 : Int} (hW : W.cell? ⟨0, 0, none⟩ = some (.int .i64 m0)) (s : ByteArray) : PureAt Go.Proofs.Tryz.prog W 164 [.s s] (.tup [.s (cleanS s).1, .i .i64 (cleanS s).2]) [] := path_clean W hW s
theorem w_graph_Check (W : World) {m0 : Int} (hW : W.cell? ⟨0, 0, none⟩ = some (.int .i64 m0)) (g : DGraph) : PureAt Go.Proofs.Tryz.prog W 104 [DGraph.av g] (.i .i64 (m_ak g)) [] := by
  rw [← gOf_av]; exact graph_check W hW (gOf g)
theorem w_strings_Join (W : World) (xs : List ByteArray) (sep : ByteArray) (hl : (joinS xs sep).size ≤ 140737488355328) (hn : xs.length ≤ 140737488355328) : PureAt Go.Proofs.Tryz.prog W 192 [slA 1 AV.s xs, .s sep] (.s (joinS xs sep)) [] :=
  lib_join W false xs sep (by have : (joinS xs sep).size = (Lib.join (xs.map (·.data.toList)) sep.data.toList).length := by show (Lib.join (xs.map (·.data.toList)) sep.data.toList).toArray.size = _; rw [List.size_toArray]
                              omega) hn
theorem w_slices_Clone_string_string (W : World) (xs : List ByteArray) (hn : xs.length ≤ 1048576) : PureAt Go.Proofs.Tryz.prog W 154 [slA 1 AV.s xs] (slA 1 AV.s (cloneS xs)) [] := by
  cases xs with
  | nil =>
    refine pure_of_calls (en154 W) fun w Y vs hG hvs => ?_
    simp only [slA, List.map_nil, CRs_cons, CRs_nil, CR_sl] at hvs
    obtain ⟨v1, r1, rfl, h1, rfl⟩ := hvs
    rcases h1 with ⟨_, rfl⟩ | ⟨_, a, c, rfl, _⟩
    · refine (Go.Proofs.Tryz.slices_Clone_string_nil 0 0 w).mono ?_
      rintro e w' ⟨rfl, rfl⟩
      exact ⟨_, rfl, by simp only [cloneS, slA, List.map_nil, VR, CR]; exact Or.inl ⟨trivial, trivial⟩, Below.refl _ _⟩
    · refine (Go.Proofs.Tryz.slices_Clone_string_zero a c w).mono ?_
      rintro e w' ⟨v', rfl, ⟨_, e2 | ⟨g, cap, cur, rfl, _⟩⟩, e3, e4⟩
      · exact absurd e2.1 e3
      · exact ⟨_, rfl, by simp only [cloneS, slA, List.map_nil, VR, CR]; exact Or.inr ⟨trivial, _, _, rfl, Nat.zero_le _, by simp, trivial⟩, e4⟩
  | cons x r =>
    exact (lib_clone W (x :: r) (by simp) (by omega)).freeze (Ent.cast (x' := AV.own 0 0 (x :: r).length) (y' := slA 1 AV.s (x :: r)) kr kr (ent_row (fun _ => rfl) (by decide) (by decide) (e := 9) (k := 1) (A := AV.s) (xs := x :: r) (by rw [Store.get_S0]; rfl) rfl (by show (x :: r).length ≤ 281474976710656; omega)))
theorem lastI_neg {α : Type} [Inhabited α] {p : α → Bool} : ∀ {xs : List α}, (∀ i, i < xs.length → p (xs.getD i default) = false) → lastI p xs = -1
  | [], _ => rfl
  | x :: xs, h => by
    have ih := lastI_neg (p := p) (xs := xs) (fun i hi => by have := h (i + 1) (by simp; omega); simpa using this)
    have h0 := h 0 (by simp)
    simp only [List.getD_cons_zero] at h0
    simp only [lastI, ih, h0]; rfl
theorem lastI_at {α : Type} [Inhabited α] {p : α → Bool} : ∀ {xs : List α} {m : Nat}, m < xs.length → p (xs.getD m default) = true → (∀ i, m < i → i < xs.length → p (xs.getD i default) = false) → lastI p xs = ((m : Nat) : Int)
  | [], m, hm, _, _ => by simp at hm
  | x :: xs, 0, hm, h0, h => by
    have ih := lastI_neg (p := p) (xs := xs) (fun i hi => by have := h (i + 1) (by omega) (by simp; omega); simpa using this)
    simp only [List.getD_cons_zero] at h0
    simp only [lastI, ih, h0]; rfl
  | x :: xs, m + 1, hm, h0, h => by
    have ih := lastI_at (p := p) (xs := xs) (m := m) (by simpa using hm) (by simpa using h0) (fun i h1 h2 => by have := h (i + 1) (by omega) (by simp; omega); simpa using this)
    simp only [lastI, ih]
    rw [if_pos (by omega)]
    simp
theorem w_slices_Backward_R (W : World) (rs : List DRecord) (hn : rs.length ≤ 1048576) : PureAt Go.Proofs.Tryz.prog W 219 [(slA 3 DRecord.av) rs] (.fn 236 [.pt [(slA 3 DRecord.av) rs]]) [] := by
  refine pure_of_bodyC (fn := Go.Proofs.Tryz.f219) Go.Proofs.Tryz.func219 rfl (en219 W) (ts := [2]) rfl le <| Sq <| Rg <| Nn (AV.loc 0 0 0) ⟨31, 1, [(slA 3 DRecord.av) rs]⟩ <| Aq AV.nilf <| Ad <| Sq <| Rg <| Aq (.fn 236 [.loc 0 0 0]) <| Aq (.fn 236 [.loc 0 0 0]) <| Ad <| Rt ?_
  exact ⟨Or.inr rfl, Ent.f kr⟩
abbrev RecAtR (rs : List DRecord) := { x : Nat × Value // x.1 < rs.length ∧ GoodR (rs.getD x.1 default).out x.2 }
theorem back_stops_R {w1 : World} {μ1 : Mu} {n₀ : Nat} (hn0 : n₀ ≤ w1.heap.size) (p : Addr) (rs : List DRecord) (hn : rs.length ≤ 1048576) (hp : CR w1 μ1 (.pt [(slA 3 DRecord.av) rs]) (.pointer (some p))) :
    SeqStopsK Fence.wide 2 Go.Proofs.Tryz.prog 236 #[.pointer (some p)] (fun x : RecAtR rs => #[.int .i64 (x.1.1 : Int), x.1.2]) (KpOf n₀ w1 μ1)
      (fun ys => ys.map (·.1.1) = back rs.length rs.length) (fun pre => ∃ j, j ≤ rs.length ∧ pre.map (·.1.1) = back rs.length j) rs.length w1 := by
  intro l J Jx W hW hJ hJx hY h0
  have hS : SameAs w1 μ1 W := SameAs.below hW
  refine callsIn_of_wp Go.Proofs.Tryz.func236 rfl trivial ?_ rfl
  have hcl : CR W (mu0 (Yb w1 μ1 W)) (.pt [(slA 3 DRecord.av) rs]) (.pointer (some p)) := CR_mono0 hS.rd _ _ hp
  have hvs : CRs W (mu0 (Yb w1 μ1 W)) [.raw (.func (.yield l) #[] #[]), .pt [(slA 3 DRecord.av) rs]] [Value.func (.yield l) #[] #[], .pointer (some p)] := by
    simp only [CRs]
    exact ⟨_, _, rfl, by simp only [CR], _, _, rfl, hcl, rfl⟩
  have R0 : Rel 19 ⟨W, W, mu0 (Yb w1 μ1 W), 0⟩ W (mu0 (Yb w1 μ1 W)) (argEnv 0 [.raw (.func (.yield l) #[] #[]), .pt [(slA 3 DRecord.av) rs]]) ⟨0, []⟩ { tmps := [Value.func (.yield l) #[] #[], .pointer (some p)].toArray ++ Array.replicate 17 undef, defers := [] } W :=
    rel_start (Glob.refl W) (fun g q => q.2) (start_env (VRs_of_CRs _ _ hvs) _) (by simp) rfl
  show Code.wpIn Fence.wide 2 _ _ _ { tmps := [Value.func (.yield l) #[] #[], .pointer (some p)].toArray ++ Array.replicate 17 undef, defers := [] } W
  refine wpIn_seq (region_qq (Or.inl rfl) tabS_ok kr (QOps.q ((slA 3 DRecord.av) rs) <| QOps.p (Ai rs.length) (g_len (k := 3) (nl := false) (e := 56) (A := DRecord.av) (xs := rs) kr kr) <| QOps.p (AV.i .i64 (((rs.length : Nat) : Int) - 1)) (g_subI (a := ((rs.length : Nat) : Int)) (b := 1) kr kr (by omega) (by omega)) <| QOps.q (AV.i .i64 (((rs.length : Nat) : Int) - 1)) <| QOps.done (Q := fun env => env = [(3, AV.i .i64 (((rs.length : Nat) : Int) - 1)), (6, AV.i .i64 (((rs.length : Nat) : Int) - 1)), (5, Ai rs.length), (4, (slA 3 DRecord.av) rs)] ++ argEnv 0 [.raw (.func (.yield l) #[] #[]), .pt [(slA 3 DRecord.av) rs]]) rfl) R0 ?_)
  rintro env1 a1 rfl R1
  refine wpIn_block (wpIn_wide.2 (wp_loop_k (fun (k : Nat) (a : Act) (W2 : World) => ∃ (pre : List (RecAtR rs)) (j : Nat), j + k = rs.length ∧ pre.map (·.1.1) = back rs.length j ∧ J pre W2 ∧
      Rel 19 ⟨W2, W2, mu0 (Yb w1 μ1 W2), 0⟩ W2 (mu0 (Yb w1 μ1 W2)) [(3, AV.i .i64 (((rs.length : Nat) : Int) - 1 - ((j : Nat) : Int))), (1, .pt [(slA 3 DRecord.av) rs]), (0, .raw (.func (.yield l) #[] #[]))] ⟨0, []⟩ a W2) (k0 := rs.length) ?_ ?_))
  · refine ⟨[], 0, by omega, rfl, h0, R1.sub ⟨?_, rfl, rfl, trivial⟩⟩
    show AV.i .i64 (((rs.length : Nat) : Int) - 1) = _
    rw [show (((rs.length : Nat) : Int) - 1 - ((0 : Nat) : Int)) = (((rs.length : Nat) : Int) - 1) from by omega]
  rintro k a W2 ⟨pre, j, hjk, hpre, hJp, R⟩
  refine (wpIn_wide (n := 2)).1 ?_
  refine wpIn_seq (wpIn_seq (region_qq (Or.inl rfl) tabS_ok kr (QOps.q (AV.i .i64 (((rs.length : Nat) : Int) - 1 - ((j : Nat) : Int))) <| QOps.q (AV.b (decide ((0 : Int) ≤ (((rs.length : Nat) : Int) - 1 - ((j : Nat) : Int))))) <| QOps.done (Q := fun env => env = [(8, (AV.b (decide ((0 : Int) ≤ (((rs.length : Nat) : Int) - 1 - ((j : Nat) : Int)))))), (7, AV.i .i64 (((rs.length : Nat) : Int) - 1 - ((j : Nat) : Int))), (3, AV.i .i64 (((rs.length : Nat) : Int) - 1 - ((j : Nat) : Int))), (1, .pt [(slA 3 DRecord.av) rs]), (0, .raw (.func (.yield l) #[] #[]))]) rfl) R ?_))
  rintro env2 a2 rfl R2
  have h8 := R2.env 8
  change VR _ _ (AV.b _) (a2.eval (.tmp 8)) at h8
  simp only [VR, CR] at h8
  rcases Nat.eq_zero_or_pos k with hk0 | hk0
  · refine wpIn_cond (t := false) (by rw [h8]; congr 1; exact decide_eq_false (by omega)) (wpIn_exit ?_)
    refine ⟨R2.dfr, _, results_none rfl _ _ _, ⟨_, rfl⟩, Or.inl ⟨pre, ?_, hJp⟩⟩
    show pre.map (·.1.1) = _
    rw [hpre, show j = rs.length by omega]
  refine wpIn_cond (t := true) (by rw [h8]; congr 1; exact decide_eq_true (by omega)) (wpIn_skip ?_)
  obtain ⟨m, hm⟩ : ∃ m : Nat, m = rs.length - 1 - j := ⟨_, rfl⟩
  have hme : ((rs.length : Nat) : Int) - 1 - ((j : Nat) : Int) = ((m : Nat) : Int) := by omega
  have hml : m < rs.length := by omega
  rw [hme] at R2
  refine wpIn_seq (wpIn_block (wpIn_seq (wpIn_region ?_)))
  show wpOpsIn _ _ _ _ _ ([0, 1, 2, 3, 4, 5] ++ [6, 7]) _ _
  refine region_q (os := _) (Or.inl rfl) tabS_ok kr [0, 1, 2, 3, 4, 5] rfl (QOps.q (.raw (.func (.yield l) #[] #[])) <| QOps.q (Ai m) <| QOps.q ((slA 3 DRecord.av) rs) <| QOps.q (Ai m) <| QOps.p (AV.pt (DRecord.av (rs.getD m default)).cells) (g_idx (k := 3) (nl := false) (e := 56) (kk := .i64) (A := DRecord.av) (xs := rs) (i := m) kr kr kr ⟨by kernel_rfl, by decide⟩ (getD_some hml)) <| QOps.q (DRecord.av (rs.getD m default)) <| QOps.done (Q := fun env => env = [(16, DRecord.av (rs.getD m default)), (15, AV.pt (DRecord.av (rs.getD m default)).cells), (14, Ai m), (13, (slA 3 DRecord.av) rs), (12, Ai m), (11, .raw (.func (.yield l) #[] #[])), (8, (AV.b (decide ((0 : Int) ≤ ((m : Nat) : Int))))), (7, Ai m), (3, Ai m), (1, .pt [(slA 3 DRecord.av) rs]), (0, .raw (.func (.yield l) #[] #[]))]) rfl) R2 ?_
  rintro env3 a3 rfl R3
  have g0 := R3.env 11
  change VR _ _ (AV.raw _) (a3.eval (.tmp 11)) at g0
  simp only [VR] at g0
  have g1 := R3.env 12
  change VR _ _ (Ai m) (a3.eval (.tmp 12)) at g1
  simp only [VR, CR] at g1
  have g2 := R3.env 16
  change VR _ _ (DRecord.av (rs.getD m default)) (a3.eval (.tmp 16)) at g2
  generalize hv : a3.eval (.tmp 16) = v at g2
  have hgood : GoodR (rs.getD m default).out v := by
    simp only [DRecord.av, slA, VR, VRs, CR] at g2
    obtain ⟨cs, rfl, v1, r1, e1, ⟨rfl, hs1⟩, v2, r2, rfl, rfl, v3, r3, rfl, ⟨rfl, _⟩, rfl⟩ := g2
    exact ⟨_, _, congrArg Value.agg (Array.ext' e1), hs1, Or.inl ⟨_, rfl⟩⟩
  have hpl : pre.length = j := by have := congrArg List.length hpre; simpa [back] using this
  obtain ⟨fn, tm, asg, bd, hy, hR⟩ := hY pre ⟨(m, v), hml, hgood⟩ W2 hJp (by omega)
  dsimp only at hy
  have hpre' : (pre ++ [(⟨(m, v), hml, hgood⟩ : RecAtR rs)]).map (·.1.1) = back rs.length (j + 1) := by
    rw [List.map_append, hpre, back_succ]
    show _ ++ [m] = _
    rw [show m = rs.length - 1 - j by omega]
  have hrun : ∀ (c : Operand → Value) (ty : TypeId) (pos : String) (af : Array Edge), c (.tmp 11) = .func (.yield l) #[] #[] → c (.tmp 12) = .int .i64 ((m : Nat) : Int) → c (.tmp 16) = v → ∀ at' : Array TypeId,
      (execOp c ⟨some 17, .call { callee := .value (.tmp 11), args := #[.tmp 12, .tmp 16], argTypes := at' }, ty, pos, af, none⟩).run Go.Proofs.Tryz.prog W2 = .ok (.round l fn tm asg bd) W2 := by
    intro c ty pos af e1 e2 e3 at'
    unfold execOp
    simp only [resolve, e1, e2, e3, Deferred.ofValue, Sem.run_bind, Sem.run_pure, Result.andThen_ok, invoke, Array.empty_append, List.map_toArray, List.map_cons, List.map_nil, Array.append_empty]
    exact hy
  refine wpOpsIn_cons rfl rfl (wpIn_yield (Or.inl rfl) kr (hrun _ _ _ _ g0 g1 hv _) hR ?_)
  rintro e W3 (⟨rfl, hJ3, hk3⟩ | ⟨rfl, hJx3⟩)
  · refine ⟨_, rfl, ?_⟩
    have R4 : Rel 19 ⟨W3, W3, mu0 (Yb w1 μ1 W3), 0⟩ W3 (mu0 (Yb w1 μ1 W3)) [(17, .b true), (3, Ai m), (1, .pt [(slA 3 DRecord.av) rs]), (0, .raw (.func (.yield l) #[] #[]))] ⟨0, []⟩ (a3.put (some 17) (.bool true)) W3 := by
      have R3' := (R3.sub (env' := [(3, Ai m), (1, .pt [(slA 3 DRecord.av) rs]), (0, .raw (.func (.yield l) #[] #[]))]) ⟨rfl, rfl, rfl, trivial⟩)
      have R5 : Rel 19 ⟨W3, W3, mu0 (Yb w1 μ1 W3), 0⟩ W3 (mu0 (Yb w1 μ1 W3)) [(3, Ai m), (1, .pt [(slA 3 DRecord.av) rs]), (0, .raw (.func (.yield l) #[] #[]))] ⟨0, []⟩ a3 W3 :=
        rel_start (Glob.refl W3) (fun g q => q.2) (env_later hk3 R3' kr) R3.sz R3.dfr
      exact rel_put tabS_ok R5 (Grow.refl R5.sim).step (d := some 17) (fun t ht => by cases ht; decide) (x := .b true) (by simp only [VR, CR])
    show wpOpsIn _ _ _ _ _ ([7] ++ []) _ _
    refine region_q (os := _) (Or.inl rfl) tabS_ok kr [7] rfl (QOps.q (.b false) <| QOps.done (Q := fun env => env = [(18, .b false), (17, .b true), (3, Ai m), (1, .pt [(slA 3 DRecord.av) rs]), (0, .raw (.func (.yield l) #[] #[]))]) rfl) R4 ?_
    rintro env5 a5 rfl R5
    have h18 := R5.env 18
    change VR _ _ (AV.b false) (a5.eval (.tmp 18)) at h18
    simp only [VR, CR] at h18
    refine wpIn_cond (t := false) h18 (wpIn_skip ?_)
    refine region_qq (Or.inl rfl) tabS_ok kr (QOps.q (Ai m) <| QOps.p (AV.i .i64 (((m : Nat) : Int) - 1)) (g_subI (a := ((m : Nat) : Int)) (b := 1) kr kr (by omega) (by omega)) <| QOps.q (AV.i .i64 (((m : Nat) : Int) - 1)) <| QOps.done (Q := fun env => env = [(3, AV.i .i64 (((m : Nat) : Int) - 1)), (10, AV.i .i64 (((m : Nat) : Int) - 1)), (9, Ai m), (18, .b false), (17, .b true), (3, Ai m), (1, .pt [(slA 3 DRecord.av) rs]), (0, .raw (.func (.yield l) #[] #[]))]) rfl) R5 ?_
    rintro env6 a6 rfl R6
    refine ⟨k - 1, by omega, pre ++ [⟨(m, v), hml, hgood⟩], j + 1, by omega, hpre', hJ3, R6.sub ⟨?_, rfl, rfl, trivial⟩⟩
    show AV.i .i64 (((m : Nat) : Int) - 1) = _
    rw [show ((rs.length : Nat) : Int) - 1 - (((j + 1 : Nat) : Nat) : Int) = ((m : Nat) : Int) - 1 from by omega]
  · refine ⟨_, rfl, ?_⟩
    have R5 : Rel 19 ⟨W3, W3, mu0 (fun _ => False), 0⟩ W3 (mu0 (fun _ => False)) [(17, .b false)] ⟨0, []⟩ (a3.put (some 17) (.bool false)) W3 := by
      have R5 : Rel 19 ⟨W3, W3, mu0 (fun _ => False), 0⟩ W3 (mu0 (fun _ => False)) [] ⟨0, []⟩ a3 W3 :=
        rel_start (Glob.refl W3) (fun g q => q.elim) (fun t => by show VR _ _ .und _; simp only [VR]) R3.sz R3.dfr
      exact rel_put tabS_ok R5 (Grow.refl R5.sim).step (d := some 17) (fun t ht => by cases ht; decide) (x := .b false) (by simp only [VR, CR])
    show wpOpsIn _ _ _ _ _ ([7] ++ []) _ _
    refine region_q (os := _) (Or.inl rfl) tabS_ok kr [7] rfl (QOps.q (.b true) <| QOps.done (Q := fun env => env = [(18, .b true), (17, .b false)]) rfl) R5 ?_
    rintro env5 a5 rfl R5
    have h18 := R5.env 18
    change VR _ _ (AV.b true) (a5.eval (.tmp 18)) at h18
    simp only [VR, CR] at h18
    refine wpIn_cond (t := true) h18 (wpIn_ret ?_)
    exact ⟨R5.dfr, _, results_none rfl _ _ _, ⟨_, rfl⟩, Or.inr ⟨_, ⟨j + 1, by omega, hpre'⟩, hJx3⟩⟩
theorem w_log_last (W : World) (rs : List DRecord) (out : ByteArray) (hn : rs.length ≤ 1048576) : PureAt Go.Proofs.Tryz.prog W 193 [(slA 3 DRecord.av) rs, .s out] (.i .i64 (log_lastS rs out)) [] := by
  refine pure_of_calls (en193 W) fun w Y vs hG hvs => ?_
  have hvs' : CRs w (mu0 fun _ => False) [(slA 3 DRecord.av) rs, .s out] vs := CRs_mono0 (fun a u ⟨h1, h2, h3⟩ => ⟨h1, (fun q => by rcases q with q | ⟨_, _, q, _⟩; exact q; cases q), h3⟩) _ _ hvs
  have hvl := CRs_length hvs'
  match vs, hvl, hvs' with
  | [v1, v2], _, hvs' =>
  refine (callsIn_wide (n := 3)).1 (callsIn_of_wp_marks Go.Proofs.Tryz.func193 rfl trivial ?_ rfl)
  have R0 : Rel 16 ⟨W, w, mu0 fun _ => False, 0⟩ w (mu0 fun _ => False) (argEnv 0 [(slA 3 DRecord.av) rs, .s out]) ⟨0, []⟩ { tmps := [v1, v2].toArray ++ Array.replicate 14 undef, defers := [] } w :=
    rel_start hG (fun g q => q.elim) (start_env (VRs_of_CRs _ _ hvs') _) (by simp) rfl
  show Code.wpIn Fence.wide 3 _ _ _ { tmps := [v1, v2].toArray ++ Array.replicate 14 undef, defers := [] } w
  refine wpIn_seq (wpIn_mono (AwpI.region (N := 0) (W := W) (Or.inl rfl) tabS_ok kr (Q := fun e env' h' => e = .normal ∧ env' = [(4, AV.loc 1 0 0), (3, AV.loc 0 0 0)] ++ argEnv 0 [(slA 3 DRecord.av) rs, .s out] ∧ h' = two ⟨9, 1, [AV.s out]⟩ ⟨3, 1, [AV.i .i64 0]⟩)
    (Nn (AV.loc 0 0 0) ⟨9, 1, [AV.s out]⟩ <| Nn (AV.loc 1 0 0) ⟨3, 1, [AV.i .i64 0]⟩ <| Ad ⟨rfl, rfl, rfl⟩) _ _ _ _ _ rfl rfl R0) ?_)
  rintro e a1 w1 ⟨env1, h1, μ1, ⟨rfl, rfl, rfl⟩, R1⟩
  refine wpIn_seq (wpIn_seq (wpIn_mono (AwpI.region (N := 0) (W := W) (Or.inl rfl) tabS_ok kr (Q := fun e env' h' => e = .normal ∧ env' = [(8, .fn 236 [.pt [(slA 3 DRecord.av) rs]]), (7, (slA 3 DRecord.av) rs), (4, AV.loc 1 0 0), (3, AV.loc 0 0 0)] ++ argEnv 0 [(slA 3 DRecord.av) rs, .s out] ∧ h' = two ⟨9, 1, [AV.s out]⟩ ⟨3, 1, [AV.i .i64 0]⟩)
    (Aq ((slA 3 DRecord.av) rs) <| AOps.sc0 (vs := [(slA 3 DRecord.av) rs]) (r0 := .fn 236 [.pt [(slA 3 DRecord.av) rs]]) kr kr (w_slices_Backward_R W rs hn) kr le <| Ad ⟨rfl, rfl, rfl⟩) _ _ _ _ _ rfl rfl R1) ?_))
  clear R1
  rintro e a1 w1 ⟨env1, h1, μ1, ⟨rfl, rfl, rfl⟩, R1⟩
  have hs1 := R1.sim
  have hy1 : μ1.Y = fun _ => False := R1.snc.y
  have hf1 := R1.fresh
  have hown := two_own (a := ⟨9, 1, [AV.s out]⟩) (b := ⟨3, 1, [AV.i .i64 0]⟩) hf1
  have hmut : ∀ g, μ1.mut g → g < w1.heap.size ∧ w.heap.size ≤ g := by
    rintro g (q | ⟨id, sl, q, rfl⟩)
    · rw [hy1] at q; exact q.elim
    · exact ⟨(hs1.lt id sl q).2, (hs1.lt id sl q).1⟩
  have hn0 : w.heap.size ≤ w1.heap.size := hs1.below.size
  have hfn := R1.env 8
  change VR w1 μ1 (.fn 236 [.pt [(slA 3 DRecord.av) rs]]) (a1.tmps.getD 8 undef) at hfn
  simp only [VR, VRs] at hfn
  obtain ⟨cs, hV, v8, r8, he8, hp8, rfl⟩ := hfn
  have hp8' := hp8
  simp only [CR] at hp8'
  obtain ⟨p, rfl, _⟩ := hp8'
  have hcs : cs = #[.pointer (some p)] := Array.ext' he8
  subst hcs
  have hV8 : a1.tmps.getD 8 undef = .func (.func 236) #[] #[.pointer (some p)] := by
    rcases hV with ⟨_, h⟩ | ⟨h, _⟩
    · exact h
    · exact absurd h (by decide)
  have hl3 := R1.env 3
  change VR w1 μ1 (.loc 0 0 0) (a1.tmps.getD 3 undef) at hl3
  have hl4 := R1.env 4
  change VR w1 μ1 (.loc 1 0 0) (a1.tmps.getD 4 undef) at hl4
  have hloc : ∀ (W : World) (id : Nat) (v : Value), VR w1 μ1 (.loc id 0 0) v → VR W μ1 (.loc id 0 0) v := fun W id v h => by simp only [VR] at h ⊢; exact h
  have hleave : ∀ (D : Nat) (W3 : World) (z : Int), w1.heap.size ≤ D → W3.heap[D]? = some (.deferred (some [])) → Sim w μ1 W3 (two ⟨9, 1, [AV.s out]⟩ ⟨3, 1, [AV.i .i64 z]⟩) → z = log_lastS rs out →
      LeavesInM Fence.wide 3 Go.Proofs.Tryz.prog Go.Proofs.Tryz.f193 a1.tmps (fun e w' => ∃ v, e = .returned v ∧ VR w' (mu0 Y) (.i .i64 (log_lastS rs out)) v ∧ Below w.heap.size w w') [{ target := .collected D, args := #[] }] .returning W3 := by
    intro D W3 z hD hK hs hz
    refine leave_in (m := 16) tabS_ok (env := [(4, AV.loc 1 0 0)]) (x := .i .i64 z) hK hs (two_plain rfl rfl) (two_own hf1) hf1 (Nat.le_trans hn0 hD) (fun W t => ?_) R1.sz kr (fun v W4 hv hb => ⟨v, rfl, ?_, hb⟩)
    · by_cases e : t = 4
      · subst e; exact hloc W 1 _ hl4
      · unfold Env.get; rw [look_cons, if_neg e]; show VR W μ1 .und _; simp only [VR]
    · simp only [VR, CR] at hv ⊢; rw [← hz]; exact hv
  refine wpIn_block (wpIn_rangeFunc_ownH (α := RecAtR rs) (F := Fence.wide) rfl (by decide) (gf := 236) (lb := #[.pointer (some p)]) hV8 trivial (fun args w => en236 W args w)
    (back_stops_R (n₀ := w.heap.size) hn0 p rs hn hp8) KpOf.trans (KpOf.put hn0) (Below.refl _ _) (fun _ => rfl)
    (fun pre W2 => (∀ x ∈ pre, (rs.getD x.1.1 default).out ≠ out) ∧ SameAs w1 μ1 W2 ∧ Sim w μ1 W2 (two ⟨9, 1, [AV.s out]⟩ ⟨3, 1, [AV.i .i64 0]⟩))
    (fun c pre W2 => c = .ret ∧ ∃ ini last, pre = ini ++ [last] ∧ (∀ x ∈ ini, (rs.getD x.1.1 default).out ≠ out) ∧ (rs.getD last.1.1 default).out = out ∧ Sim w μ1 W2 (two ⟨9, 1, [AV.s out]⟩ ⟨3, 1, [AV.i .i64 ((last.1.1 : Nat) : Int)]⟩))
    ?_ ?_ ⟨by simp, ⟨Nat.le_refl _, fun _ _ _ => rfl⟩, hs1⟩
    (fun x a' W2 => a'.tmps.size = 16 ∧ a'.defers = [] ∧ a'.tmps.getD 3 undef = a1.tmps.getD 3 undef ∧ a'.tmps.getD 4 undef = a1.tmps.getD 4 undef ∧ a'.tmps.getD 5 undef = .int .i64 ((x.1.1 : Nat) : Int) ∧
      ∃ q, a'.tmps.getD 6 undef = .pointer (some q) ∧ w1.heap.size ≤ q.block ∧ CRcells W2 (mu0 fun _ => False) [.s (rs.getD x.1.1 default).out, .und, .und] q) ?_ ?_ ?_ ?_ ?_)
  · -- I
    rintro pre A A' row ⟨h1, h2, h3⟩ hg hr
    exact ⟨h1, h2.grown hg (fun r e => (hr r e).1), h3.grown (two_plain rfl rfl) (two_own hf1) hg (fun r e => ⟨Nat.le_trans hn0 (hr r e).1, (hr r e).2⟩)⟩
  · rintro c pre A A' row ⟨h1, ini, last, h2, h3, h4, h5⟩ hg hr
    exact ⟨h1, ini, last, h2, h3, h4, h5.grown (two_plain rfl rfl) (two_own hf1) hg (fun r e => ⟨Nat.le_trans hn0 (hr r e).1, (hr r e).2⟩)⟩
  · rintro x a' _ A A' row ⟨h1, h2, h3, h4, h5, q, h6, h7, h8⟩ hg hr
    refine ⟨h1, h2, h3, h4, h5, q, h6, h7, CRcells_mono0 (fun ad u ⟨k1, k2, k3⟩ => ⟨?_, k2, k3⟩) _ _ h8⟩
    rw [cell_of_blk (hg.block _ (cell_lt k1) (fun e => ?_))]
    · exact k1
    · obtain ⟨_, o, ho, hc⟩ := hr _ e.symm
      unfold World.cell? at k1; rw [ho] at k1; cases o <;> simp_all [Go.Obj.isCells]
  · -- the assignment
    rintro l pre ⟨⟨k, v⟩, hk, hgood⟩ W2 K ⟨hne, hS, hs⟩ hK
    have hgood' : GoodR (rs.getD k default).out v := hgood
    obtain ⟨t, y, rfl, hso, hy⟩ := hgood'
    have RA : Rel 16 ⟨W2, W2, mu0 fun _ => False, 0⟩ W2 (mu0 fun _ => False) [(10, .st [.s (rs.getD k default).out, .i .i64 t, .raw y]), (9, Ai k), (4, .raw (a1.tmps.getD 4 undef)), (3, .raw (a1.tmps.getD 3 undef))] ⟨0, []⟩
        { tmps := (a1.tmps.setIfInBounds 9 (.int .i64 ((k : Nat) : Int))).setIfInBounds 10 (.agg #[.string (rs.getD k default).out, .int .i64 t, y]), defers := [] } W2 := by
      have h16 := R1.sz
      change a1.tmps.size = 16 at h16
      refine rel_start (Glob.refl W2) (fun g q => q.elim) (fun q => ?_) (by simpa using h16) rfl
      unfold Env.get
      simp only [look_cons]
      by_cases e10 : q = 10
      · subst e10
        simp only [if_true, Option.getD_some, Array.getD_eq_getD_getElem?, Array.getElem?_setIfInBounds]
        rw [if_pos (by simp; omega)]
        simp only [Option.getD_some, VR, VRs, CR]
        exact ⟨_, rfl, _, _, rfl, ⟨rfl, hso⟩, _, _, rfl, rfl, _, _, rfl, rfl, rfl⟩
      · by_cases e9 : q = 9
        · subst e9
          rw [if_neg e10, if_pos rfl]
          simp only [Option.getD_some, Array.getD_eq_getD_getElem?, Array.getElem?_setIfInBounds]
          rw [if_neg (by decide), if_pos trivial, if_pos (by omega)]
          simp only [Option.getD_some, VR, CR]
        · rw [if_neg e10, if_neg e9]
          have hq : ((a1.tmps.setIfInBounds 9 (.int .i64 ((k : Nat) : Int))).setIfInBounds 10 (.agg #[.string (rs.getD k default).out, .int .i64 t, y])).getD q undef = a1.tmps.getD q undef := by
            simp only [Array.getD_eq_getD_getElem?, Array.getElem?_setIfInBounds]
            rw [if_neg (fun e => e10 e.symm), if_neg (fun e => e9 e.symm)]
          show VR _ _ _ (((a1.tmps.setIfInBounds 9 (.int .i64 ((k : Nat) : Int))).setIfInBounds 10 (.agg #[.string (rs.getD k default).out, .int .i64 t, y])).getD q undef)
          rw [hq]
          by_cases e4 : q = 4
          · subst e4; rw [if_pos rfl]; simp only [Option.getD_some, VR]
          · by_cases e3 : q = 3
            · subst e3; rw [if_neg e4, if_pos rfl]; simp only [Option.getD_some, VR]
            · rw [if_neg e4, if_neg e3]; show VR _ _ .und _; simp only [VR]
    refine (fun (hg : ∀ tm' : Array Value, tm' = (a1.tmps.setIfInBounds 9 (.int .i64 ((k : Nat) : Int))).setIfInBounds 10 (.agg #[.string (rs.getD k default).out, .int .i64 t, y]) → Code.wpIn _ _ _ _ _ { tmps := tm', defers := [] } W2) => hg _ (by simp)) ?_
    rintro tm' rfl
    refine wpIn_mono (Q := fun e a' w' => ∃ env' h' μ', (e = .normal ∧ env' = [(6, AV.loc 0 0 0), (5, Ai k), (10, .st [.s (rs.getD k default).out, .i .i64 t, .raw y]), (9, Ai k), (4, .raw (a1.tmps.getD 4 undef)), (3, .raw (a1.tmps.getD 3 undef))] ∧ h' = ⟨1, [(0, some ⟨56, 3, [.st [.s (rs.getD k default).out, .i .i64 t, .raw y]]⟩)]⟩) ∧
        Rel 16 ⟨W2, W2, mu0 fun _ => False, 0⟩ W2 μ' env' h' a' w') ?_ ?_
    · rcases hy with ⟨s, rfl⟩ | ⟨p', n', c', rfl⟩
      all_goals
        exact AwpI.seq (N := 0) (W := W2) (Q := fun e env' h' => e = .normal ∧ env' = _ ∧ h' = _) (AwpI.region (Or.inr ⟨l, rfl⟩) tabS_ok kr (Aq (Ai k) <| Ad (AwpI.region (Or.inr ⟨l, rfl⟩) tabS_ok kr
          (Nn (AV.loc 0 0 0) ⟨56, 3, [.st [AV.s (⟨#[]⟩ : ByteArray), .i .i64 0, AV.s (⟨#[]⟩ : ByteArray)]]⟩ <| Sp 0 ⟨56, 3, [.st [.s (rs.getD k default).out, .i .i64 t, .raw _]]⟩ <| Ad ⟨rfl, rfl, rfl⟩)))) _ _ _ _ _ rfl rfl RA
    · rintro e a' W3 ⟨env', h', μ', ⟨rfl, rfl, rfl⟩, RB⟩
      have hb := RB.sim.below
      have hbn : Below w.heap.size W2 W3 := hb.mono (Nat.le_trans hn0 hS.1)
      have hkp : KpOf w.heap.size w1 μ1 W2 W3 := ⟨hbn, fun g hg _ => hb.block g (Nat.lt_of_lt_of_le hg hS.1)⟩
      refine hK a' W3 ⟨hb.size, fun q o _ hq _ => (hb.block q (Array.getElem?_eq_some_iff.1 hq).1).trans hq⟩ hkp ⟨hne, hS.step hkp, hs.keep (two_plain rfl rfl) hbn fun id sl e => hb.block _ (hs.lt id sl e).2⟩ ?_
      have q3 := RB.env 3
      have q4 := RB.env 4
      have q5 := RB.env 5
      have q6 := RB.env 6
      change VR _ _ (.raw _) _ at q3
      change VR _ _ (.raw _) _ at q4
      change VR _ _ (Ai k) _ at q5
      change VR _ _ (AV.loc 0 0 0) _ at q6
      simp only [VR] at q3 q4
      simp only [VR, CR] at q5
      obtain ⟨q, e1, e2, e3⟩ := read_new RB.sim (id := 0) rfl q6 (rs.getD k default).out _ rfl rfl
      exact ⟨RB.sz, RB.dfr, q3, q4, q5, q, e1, Nat.le_trans hS.1 e2, e3⟩
  · -- the body
    rintro l pre x a' W2 hl hr ⟨hne, hS, hs⟩ ⟨h1, h2, h3, h4, h5, q, h6, h7, h8⟩ hlen
    have h8' : CR W2 μ1 (.pt [.s (rs.getD x.1.1 default).out, .und, .und]) (.pointer (some q)) := by
      simp only [CR]
      refine ⟨q, rfl, ?_⟩
      simp only [CRcells] at h8 ⊢
      obtain ⟨⟨u0, ⟨k1, _, k3⟩, k4⟩, ⟨u1, ⟨k5, _, k7⟩, _⟩, ⟨u2, ⟨k9, _, k11⟩, _⟩, _⟩ := h8
      have hm : ¬ μ1.mut q.block := fun z => by have := (hmut _ z).1; omega
      exact ⟨⟨u0, ⟨k1, hm, k3⟩, by simp only [CR] at k4 ⊢; exact k4⟩, ⟨u1, ⟨k5, by rw [add_block]; exact hm, k7⟩, trivial⟩, ⟨u2, ⟨k9, by rw [add_block, add_block]; exact hm, k11⟩, trivial⟩, trivial⟩
    have RB : Rel 16 ⟨W, W2, μ1, 2⟩ w μ1 [(6, .pt [.s (rs.getD x.1.1 default).out, .und, .und]), (5, Ai x.1.1), (4, AV.loc 1 0 0), (3, AV.loc 0 0 0)] (two ⟨9, 1, [AV.s out]⟩ ⟨3, 1, [AV.i .i64 0]⟩) a' W2 := by
      refine ⟨R1.glob, ⟨Ext.refl _ _, rfl, fun _ _ h => h, hf1⟩, Nat.le_refl _, hs, fun t => ?_, h1, h2, hf1⟩
      unfold Env.get
      simp only [look_cons]
      by_cases e6 : t = 6
      · subst e6; rw [if_pos rfl, h6]; exact VR_of_CR _ _ h8'
      · by_cases e5 : t = 5
        · subst e5; rw [if_neg e6, if_pos rfl, h5]; simp only [Option.getD_some, VR, CR]
        · by_cases e4 : t = 4
          · subst e4; rw [if_neg e6, if_neg e5, if_pos rfl, h4]; exact hloc _ _ _ hl4
          · by_cases e3 : t = 3
            · subst e3; rw [if_neg e6, if_neg e5, if_neg e4, if_pos rfl, h3]; exact hloc _ _ _ hl3
            · rw [if_neg e6, if_neg e5, if_neg e4, if_neg e3]; show VR _ _ .und _; simp only [VR]
    refine wpIn_block (wpIn_seq (region_qq (Or.inr ⟨l, rfl⟩) tabS_ok kr (QOps.q (.pt ([AV.s (rs.getD x.1.1 default).out, .und, .und].drop 0)) <| QOps.q (.s (rs.getD x.1.1 default).out) <| QOps.q (.s out) <| QOps.q (.b (decide ((rs.getD x.1.1 default).out = out))) <| QOps.done (Q := fun env => env = [(14, .b (decide ((rs.getD x.1.1 default).out = out))), (13, .s out), (12, .s (rs.getD x.1.1 default).out), (11, .pt ([AV.s (rs.getD x.1.1 default).out, .und, .und].drop 0)), (6, .pt [.s (rs.getD x.1.1 default).out, .und, .und]), (5, Ai x.1.1), (4, AV.loc 1 0 0), (3, AV.loc 0 0 0)]) rfl) RB ?_))
    rintro env2 a2 rfl R2
    have h14 := R2.env 14
    change VR _ _ (AV.b _) (a2.eval (.tmp 14)) at h14
    simp only [VR, CR] at h14
    by_cases heq : (rs.getD x.1.1 default).out = out
    · refine wpIn_cond (t := true) (by rw [h14, decide_eq_true heq]) (wpIn_seq (wpIn_mono (AwpI.region (N := 2) (W := W) (Or.inr ⟨l, rfl⟩) tabS_ok kr (Q := fun e env' h' => e = .normal ∧ h' = two ⟨9, 1, [AV.s out]⟩ ⟨3, 1, [AV.i .i64 ((x.1.1 : Nat) : Int)]⟩)
        (Aq (Ai x.1.1) <| Sp 1 ⟨3, 1, [AV.i .i64 ((x.1.1 : Nat) : Int)]⟩ <| Ad ⟨rfl, rfl⟩) _ _ _ _ _ rfl rfl R2) ?_))
      rintro e a3 W3 ⟨env3, h3, μ3, ⟨rfl, rfl⟩, R3⟩
      have hmu : μ3 = μ1 := mu_eq R3 rfl (two_live _ _)
      subst hmu
      refine wpIn_ret ⟨⟨size_later R3.snc.ext hs R3.sim fun _ _ e => e, fun g o hg ho hc => ?_⟩, rfl, pre, x, rfl, hne, heq, R3.sim⟩
      rw [R3.snc.ext.bl g (Array.getElem?_eq_some_iff.1 ho).1 (fun z => by have := (hmut _ z).1; omega)]; exact ho
    · refine wpIn_cond (t := false) (by rw [h14, decide_eq_false heq]) (wpIn_skip ?_)
      refine ⟨KeepsFrom.refl _ _, ⟨Below.refl _ _, fun _ _ _ => rfl⟩, fun z hz => ?_, hS, hs⟩
      rcases List.mem_append.1 hz with hz | hz
      · exact hne z hz
      · simp only [List.mem_singleton] at hz; subst hz; exact heq
  · -- it has come to its end
    rintro D xs W2 hD hxs ⟨hne, hS, hs⟩ hK
    have hz : (-1 : Int) = log_lastS rs out := by
      refine (lastI_neg fun i hi => ?_).symm
      have hm : i ∈ xs.map (·.1.1) := by
        have hxs' : xs.map (·.1.1) = back rs.length rs.length := hxs
        rw [hxs']; simp only [back, List.mem_map, List.mem_range]; exact ⟨rs.length - 1 - i, by omega, by omega⟩
      obtain ⟨x, hx, rfl⟩ := List.mem_map.1 hm
      exact decide_eq_false (hne x hx)
    refine wpIn_seq (wpIn_region ?_)
    refine wpOpsIn_cons rfl rfl (store_in (env := [(4, AV.loc 1 0 0)]) (h := two ⟨9, 1, [AV.s out]⟩ ⟨3, 1, [AV.i .i64 0]⟩) (h' := two ⟨9, 1, [AV.s out]⟩ ⟨3, 1, [AV.i .i64 (-1)]⟩) (x := .und) (Or.inl rfl) tabS_ok kr kr rfl hs hf1 (fun t => ?_) (fun W3 μ3 st => ?_))
    · by_cases e : t = 4
      · subst e; exact hloc _ _ _ hl4
      · unfold Env.get; rw [look_cons, if_neg e]; show VR _ _ .und _; simp only [VR]
    · have R3 : Rel 16 ⟨W, W2, μ1, 2⟩ w μ3 [] (two ⟨9, 1, [AV.s out]⟩ ⟨3, 1, [AV.i .i64 (-1)]⟩) { tmps := a1.tmps, defers := [] } W3 := by
        have s0 : Since ⟨W, W2, μ1, 2⟩ μ1 W2 := ⟨Ext.refl _ _, rfl, fun _ _ h => h, hf1⟩
        refine ⟨R1.glob, s0.step st (Nat.le_refl _), Nat.le_refl _, st.sim, fun t => by show VR _ _ .und _; simp only [VR], R1.sz, rfl, fun id hid => ?_⟩
        cases e : μ3 id with
        | none => rfl
        | some s => exact absurd (st.dom id (hf1 id hid) (by rw [e]; simp)).2 (by show ¬ id < 2; exact Nat.not_lt.2 hid)
      have hmu : μ3 = μ1 := mu_eq R3 rfl (two_live _ _)
      subst hmu
      refine wpIn_ret ?_
      have hD2 := (Array.getElem?_eq_some_iff.1 hK).1
      have hdf : a1.defers = [] := R1.dfr
      show LeavesInM _ _ _ _ _ _ ({ target := .collected D, args := #[] } :: a1.defers) _ _
      rw [hdf]
      exact hleave D W3 (-1) hD (by rw [st.ext.bl D hD2 (fun z => by have := (hmut _ z).1; omega)]; exact hK) st.sim hz
  · rintro D c pre W2 hD ⟨j, hj, hmap⟩ ⟨rfl, ini, last, rfl, hini, hlast, hs'⟩ hK
    refine wpIn_ret ?_
    have hdf : a1.defers = [] := R1.dfr
    show LeavesInM _ _ _ _ _ _ ({ target := .collected D, args := #[] } :: a1.defers) _ _
    rw [hdf]
    refine hleave D W2 _ hD hK hs' (Eq.symm (lastI_at last.2.1 (decide_eq_true hlast) fun i h1 h2 => ?_))
    obtain ⟨j', rfl⟩ : ∃ j', j = j' + 1 := by
      cases j with
      | zero => simp [back] at hmap
      | succ j' => exact ⟨j', rfl⟩
    rw [back_succ, List.map_append] at hmap
    obtain ⟨e1, e2⟩ := List.append_inj' hmap rfl
    have e3 : last.1.1 = rs.length - 1 - j' := by simpa using e2
    have hm : i ∈ ini.map (·.1.1) := by
      rw [e1]; simp only [back, List.mem_map, List.mem_range]; exact ⟨rs.length - 1 - i, by omega, by omega⟩
    obtain ⟨x, hx, rfl⟩ := List.mem_map.1 hm
    exact decide_eq_false (hini x hx)
theorem w_slices_Backward_F (W : World) (rs : List DFound) (hn : rs.length ≤ 1048576) : PureAt Go.Proofs.Tryz.prog W 194 [(slA 3 DFound.av) rs] (.fn 220 [.pt [(slA 3 DFound.av) rs]]) [] := by
  refine pure_of_bodyC (fn := Go.Proofs.Tryz.f194) Go.Proofs.Tryz.func194 rfl (en194 W) (ts := [2]) rfl le <| Sq <| Rg <| Nn (AV.loc 0 0 0) ⟨32, 1, [(slA 3 DFound.av) rs]⟩ <| Aq AV.nilf <| Ad <| Sq <| Rg <| Aq (.fn 220 [.loc 0 0 0]) <| Aq (.fn 220 [.loc 0 0 0]) <| Ad <| Rt ?_
  exact ⟨Or.inr rfl, Ent.f kr⟩
abbrev RecAtF (rs : List DFound) := { x : Nat × Value // x.1 < rs.length ∧ GoodR (rs.getD x.1 default).out x.2 }
theorem back_stops_F {w1 : World} {μ1 : Mu} {n₀ : Nat} (hn0 : n₀ ≤ w1.heap.size) (p : Addr) (rs : List DFound) (hn : rs.length ≤ 1048576) (hp : CR w1 μ1 (.pt [(slA 3 DFound.av) rs]) (.pointer (some p))) :
    SeqStopsK Fence.wide 2 Go.Proofs.Tryz.prog 220 #[.pointer (some p)] (fun x : RecAtF rs => #[.int .i64 (x.1.1 : Int), x.1.2]) (KpOf n₀ w1 μ1)
      (fun ys => ys.map (·.1.1) = back rs.length rs.length) (fun pre => ∃ j, j ≤ rs.length ∧ pre.map (·.1.1) = back rs.length j) rs.length w1 := by
  intro l J Jx W hW hJ hJx hY h0
  have hS : SameAs w1 μ1 W := SameAs.below hW
  refine callsIn_of_wp Go.Proofs.Tryz.func220 rfl trivial ?_ rfl
  have hcl : CR W (mu0 (Yb w1 μ1 W)) (.pt [(slA 3 DFound.av) rs]) (.pointer (some p)) := CR_mono0 hS.rd _ _ hp
  have hvs : CRs W (mu0 (Yb w1 μ1 W)) [.raw (.func (.yield l) #[] #[]), .pt [(slA 3 DFound.av) rs]] [Value.func (.yield l) #[] #[], .pointer (some p)] := by
    simp only [CRs]
    exact ⟨_, _, rfl, by simp only [CR], _, _, rfl, hcl, rfl⟩
  have R0 : Rel 19 ⟨W, W, mu0 (Yb w1 μ1 W), 0⟩ W (mu0 (Yb w1 μ1 W)) (argEnv 0 [.raw (.func (.yield l) #[] #[]), .pt [(slA 3 DFound.av) rs]]) ⟨0, []⟩ { tmps := [Value.func (.yield l) #[] #[], .pointer (some p)].toArray ++ Array.replicate 17 undef, defers := [] } W :=
    rel_start (Glob.refl W) (fun g q => q.2) (start_env (VRs_of_CRs _ _ hvs) _) (by simp) rfl
  show Code.wpIn Fence.wide 2 _ _ _ { tmps := [Value.func (.yield l) #[] #[], .pointer (some p)].toArray ++ Array.replicate 17 undef, defers := [] } W
  refine wpIn_seq (region_qq (Or.inl rfl) tabS_ok kr (QOps.q ((slA 3 DFound.av) rs) <| QOps.p (Ai rs.length) (g_len (k := 3) (nl := false) (e := 61) (A := DFound.av) (xs := rs) kr kr) <| QOps.p (AV.i .i64 (((rs.length : Nat) : Int) - 1)) (g_subI (a := ((rs.length : Nat) : Int)) (b := 1) kr kr (by omega) (by omega)) <| QOps.q (AV.i .i64 (((rs.length : Nat) : Int) - 1)) <| QOps.done (Q := fun env => env = [(3, AV.i .i64 (((rs.length : Nat) : Int) - 1)), (6, AV.i .i64 (((rs.length : Nat) : Int) - 1)), (5, Ai rs.length), (4, (slA 3 DFound.av) rs)] ++ argEnv 0 [.raw (.func (.yield l) #[] #[]), .pt [(slA 3 DFound.av) rs]]) rfl) R0 ?_)
  rintro env1 a1 rfl R1
  refine wpIn_block (wpIn_wide.2 (wp_loop_k (fun (k : Nat) (a : Act) (W2 : World) => ∃ (pre : List (RecAtF rs)) (j : Nat), j + k = rs.length ∧ pre.map (·.1.1) = back rs.length j ∧ J pre W2 ∧
      Rel 19 ⟨W2, W2, mu0 (Yb w1 μ1 W2), 0⟩ W2 (mu0 (Yb w1 μ1 W2)) [(3, AV.i .i64 (((rs.length : Nat) : Int) - 1 - ((j : Nat) : Int))), (1, .pt [(slA 3 DFound.av) rs]), (0, .raw (.func (.yield l) #[] #[]))] ⟨0, []⟩ a W2) (k0 := rs.length) ?_ ?_))
  · refine ⟨[], 0, by omega, rfl, h0, R1.sub ⟨?_, rfl, rfl, trivial⟩⟩
    show AV.i .i64 (((rs.length : Nat) : Int) - 1) = _
    rw [show (((rs.length : Nat) : Int) - 1 - ((0 : Nat) : Int)) = (((rs.length : Nat) : Int) - 1) from by omega]
  rintro k a W2 ⟨pre, j, hjk, hpre, hJp, R⟩
  refine (wpIn_wide (n := 2)).1 ?_
  refine wpIn_seq (wpIn_seq (region_qq (Or.inl rfl) tabS_ok kr (QOps.q (AV.i .i64 (((rs.length : Nat) : Int) - 1 - ((j : Nat) : Int))) <| QOps.q (AV.b (decide ((0 : Int) ≤ (((rs.length : Nat) : Int) - 1 - ((j : Nat) : Int))))) <| QOps.done (Q := fun env => env = [(8, (AV.b (decide ((0 : Int) ≤ (((rs.length : Nat) : Int) - 1 - ((j : Nat) : Int)))))), (7, AV.i .i64 (((rs.length : Nat) : Int) - 1 - ((j : Nat) : Int))), (3, AV.i .i64 (((rs.length : Nat) : Int) - 1 - ((j : Nat) : Int))), (1, .pt [(slA 3 DFound.av) rs]), (0, .raw (.func (.yield l) #[] #[]))]) rfl) R ?_))
  rintro env2 a2 rfl R2
  have h8 := R2.env 8
  change VR _ _ (AV.b _) (a2.eval (.tmp 8)) at h8
  simp only [VR, CR] at h8
  rcases Nat.eq_zero_or_pos k with hk0 | hk0
  · refine wpIn_cond (t := false) (by rw [h8]; congr 1; exact decide_eq_false (by omega)) (wpIn_exit ?_)
    refine ⟨R2.dfr, _, results_none rfl _ _ _, ⟨_, rfl⟩, Or.inl ⟨pre, ?_, hJp⟩⟩
    show pre.map (·.1.1) = _
    rw [hpre, show j = rs.length by omega]
  refine wpIn_cond (t := true) (by rw [h8]; congr 1; exact decide_eq_true (by omega)) (wpIn_skip ?_)
  obtain ⟨m, hm⟩ : ∃ m : Nat, m = rs.length - 1 - j := ⟨_, rfl⟩
  have hme : ((rs.length : Nat) : Int) - 1 - ((j : Nat) : Int) = ((m : Nat) : Int) := by omega
  have hml : m < rs.length := by omega
  rw [hme] at R2
  refine wpIn_seq (wpIn_block (wpIn_seq (wpIn_region ?_)))
  show wpOpsIn _ _ _ _ _ ([0, 1, 2, 3, 4, 5] ++ [6, 7]) _ _
  refine region_q (os := _) (Or.inl rfl) tabS_ok kr [0, 1, 2, 3, 4, 5] rfl (QOps.q (.raw (.func (.yield l) #[] #[])) <| QOps.q (Ai m) <| QOps.q ((slA 3 DFound.av) rs) <| QOps.q (Ai m) <| QOps.p (AV.pt (DFound.av (rs.getD m default)).cells) (g_idx (k := 3) (nl := false) (e := 61) (kk := .i64) (A := DFound.av) (xs := rs) (i := m) kr kr kr ⟨by kernel_rfl, by decide⟩ (getD_some hml)) <| QOps.q (DFound.av (rs.getD m default)) <| QOps.done (Q := fun env => env = [(16, DFound.av (rs.getD m default)), (15, AV.pt (DFound.av (rs.getD m default)).cells), (14, Ai m), (13, (slA 3 DFound.av) rs), (12, Ai m), (11, .raw (.func (.yield l) #[] #[])), (8, (AV.b (decide ((0 : Int) ≤ ((m : Nat) : Int))))), (7, Ai m), (3, Ai m), (1, .pt [(slA 3 DFound.av) rs]), (0, .raw (.func (.yield l) #[] #[]))]) rfl) R2 ?_
  rintro env3 a3 rfl R3
  have g0 := R3.env 11
  change VR _ _ (AV.raw _) (a3.eval (.tmp 11)) at g0
  simp only [VR] at g0
  have g1 := R3.env 12
  change VR _ _ (Ai m) (a3.eval (.tmp 12)) at g1
  simp only [VR, CR] at g1
  have g2 := R3.env 16
  change VR _ _ (DFound.av (rs.getD m default)) (a3.eval (.tmp 16)) at g2
  generalize hv : a3.eval (.tmp 16) = v at g2
  have hgood : GoodR (rs.getD m default).out v := by
    simp only [DFound.av, slA, VR, VRs, CR] at g2
    obtain ⟨cs, rfl, v1, r1, e1, ⟨rfl, hs1⟩, v2, r2, rfl, rfl, v3, r3, rfl, h3, rfl⟩ := g2
    rcases h3 with ⟨_, rfl⟩ | ⟨_, a, c, rfl, _⟩ <;> exact ⟨_, _, congrArg Value.agg (Array.ext' e1), hs1, Or.inr ⟨_, _, _, rfl⟩⟩
  have hpl : pre.length = j := by have := congrArg List.length hpre; simpa [back] using this
  obtain ⟨fn, tm, asg, bd, hy, hR⟩ := hY pre ⟨(m, v), hml, hgood⟩ W2 hJp (by omega)
  dsimp only at hy
  have hpre' : (pre ++ [(⟨(m, v), hml, hgood⟩ : RecAtF rs)]).map (·.1.1) = back rs.length (j + 1) := by
    rw [List.map_append, hpre, back_succ]
    show _ ++ [m] = _
    rw [show m = rs.length - 1 - j by omega]
  have hrun : ∀ (c : Operand → Value) (ty : TypeId) (pos : String) (af : Array Edge), c (.tmp 11) = .func (.yield l) #[] #[] → c (.tmp 12) = .int .i64 ((m : Nat) : Int) → c (.tmp 16) = v → ∀ at' : Array TypeId,
      (execOp c ⟨some 17, .call { callee := .value (.tmp 11), args := #[.tmp 12, .tmp 16], argTypes := at' }, ty, pos, af, none⟩).run Go.Proofs.Tryz.prog W2 = .ok (.round l fn tm asg bd) W2 := by
    intro c ty pos af e1 e2 e3 at'
    unfold execOp
    simp only [resolve, e1, e2, e3, Deferred.ofValue, Sem.run_bind, Sem.run_pure, Result.andThen_ok, invoke, Array.empty_append, List.map_toArray, List.map_cons, List.map_nil, Array.append_empty]
    exact hy
  refine wpOpsIn_cons rfl rfl (wpIn_yield (Or.inl rfl) kr (hrun _ _ _ _ g0 g1 hv _) hR ?_)
  rintro e W3 (⟨rfl, hJ3, hk3⟩ | ⟨rfl, hJx3⟩)
  · refine ⟨_, rfl, ?_⟩
    have R4 : Rel 19 ⟨W3, W3, mu0 (Yb w1 μ1 W3), 0⟩ W3 (mu0 (Yb w1 μ1 W3)) [(17, .b true), (3, Ai m), (1, .pt [(slA 3 DFound.av) rs]), (0, .raw (.func (.yield l) #[] #[]))] ⟨0, []⟩ (a3.put (some 17) (.bool true)) W3 := by
      have R3' := (R3.sub (env' := [(3, Ai m), (1, .pt [(slA 3 DFound.av) rs]), (0, .raw (.func (.yield l) #[] #[]))]) ⟨rfl, rfl, rfl, trivial⟩)
      have R5 : Rel 19 ⟨W3, W3, mu0 (Yb w1 μ1 W3), 0⟩ W3 (mu0 (Yb w1 μ1 W3)) [(3, Ai m), (1, .pt [(slA 3 DFound.av) rs]), (0, .raw (.func (.yield l) #[] #[]))] ⟨0, []⟩ a3 W3 :=
        rel_start (Glob.refl W3) (fun g q => q.2) (env_later hk3 R3' kr) R3.sz R3.dfr
      exact rel_put tabS_ok R5 (Grow.refl R5.sim).step (d := some 17) (fun t ht => by cases ht; decide) (x := .b true) (by simp only [VR, CR])
    show wpOpsIn _ _ _ _ _ ([7] ++ []) _ _
    refine region_q (os := _) (Or.inl rfl) tabS_ok kr [7] rfl (QOps.q (.b false) <| QOps.done (Q := fun env => env = [(18, .b false), (17, .b true), (3, Ai m), (1, .pt [(slA 3 DFound.av) rs]), (0, .raw (.func (.yield l) #[] #[]))]) rfl) R4 ?_
    rintro env5 a5 rfl R5
    have h18 := R5.env 18
    change VR _ _ (AV.b false) (a5.eval (.tmp 18)) at h18
    simp only [VR, CR] at h18
    refine wpIn_cond (t := false) h18 (wpIn_skip ?_)
    refine region_qq (Or.inl rfl) tabS_ok kr (QOps.q (Ai m) <| QOps.p (AV.i .i64 (((m : Nat) : Int) - 1)) (g_subI (a := ((m : Nat) : Int)) (b := 1) kr kr (by omega) (by omega)) <| QOps.q (AV.i .i64 (((m : Nat) : Int) - 1)) <| QOps.done (Q := fun env => env = [(3, AV.i .i64 (((m : Nat) : Int) - 1)), (10, AV.i .i64 (((m : Nat) : Int) - 1)), (9, Ai m), (18, .b false), (17, .b true), (3, Ai m), (1, .pt [(slA 3 DFound.av) rs]), (0, .raw (.func (.yield l) #[] #[]))]) rfl) R5 ?_
    rintro env6 a6 rfl R6
    refine ⟨k - 1, by omega, pre ++ [⟨(m, v), hml, hgood⟩], j + 1, by omega, hpre', hJ3, R6.sub ⟨?_, rfl, rfl, trivial⟩⟩
    show AV.i .i64 (((m : Nat) : Int) - 1) = _
    rw [show ((rs.length : Nat) : Int) - 1 - (((j + 1 : Nat) : Nat) : Int) = ((m : Nat) : Int) - 1 from by omega]
  · refine ⟨_, rfl, ?_⟩
    have R5 : Rel 19 ⟨W3, W3, mu0 (fun _ => False), 0⟩ W3 (mu0 (fun _ => False)) [(17, .b false)] ⟨0, []⟩ (a3.put (some 17) (.bool false)) W3 := by
      have R5 : Rel 19 ⟨W3, W3, mu0 (fun _ => False), 0⟩ W3 (mu0 (fun _ => False)) [] ⟨0, []⟩ a3 W3 :=
        rel_start (Glob.refl W3) (fun g q => q.elim) (fun t => by show VR _ _ .und _; simp only [VR]) R3.sz R3.dfr
      exact rel_put tabS_ok R5 (Grow.refl R5.sim).step (d := some 17) (fun t ht => by cases ht; decide) (x := .b false) (by simp only [VR, CR])
    show wpOpsIn _ _ _ _ _ ([7] ++ []) _ _
    refine region_q (os := _) (Or.inl rfl) tabS_ok kr [7] rfl (QOps.q (.b true) <| QOps.done (Q := fun env => env = [(18, .b true), (17, .b false)]) rfl) R5 ?_
    rintro env5 a5 rfl R5
    have h18 := R5.env 18
    change VR _ _ (AV.b true) (a5.eval (.tmp 18)) at h18
    simp only [VR, CR] at h18
    refine wpIn_cond (t := true) h18 (wpIn_ret ?_)
    exact ⟨R5.dfr, _, results_none rfl _ _ _, ⟨_, rfl⟩, Or.inr ⟨_, ⟨j + 1, by omega, hpre'⟩, hJx3⟩⟩
theorem w_deplog_last (W : World) (rs : List DFound) (out : ByteArray) (hn : rs.length ≤ 1048576) : PureAt Go.Proofs.Tryz.prog W 147 [(slA 3 DFound.av) rs, .s out] (.i .i64 (deplog_lastS rs out)) [] := by
  refine pure_of_calls (en147 W) fun w Y vs hG hvs => ?_
  have hvs' : CRs w (mu0 fun _ => False) [(slA 3 DFound.av) rs, .s out] vs := CRs_mono0 (fun a u ⟨h1, h2, h3⟩ => ⟨h1, (fun q => by rcases q with q | ⟨_, _, q, _⟩; exact q; cases q), h3⟩) _ _ hvs
  have hvl := CRs_length hvs'
  match vs, hvl, hvs' with
  | [v1, v2], _, hvs' =>
  refine (callsIn_wide (n := 3)).1 (callsIn_of_wp_marks Go.Proofs.Tryz.func147 rfl trivial ?_ rfl)
  have R0 : Rel 16 ⟨W, w, mu0 fun _ => False, 0⟩ w (mu0 fun _ => False) (argEnv 0 [(slA 3 DFound.av) rs, .s out]) ⟨0, []⟩ { tmps := [v1, v2].toArray ++ Array.replicate 14 undef, defers := [] } w :=
    rel_start hG (fun g q => q.elim) (start_env (VRs_of_CRs _ _ hvs') _) (by simp) rfl
  show Code.wpIn Fence.wide 3 _ _ _ { tmps := [v1, v2].toArray ++ Array.replicate 14 undef, defers := [] } w
  refine wpIn_seq (wpIn_mono (AwpI.region (N := 0) (W := W) (Or.inl rfl) tabS_ok kr (Q := fun e env' h' => e = .normal ∧ env' = [(4, AV.loc 1 0 0), (3, AV.loc 0 0 0)] ++ argEnv 0 [(slA 3 DFound.av) rs, .s out] ∧ h' = two ⟨9, 1, [AV.s out]⟩ ⟨3, 1, [AV.i .i64 0]⟩)
    (Nn (AV.loc 0 0 0) ⟨9, 1, [AV.s out]⟩ <| Nn (AV.loc 1 0 0) ⟨3, 1, [AV.i .i64 0]⟩ <| Ad ⟨rfl, rfl, rfl⟩) _ _ _ _ _ rfl rfl R0) ?_)
  rintro e a1 w1 ⟨env1, h1, μ1, ⟨rfl, rfl, rfl⟩, R1⟩
  refine wpIn_seq (wpIn_seq (wpIn_mono (AwpI.region (N := 0) (W := W) (Or.inl rfl) tabS_ok kr (Q := fun e env' h' => e = .normal ∧ env' = [(8, .fn 220 [.pt [(slA 3 DFound.av) rs]]), (7, (slA 3 DFound.av) rs), (4, AV.loc 1 0 0), (3, AV.loc 0 0 0)] ++ argEnv 0 [(slA 3 DFound.av) rs, .s out] ∧ h' = two ⟨9, 1, [AV.s out]⟩ ⟨3, 1, [AV.i .i64 0]⟩)
    (Aq ((slA 3 DFound.av) rs) <| AOps.sc0 (vs := [(slA 3 DFound.av) rs]) (r0 := .fn 220 [.pt [(slA 3 DFound.av) rs]]) kr kr (w_slices_Backward_F W rs hn) kr le <| Ad ⟨rfl, rfl, rfl⟩) _ _ _ _ _ rfl rfl R1) ?_))
  clear R1
  rintro e a1 w1 ⟨env1, h1, μ1, ⟨rfl, rfl, rfl⟩, R1⟩
  have hs1 := R1.sim
  have hy1 : μ1.Y = fun _ => False := R1.snc.y
  have hf1 := R1.fresh
  have hown := two_own (a := ⟨9, 1, [AV.s out]⟩) (b := ⟨3, 1, [AV.i .i64 0]⟩) hf1
  have hmut : ∀ g, μ1.mut g → g < w1.heap.size ∧ w.heap.size ≤ g := by
    rintro g (q | ⟨id, sl, q, rfl⟩)
    · rw [hy1] at q; exact q.elim
    · exact ⟨(hs1.lt id sl q).2, (hs1.lt id sl q).1⟩
  have hn0 : w.heap.size ≤ w1.heap.size := hs1.below.size
  have hfn := R1.env 8
  change VR w1 μ1 (.fn 220 [.pt [(slA 3 DFound.av) rs]]) (a1.tmps.getD 8 undef) at hfn
  simp only [VR, VRs] at hfn
  obtain ⟨cs, hV, v8, r8, he8, hp8, rfl⟩ := hfn
  have hp8' := hp8
  simp only [CR] at hp8'
  obtain ⟨p, rfl, _⟩ := hp8'
  have hcs : cs = #[.pointer (some p)] := Array.ext' he8
  subst hcs
  have hV8 : a1.tmps.getD 8 undef = .func (.func 220) #[] #[.pointer (some p)] := by
    rcases hV with ⟨_, h⟩ | ⟨h, _⟩
    · exact h
    · exact absurd h (by decide)
  have hl3 := R1.env 3
  change VR w1 μ1 (.loc 0 0 0) (a1.tmps.getD 3 undef) at hl3
  have hl4 := R1.env 4
  change VR w1 μ1 (.loc 1 0 0) (a1.tmps.getD 4 undef) at hl4
  have hloc : ∀ (W : World) (id : Nat) (v : Value), VR w1 μ1 (.loc id 0 0) v → VR W μ1 (.loc id 0 0) v := fun W id v h => by simp only [VR] at h ⊢; exact h
  have hleave : ∀ (D : Nat) (W3 : World) (z : Int), w1.heap.size ≤ D → W3.heap[D]? = some (.deferred (some [])) → Sim w μ1 W3 (two ⟨9, 1, [AV.s out]⟩ ⟨3, 1, [AV.i .i64 z]⟩) → z = deplog_lastS rs out →
      LeavesInM Fence.wide 3 Go.Proofs.Tryz.prog Go.Proofs.Tryz.f147 a1.tmps (fun e w' => ∃ v, e = .returned v ∧ VR w' (mu0 Y) (.i .i64 (deplog_lastS rs out)) v ∧ Below w.heap.size w w') [{ target := .collected D, args := #[] }] .returning W3 := by
    intro D W3 z hD hK hs hz
    refine leave_in (m := 16) tabS_ok (env := [(4, AV.loc 1 0 0)]) (x := .i .i64 z) hK hs (two_plain rfl rfl) (two_own hf1) hf1 (Nat.le_trans hn0 hD) (fun W t => ?_) R1.sz kr (fun v W4 hv hb => ⟨v, rfl, ?_, hb⟩)
    · by_cases e : t = 4
      · subst e; exact hloc W 1 _ hl4
      · unfold Env.get; rw [look_cons, if_neg e]; show VR W μ1 .und _; simp only [VR]
    · simp only [VR, CR] at hv ⊢; rw [← hz]; exact hv
  refine wpIn_block (wpIn_rangeFunc_ownH (α := RecAtF rs) (F := Fence.wide) rfl (by decide) (gf := 220) (lb := #[.pointer (some p)]) hV8 trivial (fun args w => en220 W args w)
    (back_stops_F (n₀ := w.heap.size) hn0 p rs hn hp8) KpOf.trans (KpOf.put hn0) (Below.refl _ _) (fun _ => rfl)
    (fun pre W2 => (∀ x ∈ pre, (rs.getD x.1.1 default).out ≠ out) ∧ SameAs w1 μ1 W2 ∧ Sim w μ1 W2 (two ⟨9, 1, [AV.s out]⟩ ⟨3, 1, [AV.i .i64 0]⟩))
    (fun c pre W2 => c = .ret ∧ ∃ ini last, pre = ini ++ [last] ∧ (∀ x ∈ ini, (rs.getD x.1.1 default).out ≠ out) ∧ (rs.getD last.1.1 default).out = out ∧ Sim w μ1 W2 (two ⟨9, 1, [AV.s out]⟩ ⟨3, 1, [AV.i .i64 ((last.1.1 : Nat) : Int)]⟩))
    ?_ ?_ ⟨by simp, ⟨Nat.le_refl _, fun _ _ _ => rfl⟩, hs1⟩
    (fun x a' W2 => a'.tmps.size = 16 ∧ a'.defers = [] ∧ a'.tmps.getD 3 undef = a1.tmps.getD 3 undef ∧ a'.tmps.getD 4 undef = a1.tmps.getD 4 undef ∧ a'.tmps.getD 5 undef = .int .i64 ((x.1.1 : Nat) : Int) ∧
      ∃ q, a'.tmps.getD 6 undef = .pointer (some q) ∧ w1.heap.size ≤ q.block ∧ CRcells W2 (mu0 fun _ => False) [.s (rs.getD x.1.1 default).out, .und, .und] q) ?_ ?_ ?_ ?_ ?_)
  · -- I
    rintro pre A A' row ⟨h1, h2, h3⟩ hg hr
    exact ⟨h1, h2.grown hg (fun r e => (hr r e).1), h3.grown (two_plain rfl rfl) (two_own hf1) hg (fun r e => ⟨Nat.le_trans hn0 (hr r e).1, (hr r e).2⟩)⟩
  · rintro c pre A A' row ⟨h1, ini, last, h2, h3, h4, h5⟩ hg hr
    exact ⟨h1, ini, last, h2, h3, h4, h5.grown (two_plain rfl rfl) (two_own hf1) hg (fun r e => ⟨Nat.le_trans hn0 (hr r e).1, (hr r e).2⟩)⟩
  · rintro x a' _ A A' row ⟨h1, h2, h3, h4, h5, q, h6, h7, h8⟩ hg hr
    refine ⟨h1, h2, h3, h4, h5, q, h6, h7, CRcells_mono0 (fun ad u ⟨k1, k2, k3⟩ => ⟨?_, k2, k3⟩) _ _ h8⟩
    rw [cell_of_blk (hg.block _ (cell_lt k1) (fun e => ?_))]
    · exact k1
    · obtain ⟨_, o, ho, hc⟩ := hr _ e.symm
      unfold World.cell? at k1; rw [ho] at k1; cases o <;> simp_all [Go.Obj.isCells]
  · -- the assignment
    rintro l pre ⟨⟨k, v⟩, hk, hgood⟩ W2 K ⟨hne, hS, hs⟩ hK
    have hgood' : GoodR (rs.getD k default).out v := hgood
    obtain ⟨t, y, rfl, hso, hy⟩ := hgood'
    have RA : Rel 16 ⟨W2, W2, mu0 fun _ => False, 0⟩ W2 (mu0 fun _ => False) [(10, .st [.s (rs.getD k default).out, .i .i64 t, .raw y]), (9, Ai k), (4, .raw (a1.tmps.getD 4 undef)), (3, .raw (a1.tmps.getD 3 undef))] ⟨0, []⟩
        { tmps := (a1.tmps.setIfInBounds 9 (.int .i64 ((k : Nat) : Int))).setIfInBounds 10 (.agg #[.string (rs.getD k default).out, .int .i64 t, y]), defers := [] } W2 := by
      have h16 := R1.sz
      change a1.tmps.size = 16 at h16
      refine rel_start (Glob.refl W2) (fun g q => q.elim) (fun q => ?_) (by simpa using h16) rfl
      unfold Env.get
      simp only [look_cons]
      by_cases e10 : q = 10
      · subst e10
        simp only [if_true, Option.getD_some, Array.getD_eq_getD_getElem?, Array.getElem?_setIfInBounds]
        rw [if_pos (by simp; omega)]
        simp only [Option.getD_some, VR, VRs, CR]
        exact ⟨_, rfl, _, _, rfl, ⟨rfl, hso⟩, _, _, rfl, rfl, _, _, rfl, rfl, rfl⟩
      · by_cases e9 : q = 9
        · subst e9
          rw [if_neg e10, if_pos rfl]
          simp only [Option.getD_some, Array.getD_eq_getD_getElem?, Array.getElem?_setIfInBounds]
          rw [if_neg (by decide), if_pos trivial, if_pos (by omega)]
          simp only [Option.getD_some, VR, CR]
        · rw [if_neg e10, if_neg e9]
          have hq : ((a1.tmps.setIfInBounds 9 (.int .i64 ((k : Nat) : Int))).setIfInBounds 10 (.agg #[.string (rs.getD k default).out, .int .i64 t, y])).getD q undef = a1.tmps.getD q undef := by
            simp only [Array.getD_eq_getD_getElem?, Array.getElem?_setIfInBounds]
            rw [if_neg (fun e => e10 e.symm), if_neg (fun e => e9 e.symm)]
          show VR _ _ _ (((a1.tmps.setIfInBounds 9 (.int .i64 ((k : Nat) : Int))).setIfInBounds 10 (.agg #[.string (rs.getD k default).out, .int .i64 t, y])).getD q undef)
          rw [hq]
          by_cases e4 : q = 4
          · subst e4; rw [if_pos rfl]; simp only [Option.getD_some, VR]
          · by_cases e3 : q = 3
            · subst e3; rw [if_neg e4, if_pos rfl]; simp only [Option.getD_some, VR]
            · rw [if_neg e4, if_neg e3]; show VR _ _ .und _; simp only [VR]
    refine (fun (hg : ∀ tm' : Array Value, tm' = (a1.tmps.setIfInBounds 9 (.int .i64 ((k : Nat) : Int))).setIfInBounds 10 (.agg #[.string (rs.getD k default).out, .int .i64 t, y]) → Code.wpIn _ _ _ _ _ { tmps := tm', defers := [] } W2) => hg _ (by simp)) ?_
    rintro tm' rfl
    refine wpIn_mono (Q := fun e a' w' => ∃ env' h' μ', (e = .normal ∧ env' = [(6, AV.loc 0 0 0), (5, Ai k), (10, .st [.s (rs.getD k default).out, .i .i64 t, .raw y]), (9, Ai k), (4, .raw (a1.tmps.getD 4 undef)), (3, .raw (a1.tmps.getD 3 undef))] ∧ h' = ⟨1, [(0, some ⟨61, 3, [.st [.s (rs.getD k default).out, .i .i64 t, .raw y]]⟩)]⟩) ∧
        Rel 16 ⟨W2, W2, mu0 fun _ => False, 0⟩ W2 μ' env' h' a' w') ?_ ?_
    · rcases hy with ⟨s, rfl⟩ | ⟨p', n', c', rfl⟩
      all_goals
        exact AwpI.seq (N := 0) (W := W2) (Q := fun e env' h' => e = .normal ∧ env' = _ ∧ h' = _) (AwpI.region (Or.inr ⟨l, rfl⟩) tabS_ok kr (Aq (Ai k) <| Ad (AwpI.region (Or.inr ⟨l, rfl⟩) tabS_ok kr
          (Nn (AV.loc 0 0 0) ⟨61, 3, [.st [AV.s (⟨#[]⟩ : ByteArray), .i .i64 0, AV.sl 1 true []]]⟩ <| Sp 0 ⟨61, 3, [.st [.s (rs.getD k default).out, .i .i64 t, .raw _]]⟩ <| Ad ⟨rfl, rfl, rfl⟩)))) _ _ _ _ _ rfl rfl RA
    · rintro e a' W3 ⟨env', h', μ', ⟨rfl, rfl, rfl⟩, RB⟩
      have hb := RB.sim.below
      have hbn : Below w.heap.size W2 W3 := hb.mono (Nat.le_trans hn0 hS.1)
      have hkp : KpOf w.heap.size w1 μ1 W2 W3 := ⟨hbn, fun g hg _ => hb.block g (Nat.lt_of_lt_of_le hg hS.1)⟩
      refine hK a' W3 ⟨hb.size, fun q o _ hq _ => (hb.block q (Array.getElem?_eq_some_iff.1 hq).1).trans hq⟩ hkp ⟨hne, hS.step hkp, hs.keep (two_plain rfl rfl) hbn fun id sl e => hb.block _ (hs.lt id sl e).2⟩ ?_
      have q3 := RB.env 3
      have q4 := RB.env 4
      have q5 := RB.env 5
      have q6 := RB.env 6
      change VR _ _ (.raw _) _ at q3
      change VR _ _ (.raw _) _ at q4
      change VR _ _ (Ai k) _ at q5
      change VR _ _ (AV.loc 0 0 0) _ at q6
      simp only [VR] at q3 q4
      simp only [VR, CR] at q5
      obtain ⟨q, e1, e2, e3⟩ := read_new RB.sim (id := 0) rfl q6 (rs.getD k default).out _ rfl rfl
      exact ⟨RB.sz, RB.dfr, q3, q4, q5, q, e1, Nat.le_trans hS.1 e2, e3⟩
  · -- the body
    rintro l pre x a' W2 hl hr ⟨hne, hS, hs⟩ ⟨h1, h2, h3, h4, h5, q, h6, h7, h8⟩ hlen
    have h8' : CR W2 μ1 (.pt [.s (rs.getD x.1.1 default).out, .und, .und]) (.pointer (some q)) := by
      simp only [CR]
      refine ⟨q, rfl, ?_⟩
      simp only [CRcells] at h8 ⊢
      obtain ⟨⟨u0, ⟨k1, _, k3⟩, k4⟩, ⟨u1, ⟨k5, _, k7⟩, _⟩, ⟨u2, ⟨k9, _, k11⟩, _⟩, _⟩ := h8
      have hm : ¬ μ1.mut q.block := fun z => by have := (hmut _ z).1; omega
      exact ⟨⟨u0, ⟨k1, hm, k3⟩, by simp only [CR] at k4 ⊢; exact k4⟩, ⟨u1, ⟨k5, by rw [add_block]; exact hm, k7⟩, trivial⟩, ⟨u2, ⟨k9, by rw [add_block, add_block]; exact hm, k11⟩, trivial⟩, trivial⟩
    have RB : Rel 16 ⟨W, W2, μ1, 2⟩ w μ1 [(6, .pt [.s (rs.getD x.1.1 default).out, .und, .und]), (5, Ai x.1.1), (4, AV.loc 1 0 0), (3, AV.loc 0 0 0)] (two ⟨9, 1, [AV.s out]⟩ ⟨3, 1, [AV.i .i64 0]⟩) a' W2 := by
      refine ⟨R1.glob, ⟨Ext.refl _ _, rfl, fun _ _ h => h, hf1⟩, Nat.le_refl _, hs, fun t => ?_, h1, h2, hf1⟩
      unfold Env.get
      simp only [look_cons]
      by_cases e6 : t = 6
      · subst e6; rw [if_pos rfl, h6]; exact VR_of_CR _ _ h8'
      · by_cases e5 : t = 5
        · subst e5; rw [if_neg e6, if_pos rfl, h5]; simp only [Option.getD_some, VR, CR]
        · by_cases e4 : t = 4
          · subst e4; rw [if_neg e6, if_neg e5, if_pos rfl, h4]; exact hloc _ _ _ hl4
          · by_cases e3 : t = 3
            · subst e3; rw [if_neg e6, if_neg e5, if_neg e4, if_pos rfl, h3]; exact hloc _ _ _ hl3
            · rw [if_neg e6, if_neg e5, if_neg e4, if_neg e3]; show VR _ _ .und _; simp only [VR]
    refine wpIn_block (wpIn_seq (region_qq (Or.inr ⟨l, rfl⟩) tabS_ok kr (QOps.q (.pt ([AV.s (rs.getD x.1.1 default).out, .und, .und].drop 0)) <| QOps.q (.s (rs.getD x.1.1 default).out) <| QOps.q (.s out) <| QOps.q (.b (decide ((rs.getD x.1.1 default).out = out))) <| QOps.done (Q := fun env => env = [(14, .b (decide ((rs.getD x.1.1 default).out = out))), (13, .s out), (12, .s (rs.getD x.1.1 default).out), (11, .pt ([AV.s (rs.getD x.1.1 default).out, .und, .und].drop 0)), (6, .pt [.s (rs.getD x.1.1 default).out, .und, .und]), (5, Ai x.1.1), (4, AV.loc 1 0 0), (3, AV.loc 0 0 0)]) rfl) RB ?_))
    rintro env2 a2 rfl R2
    have h14 := R2.env 14
    change VR _ _ (AV.b _) (a2.eval (.tmp 14)) at h14
    simp only [VR, CR] at h14
    by_cases heq : (rs.getD x.1.1 default).out = out
    · refine wpIn_cond (t := true) (by rw [h14, decide_eq_true heq]) (wpIn_seq (wpIn_mono (AwpI.region (N := 2) (W := W) (Or.inr ⟨l, rfl⟩) tabS_ok kr (Q := fun e env' h' => e = .normal ∧ h' = two ⟨9, 1, [AV.s out]⟩ ⟨3, 1, [AV.i .i64 ((x.1.1 : Nat) : Int)]⟩)
        (Aq (Ai x.1.1) <| Sp 1 ⟨3, 1, [AV.i .i64 ((x.1.1 : Nat) : Int)]⟩ <| Ad ⟨rfl, rfl⟩) _ _ _ _ _ rfl rfl R2) ?_))
      rintro e a3 W3 ⟨env3, h3, μ3, ⟨rfl, rfl⟩, R3⟩
      have hmu : μ3 = μ1 := mu_eq R3 rfl (two_live _ _)
      subst hmu
      refine wpIn_ret ⟨⟨size_later R3.snc.ext hs R3.sim fun _ _ e => e, fun g o hg ho hc => ?_⟩, rfl, pre, x, rfl, hne, heq, R3.sim⟩
      rw [R3.snc.ext.bl g (Array.getElem?_eq_some_iff.1 ho).1 (fun z => by have := (hmut _ z).1; omega)]; exact ho
    · refine wpIn_cond (t := false) (by rw [h14, decide_eq_false heq]) (wpIn_skip ?_)
      refine ⟨KeepsFrom.refl _ _, ⟨Below.refl _ _, fun _ _ _ => rfl⟩, fun z hz => ?_, hS, hs⟩
      rcases List.mem_append.1 hz with hz | hz
      · exact hne z hz
      · simp only [List.mem_singleton] at hz; subst hz; exact heq
  · -- it has come to its end
    rintro D xs W2 hD hxs ⟨hne, hS, hs⟩ hK
    have hz : (-1 : Int) = deplog_lastS rs out := by
      refine (lastI_neg fun i hi => ?_).symm
      have hm : i ∈ xs.map (·.1.1) := by
        have hxs' : xs.map (·.1.1) = back rs.length rs.length := hxs
        rw [hxs']; simp only [back, List.mem_map, List.mem_range]; exact ⟨rs.length - 1 - i, by omega, by omega⟩
      obtain ⟨x, hx, rfl⟩ := List.mem_map.1 hm
      exact decide_eq_false (hne x hx)
    refine wpIn_seq (wpIn_region ?_)
    refine wpOpsIn_cons rfl rfl (store_in (env := [(4, AV.loc 1 0 0)]) (h := two ⟨9, 1, [AV.s out]⟩ ⟨3, 1, [AV.i .i64 0]⟩) (h' := two ⟨9, 1, [AV.s out]⟩ ⟨3, 1, [AV.i .i64 (-1)]⟩) (x := .und) (Or.inl rfl) tabS_ok kr kr rfl hs hf1 (fun t => ?_) (fun W3 μ3 st => ?_))
    · by_cases e : t = 4
      · subst e; exact hloc _ _ _ hl4
      · unfold Env.get; rw [look_cons, if_neg e]; show VR _ _ .und _; simp only [VR]
    · have R3 : Rel 16 ⟨W, W2, μ1, 2⟩ w μ3 [] (two ⟨9, 1, [AV.s out]⟩ ⟨3, 1, [AV.i .i64 (-1)]⟩) { tmps := a1.tmps, defers := [] } W3 := by
        have s0 : Since ⟨W, W2, μ1, 2⟩ μ1 W2 := ⟨Ext.refl _ _, rfl, fun _ _ h => h, hf1⟩
        refine ⟨R1.glob, s0.step st (Nat.le_refl _), Nat.le_refl _, st.sim, fun t => by show VR _ _ .und _; simp only [VR], R1.sz, rfl, fun id hid => ?_⟩
        cases e : μ3 id with
        | none => rfl
        | some s => exact absurd (st.dom id (hf1 id hid) (by rw [e]; simp)).2 (by show ¬ id < 2; exact Nat.not_lt.2 hid)
      have hmu : μ3 = μ1 := mu_eq R3 rfl (two_live _ _)
      subst hmu
      refine wpIn_ret ?_
      have hD2 := (Array.getElem?_eq_some_iff.1 hK).1
      have hdf : a1.defers = [] := R1.dfr
      show LeavesInM _ _ _ _ _ _ ({ target := .collected D, args := #[] } :: a1.defers) _ _
      rw [hdf]
      exact hleave D W3 (-1) hD (by rw [st.ext.bl D hD2 (fun z => by have := (hmut _ z).1; omega)]; exact hK) st.sim hz
  · rintro D c pre W2 hD ⟨j, hj, hmap⟩ ⟨rfl, ini, last, rfl, hini, hlast, hs'⟩ hK
    refine wpIn_ret ?_
    have hdf : a1.defers = [] := R1.dfr
    show LeavesInM _ _ _ _ _ _ ({ target := .collected D, args := #[] } :: a1.defers) _ _
    rw [hdf]
    refine hleave D W2 _ hD hK hs' (Eq.symm (lastI_at last.2.1 (decide_eq_true hlast) fun i h1 h2 => ?_))
    obtain ⟨j', rfl⟩ : ∃ j', j = j' + 1 := by
      cases j with
      | zero => simp [back] at hmap
      | succ j' => exact ⟨j', rfl⟩
    rw [back_succ, List.map_append] at hmap
    obtain ⟨e1, e2⟩ := List.append_inj' hmap rfl
    have e3 : last.1.1 = rs.length - 1 - j' := by simpa using e2
    have hm : i ∈ ini.map (·.1.1) := by
      rw [e1]; simp only [back, List.mem_map, List.mem_range]; exact ⟨rs.length - 1 - i, by omega, by omega⟩
    obtain ⟨x, hx, rfl⟩ := List.mem_map.1 hm
    exact decide_eq_false (hini x hx)
theorem w_path_Is (W : World) {m0 : Int} (hW : W.cell? ⟨0, 0, none⟩ = some (.int .i64 m0)) (s' : ByteArray) : PureAt Go.Proofs.Tryz.prog W 122 [(AV.s s')] (AV.b (m_6 s')) [] := by
 refine pure_of_bodyC (fn := Go.Proofs.Tryz.f122) Go.Proofs.Tryz.func122 rfl (en122 W) (ts := [2]) rfl le <| Sq <| Rg <| Aq (AV.b false) <| Ad <| Sq <| Rg <| Aq (AV.s s') <| AOps.sc0 (vs := [(AV.s s')]) (r0 := (AV.tup [(AV.s ((cleanS s').1)), (AV.i .i64 ((cleanS s').2))])) kr kr (w_path_Clean W hW s') kr le <| Aq (AV.tup [(AV.s ((cleanS s').1)), (AV.i .i64 ((cleanS s').2))]) <| Aq (AV.s ((cleanS s').1)) <| Aq (AV.i .i64 ((cleanS s').2)) <| Aq (AV.s ((cleanS s').1)) <| Aq (AV.i .i64 ((cleanS s').2)) <| Ad <| Sq <| Rg <| Aq (AV.i .i64 ((cleanS s').2)) <| Aq (AV.b (decide ((cleanS s').2 = (0 : Int)))) <| Aq (AV.b (decide ((cleanS s').2 = (0 : Int)))) ?_
 cases c_1 : decide ((cleanS s').2 = (0 : Int))
 have k_1 := of_decide_eq_false c_1
 refine An <| An <| An <| Aq (AV.b false) <| Aq (AV.b false) <| Ad <| Rt ?_
 have hM : m_6 s' = false := by simp only [m_6, c_1, sbt]
 refine ⟨Or.inr rfl, ?_⟩
 rw [hM]
 exact Ec
 have k_1 := of_decide_eq_true c_1
 refine Ay <| Aq (AV.s ((cleanS s').1)) <| Ay <| Aq (AV.s s') <| Ay <| Aq (AV.b (decide ((cleanS s').1 = s'))) <| Aq (AV.b (decide ((cleanS s').1 = s'))) <| Aq (AV.b (decide ((cleanS s').1 = s'))) <| Ad <| Rt ?_
 have hM : m_6 s' = decide ((cleanS s').1 = s') := by simp only [m_6, c_1, sbt]
 refine ⟨Or.inr rfl, ?_⟩
 rw [hM]
 exact Ec
theorem w_path_All (W : World) {m0 : Int} (hW : W.cell? ⟨0, 0, none⟩ = some (.int .i64 m0)) (ss : List ByteArray) (most' : Int) : PureAt Go.Proofs.Tryz.prog W 163 [((slA 1 AV.s) ss), (AV.i .i64 most')] (AV.b (m_a1 ss most')) [] := by
 refine pure_of_bodyC (fn := Go.Proofs.Tryz.f163) Go.Proofs.Tryz.func163 rfl (en163 W) (ts := [4]) rfl le <| Sq <| Rg <| Aq (AV.b false) <| Ad <| Sq <| Sq <| Rg <| Aq ((slA 1 AV.s) ss) <| Ap (Ai ss.length) (g_len (k := 1) (nl := false) (e := 9) (A := AV.s) (xs := ss) kr kr) <| Aq (AV.i .i64 (0 : Int)) <| Ad <| Awp.block <| Awp.lim 0 (x := ((slA 1 AV.s) ss)) kr fun hlm1 => ?_
 have hB1 : ss.length ≤ 281474976710656 := lim_slA hlm1
 obtain ⟨R1, hR1⟩ : ∃ R, m_ce ss 0 = R := ⟨_, rfl⟩
 refine Awp.loopT (fun (v9 : Nat) => [(0, ((slA 1 AV.s) ss)), (1, (AV.i .i64 most')), (7, ((slA 1 AV.s) ss)), (8, (Ai ss.length)), (9, (Ai v9))]) (fun (v9 : Nat) => ⟨0, []⟩) (fun (v9 : Nat) => v9 ≤ ss.length ∧ m_ce (ss.drop v9) v9 = R1) (fun (v9 : Nat) => ss.length - v9) 0 ?_ ?_ ?_
 exact ⟨[], ⟨by decide, rfl, FitsObjs.nil, (Ee (Ee (Ee (Ee (Ee EntE.nil)))))⟩, keep0⟩
 exact ⟨od, hR1⟩
 rintro v9 ⟨hi1, hE1⟩
 try dsimp only
 refine Sq <| Rg <| Aq (AV.b (decide (((v9 : Nat) : Int) < ((ss.length : Nat) : Int)))) <| Ad <| Sq ?_
 rcases Nat.lt_or_ge v9 ss.length with hl1 | hl1
 have hc1 : decide (((v9 : Nat) : Int) < ((ss.length : Nat) : Int)) = true := decide_eq_true (by omega)
 refine Awp.cond (t := true) (by rw [← hc1] <;> kernel_rfl) (Awp.skip ?_)
 obtain ⟨x1, hx1⟩ : ∃ x, ss[v9]? = some x := ⟨_, List.getElem?_eq_getElem hl1⟩
 rw [drop_at hx1, m_ce.eq_2] at hE1
 refine Sq <| Awp.block <| Sq <| Rg <| Ap (AV.pt (AV.s x1).cells) (g_idx (k := 1) (nl := false) (e := 9) (kk := .i64) (A := AV.s) (xs := ss) (i := v9) kr kr kr ⟨by kernel_rfl, by decide⟩ hx1) <| Aq (AV.s x1) <| Aq (AV.s x1) <| Ad <| Sq <| Rg <| Aq (AV.s x1) <| AOps.sc0 (vs := [(AV.s x1)]) (r0 := (AV.b (m_6 x1))) kr kr (w_path_Is W hW x1) kr le <| Aq (AV.b (!(m_6 x1))) <| Ad ?_
 cases c_1 : (!(m_6 x1))
 refine Cf <| Awp.skip <| Rg <| Ap (Ai (v9 + 1)) (g_addN (i := v9) (m := 1) kr kr sd) <| Aq (Ai (v9 + 1)) <| Ad ?_
 try simp only [c_1, sbt] at hE1
 refine ⟨v9 + 1, od, ⟨od, hE1⟩, ?_⟩
 exact ⟨[], ⟨by decide, rfl, FitsObjs.nil, (Ee (Ee (Ee (Ee (Ee EntE.nil)))))⟩, keep0⟩
 refine Ct <| Sq <| Rg <| Aq (AV.b false) <| Ad <| Rt ?_
 try simp only [c_1, sbt] at hE1
 subst hE1
 have hM : m_a1 ss most' = false := by simp only [m_a1, hR1, sbt]
 refine ⟨Or.inr rfl, ?_⟩
 rw [hM]
 exact Ec
 have hc1 : decide (((v9 : Nat) : Int) < ((ss.length : Nat) : Int)) = false := decide_eq_false (by omega)
 refine Awp.cond (t := false) (by rw [← hc1] <;> kernel_rfl) (Awp.exit ?_)
 rw [List.drop_eq_nil_of_le (hl1), m_ce.eq_1] at hE1
 subst hE1
 refine Sq <| Rg <| Aq ((slA 1 AV.s) ss) <| Ap (Ai ss.length) (g_len (k := 1) (nl := false) (e := 9) (A := AV.s) (xs := ss) kr kr) <| Aq (AV.i .i64 most') <| Aq (AV.b (decide (((ss.length : Nat) : Int) ≤ most'))) <| Aq (AV.b (decide (((ss.length : Nat) : Int) ≤ most'))) <| Ad <| Rt ?_
 have hM : m_a1 ss most' = decide (((ss.length : Nat) : Int) ≤ most') := by simp only [m_a1, hR1, sbt]
 refine ⟨Or.inr rfl, ?_⟩
 rw [hM]
 exact Ec
theorem w_name_Plain (W : World) (s' : ByteArray) (most' : Int) : PureAt Go.Proofs.Tryz.prog W 189 [(AV.s s'), (AV.i .i64 most')] (AV.b (m_a3 s' most')) [] := by
 refine pure_of_bodyC (fn := Go.Proofs.Tryz.f189) Go.Proofs.Tryz.func189 rfl (en189 W) (ts := [4]) rfl le <| Sq <| Rg <| Aq (AV.b false) <| Ad <| Sq <| Sq <| Rg <| Aq (AV.s s') <| Aq (Ai s'.size) <| Aq (AV.i .i64 (0 : Int)) <| Ad <| Awp.block <| Awp.lim 0 (x := (AV.s s')) kr fun hlm1 => ?_
 have hB1 : s'.size ≤ 281474976710656 := lim_s hlm1
 obtain ⟨R1, hR1⟩ : ∃ R, m_b0 s'.data.toList 0 = R := ⟨_, rfl⟩
 refine Awp.loopT (fun (v8 : Nat) => [(0, (AV.s s')), (1, (AV.i .i64 most')), (7, (Ai s'.size)), (8, (Ai v8))]) (fun (v8 : Nat) => ⟨0, []⟩) (fun (v8 : Nat) => v8 ≤ s'.size ∧ m_b0 (s'.data.toList.drop v8) v8 = R1) (fun (v8 : Nat) => s'.size - v8) 0 ?_ ?_ ?_
 exact ⟨[], ⟨by decide, rfl, FitsObjs.nil, (Ee (Ee (Ee (Ee EntE.nil))))⟩, keep0⟩
 exact ⟨od, hR1⟩
 rintro v8 ⟨hi1, hE1⟩
 try dsimp only
 refine Sq <| Rg <| Aq (AV.b (decide (((v8 : Nat) : Int) < ((s'.size : Nat) : Int)))) <| Ad <| Sq ?_
 rcases Nat.lt_or_ge v8 s'.size with hl1 | hl1
 have hc1 : decide (((v8 : Nat) : Int) < ((s'.size : Nat) : Int)) = true := decide_eq_true (by omega)
 refine Awp.cond (t := true) (by rw [← hc1] <;> kernel_rfl) (Awp.skip ?_)
 obtain ⟨x1, hx1, hx1l⟩ := data_get hl1
 rw [drop_at hx1l, m_b0.eq_2] at hE1
 refine Sq <| Awp.block <| Sq <| Rg <| Aq (Ai v8) <| Aq (Ai v8) <| Ad <| Sq <| Rg <| Aq (AV.s s') <| Aq (Ai v8) <| Ap (AV.i .u8 (x1.toNat : Int)) (g_str (kk := .i64) (s := s') (i := v8) (b := x1) kr kr kr hx1) <| Aq (AV.b (decide ((x1.toNat : Int) < (32 : Int)))) <| Aq (AV.b (decide ((x1.toNat : Int) < (32 : Int)))) ?_
 cases c_1 : decide ((x1.toNat : Int) < (32 : Int))
 have k_1 := of_decide_eq_false c_1
 refine Ay <| Aq (AV.s s') <| Ay <| Aq (Ai v8) <| Ay <| Ap (AV.i .u8 (x1.toNat : Int)) (g_str (kk := .i64) (s := s') (i := v8) (b := x1) kr kr kr hx1) <| Ay <| Aq (AV.b (decide ((126 : Int) < (x1.toNat : Int)))) <| Aq (AV.b (decide ((126 : Int) < (x1.toNat : Int)))) <| Ad ?_
 cases c_2 : decide ((126 : Int) < (x1.toNat : Int))
 have k_2 := of_decide_eq_false c_2
 refine Cf <| Awp.skip <| Rg <| Ap (Ai (v8 + 1)) (g_addN (i := v8) (m := 1) kr kr sd) <| Aq (Ai (v8 + 1)) <| Ad ?_
 try simp only [c_1, c_2, sbt] at hE1
 refine ⟨v8 + 1, od, ⟨od, hE1⟩, ?_⟩
 exact ⟨[], ⟨by decide, rfl, FitsObjs.nil, (Ee (Ee (Ee (Ee EntE.nil))))⟩, keep0⟩
 have k_2 := of_decide_eq_true c_2
 refine Ct <| Sq <| Rg <| Aq (AV.b false) <| Ad <| Rt ?_
 try simp only [c_1, c_2, sbt] at hE1
 subst hE1
 have hM : m_a3 s' most' = false := by simp only [m_a3, hR1, sbt]
 refine ⟨Or.inr rfl, ?_⟩
 rw [hM]
 exact Ec
 have k_1 := of_decide_eq_true c_1
 refine An <| An <| An <| An <| Aq (AV.b true) <| Ad <| Ct <| Sq <| Rg <| Aq (AV.b false) <| Ad <| Rt ?_
 try simp only [c_1, sbt] at hE1
 subst hE1
 have hM : m_a3 s' most' = false := by simp only [m_a3, hR1, sbt]
 refine ⟨Or.inr rfl, ?_⟩
 rw [hM]
 exact Ec
 have hc1 : decide (((v8 : Nat) : Int) < ((s'.size : Nat) : Int)) = false := decide_eq_false (by omega)
 refine Awp.cond (t := false) (by rw [← hc1] <;> kernel_rfl) (Awp.exit ?_)
 rw [List.drop_eq_nil_of_le (bytes_le hl1), m_b0.eq_1] at hE1
 subst hE1
 refine Sq <| Rg <| Aq (AV.s s') <| Aq (Ai s'.size) <| Aq (AV.i .i64 most') <| Aq (AV.b (decide (((s'.size : Nat) : Int) ≤ most'))) <| Aq (AV.b (decide (((s'.size : Nat) : Int) ≤ most'))) <| Ad <| Rt ?_
 have hM : m_a3 s' most' = decide (((s'.size : Nat) : Int) ≤ most') := by simp only [m_a3, hR1, sbt]
 refine ⟨Or.inr rfl, ?_⟩
 rw [hM]
 exact Ec
theorem w_graph_Command (W : World) (s' : ByteArray) : PureAt Go.Proofs.Tryz.prog W 162 [(AV.s s')] (AV.b (m_ae s')) [] := by
 refine pure_of_bodyC (fn := Go.Proofs.Tryz.f162) Go.Proofs.Tryz.func162 rfl (en162 W) (ts := [2]) rfl le <| Sq <| Rg <| Aq (AV.b false) <| Ad <| Sq <| Rg <| Aq (AV.s s') <| Aq (AV.b (!decide (s' = (⟨#[]⟩ : ByteArray)))) <| Aq (AV.b (!decide (s' = (⟨#[]⟩ : ByteArray)))) ?_
 cases c_1 : (!decide (s' = (⟨#[]⟩ : ByteArray)))
 refine An <| An <| Aq (AV.b false) <| Aq (AV.b false) <| Ad <| Rt ?_
 have hM : m_ae s' = false := by simp only [m_ae, c_1, sbt]
 refine ⟨Or.inr rfl, ?_⟩
 rw [hM]
 exact Ec
 refine Ay <| Aq (AV.s s') <| Ay <| AOps.sc0 (vs := [(AV.s s'), (AV.i .i64 (256 : Int))]) (r0 := (AV.b (m_a3 s' (256 : Int)))) kr kr (w_name_Plain W s' (256 : Int)) kr le <| Aq (AV.b (m_a3 s' (256 : Int))) <| Aq (AV.b (m_a3 s' (256 : Int))) <| Ad <| Rt ?_
 have hM : m_ae s' = (m_a3 s' (256 : Int)) := by simp only [m_ae, c_1, sbt]
 refine ⟨Or.inr rfl, ?_⟩
 rw [hM]
 exact Ec
theorem w_graph_Edge (W : World) {m0 : Int} (hW : W.cell? ⟨0, 0, none⟩ = some (.int .i64 m0)) (e : DEdge) : PureAt Go.Proofs.Tryz.prog W 165 [(AV.pt (DEdge.av e).cells)] (AV.b (m_bm e)) [] := by
 refine pure_of_bodyC (fn := Go.Proofs.Tryz.f165) Go.Proofs.Tryz.func165 rfl (en165 W) (ts := [2]) rfl le <| Sq <| Rg <| Aq (AV.b false) <| Ad <| Sq <| Sq <| Awp.drawn tabS_ok mixed 19 kr le <| Dq (AV.pt (DEdge.av e).cells) <| Dq (AV.pt (DEdge.av e).cells) <| Dq (AV.pt ((DEdge.av e).cells.drop 0)) <| Dq ((slA 1 AV.s) e.outs) <| Dq (AV.pt (DEdge.av e).cells) <| Dq (AV.pt (DEdge.av e).cells) <| Dq (AV.pt ((DEdge.av e).cells.drop 1)) <| Dq ((slA 1 AV.s) e.ins) <| Dq (AV.pt (DEdge.av e).cells) <| Dq (AV.pt (DEdge.av e).cells) <| Dq (AV.pt ((DEdge.av e).cells.drop 2)) <| Dq ((slA 1 AV.s) e.implicit) <| Dq (AV.pt (DEdge.av e).cells) <| Dq (AV.pt (DEdge.av e).cells) <| Dq (AV.pt ((DEdge.av e).cells.drop 3)) <| Dq ((slA 1 AV.s) e.order) <| AOpsD.sn (x := (AV.own 0 0 4)) (h' := ⟨1, [(0, some ⟨24, 1, [e.outs, e.ins, e.implicit, e.order].map (slA 1 AV.s)⟩)]⟩) kr le <| Dq (Ai 4) <| Dq (AV.i .i64 (0 : Int)) <| AOpsD.fin <| Awp.block ?_
 have hB1 : 4 ≤ 281474976710656 := by first | omega | (simp; done) | (simp; omega)
 obtain ⟨R1, hR1⟩ : ∃ R, m_cb [e.outs, e.ins, e.implicit, e.order] 0 = R := ⟨_, rfl⟩
 refine Awp.loopT (fun (v23 : Nat) => [(0, (AV.pt (DEdge.av e).cells)), (21, (AV.own 0 0 4)), (22, (Ai 4)), (23, (Ai v23))]) (fun (v23 : Nat) => ⟨1, [(0, some ⟨24, 1, [e.outs, e.ins, e.implicit, e.order].map (slA 1 AV.s)⟩)]⟩) (fun (v23 : Nat) => v23 ≤ 4 ∧ m_cb ([e.outs, e.ins, e.implicit, e.order].drop v23) v23 = R1) (fun (v23 : Nat) => 4 - v23) 0 ?_ ?_ ?_
 exact ⟨[0], ⟨by decide, rfl, (FitsObjs.cons (obj_row (fun _ => rfl) (e := 24) (k := 1) (A := (slA 1 AV.s)) (xs := [e.outs, e.ins, e.implicit, e.order]) rfl rfl) FitsObjs.nil), (Ee (EntE.cons (Ent.f kr) (Ee (Ee EntE.nil))))⟩, keep0⟩
 exact ⟨od, hR1⟩
 rintro v23 ⟨hi1, hE1⟩
 try dsimp only
 refine Sq <| Rg <| Aq (AV.b (decide (((v23 : Nat) : Int) < ((4 : Nat) : Int)))) <| Ad <| Sq ?_
 rcases Nat.lt_or_ge v23 4 with hl1 | hl1
 have hc1 : decide (((v23 : Nat) : Int) < ((4 : Nat) : Int)) = true := decide_eq_true (by omega)
 refine Awp.cond (t := true) (by rw [← hc1] <;> kernel_rfl) (Awp.skip ?_)
 obtain ⟨x1, hx1⟩ : ∃ x, [e.outs, e.ins, e.implicit, e.order][v23]? = some x := ⟨_, List.getElem?_eq_getElem (by first | (simpa using hl1) | omega)⟩
 rw [drop_at hx1, m_cb.eq_2] at hE1
 refine Sq <| Awp.block <| Sq <| Rg <| Ap (AV.loc 0 v23 0) (g_oidx (e := 24) (id := 0) (len := 4) (kk := .i64) (ob := ⟨24, 1, [e.outs, e.ins, e.implicit, e.order].map (slA 1 AV.s)⟩) (i := v23) kr kr kr rfl kr sd) <| Ap ((slA 1 AV.s) x1) (g_oload (e := 24) (k := 1) (i := tI_24) (id := 0) (xs := [e.outs, e.ins, e.implicit, e.order]) (A := (slA 1 AV.s)) (j := v23) kr kr rfl hx1 kr) <| Aq ((slA 1 AV.s) x1) <| Ad <| Sq <| Rg <| Aq ((slA 1 AV.s) x1) <| AOps.sc0 (vs := [((slA 1 AV.s) x1), (AV.i .i64 (8 : Int))]) (r0 := (AV.b (m_a1 x1 (8 : Int)))) kr kr (w_path_All W hW x1 (8 : Int)) kr le <| Aq (AV.b (!(m_a1 x1 (8 : Int)))) <| Ad ?_
 cases c_1 : (!(m_a1 x1 (8 : Int)))
 refine Cf <| Awp.skip <| Rg <| Ap (Ai (v23 + 1)) (g_addN (i := v23) (m := 1) kr kr sd) <| Aq (Ai (v23 + 1)) <| Ad ?_
 try simp only [c_1, sbt] at hE1
 refine ⟨v23 + 1, od, ⟨od, hE1⟩, ?_⟩
 exact ⟨[0], ⟨by decide, rfl, (FitsObjs.cons (obj_row (fun _ => rfl) (e := 24) (k := 1) (A := (slA 1 AV.s)) (xs := [e.outs, e.ins, e.implicit, e.order]) rfl rfl) FitsObjs.nil), (Ee (EntE.cons (Ent.f kr) (Ee (Ee EntE.nil))))⟩, keep0⟩
 refine Ct <| Sq <| Rg <| Aq (AV.b false) <| Ad <| Rt ?_
 try simp only [c_1, sbt] at hE1
 subst hE1
 have hM : m_bm e = false := by simp only [m_bm, hR1, sbt]
 refine ⟨Or.inr rfl, ?_⟩
 rw [hM]
 exact Ec
 have hc1 : decide (((v23 : Nat) : Int) < ((4 : Nat) : Int)) = false := decide_eq_false (by omega)
 refine Awp.cond (t := false) (by rw [← hc1] <;> kernel_rfl) (Awp.exit ?_)
 rw [List.drop_eq_nil_of_le (by first | (simpa using hl1) | omega), m_cb.eq_1] at hE1
 subst hE1
 refine Sq <| Rg <| Aq (AV.pt (DEdge.av e).cells) <| Aq (AV.pt (DEdge.av e).cells) <| Aq (AV.pt ((DEdge.av e).cells.drop 0)) <| Aq ((slA 1 AV.s) e.outs) <| Ap (Ai e.outs.length) (g_len (k := 1) (nl := false) (e := 9) (A := AV.s) (xs := e.outs) kr kr) <| Aq (AV.b (decide ((0 : Int) < ((e.outs.length : Nat) : Int)))) <| Aq (AV.b (decide ((0 : Int) < ((e.outs.length : Nat) : Int)))) ?_
 cases c_2 : decide ((0 : Int) < ((e.outs.length : Nat) : Int))
 have k_2 := of_decide_eq_false c_2
 refine An <| An <| An <| An <| An <| Aq (AV.b false) <| Aq (AV.b false) <| An <| An <| An <| An <| An <| An <| An <| An <| An <| An <| An <| An <| Aq (AV.b false) <| Aq (AV.b false) <| Ad <| Rt ?_
 have hM : m_bm e = false := by simp only [m_bm, hR1, c_2, sbt]
 refine ⟨Or.inr rfl, ?_⟩
 rw [hM]
 exact Ec
 have k_2 := of_decide_eq_true c_2
 refine Ay <| Aq (AV.pt (DEdge.av e).cells) <| Ay <| Aq (AV.pt (DEdge.av e).cells) <| Ay <| Aq (AV.pt ((DEdge.av e).cells.drop 4)) <| Ay <| Aq (AV.s e.command) <| Ay <| AOps.sc0 (vs := [(AV.s e.command)]) (r0 := (AV.b (m_ae e.command))) kr kr (w_graph_Command W e.command) kr le <| Aq (AV.b (m_ae e.command)) <| Aq (AV.b (m_ae e.command)) ?_
 cases c_3 : (m_ae e.command)
 refine An <| An <| An <| An <| An <| An <| An <| An <| An <| An <| An <| An <| Aq (AV.b false) <| Aq (AV.b false) <| Ad <| Rt ?_
 have hM : m_bm e = false := by simp only [m_bm, hR1, c_2, c_3, sbt]
 refine ⟨Or.inr rfl, ?_⟩
 rw [hM]
 exact Ec
 refine Ay <| Aq (AV.pt (DEdge.av e).cells) <| Ay <| Aq (AV.pt (DEdge.av e).cells) <| Ay <| Aq (AV.pt ((DEdge.av e).cells.drop 6)) <| Ay <| Aq (AV.s e.pool) <| Ay <| Aq (AV.b (decide (e.pool = (⟨#[]⟩ : ByteArray)))) <| Ay <| Aq (AV.b (decide (e.pool = (⟨#[]⟩ : ByteArray)))) ?_
 cases c_4 : decide (e.pool = (⟨#[]⟩ : ByteArray))
 refine Ay <| Aq (AV.pt (DEdge.av e).cells) <| Ay <| Aq (AV.pt (DEdge.av e).cells) <| Ay <| Aq (AV.pt ((DEdge.av e).cells.drop 6)) <| Ay <| Aq (AV.s e.pool) <| Ay <| AOps.sc0 (vs := [(AV.s e.pool)]) (r0 := (AV.b (mayS e.pool))) kr kr (w_name_May W e.pool) kr le <| Ay <| Aq (AV.b (mayS e.pool)) <| Aq (AV.b (mayS e.pool)) <| Aq (AV.b (mayS e.pool)) <| Ad <| Rt ?_
 have hM : m_bm e = (mayS e.pool) := by simp only [m_bm, hR1, c_2, c_3, c_4, sbt]
 refine ⟨Or.inr rfl, ?_⟩
 rw [hM]
 exact Ec
 refine An <| An <| An <| An <| An <| Ay <| Aq (AV.b true) <| Aq (AV.b true) <| Aq (AV.b true) <| Ad <| Rt ?_
 have hM : m_bm e = true := by simp only [m_bm, hR1, c_2, c_3, c_4, sbt]
 refine ⟨Or.inr rfl, ?_⟩
 rw [hM]
 exact Ec
theorem w_ref1_small (W : World) (c : Int) : PureAt Go.Proofs.Tryz.prog W 198 [(AV.i .u8 c)] (AV.b (m_bb c)) [] := by
 refine pure_of_bodyC (fn := Go.Proofs.Tryz.f198) Go.Proofs.Tryz.func198 rfl (en198 W) (ts := [2]) rfl le <| Sq <| Rg <| Aq (AV.b false) <| Ad <| Sq <| Rg <| Aq (AV.i .u8 c) <| Aq (AV.b (decide ((97 : Int) ≤ c))) <| Aq (AV.b (decide ((97 : Int) ≤ c))) ?_
 cases c_1 : decide ((97 : Int) ≤ c)
 have k_1 := of_decide_eq_false c_1
 refine An <| An <| Aq (AV.b false) <| Aq (AV.b false) <| Ay <| Aq (AV.i .u8 c) <| Ay <| Aq (AV.b (decide ((48 : Int) ≤ c))) <| Ay <| Aq (AV.b (decide ((48 : Int) ≤ c))) ?_
 cases c_2 : decide ((48 : Int) ≤ c)
 have k_2 := of_decide_eq_false c_2
 refine An <| An <| Ay <| Aq (AV.b false) <| Aq (AV.b false) <| Aq (AV.b false) <| Ad <| Rt ?_
 have hM : m_bb c = false := by simp only [m_bb, c_1, c_2, sbt]
 refine ⟨Or.inr rfl, ?_⟩
 rw [hM]
 exact Ec
 have k_2 := of_decide_eq_true c_2
 refine Ay <| Aq (AV.i .u8 c) <| Ay <| Aq (AV.b (decide (c ≤ (57 : Int)))) <| Ay <| Aq (AV.b (decide (c ≤ (57 : Int)))) <| Aq (AV.b (decide (c ≤ (57 : Int)))) <| Aq (AV.b (decide (c ≤ (57 : Int)))) <| Ad <| Rt ?_
 have hM : m_bb c = decide (c ≤ (57 : Int)) := by simp only [m_bb, c_1, c_2, sbt]
 refine ⟨Or.inr rfl, ?_⟩
 rw [hM]
 exact Ec
 have k_1 := of_decide_eq_true c_1
 refine Ay <| Aq (AV.i .u8 c) <| Ay <| Aq (AV.b (decide (c ≤ (122 : Int)))) <| Aq (AV.b (decide (c ≤ (122 : Int)))) <| Aq (AV.b (decide (c ≤ (122 : Int)))) ?_
 cases c_3 : decide (c ≤ (122 : Int))
 have k_3 := of_decide_eq_false c_3
 refine Ay <| Aq (AV.i .u8 c) <| Ay <| Aq (AV.b (decide ((48 : Int) ≤ c))) <| Ay <| Aq (AV.b (decide ((48 : Int) ≤ c))) ?_
 cases c_4 : decide ((48 : Int) ≤ c)
 have k_4 := of_decide_eq_false c_4
 refine An <| An <| Ay <| Aq (AV.b false) <| Aq (AV.b false) <| Aq (AV.b false) <| Ad <| Rt ?_
 have hM : m_bb c = false := by simp only [m_bb, c_1, c_3, c_4, sbt]
 refine ⟨Or.inr rfl, ?_⟩
 rw [hM]
 exact Ec
 have k_4 := of_decide_eq_true c_4
 refine Ay <| Aq (AV.i .u8 c) <| Ay <| Aq (AV.b (decide (c ≤ (57 : Int)))) <| Ay <| Aq (AV.b (decide (c ≤ (57 : Int)))) <| Aq (AV.b (decide (c ≤ (57 : Int)))) <| Aq (AV.b (decide (c ≤ (57 : Int)))) <| Ad <| Rt ?_
 have hM : m_bb c = decide (c ≤ (57 : Int)) := by simp only [m_bb, c_1, c_3, c_4, sbt]
 refine ⟨Or.inr rfl, ?_⟩
 rw [hM]
 exact Ec
 have k_3 := of_decide_eq_true c_3
 refine An <| An <| An <| An <| An <| An <| Aq (AV.b true) <| Aq (AV.b true) <| Ad <| Rt ?_
 have hM : m_bb c = true := by simp only [m_bb, c_1, c_3, sbt]
 refine ⟨Or.inr rfl, ?_⟩
 rw [hM]
 exact Ec
theorem w_ref1_Plain (W : World) (s' : ByteArray) (least : Int) (most' : Int) : PureAt Go.Proofs.Tryz.prog W 119 [(AV.s s'), (AV.i .i64 least), (AV.i .i64 most')] (AV.b (m_a4 s' least most')) [] := by
 refine pure_of_bodyC (fn := Go.Proofs.Tryz.f119) Go.Proofs.Tryz.func119 rfl (en119 W) (ts := [6]) rfl le <| Sq <| Rg <| Aq (AV.b false) <| Ad <| Sq <| Sq <| Rg <| Aq (AV.i .i64 (0 : Int)) <| Ad <| Awp.block <| Awp.lim 0 (x := (AV.s s')) kr fun hlm1 => ?_
 have hB1 : s'.size ≤ 281474976710656 := lim_s hlm1
 obtain ⟨R1, hR1⟩ : ∃ R, m_bp s'.data.toList 0 = R := ⟨_, rfl⟩
 refine Awp.loopT (fun (i : Nat) => [(0, (AV.s s')), (1, (AV.i .i64 least)), (2, (AV.i .i64 most')), (7, (Ai i))]) (fun (i : Nat) => ⟨0, []⟩) (fun (i : Nat) => i ≤ s'.size ∧ m_bp (s'.data.toList.drop i) i = R1) (fun (i : Nat) => s'.size - i) 0 ?_ ?_ ?_
 exact ⟨[], ⟨by decide, rfl, FitsObjs.nil, (Ee (Ee (Ee (Ee EntE.nil))))⟩, keep0⟩
 exact ⟨od, hR1⟩
 rintro i ⟨hi1, hE1⟩
 try dsimp only
 refine Sq <| Sq <| Rg <| Aq (Ai i) <| Aq (AV.s s') <| Aq (Ai s'.size) <| Aq (AV.b (decide (((i : Nat) : Int) < ((s'.size : Nat) : Int)))) <| Ad ?_
 rcases Nat.lt_or_ge i s'.size with hl1 | hl1
 have hc1 : decide (((i : Nat) : Int) < ((s'.size : Nat) : Int)) = true := decide_eq_true (by omega)
 refine Awp.cond (t := true) (by rw [← hc1] <;> kernel_rfl) (Awp.skip ?_)
 obtain ⟨x1, hx1, hx1l⟩ := data_get hl1
 rw [drop_at hx1l, m_bp.eq_2] at hE1
 refine Sq <| Awp.block <| Sq <| Rg <| Aq (AV.s s') <| Aq (Ai i) <| Ap (AV.i .u8 (x1.toNat : Int)) (g_str (kk := .i64) (s := s') (i := i) (b := x1) kr kr kr hx1) <| Aq (AV.b (decide ((x1.toNat : Int) < (32 : Int)))) <| Aq (AV.b (decide ((x1.toNat : Int) < (32 : Int)))) ?_
 cases c_1 : decide ((x1.toNat : Int) < (32 : Int))
 have k_1 := of_decide_eq_false c_1
 refine Ay <| Aq (AV.s s') <| Ay <| Aq (Ai i) <| Ay <| Ap (AV.i .u8 (x1.toNat : Int)) (g_str (kk := .i64) (s := s') (i := i) (b := x1) kr kr kr hx1) <| Ay <| Aq (AV.b (decide ((126 : Int) < (x1.toNat : Int)))) <| Aq (AV.b (decide ((126 : Int) < (x1.toNat : Int)))) <| Ad ?_
 cases c_2 : decide ((126 : Int) < (x1.toNat : Int))
 have k_2 := of_decide_eq_false c_2
 refine Cf <| Awp.skip <| Rg <| Aq (Ai i) <| Ap (Ai (i + 1)) (g_addN (i := i) (m := 1) kr kr sd) <| Aq (Ai (i + 1)) <| Ad ?_
 try simp only [c_1, c_2, sbt] at hE1
 refine ⟨i + 1, od, ⟨od, hE1⟩, ?_⟩
 exact ⟨[], ⟨by decide, rfl, FitsObjs.nil, (Ee (Ee (Ee (Ee EntE.nil))))⟩, keep0⟩
 have k_2 := of_decide_eq_true c_2
 refine Ct <| Sq <| Rg <| Aq (AV.b false) <| Ad <| Rt ?_
 try simp only [c_1, c_2, sbt] at hE1
 subst hE1
 have hM : m_a4 s' least most' = false := by simp only [m_a4, hR1, sbt]
 refine ⟨Or.inr rfl, ?_⟩
 rw [hM]
 exact Ec
 have k_1 := of_decide_eq_true c_1
 refine An <| An <| An <| An <| Aq (AV.b true) <| Ad <| Ct <| Sq <| Rg <| Aq (AV.b false) <| Ad <| Rt ?_
 try simp only [c_1, sbt] at hE1
 subst hE1
 have hM : m_a4 s' least most' = false := by simp only [m_a4, hR1, sbt]
 refine ⟨Or.inr rfl, ?_⟩
 rw [hM]
 exact Ec
 have hc1 : decide (((i : Nat) : Int) < ((s'.size : Nat) : Int)) = false := decide_eq_false (by omega)
 refine Awp.cond (t := false) (by rw [← hc1] <;> kernel_rfl) (Awp.exit ?_)
 rw [List.drop_eq_nil_of_le (bytes_le hl1), m_bp.eq_1] at hE1
 subst hE1
 refine Sq <| Rg <| Aq (AV.s s') <| Aq (Ai s'.size) <| Aq (AV.i .i64 least) <| Aq (AV.b (decide (least ≤ ((s'.size : Nat) : Int)))) <| Aq (AV.b (decide (least ≤ ((s'.size : Nat) : Int)))) ?_
 cases c_3 : decide (least ≤ ((s'.size : Nat) : Int))
 have k_3 := of_decide_eq_false c_3
 refine An <| An <| An <| An <| Aq (AV.b false) <| Aq (AV.b false) <| Ad <| Rt ?_
 have hM : m_a4 s' least most' = false := by simp only [m_a4, hR1, c_3, sbt]
 refine ⟨Or.inr rfl, ?_⟩
 rw [hM]
 exact Ec
 have k_3 := of_decide_eq_true c_3
 refine Ay <| Aq (AV.s s') <| Ay <| Aq (Ai s'.size) <| Ay <| Aq (AV.i .i64 most') <| Ay <| Aq (AV.b (decide (((s'.size : Nat) : Int) ≤ most'))) <| Aq (AV.b (decide (((s'.size : Nat) : Int) ≤ most'))) <| Aq (AV.b (decide (((s'.size : Nat) : Int) ≤ most'))) <| Ad <| Rt ?_
 have hM : m_a4 s' least most' = decide (((s'.size : Nat) : Int) ≤ most') := by simp only [m_a4, hR1, c_3, sbt]
 refine ⟨Or.inr rfl, ?_⟩
 rw [hM]
 exact Ec
theorem w_ref1_NameMay (W : World) (s' : ByteArray) : PureAt Go.Proofs.Tryz.prog W 159 [(AV.s s')] (AV.b (m_av s')) [] := by
 refine pure_of_bodyC (fn := Go.Proofs.Tryz.f159) Go.Proofs.Tryz.func159 rfl (en159 W) (ts := [2]) rfl le <| Sq <| Rg <| Aq (AV.b false) <| Ad <| Sq <| Sq <| Rg <| Aq (AV.i .i64 (0 : Int)) <| Ad <| Awp.block <| Awp.lim 0 (x := (AV.s s')) kr fun hlm1 => ?_
 have hB1 : s'.size ≤ 281474976710656 := lim_s hlm1
 obtain ⟨R1, hR1⟩ : ∃ R, m_a2 s'.data.toList 0 = R := ⟨_, rfl⟩
 refine Awp.loopT (fun (i : Nat) => [(0, (AV.s s')), (3, (Ai i))]) (fun (i : Nat) => ⟨0, []⟩) (fun (i : Nat) => i ≤ s'.size ∧ m_a2 (s'.data.toList.drop i) i = R1) (fun (i : Nat) => s'.size - i) 0 ?_ ?_ ?_
 exact ⟨[], ⟨by decide, rfl, FitsObjs.nil, (Ee (Ee EntE.nil))⟩, keep0⟩
 exact ⟨od, hR1⟩
 rintro i ⟨hi1, hE1⟩
 try dsimp only
 refine Sq <| Sq <| Rg <| Aq (Ai i) <| Aq (AV.s s') <| Aq (Ai s'.size) <| Aq (AV.b (decide (((i : Nat) : Int) < ((s'.size : Nat) : Int)))) <| Ad ?_
 rcases Nat.lt_or_ge i s'.size with hl1 | hl1
 have hc1 : decide (((i : Nat) : Int) < ((s'.size : Nat) : Int)) = true := decide_eq_true (by omega)
 refine Awp.cond (t := true) (by rw [← hc1] <;> kernel_rfl) (Awp.skip ?_)
 obtain ⟨x1, hx1, hx1l⟩ := data_get hl1
 rw [drop_at hx1l, m_a2.eq_2] at hE1
 refine Sq <| Awp.block <| Sq <| Rg <| Aq (AV.s s') <| Aq (Ai i) <| Ap (AV.i .u8 (x1.toNat : Int)) (g_str (kk := .i64) (s := s') (i := i) (b := x1) kr kr kr hx1) <| AOps.sc0 (vs := [(AV.i .u8 (x1.toNat : Int))]) (r0 := (AV.b (m_bb (x1.toNat : Int)))) kr kr (w_ref1_small W (x1.toNat : Int)) kr le <| Aq (AV.b (!(m_bb (x1.toNat : Int)))) <| Aq (AV.b (!(m_bb (x1.toNat : Int)))) ?_
 cases c_1 : (!(m_bb (x1.toNat : Int)))
 refine An <| An <| An <| An <| Aq (AV.b false) <| Aq (AV.b false) <| An <| An <| An <| An <| Aq (AV.b false) <| Aq (AV.b false) <| An <| An <| An <| An <| Aq (AV.b false) <| Aq (AV.b false) <| An <| An <| An <| An <| Aq (AV.b false) <| Ad <| Cf <| Awp.skip <| Rg <| Aq (Ai i) <| Ap (Ai (i + 1)) (g_addN (i := i) (m := 1) kr kr sd) <| Aq (Ai (i + 1)) <| Ad ?_
 try simp only [c_1, sbt] at hE1
 refine ⟨i + 1, od, ⟨od, hE1⟩, ?_⟩
 exact ⟨[], ⟨by decide, rfl, FitsObjs.nil, (Ee (Ee EntE.nil))⟩, keep0⟩
 refine Ay <| Aq (AV.s s') <| Ay <| Aq (Ai i) <| Ay <| Ap (AV.i .u8 (x1.toNat : Int)) (g_str (kk := .i64) (s := s') (i := i) (b := x1) kr kr kr hx1) <| Ay <| Aq (AV.b (!decide ((x1.toNat : Int) = (46 : Int)))) <| Aq (AV.b (!decide ((x1.toNat : Int) = (46 : Int)))) <| Aq (AV.b (!decide ((x1.toNat : Int) = (46 : Int)))) ?_
 cases c_2 : (!decide ((x1.toNat : Int) = (46 : Int)))
 have k_2 := nde c_2
 refine An <| An <| An <| An <| Aq (AV.b false) <| Aq (AV.b false) <| An <| An <| An <| An <| Aq (AV.b false) <| Aq (AV.b false) <| An <| An <| An <| An <| Aq (AV.b false) <| Ad <| Cf <| Awp.skip <| Rg <| Aq (Ai i) <| Ap (Ai (i + 1)) (g_addN (i := i) (m := 1) kr kr sd) <| Aq (Ai (i + 1)) <| Ad ?_
 try simp only [c_1, c_2, sbt] at hE1
 refine ⟨i + 1, od, ⟨od, hE1⟩, ?_⟩
 exact ⟨[], ⟨by decide, rfl, FitsObjs.nil, (Ee (Ee EntE.nil))⟩, keep0⟩
 have k_2 := ndt c_2
 refine Ay <| Aq (AV.s s') <| Ay <| Aq (Ai i) <| Ay <| Ap (AV.i .u8 (x1.toNat : Int)) (g_str (kk := .i64) (s := s') (i := i) (b := x1) kr kr kr hx1) <| Ay <| Aq (AV.b (!decide ((x1.toNat : Int) = (95 : Int)))) <| Aq (AV.b (!decide ((x1.toNat : Int) = (95 : Int)))) <| Aq (AV.b (!decide ((x1.toNat : Int) = (95 : Int)))) ?_
 cases c_3 : (!decide ((x1.toNat : Int) = (95 : Int)))
 have k_3 := nde c_3
 refine An <| An <| An <| An <| Aq (AV.b false) <| Aq (AV.b false) <| An <| An <| An <| An <| Aq (AV.b false) <| Ad <| Cf <| Awp.skip <| Rg <| Aq (Ai i) <| Ap (Ai (i + 1)) (g_addN (i := i) (m := 1) kr kr sd) <| Aq (Ai (i + 1)) <| Ad ?_
 try simp only [c_1, c_2, c_3, sbt] at hE1
 refine ⟨i + 1, od, ⟨od, hE1⟩, ?_⟩
 exact ⟨[], ⟨by decide, rfl, FitsObjs.nil, (Ee (Ee EntE.nil))⟩, keep0⟩
 have k_3 := ndt c_3
 refine Ay <| Aq (AV.s s') <| Ay <| Aq (Ai i) <| Ay <| Ap (AV.i .u8 (x1.toNat : Int)) (g_str (kk := .i64) (s := s') (i := i) (b := x1) kr kr kr hx1) <| Ay <| Aq (AV.b (!decide ((x1.toNat : Int) = (45 : Int)))) <| Aq (AV.b (!decide ((x1.toNat : Int) = (45 : Int)))) <| Aq (AV.b (!decide ((x1.toNat : Int) = (45 : Int)))) ?_
 cases c_4 : (!decide ((x1.toNat : Int) = (45 : Int)))
 have k_4 := nde c_4
 refine An <| An <| An <| An <| Aq (AV.b false) <| Ad <| Cf <| Awp.skip <| Rg <| Aq (Ai i) <| Ap (Ai (i + 1)) (g_addN (i := i) (m := 1) kr kr sd) <| Aq (Ai (i + 1)) <| Ad ?_
 try simp only [c_1, c_2, c_3, c_4, sbt] at hE1
 refine ⟨i + 1, od, ⟨od, hE1⟩, ?_⟩
 exact ⟨[], ⟨by decide, rfl, FitsObjs.nil, (Ee (Ee EntE.nil))⟩, keep0⟩
 have k_4 := ndt c_4
 refine Ay <| Aq (AV.s s') <| Ay <| Aq (Ai i) <| Ay <| Ap (AV.i .u8 (x1.toNat : Int)) (g_str (kk := .i64) (s := s') (i := i) (b := x1) kr kr kr hx1) <| Ay <| Aq (AV.b (!decide ((x1.toNat : Int) = (47 : Int)))) <| Aq (AV.b (!decide ((x1.toNat : Int) = (47 : Int)))) <| Ad ?_
 cases c_5 : (!decide ((x1.toNat : Int) = (47 : Int)))
 have k_5 := nde c_5
 refine Cf <| Awp.skip <| Rg <| Aq (Ai i) <| Ap (Ai (i + 1)) (g_addN (i := i) (m := 1) kr kr sd) <| Aq (Ai (i + 1)) <| Ad ?_
 try simp only [c_1, c_2, c_3, c_4, c_5, sbt] at hE1
 refine ⟨i + 1, od, ⟨od, hE1⟩, ?_⟩
 exact ⟨[], ⟨by decide, rfl, FitsObjs.nil, (Ee (Ee EntE.nil))⟩, keep0⟩
 have k_5 := ndt c_5
 refine Ct <| Sq <| Rg <| Aq (AV.b false) <| Ad <| Rt ?_
 try simp only [c_1, c_2, c_3, c_4, c_5, sbt] at hE1
 subst hE1
 have hM : m_av s' = false := by simp only [m_av, hR1, sbt]
 refine ⟨Or.inr rfl, ?_⟩
 rw [hM]
 exact Ec
 have hc1 : decide (((i : Nat) : Int) < ((s'.size : Nat) : Int)) = false := decide_eq_false (by omega)
 refine Awp.cond (t := false) (by rw [← hc1] <;> kernel_rfl) (Awp.exit ?_)
 rw [List.drop_eq_nil_of_le (bytes_le hl1), m_a2.eq_1] at hE1
 subst hE1
 refine Sq <| Rg <| Aq (AV.s s') <| Aq (Ai s'.size) <| Aq (AV.b (decide ((1 : Int) ≤ ((s'.size : Nat) : Int)))) <| Aq (AV.b (decide ((1 : Int) ≤ ((s'.size : Nat) : Int)))) ?_
 cases c_6 : decide ((1 : Int) ≤ ((s'.size : Nat) : Int))
 have k_6 := of_decide_eq_false c_6
 refine An <| An <| An <| Aq (AV.b false) <| Aq (AV.b false) <| Ad <| Rt ?_
 have hM : m_av s' = false := by simp only [m_av, hR1, c_6, sbt]
 refine ⟨Or.inr rfl, ?_⟩
 rw [hM]
 exact Ec
 have k_6 := of_decide_eq_true c_6
 refine Ay <| Aq (AV.s s') <| Ay <| Aq (Ai s'.size) <| Ay <| Aq (AV.b (decide (((s'.size : Nat) : Int) ≤ (16 : Int)))) <| Aq (AV.b (decide (((s'.size : Nat) : Int) ≤ (16 : Int)))) <| Aq (AV.b (decide (((s'.size : Nat) : Int) ≤ (16 : Int)))) <| Ad <| Rt ?_
 have hM : m_av s' = decide (((s'.size : Nat) : Int) ≤ (16 : Int)) := by simp only [m_av, hR1, c_6, sbt]
 refine ⟨Or.inr rfl, ?_⟩
 rw [hM]
 exact Ec
theorem w_ref1_Join (W : World) (xs : List ByteArray) (sign : ByteArray) (hz : szsum xs sign.size ≤ 281474976710656) : PureAt Go.Proofs.Tryz.prog W 150 [((slA 1 AV.s) xs), (AV.s sign)] (AV.s (m_b5 xs sign)) [] := by
 refine pure_of_bodyC (fn := Go.Proofs.Tryz.f150) Go.Proofs.Tryz.func150 rfl (en150 W) (ts := [4]) rfl le <| Sq <| Rg <| Aq (AV.s (⟨#[]⟩ : ByteArray)) <| Ad <| Sq <| Rg <| Aq (AV.s (⟨#[]⟩ : ByteArray)) <| Ad <| Sq <| Sq <| Rg <| Aq (AV.i .i64 (0 : Int)) <| Ad <| Awp.block <| Awp.lim 0 (x := ((slA 1 AV.s) xs)) kr fun hlm1 => ?_
 have hB1 : xs.length ≤ 281474976710656 := lim_slA hlm1
 obtain ⟨R1, hR1⟩ : ∃ R, m_br sign xs 0 (⟨#[]⟩ : ByteArray) = R := ⟨_, rfl⟩
 refine Awp.loopT (fun ((s', i) : ByteArray × Nat) => [(0, ((slA 1 AV.s) xs)), (1, (AV.s sign)), (5, (AV.s s')), (6, (Ai i))]) (fun ((s', i) : ByteArray × Nat) => ⟨0, []⟩) (fun ((s', i) : ByteArray × Nat) => i ≤ xs.length ∧ s'.size + szsum (xs.drop i) sign.size ≤ 281474976710656 ∧ m_br sign (xs.drop i) i s' = R1) (fun ((s', i) : ByteArray × Nat) => xs.length - i) ((⟨#[]⟩ : ByteArray), 0) ?_ ?_ ?_
 exact ⟨[], ⟨by decide, rfl, FitsObjs.nil, (Ee (Ee (Ee (Ee EntE.nil))))⟩, keep0⟩
 exact ⟨od, by (try dsimp only) <;> (show 0 + szsum xs sign.size ≤ _; omega), hR1⟩
 rintro ⟨s', i⟩ ⟨hi1, hj, hE1⟩
 try dsimp only
 refine Sq <| Sq <| Rg <| Aq (Ai i) <| Aq ((slA 1 AV.s) xs) <| Ap (Ai xs.length) (g_len (k := 1) (nl := false) (e := 9) (A := AV.s) (xs := xs) kr kr) <| Aq (AV.b (decide (((i : Nat) : Int) < ((xs.length : Nat) : Int)))) <| Ad ?_
 rcases Nat.lt_or_ge i xs.length with hl1 | hl1
 have hc1 : decide (((i : Nat) : Int) < ((xs.length : Nat) : Int)) = true := decide_eq_true (by omega)
 refine Awp.cond (t := true) (by rw [← hc1] <;> kernel_rfl) (Awp.skip ?_)
 obtain ⟨x1, hx1⟩ : ∃ x, xs[i]? = some x := ⟨_, List.getElem?_eq_getElem hl1⟩
 rw [drop_at hx1, m_br.eq_2] at hE1
 rw [drop_at hx1] at hj
 simp only [szsum] at hj
 refine Sq <| Awp.block <| Sq <| Sq <| Rg <| Aq (Ai i) <| Aq (AV.b (decide ((0 : Int) < ((i : Nat) : Int)))) <| Ad ?_
 cases c_1 : decide ((0 : Int) < ((i : Nat) : Int))
 have k_1 := of_decide_eq_false c_1
 refine Cf <| Awp.skip <| Rg <| Aq (AV.s s') <| Aq ((slA 1 AV.s) xs) <| Aq (Ai i) <| Ap (AV.pt (AV.s x1).cells) (g_idx (k := 1) (nl := false) (e := 9) (kk := .i64) (A := AV.s) (xs := xs) (i := i) kr kr kr ⟨by kernel_rfl, by decide⟩ hx1) <| Aq (AV.s x1) <| Ap (AV.s (s' ++ x1)) (g_sadd (a := s') (b := x1) kr kr sd) <| Aq (AV.s (s' ++ x1)) <| Ad <| Rg <| Aq (Ai i) <| Ap (Ai (i + 1)) (g_addN (i := i) (m := 1) kr kr sd) <| Aq (Ai (i + 1)) <| Ad ?_
 try simp only [c_1, sbt] at hE1
 refine ⟨((s' ++ x1), i + 1), od, ⟨od, by (try dsimp only) <;> (first | omega | (simp only [ByteArray.size_append]; omega)), hE1⟩, ?_⟩
 exact ⟨[], ⟨by decide, rfl, FitsObjs.nil, (Ee (Ee (Ee (Ee EntE.nil))))⟩, keep0⟩
 have k_1 := of_decide_eq_true c_1
 refine Ct <| Rg <| Aq (AV.s s') <| Aq (AV.s sign) <| Ap (AV.s (s' ++ sign)) (g_sadd (a := s') (b := sign) kr kr sd) <| Aq (AV.s (s' ++ sign)) <| Ad <| Rg <| Aq (AV.s (s' ++ sign)) <| Aq ((slA 1 AV.s) xs) <| Aq (Ai i) <| Ap (AV.pt (AV.s x1).cells) (g_idx (k := 1) (nl := false) (e := 9) (kk := .i64) (A := AV.s) (xs := xs) (i := i) kr kr kr ⟨by kernel_rfl, by decide⟩ hx1) <| Aq (AV.s x1) <| Ap (AV.s ((s' ++ sign) ++ x1)) (g_sadd (a := (s' ++ sign)) (b := x1) kr kr sd) <| Aq (AV.s ((s' ++ sign) ++ x1)) <| Ad <| Rg <| Aq (Ai i) <| Ap (Ai (i + 1)) (g_addN (i := i) (m := 1) kr kr sd) <| Aq (Ai (i + 1)) <| Ad ?_
 try simp only [c_1, sbt] at hE1
 refine ⟨(((s' ++ sign) ++ x1), i + 1), od, ⟨od, by (try dsimp only) <;> (first | omega | (simp only [ByteArray.size_append]; omega)), hE1⟩, ?_⟩
 exact ⟨[], ⟨by decide, rfl, FitsObjs.nil, (Ee (Ee (Ee (Ee EntE.nil))))⟩, keep0⟩
 have hc1 : decide (((i : Nat) : Int) < ((xs.length : Nat) : Int)) = false := decide_eq_false (by omega)
 refine Awp.cond (t := false) (by rw [← hc1] <;> kernel_rfl) (Awp.exit ?_)
 rw [List.drop_eq_nil_of_le (hl1), m_br.eq_1] at hE1
 subst hE1
 refine Sq <| Rg <| Aq (AV.s s') <| Aq (AV.s s') <| Ad <| Rt ?_
 have hM : m_b5 xs sign = s' := by simp only [m_b5, hR1, sbt]
 refine ⟨Or.inr rfl, ?_⟩
 rw [hM]
 exact Ec
theorem w_ref1_split (W : World) (s' : ByteArray) (sign : Int) (hs : s'.size ≤ 1048576) : PureAt Go.Proofs.Tryz.prog W 160 [(AV.s s'), (AV.i .u8 sign)] ((slA 1 AV.s) (m_x s' sign)) [] := by
 refine pure_of_bodyC (fn := Go.Proofs.Tryz.f160) Go.Proofs.Tryz.func160 rfl (en160 W) (ts := [4]) rfl le <| Sq <| Rg <| Aq (AV.sl 1 true []) <| Ad <| Sq <| Rg <| Aq (AV.sl 1 true []) <| Ad <| Sq <| Rg <| Aq (AV.i .i64 (0 : Int)) <| Ad <| Sq <| Sq <| Rg <| Aq (AV.i .i64 (0 : Int)) <| Ad <| Awp.block <| Awp.lim 0 (x := (AV.s s')) kr fun hlm12 => ?_
 have hB1_2 : s'.size ≤ 281474976710656 := lim_s hlm12
 obtain ⟨R1, hR1⟩ : ∃ R, m_ba s' sign (s'.size + 1 - 0 + 1) [] 0 0 = R := ⟨_, rfl⟩
 refine Awp.loopT (fun ((kf1, (out, from', i)) : Nat × ((List ByteArray) × Nat × Nat)) => [(0, (AV.s s')), (1, (AV.i .u8 sign)), (5, (accV 0 1 AV.s out)), (6, (Ai from')), (7, (Ai i))]) (fun ((kf1, (out, from', i)) : Nat × ((List ByteArray) × Nat × Nat)) => ⟨1, [(0, accO 9 1 AV.s out)]⟩) (fun ((kf1, (out, from', i)) : Nat × ((List ByteArray) × Nat × Nat)) => s'.size + 1 - i < kf1 ∧ from' ≤ i ∧ i ≤ s'.size + 1 ∧ out.length ≤ i ∧ m_ba s' sign kf1 out from' i = R1) (fun ((kf1, (out, from', i)) : Nat × ((List ByteArray) × Nat × Nat)) => kf1) (s'.size + 1 - 0 + 1, ([], 0, 0)) ?_ ?_ ?_
 exact ⟨[1000000], ⟨by decide, rfl, (FitsObjs.cons rfl FitsObjs.nil), (Ee (Ee (Ee (Ee (Ee EntE.nil)))))⟩, keep0⟩
 exact ⟨od, sdd, sdd, sdd, hR1⟩
 rintro ⟨kf1, out, from', i⟩ ⟨hi1, hf, hi2, hl, hE1⟩
 try dsimp only
 rcases kf1 with _ | kf1
 exact absurd hi1 (Nat.not_lt_zero _)
 rw [m_ba.eq_2] at hE1
 refine Sq <| Sq <| Rg <| Aq (Ai i) <| Aq (AV.s s') <| Aq (Ai s'.size) <| Aq (AV.b (decide (((i : Nat) : Int) ≤ ((s'.size : Nat) : Int)))) <| Ad ?_
 cases c_1 : decide (((i : Nat) : Int) ≤ ((s'.size : Nat) : Int))
 have k_1 := of_decide_eq_false c_1
 refine Cf <| Awp.exit ?_
 try simp only [c_1, sbt] at hE1
 subst hE1
 refine Sq <| Rg <| Aq (accV 0 1 AV.s out) <| Aq (accV 0 1 AV.s out) <| Ad <| Rt ?_
 have hM : m_x s' sign = out := by simp only [m_x, hR1, sbt]
 refine ⟨Or.inr rfl, ?_⟩
 rw [hM]
 exact Ent.cast (x' := (accV 0 1 AV.s out)) (y' := ((slA 1 AV.s) out)) kr kr (Ent.cast (x' := (accV 0 1 AV.s out)) (y' := slA 1 AV.s out) kr kr (ent_acc (fun _ => rfl) (by decide) (by decide) (e := 9) (k := 1) rfl sd))
 have k_1 := of_decide_eq_true c_1
 refine Ct <| Awp.skip <| Sq <| Awp.block ?_
 refine Awp.cut [(0, (AV.s s')), (1, (AV.i .u8 sign)), (5, (accV 0 1 AV.s out)), (6, (Ai from')), (7, (Ai i)), (24, (AV.b (decide (((i : Nat) : Int) = ((s'.size : Nat) : Int)) || decide (((s'.data.getD i 0).toNat : Int) = sign))))] ⟨1, [(0, accO 9 1 AV.s out)]⟩ ?_ ?_
 refine Rg <| Aq (Ai i) <| Aq (AV.s s') <| Aq (Ai s'.size) <| Aq (AV.b (decide (((i : Nat) : Int) = ((s'.size : Nat) : Int)))) <| Aq (AV.b (decide (((i : Nat) : Int) = ((s'.size : Nat) : Int)))) ?_
 cases c_2 : decide (((i : Nat) : Int) = ((s'.size : Nat) : Int))
 have k_2 := of_decide_eq_false c_2
 refine Ay <| Aq (AV.s s') <| Ay <| Aq (Ai i) <| Ay <| Ap (AV.i .u8 ((s'.data.getD i 0).toNat : Int)) (g_str (kk := .i64) (s := s') (i := i) (b := (s'.data.getD i 0)) kr kr kr (byteD_some sd)) <| Ay <| Aq (AV.i .u8 sign) <| Ay <| Aq (AV.b (decide (((s'.data.getD i 0).toNat : Int) = sign))) <| Aq (AV.b (decide (((s'.data.getD i 0).toNat : Int) = sign))) <| Ad ?_
 exact ⟨[0], ⟨by decide, rfl, (FitsObjs.cons (obj_acc (fun _ => rfl) (e := 9) (k := 1) (A := AV.s) (xs := out) rfl rfl) FitsObjs.nil), (Ee (Ee (EntE.cons (ent_keepA (by decide)) (Ee (Ee (Ee EntE.nil))))))⟩, keep0⟩
 have k_2 := of_decide_eq_true c_2
 refine An <| An <| An <| An <| An <| Aq (AV.b true) <| Ad ?_
 exact ⟨[0], ⟨by decide, rfl, (FitsObjs.cons (obj_acc (fun _ => rfl) (e := 9) (k := 1) (A := AV.s) (xs := out) rfl rfl) FitsObjs.nil), (Ee (Ee (EntE.cons (ent_keepA (by decide)) (Ee (Ee (Ee EntE.nil))))))⟩, keep0⟩
 cases c_3 : (decide (((i : Nat) : Int) = ((s'.size : Nat) : Int)) || decide (((s'.data.getD i 0).toNat : Int) = sign))
 refine Cf <| Awp.skip <| Rg <| Aq (Ai i) <| Ap (Ai (i + 1)) (g_addN (i := i) (m := 1) kr kr sd) <| Aq (Ai (i + 1)) <| Ad ?_
 try simp only [c_1, c_3, sbt] at hE1
 refine ⟨(kf1, (out, from', i + 1)), od, ⟨sdd, sdd, sdd, sdd, hE1⟩, ?_⟩
 exact ⟨[0], ⟨by decide, rfl, (FitsObjs.cons (obj_acc (fun _ => rfl) (e := 9) (k := 1) (A := AV.s) (xs := out) rfl rfl) FitsObjs.nil), (Ee (Ee (EntE.cons (ent_keepA (by decide)) (Ee (Ee EntE.nil)))))⟩, keep0⟩
 refine Ct <| Sq <| Rg <| Aq (accV 0 1 AV.s out) <| Aq (AV.s s') <| Aq (Ai from') <| Aq (Ai i) <| Ap (AV.s (s'.extract from' i)) (g_sub (s := s') (l := (some ((from' : Nat) : Int))) (g := (some ((i : Nat) : Int))) (a := from') (b := i) kr kr kr kr rfl rfl sd sd) <| Nn (AV.own 1 0 1) ⟨9, 1, [(s'.extract from' i)].map AV.s⟩ <| AOps.se (x := (AV.own 2 0 ((out ++ [(s'.extract from' i)]).length))) (h' := ⟨3, [(2, some ⟨9, 1, (out ++ [(s'.extract from' i)]).map AV.s⟩), (1, some ⟨9, 1, [(s'.extract from' i)].map AV.s⟩), (0, none)]⟩) (g_app (e := 9) (X := (AV.own 1 0 1)) (A := AV.s) (i := tI_9) (p := 0) (xs := out) (ys := [(s'.extract from' i)]) kr kr kr (hx := kr) kr (by simp) ⟨by decide, by kernel_rfl⟩ rfl (by intro q; first | (subst q; rfl) | (rw [q]; rfl) | (simp only [q]; rfl)) (by show _ * 16 ≤ 140737488355328; first | omega | (simp only [List.length_append, List.length_cons, List.length_nil, List.length_set, List.length_replicate]; omega) | (simp; omega)) sd) le <| Aq (AV.own 2 0 ((out ++ [(s'.extract from' i)]).length)) <| Ad <| Rg <| Aq (Ai i) <| Ap (Ai (i + 1)) (g_addN (i := i) (m := 1) kr kr sd) <| Aq (Ai (i + 1)) <| Ad <| Rg <| Aq (Ai i) <| Ap (Ai (i + 1)) (g_addN (i := i) (m := 1) kr kr sd) <| Aq (Ai (i + 1)) <| Ad ?_
 try simp only [c_1, c_3, sbt] at hE1
 refine ⟨(kf1, ((out ++ [(s'.extract from' i)]), i + 1, i + 1)), od, ⟨sdd, sdd, sdd, sdd, hE1⟩, ?_⟩
 exact ⟨[2], ⟨by decide, rfl, (FitsObjs.cons (obj_acc' (fun _ => rfl) (e := 9) (k := 1) (A := AV.s) (xs := (out ++ [(s'.extract from' i)])) (by simp) rfl rfl) FitsObjs.nil), (Ee (Ee (EntE.cons (ent_keep (A := AV.s) (xs := (out ++ [(s'.extract from' i)])) (by decide) (by simp) rfl) (Ee (Ee EntE.nil)))))⟩, keep0⟩
theorem w_ref1_CleanPath (W : World) (s' : ByteArray) : PureAt Go.Proofs.Tryz.prog W 118 [(AV.s s')] (AV.tup [(AV.s ((m_m s').1)), (AV.i .i64 ((m_m s').2))]) [] := by
 refine pure_of_bodyC (fn := Go.Proofs.Tryz.f118) Go.Proofs.Tryz.func118 rfl (en118 W) (ts := [2, 3]) rfl le <| Sq <| Rg <| Aq (AV.s (⟨#[]⟩ : ByteArray)) <| Aq (AV.i .i64 (0 : Int)) <| Ad <| Sq <| Sq <| Rg <| Aq (AV.s s') <| AOps.sc0 (vs := [(AV.s s')]) (r0 := (AV.b (m_av s'))) kr kr (w_ref1_NameMay W s') kr le <| Aq (AV.b (!(m_av s'))) <| Aq (AV.b (!(m_av s'))) ?_
 cases c_1 : (!(m_av s'))
 have q_1 := ref1_NameMay_sz c_1
 refine Ay <| Aq (AV.s s') <| Ay <| Ap (AV.i .u8 ((s'.data.getD 0 0).toNat : Int)) (g_str (kk := .i64) (s := s') (i := 0) (b := (s'.data.getD 0 0)) kr kr kr (byteD_some sd)) <| Ay <| Aq (AV.b (decide (((s'.data.getD 0 0).toNat : Int) = (47 : Int)))) <| Aq (AV.b (decide (((s'.data.getD 0 0).toNat : Int) = (47 : Int)))) <| Ad ?_
 cases c_2 : decide (((s'.data.getD 0 0).toNat : Int) = (47 : Int))
 have k_2 := of_decide_eq_false c_2
 refine Cf <| Awp.skip <| Sq <| Rg <| Aq (AV.s s') <| AOps.sc0 (vs := [(AV.s s'), (AV.i .u8 (47 : Int))]) (r0 := ((slA 1 AV.s) (m_x s' (47 : Int)))) kr kr (w_ref1_split W s' (47 : Int) (by omega)) kr le <| Aq ((slA 1 AV.s) (m_x s' (47 : Int))) <| Ad <| Sq <| Rg <| Aq (AV.sl 1 true []) <| Ad <| Sq <| Sq <| Rg <| Aq (AV.i .i64 (0 : Int)) <| Ad <| Awp.block <| Awp.lim 16 (x := ((slA 1 AV.s) (m_x s' (47 : Int)))) kr fun hlm1 => ?_
 have hB1 : (m_x s' (47 : Int)).length ≤ 281474976710656 := lim_slA hlm1
 obtain ⟨R1, hR1⟩ : ∃ R, m_ar (m_x s' (47 : Int)) 0 [] = R := ⟨_, rfl⟩
 refine Awp.loopT (fun ((b_kept, kept, i) : Bool × (List ByteArray) × Nat) => [(4, ((slA 1 AV.s) (m_x s' (47 : Int)))), (5, (accW 0 1 AV.s b_kept kept)), (6, (Ai i))]) (fun ((b_kept, kept, i) : Bool × (List ByteArray) × Nat) => ⟨1, [(0, accWO 9 1 AV.s b_kept kept)]⟩) (fun ((b_kept, kept, i) : Bool × (List ByteArray) × Nat) => i ≤ (m_x s' (47 : Int)).length ∧ (b_kept = false → kept = []) ∧ szsum kept 1 + szsum ((m_x s' (47 : Int)).drop i) 1 ≤ szsum (m_x s' (47 : Int)) 1 ∧ kept.length ≤ i ∧ m_ar ((m_x s' (47 : Int)).drop i) i kept = R1) (fun ((b_kept, kept, i) : Bool × (List ByteArray) × Nat) => (m_x s' (47 : Int)).length - i) (false, [], 0) ?_ ?_ ?_
 exact ⟨[1000000], ⟨by decide, rfl, (FitsObjs.cons rfl FitsObjs.nil), (Ee (Ee (Ee EntE.nil)))⟩, keep0⟩
 exact ⟨od, (by simp), by (try dsimp only) <;> (simp only [szsum, Nat.zero_add]; exact Nat.le_refl _), by (try dsimp only) <;> (simp), hR1⟩
 rintro ⟨b_kept, kept, i⟩ ⟨hi1, hn_kept, hk, hl, hE1⟩
 try dsimp only
 cases b_kept
 have hz_kept := hn_kept rfl
 subst hz_kept
 try dsimp only
 refine Sq <| Sq <| Rg <| Aq (Ai i) <| Aq ((slA 1 AV.s) (m_x s' (47 : Int))) <| Ap (AV.i .i64 (((m_x s' (47 : Int)).length : Nat) : Int)) (g_len (k := 1) (nl := false) (e := 9) (A := AV.s) (xs := (m_x s' (47 : Int))) kr kr) <| Aq (AV.b (decide (((i : Nat) : Int) < (((m_x s' (47 : Int)).length : Nat) : Int)))) <| Ad ?_
 rcases Nat.lt_or_ge i (m_x s' (47 : Int)).length with hl1 | hl1
 have hc1 : decide (((i : Nat) : Int) < (((m_x s' (47 : Int)).length : Nat) : Int)) = true := decide_eq_true (by omega)
 refine Awp.cond (t := true) (by rw [← hc1] <;> kernel_rfl) (Awp.skip ?_)
 obtain ⟨x1, hx1⟩ : ∃ x, (m_x s' (47 : Int))[i]? = some x := ⟨_, List.getElem?_eq_getElem hl1⟩
 rw [drop_at hx1, m_ar.eq_2] at hE1
 have hz1 := split_sz s' 47
 have hz2 := szsum_len []
 rw [drop_at hx1] at hk
 simp only [szsum] at hk
 refine Sq <| Awp.block <| Sq <| Rg <| Aq ((slA 1 AV.s) (m_x s' (47 : Int))) <| Aq (Ai i) <| Ap (AV.pt (AV.s x1).cells) (g_idx (k := 1) (nl := false) (e := 9) (kk := .i64) (A := AV.s) (xs := (m_x s' (47 : Int))) (i := i) kr kr kr ⟨by kernel_rfl, by decide⟩ hx1) <| Aq (AV.s x1) <| Ad <| Awp.block <| Sq <| Sq <| Rg <| Aq (AV.b (decide (x1 = (⟨#[]⟩ : ByteArray)))) <| Aq (AV.b (decide (x1 = (⟨#[]⟩ : ByteArray)))) <| Ad ?_
 cases c_7 : decide (x1 = (⟨#[]⟩ : ByteArray))
 refine Cf <| Rg <| Aq (AV.b (decide (x1 = (⟨#[46]⟩ : ByteArray)))) <| Aq (AV.b (decide (x1 = (⟨#[46]⟩ : ByteArray)))) <| Ad ?_
 cases c_8 : decide (x1 = (⟨#[46]⟩ : ByteArray))
 refine Cf <| Sq <| Rg <| Aq (AV.b (decide (x1 = (⟨#[46, 46]⟩ : ByteArray)))) <| Aq (AV.b (decide (x1 = (⟨#[46, 46]⟩ : ByteArray)))) <| Ad ?_
 cases c_9 : decide (x1 = (⟨#[46, 46]⟩ : ByteArray))
 refine Cf <| Rg <| Aq (AV.sl 1 true []) <| Aq ((slA 1 AV.s) (m_x s' (47 : Int))) <| Aq (Ai i) <| Ap (AV.pt (AV.s x1).cells) (g_idx (k := 1) (nl := false) (e := 9) (kk := .i64) (A := AV.s) (xs := (m_x s' (47 : Int))) (i := i) kr kr kr ⟨by kernel_rfl, by decide⟩ hx1) <| Aq (AV.s x1) <| Nn (AV.own 1 0 1) ⟨9, 1, [x1].map AV.s⟩ <| AOps.se (x := (AV.own 2 0 1)) (h' := ⟨3, [(2, some ⟨9, 1, [x1].map AV.s⟩), (1, some ⟨9, 1, [x1].map AV.s⟩), (0, none)]⟩) kr le <| Aq (AV.own 2 0 1) <| Ad <| Rg <| Aq (Ai i) <| Ap (Ai (i + 1)) (g_addN (i := i) (m := 1) kr kr sd) <| Aq (Ai (i + 1)) <| Ad ?_
 try simp only [c_7, c_8, c_9, sbt] at hE1
 refine ⟨(true, [x1], i + 1), od, ⟨od, (by simp), by (try dsimp only) <;> (first | omega | (simp only [szsum_append, szsum, Nat.add_zero]; omega) | (have := szsum_take kept (kept.length - 1) 1; omega)), by (try dsimp only) <;> (first | omega | (simp only [List.length_append, List.length_cons, List.length_nil, List.length_take]; omega)), hE1⟩, ?_⟩
 exact ⟨[2], ⟨by decide, rfl, (FitsObjs.cons (obj_row (fun _ => rfl) (e := 9) (k := 1) (A := AV.s) (xs := [x1]) rfl rfl) FitsObjs.nil), (Ee (EntE.cons (ent_keepO (by decide) (by simp)) (Ee EntE.nil)))⟩, keep0⟩
 refine Ct <| Sq <| Sq <| Rg <| Aq (AV.sl 1 true []) <| Aq (AV.i .i64 (0 : Int)) <| Aq (AV.b true) <| Ad <| Ct <| Sq <| Rg <| Aq (AV.s (⟨#[]⟩ : ByteArray)) <| Aq (AV.i .i64 (200 : Int)) <| Ad <| Rt ?_
 try simp only [c_7, c_8, c_9, sbt] at hE1
 subst hE1
 have hM : m_m s' = ((⟨#[]⟩ : ByteArray), (200 : Int)) := by simp only [m_m, c_1, c_2, hR1, sbt]
 refine ⟨Or.inr rfl, ?_⟩
 rw [hM]
 exact Ent.cast (x' := (AV.tup [(AV.s (⟨#[]⟩ : ByteArray)), (AV.i .i64 (200 : Int))])) (y' := (AV.tup [(AV.s (((⟨#[]⟩ : ByteArray), (200 : Int)).1)), (AV.i .i64 (((⟨#[]⟩ : ByteArray), (200 : Int)).2))])) kr kr (Ent.tup ⟨Ec, ⟨Ec, trivial⟩⟩ kr)
 refine Ct <| Awp.skip <| Rg <| Aq (Ai i) <| Ap (Ai (i + 1)) (g_addN (i := i) (m := 1) kr kr sd) <| Aq (Ai (i + 1)) <| Ad ?_
 try simp only [c_7, c_8, sbt] at hE1
 refine ⟨(false, [], i + 1), od, ⟨od, (by simp), by (try dsimp only) <;> (first | omega | (simp only [szsum_append, szsum, Nat.add_zero]; omega) | (have := szsum_take kept (kept.length - 1) 1; omega)), by (try dsimp only) <;> (first | omega | (simp only [List.length_append, List.length_cons, List.length_nil, List.length_take]; omega)), hE1⟩, ?_⟩
 exact ⟨[1000000], ⟨by decide, rfl, (FitsObjs.cons rfl FitsObjs.nil), (Ee (Ee (Ee EntE.nil)))⟩, keep0⟩
 refine Ct <| Awp.skip <| Ct <| Awp.skip <| Rg <| Aq (Ai i) <| Ap (Ai (i + 1)) (g_addN (i := i) (m := 1) kr kr sd) <| Aq (Ai (i + 1)) <| Ad ?_
 try simp only [c_7, sbt] at hE1
 refine ⟨(false, [], i + 1), od, ⟨od, (by simp), by (try dsimp only) <;> (first | omega | (simp only [szsum_append, szsum, Nat.add_zero]; omega) | (have := szsum_take kept (kept.length - 1) 1; omega)), by (try dsimp only) <;> (first | omega | (simp only [List.length_append, List.length_cons, List.length_nil, List.length_take]; omega)), hE1⟩, ?_⟩
 exact ⟨[1000000], ⟨by decide, rfl, (FitsObjs.cons rfl FitsObjs.nil), (Ee (Ee (Ee EntE.nil)))⟩, keep0⟩
 have hc1 : decide (((i : Nat) : Int) < (((m_x s' (47 : Int)).length : Nat) : Int)) = false := decide_eq_false (by omega)
 refine Awp.cond (t := false) (by rw [← hc1] <;> kernel_rfl) (Awp.exit ?_)
 rw [List.drop_eq_nil_of_le (hl1), m_ar.eq_1] at hE1
 subst hE1
 refine Sq <| Sq <| Rg <| Aq (AV.sl 1 true []) <| Aq (AV.i .i64 (0 : Int)) <| Aq (AV.b true) <| Ad <| Ct <| Sq <| Rg <| Aq (AV.s (⟨#[]⟩ : ByteArray)) <| Aq (AV.i .i64 (200 : Int)) <| Ad <| Rt ?_
 have hM : m_m s' = ((⟨#[]⟩ : ByteArray), (200 : Int)) := by simp only [m_m, c_1, c_2, hR1, sbt]
 refine ⟨Or.inr rfl, ?_⟩
 rw [hM]
 exact Ent.cast (x' := (AV.tup [(AV.s (⟨#[]⟩ : ByteArray)), (AV.i .i64 (200 : Int))])) (y' := (AV.tup [(AV.s (((⟨#[]⟩ : ByteArray), (200 : Int)).1)), (AV.i .i64 (((⟨#[]⟩ : ByteArray), (200 : Int)).2))])) kr kr (Ent.tup ⟨Ec, ⟨Ec, trivial⟩⟩ kr)
 try dsimp only
 refine Sq <| Sq <| Rg <| Aq (Ai i) <| Aq ((slA 1 AV.s) (m_x s' (47 : Int))) <| Ap (AV.i .i64 (((m_x s' (47 : Int)).length : Nat) : Int)) (g_len (k := 1) (nl := false) (e := 9) (A := AV.s) (xs := (m_x s' (47 : Int))) kr kr) <| Aq (AV.b (decide (((i : Nat) : Int) < (((m_x s' (47 : Int)).length : Nat) : Int)))) <| Ad ?_
 rcases Nat.lt_or_ge i (m_x s' (47 : Int)).length with hl1 | hl1
 have hc1 : decide (((i : Nat) : Int) < (((m_x s' (47 : Int)).length : Nat) : Int)) = true := decide_eq_true (by omega)
 refine Awp.cond (t := true) (by rw [← hc1] <;> kernel_rfl) (Awp.skip ?_)
 obtain ⟨x1, hx1⟩ : ∃ x, (m_x s' (47 : Int))[i]? = some x := ⟨_, List.getElem?_eq_getElem hl1⟩
 rw [drop_at hx1, m_ar.eq_2] at hE1
 have hz1 := split_sz s' 47
 have hz2 := szsum_len kept
 rw [drop_at hx1] at hk
 simp only [szsum] at hk
 refine Sq <| Awp.block <| Sq <| Rg <| Aq ((slA 1 AV.s) (m_x s' (47 : Int))) <| Aq (Ai i) <| Ap (AV.pt (AV.s x1).cells) (g_idx (k := 1) (nl := false) (e := 9) (kk := .i64) (A := AV.s) (xs := (m_x s' (47 : Int))) (i := i) kr kr kr ⟨by kernel_rfl, by decide⟩ hx1) <| Aq (AV.s x1) <| Ad <| Awp.block <| Sq <| Sq <| Rg <| Aq (AV.b (decide (x1 = (⟨#[]⟩ : ByteArray)))) <| Aq (AV.b (decide (x1 = (⟨#[]⟩ : ByteArray)))) <| Ad ?_
 cases c_10 : decide (x1 = (⟨#[]⟩ : ByteArray))
 refine Cf <| Rg <| Aq (AV.b (decide (x1 = (⟨#[46]⟩ : ByteArray)))) <| Aq (AV.b (decide (x1 = (⟨#[46]⟩ : ByteArray)))) <| Ad ?_
 cases c_11 : decide (x1 = (⟨#[46]⟩ : ByteArray))
 refine Cf <| Sq <| Rg <| Aq (AV.b (decide (x1 = (⟨#[46, 46]⟩ : ByteArray)))) <| Aq (AV.b (decide (x1 = (⟨#[46, 46]⟩ : ByteArray)))) <| Ad ?_
 cases c_12 : decide (x1 = (⟨#[46, 46]⟩ : ByteArray))
 refine Cf <| Rg <| Aq (AV.own 0 0 kept.length) <| Aq ((slA 1 AV.s) (m_x s' (47 : Int))) <| Aq (Ai i) <| Ap (AV.pt (AV.s x1).cells) (g_idx (k := 1) (nl := false) (e := 9) (kk := .i64) (A := AV.s) (xs := (m_x s' (47 : Int))) (i := i) kr kr kr ⟨by kernel_rfl, by decide⟩ hx1) <| Aq (AV.s x1) <| Nn (AV.own 1 0 1) ⟨9, 1, [x1].map AV.s⟩ <| AOps.se (x := (AV.own 2 0 ((kept ++ [x1]).length))) (h' := ⟨3, [(2, some ⟨9, 1, (kept ++ [x1]).map AV.s⟩), (1, some ⟨9, 1, [x1].map AV.s⟩), (0, none)]⟩) (g_appR (len := kept.length) (e := 9) (X := (AV.own 1 0 1)) (A := AV.s) (i := tI_9) (p := 0) (xs := kept) (ys := [x1]) kr kr kr (hx := kr) kr ⟨by decide, by kernel_rfl⟩ rfl rfl (by show _ * 16 ≤ 140737488355328; first | omega | (simp only [List.length_append, List.length_cons, List.length_nil, List.length_set, List.length_replicate]; omega) | (simp; omega)) sd) le <| Aq (AV.own 2 0 ((kept ++ [x1]).length)) <| Ad <| Rg <| Aq (Ai i) <| Ap (Ai (i + 1)) (g_addN (i := i) (m := 1) kr kr sd) <| Aq (Ai (i + 1)) <| Ad ?_
 try simp only [c_10, c_11, c_12, sbt] at hE1
 refine ⟨(true, (kept ++ [x1]), i + 1), od, ⟨od, (by simp), by (try dsimp only) <;> (first | omega | (simp only [szsum_append, szsum, Nat.add_zero]; omega) | (have := szsum_take kept (kept.length - 1) 1; omega)), by (try dsimp only) <;> (first | omega | (simp only [List.length_append, List.length_cons, List.length_nil, List.length_take]; omega)), hE1⟩, ?_⟩
 exact ⟨[2], ⟨by decide, rfl, (FitsObjs.cons (obj_row (fun _ => rfl) (e := 9) (k := 1) (A := AV.s) (xs := (kept ++ [x1])) rfl rfl) FitsObjs.nil), (Ee (EntE.cons (ent_keepO (by decide) rfl) (Ee EntE.nil)))⟩, keep0⟩
 refine Ct <| Sq <| Sq <| Rg <| Aq (AV.own 0 0 kept.length) <| Aq (Ai kept.length) <| Aq (AV.b (decide (((kept.length : Nat) : Int) = (0 : Int)))) <| Ad ?_
 cases c_13 : decide (((kept.length : Nat) : Int) = (0 : Int))
 have k_13 := of_decide_eq_false c_13
 refine Cf <| Awp.skip <| Rg <| Aq (AV.own 0 0 kept.length) <| Aq (AV.own 0 0 kept.length) <| Aq (Ai kept.length) <| Ap (AV.i .i64 ((kept.length - 1 : Nat) : Int)) (g_subN (i := kept.length) (m := 1) kr kr sd sd) <| Ap (AV.own 0 0 (kept.length - 1)) (g_cutO (e := 9) (id := 0) (len := kept.length) (ob := ⟨9, 1, kept.map AV.s⟩) (l := none) (g := (some ((kept.length - 1 : Nat) : Int))) (b := kept.length - 1) kr kr kr kr kr kr rfl rfl (by simp only [List.length_map, List.length_append, List.length_cons, List.length_nil]; omega)) <| Aq (AV.own 0 0 (kept.length - 1)) <| Ad <| Rg <| Aq (Ai i) <| Ap (Ai (i + 1)) (g_addN (i := i) (m := 1) kr kr sd) <| Aq (Ai (i + 1)) <| Ad ?_
 try simp only [c_10, c_11, c_12, c_13, sbt] at hE1
 refine ⟨(true, (kept.take (kept.length - 1)), i + 1), od, ⟨od, (by simp), by (try dsimp only) <;> (first | omega | (simp only [szsum_append, szsum, Nat.add_zero]; omega) | (have := szsum_take kept (kept.length - 1) 1; omega)), by (try dsimp only) <;> (first | omega | (simp only [List.length_append, List.length_cons, List.length_nil, List.length_take]; omega)), hE1⟩, ?_⟩
 exact ⟨[0], ⟨by decide, rfl, (FitsObjs.consW (obj_pre (fun _ => rfl) (fun _ => rfl) (e := 9) (k := 1) (A := AV.s) (xs := kept) (ys := (kept.take (kept.length - 1))) (take_pre _ _) rfl rfl) FitsObjs.nil), (Ee (EntE.cons (ent_keepO (by decide) (by simp)) (Ee EntE.nil)))⟩, keep0⟩
 have k_13 := of_decide_eq_true c_13
 refine Ct <| Sq <| Rg <| Aq (AV.s (⟨#[]⟩ : ByteArray)) <| Aq (AV.i .i64 (200 : Int)) <| Ad <| Rt ?_
 try simp only [c_10, c_11, c_12, c_13, sbt] at hE1
 subst hE1
 have hM : m_m s' = ((⟨#[]⟩ : ByteArray), (200 : Int)) := by simp only [m_m, c_1, c_2, hR1, sbt]
 refine ⟨Or.inr rfl, ?_⟩
 rw [hM]
 exact Ent.cast (x' := (AV.tup [(AV.s (⟨#[]⟩ : ByteArray)), (AV.i .i64 (200 : Int))])) (y' := (AV.tup [(AV.s (((⟨#[]⟩ : ByteArray), (200 : Int)).1)), (AV.i .i64 (((⟨#[]⟩ : ByteArray), (200 : Int)).2))])) kr kr (Ent.tup ⟨Ec, ⟨Ec, trivial⟩⟩ kr)
 refine Ct <| Awp.skip <| Rg <| Aq (Ai i) <| Ap (Ai (i + 1)) (g_addN (i := i) (m := 1) kr kr sd) <| Aq (Ai (i + 1)) <| Ad ?_
 try simp only [c_10, c_11, sbt] at hE1
 refine ⟨(true, kept, i + 1), od, ⟨od, (by simp), by (try dsimp only) <;> (first | omega | (simp only [szsum_append, szsum, Nat.add_zero]; omega) | (have := szsum_take kept (kept.length - 1) 1; omega)), by (try dsimp only) <;> (first | omega | (simp only [List.length_append, List.length_cons, List.length_nil, List.length_take]; omega)), hE1⟩, ?_⟩
 exact ⟨[0], ⟨by decide, rfl, (FitsObjs.cons (obj_row (fun _ => rfl) (e := 9) (k := 1) (A := AV.s) (xs := kept) rfl rfl) FitsObjs.nil), (Ee (EntE.cons (ent_keepO (by decide) rfl) (Ee EntE.nil)))⟩, keep0⟩
 refine Ct <| Awp.skip <| Ct <| Awp.skip <| Rg <| Aq (Ai i) <| Ap (Ai (i + 1)) (g_addN (i := i) (m := 1) kr kr sd) <| Aq (Ai (i + 1)) <| Ad ?_
 try simp only [c_10, sbt] at hE1
 refine ⟨(true, kept, i + 1), od, ⟨od, (by simp), by (try dsimp only) <;> (first | omega | (simp only [szsum_append, szsum, Nat.add_zero]; omega) | (have := szsum_take kept (kept.length - 1) 1; omega)), by (try dsimp only) <;> (first | omega | (simp only [List.length_append, List.length_cons, List.length_nil, List.length_take]; omega)), hE1⟩, ?_⟩
 exact ⟨[0], ⟨by decide, rfl, (FitsObjs.cons (obj_row (fun _ => rfl) (e := 9) (k := 1) (A := AV.s) (xs := kept) rfl rfl) FitsObjs.nil), (Ee (EntE.cons (ent_keepO (by decide) rfl) (Ee EntE.nil)))⟩, keep0⟩
 have hc1 : decide (((i : Nat) : Int) < (((m_x s' (47 : Int)).length : Nat) : Int)) = false := decide_eq_false (by omega)
 refine Awp.cond (t := false) (by rw [← hc1] <;> kernel_rfl) (Awp.exit ?_)
 rw [List.drop_eq_nil_of_le (hl1), m_ar.eq_1] at hE1
 subst hE1
 refine Sq <| Sq <| Rg <| Aq (AV.own 0 0 kept.length) <| Aq (Ai kept.length) <| Aq (AV.b (decide (((kept.length : Nat) : Int) = (0 : Int)))) <| Ad ?_
 cases c_14 : decide (((kept.length : Nat) : Int) = (0 : Int))
 have k_14 := of_decide_eq_false c_14
 refine Cf <| Awp.skip <| Sq <| Rg <| Aq (AV.own 0 0 kept.length) <| AOps.sfw (vs := [(AV.own 0 0 kept.length), (AV.s (⟨#[47]⟩ : ByteArray))]) (ss := [((slA 1 AV.s) kept), (AV.s (⟨#[47]⟩ : ByteArray))]) (r0 := (AV.s (m_b5 kept (⟨#[47]⟩ : ByteArray)))) kr (show SnapW _ _ _ from ⟨(EntK.w (EntK.cast (x' := (AV.own 0 0 kept.length)) kr kr (EntK.row (fun _ => rfl) (A := AV.s) (id := 0) (e := 9) (k := 1) (xs := kept) rfl rfl rfl sd))), ⟨(SnapW.e kr), trivial⟩⟩) (w_ref1_Join W kept (⟨#[47]⟩ : ByteArray) (split_join (by omega) hk)) rfl kr le <| Aq (AV.s (m_b5 kept (⟨#[47]⟩ : ByteArray))) <| Aq (AV.i .i64 (0 : Int)) <| Ad <| Rt ?_
 have hM : m_m s' = ((m_b5 kept (⟨#[47]⟩ : ByteArray)), (0 : Int)) := by simp only [m_m, c_1, c_2, hR1, c_14, sbt]
 refine ⟨Or.inr rfl, ?_⟩
 rw [hM]
 exact Ent.cast (x' := (AV.tup [(AV.s (m_b5 kept (⟨#[47]⟩ : ByteArray))), (AV.i .i64 (0 : Int))])) (y' := (AV.tup [(AV.s (((m_b5 kept (⟨#[47]⟩ : ByteArray)), (0 : Int)).1)), (AV.i .i64 (((m_b5 kept (⟨#[47]⟩ : ByteArray)), (0 : Int)).2))])) kr kr (Ent.tup ⟨Ec, ⟨Ec, trivial⟩⟩ kr)
 have k_14 := of_decide_eq_true c_14
 refine Ct <| Sq <| Rg <| Aq (AV.s (⟨#[]⟩ : ByteArray)) <| Aq (AV.i .i64 (200 : Int)) <| Ad <| Rt ?_
 have hM : m_m s' = ((⟨#[]⟩ : ByteArray), (200 : Int)) := by simp only [m_m, c_1, c_2, hR1, c_14, sbt]
 refine ⟨Or.inr rfl, ?_⟩
 rw [hM]
 exact Ent.cast (x' := (AV.tup [(AV.s (⟨#[]⟩ : ByteArray)), (AV.i .i64 (200 : Int))])) (y' := (AV.tup [(AV.s (((⟨#[]⟩ : ByteArray), (200 : Int)).1)), (AV.i .i64 (((⟨#[]⟩ : ByteArray), (200 : Int)).2))])) kr kr (Ent.tup ⟨Ec, ⟨Ec, trivial⟩⟩ kr)
 have k_2 := of_decide_eq_true c_2
 refine Ct <| Sq <| Rg <| Aq (AV.s (⟨#[]⟩ : ByteArray)) <| Aq (AV.i .i64 (200 : Int)) <| Ad <| Rt ?_
 have hM : m_m s' = ((⟨#[]⟩ : ByteArray), (200 : Int)) := by simp only [m_m, c_1, c_2, sbt]
 refine ⟨Or.inr rfl, ?_⟩
 rw [hM]
 exact Ent.cast (x' := (AV.tup [(AV.s (⟨#[]⟩ : ByteArray)), (AV.i .i64 (200 : Int))])) (y' := (AV.tup [(AV.s (((⟨#[]⟩ : ByteArray), (200 : Int)).1)), (AV.i .i64 (((⟨#[]⟩ : ByteArray), (200 : Int)).2))])) kr kr (Ent.tup ⟨Ec, ⟨Ec, trivial⟩⟩ kr)
 refine An <| An <| An <| Aq (AV.b true) <| Ad <| Ct <| Sq <| Rg <| Aq (AV.s (⟨#[]⟩ : ByteArray)) <| Aq (AV.i .i64 (200 : Int)) <| Ad <| Rt ?_
 have hM : m_m s' = ((⟨#[]⟩ : ByteArray), (200 : Int)) := by simp only [m_m, c_1, sbt]
 refine ⟨Or.inr rfl, ?_⟩
 rw [hM]
 exact Ent.cast (x' := (AV.tup [(AV.s (⟨#[]⟩ : ByteArray)), (AV.i .i64 (200 : Int))])) (y' := (AV.tup [(AV.s (((⟨#[]⟩ : ByteArray), (200 : Int)).1)), (AV.i .i64 (((⟨#[]⟩ : ByteArray), (200 : Int)).2))])) kr kr (Ent.tup ⟨Ec, ⟨Ec, trivial⟩⟩ kr)
theorem w_ref1_PathMay (W : World) (s' : ByteArray) : PureAt Go.Proofs.Tryz.prog W 70 [(AV.s s')] (AV.b (m_a8 s')) [] := by
 refine pure_of_bodyC (fn := Go.Proofs.Tryz.f70) Go.Proofs.Tryz.func70 rfl (en70 W) (ts := [2]) rfl le <| Sq <| Rg <| Aq (AV.b false) <| Ad <| Sq <| Rg <| Aq (AV.s s') <| AOps.sc0 (vs := [(AV.s s')]) (r0 := (AV.tup [(AV.s ((m_m s').1)), (AV.i .i64 ((m_m s').2))])) kr kr (w_ref1_CleanPath W s') kr le <| Aq (AV.tup [(AV.s ((m_m s').1)), (AV.i .i64 ((m_m s').2))]) <| Aq (AV.s ((m_m s').1)) <| Aq (AV.i .i64 ((m_m s').2)) <| Aq (AV.s ((m_m s').1)) <| Aq (AV.i .i64 ((m_m s').2)) <| Ad <| Sq <| Rg <| Aq (AV.i .i64 ((m_m s').2)) <| Aq (AV.b (decide ((m_m s').2 = (0 : Int)))) <| Aq (AV.b (decide ((m_m s').2 = (0 : Int)))) ?_
 cases c_1 : decide ((m_m s').2 = (0 : Int))
 have k_1 := of_decide_eq_false c_1
 refine An <| An <| An <| Aq (AV.b false) <| Aq (AV.b false) <| Ad <| Rt ?_
 have hM : m_a8 s' = false := by simp only [m_a8, c_1, sbt]
 refine ⟨Or.inr rfl, ?_⟩
 rw [hM]
 exact Ec
 have k_1 := of_decide_eq_true c_1
 refine Ay <| Aq (AV.s ((m_m s').1)) <| Ay <| Aq (AV.s s') <| Ay <| Aq (AV.b (decide ((m_m s').1 = s'))) <| Aq (AV.b (decide ((m_m s').1 = s'))) <| Aq (AV.b (decide ((m_m s').1 = s'))) <| Ad <| Rt ?_
 have hM : m_a8 s' = decide ((m_m s').1 = s') := by simp only [m_a8, c_1, sbt]
 refine ⟨Or.inr rfl, ?_⟩
 rw [hM]
 exact Ec
theorem w_law0_SameBools (W : World) (a : List Bool) (b : List Bool) : PureAt Go.Proofs.Tryz.prog W 22 [((slA 1 AV.b) a), ((slA 1 AV.b) b)] (AV.b (m_a9 a b)) [] := by
 refine pure_of_bodyC (fn := Go.Proofs.Tryz.f22) Go.Proofs.Tryz.func22 rfl (en22 W) (ts := [4]) rfl le <| Sq <| Rg <| Aq (AV.b false) <| Ad <| Sq <| Sq <| Rg <| Aq ((slA 1 AV.b) a) <| Ap (Ai a.length) (g_len (k := 1) (nl := false) (e := 4) (A := AV.b) (xs := a) kr kr) <| Aq ((slA 1 AV.b) b) <| Ap (Ai b.length) (g_len (k := 1) (nl := false) (e := 4) (A := AV.b) (xs := b) kr kr) <| Aq (AV.b (!decide (((a.length : Nat) : Int) = ((b.length : Nat) : Int)))) <| Ad ?_
 cases c_1 : (!decide (((a.length : Nat) : Int) = ((b.length : Nat) : Int)))
 have k_1 := nde c_1
 refine Cf <| Awp.skip <| Sq <| Sq <| Rg <| Aq (AV.i .i64 (0 : Int)) <| Ad <| Awp.block <| Awp.lim 0 (x := ((slA 1 AV.b) a)) kr fun hlm1 => ?_
 have hB1 : a.length ≤ 281474976710656 := lim_slA hlm1
 obtain ⟨R1, hR1⟩ : ∃ R, m_bz b a 0 = R := ⟨_, rfl⟩
 refine Awp.loopT (fun (i : Nat) => [(0, ((slA 1 AV.b) a)), (1, ((slA 1 AV.b) b)), (5, (Ai i))]) (fun (i : Nat) => ⟨0, []⟩) (fun (i : Nat) => i ≤ a.length ∧ m_bz b (a.drop i) i = R1) (fun (i : Nat) => a.length - i) 0 ?_ ?_ ?_
 exact ⟨[], ⟨by decide, rfl, FitsObjs.nil, (Ee (Ee (Ee EntE.nil)))⟩, keep0⟩
 exact ⟨od, hR1⟩
 rintro i ⟨hi1, hE1⟩
 try dsimp only
 refine Sq <| Sq <| Rg <| Aq (Ai i) <| Aq ((slA 1 AV.b) a) <| Ap (Ai a.length) (g_len (k := 1) (nl := false) (e := 4) (A := AV.b) (xs := a) kr kr) <| Aq (AV.b (decide (((i : Nat) : Int) < ((a.length : Nat) : Int)))) <| Ad ?_
 rcases Nat.lt_or_ge i a.length with hl1 | hl1
 have hc1 : decide (((i : Nat) : Int) < ((a.length : Nat) : Int)) = true := decide_eq_true (by omega)
 refine Awp.cond (t := true) (by rw [← hc1] <;> kernel_rfl) (Awp.skip ?_)
 obtain ⟨x1, hx1⟩ : ∃ x, a[i]? = some x := ⟨_, List.getElem?_eq_getElem hl1⟩
 rw [drop_at hx1, m_bz.eq_2] at hE1
 refine Sq <| Awp.block <| Sq <| Awp.drawn tabS_ok mixed 8 kr le <| Dq ((slA 1 AV.b) a) <| Dq (Ai i) <| Dp (AV.pt (AV.b x1).cells) (g_idx (k := 1) (nl := false) (e := 4) (kk := .i64) (A := AV.b) (xs := a) (i := i) kr kr kr ⟨by kernel_rfl, by decide⟩ hx1) <| Dq (AV.b x1) <| Dq ((slA 1 AV.b) b) <| Dq (Ai i) <| Dp (AV.pt (AV.b (b.getD i default)).cells) (g_idx (k := 1) (nl := false) (e := 4) (kk := .i64) (A := AV.b) (xs := b) (i := i) kr kr kr ⟨by kernel_rfl, by decide⟩ (getD_some sd)) <| Dq (AV.b (b.getD i default)) <| Dq (AV.b (!(x1 == (b.getD i default)))) <| AOpsD.fin ?_
 cases c_2 : (!(x1 == (b.getD i default)))
 refine Cf <| Awp.skip <| Rg <| Aq (Ai i) <| Ap (Ai (i + 1)) (g_addN (i := i) (m := 1) kr kr sd) <| Aq (Ai (i + 1)) <| Ad ?_
 try simp only [c_2, sbt] at hE1
 refine ⟨i + 1, od, ⟨od, hE1⟩, ?_⟩
 exact ⟨[], ⟨by decide, rfl, FitsObjs.nil, (Ee (Ee (Ee EntE.nil)))⟩, keep0⟩
 refine Ct <| Sq <| Rg <| Aq (AV.b false) <| Ad <| Rt ?_
 try simp only [c_2, sbt] at hE1
 subst hE1
 have hM : m_a9 a b = false := by simp only [m_a9, c_1, hR1, sbt]
 refine ⟨Or.inr rfl, ?_⟩
 rw [hM]
 exact Ec
 have hc1 : decide (((i : Nat) : Int) < ((a.length : Nat) : Int)) = false := decide_eq_false (by omega)
 refine Awp.cond (t := false) (by rw [← hc1] <;> kernel_rfl) (Awp.exit ?_)
 rw [List.drop_eq_nil_of_le (hl1), m_bz.eq_1] at hE1
 subst hE1
 refine Sq <| Rg <| Aq (AV.b true) <| Ad <| Rt ?_
 have hM : m_a9 a b = true := by simp only [m_a9, c_1, hR1, sbt]
 refine ⟨Or.inr rfl, ?_⟩
 rw [hM]
 exact Ec
 have k_1 := ndt c_1
 refine Ct <| Sq <| Rg <| Aq (AV.b false) <| Ad <| Rt ?_
 have hM : m_a9 a b = false := by simp only [m_a9, c_1, sbt]
 refine ⟨Or.inr rfl, ?_⟩
 rw [hM]
 exact Ec
theorem w_slices_Index_int_int (W : World) (s' : List Int) (v : Int) : PureAt Go.Proofs.Tryz.prog W 155 [((slA 1 (AV.i .i64)) s'), (AV.i .i64 v)] (AV.i .i64 (m_aq s' v)) [] := by
 refine pure_of_bodyC (fn := Go.Proofs.Tryz.f155) Go.Proofs.Tryz.func155 rfl (en155 W) (ts := [4]) rfl le <| Sq <| Rg <| Aq (AV.i .i64 (0 : Int)) <| Ad <| Sq <| Sq <| Rg <| Aq ((slA 1 (AV.i .i64)) s') <| Ap (Ai s'.length) (g_len (k := 1) (nl := false) (e := 3) (A := (AV.i .i64)) (xs := s') kr kr) <| Aq (AV.i .i64 (0 : Int)) <| Ad <| Awp.block <| Awp.lim 0 (x := ((slA 1 (AV.i .i64)) s')) kr fun hlm1 => ?_
 have hB1 : s'.length ≤ 281474976710656 := lim_slA hlm1
 obtain ⟨R1, hR1⟩ : ∃ R, m_be v s' 0 = R := ⟨_, rfl⟩
 refine Awp.loopT (fun (v8 : Nat) => [(0, ((slA 1 (AV.i .i64)) s')), (1, (AV.i .i64 v)), (7, (Ai s'.length)), (8, (Ai v8))]) (fun (v8 : Nat) => ⟨0, []⟩) (fun (v8 : Nat) => v8 ≤ s'.length ∧ m_be v (s'.drop v8) v8 = R1) (fun (v8 : Nat) => s'.length - v8) 0 ?_ ?_ ?_
 exact ⟨[], ⟨by decide, rfl, FitsObjs.nil, (Ee (Ee (Ee (Ee EntE.nil))))⟩, keep0⟩
 exact ⟨od, hR1⟩
 rintro v8 ⟨hi1, hE1⟩
 try dsimp only
 refine Sq <| Rg <| Aq (AV.b (decide (((v8 : Nat) : Int) < ((s'.length : Nat) : Int)))) <| Ad <| Sq ?_
 rcases Nat.lt_or_ge v8 s'.length with hl1 | hl1
 have hc1 : decide (((v8 : Nat) : Int) < ((s'.length : Nat) : Int)) = true := decide_eq_true (by omega)
 refine Awp.cond (t := true) (by rw [← hc1] <;> kernel_rfl) (Awp.skip ?_)
 obtain ⟨x1, hx1⟩ : ∃ x, s'[v8]? = some x := ⟨_, List.getElem?_eq_getElem hl1⟩
 rw [drop_at hx1, m_be.eq_2] at hE1
 refine Sq <| Awp.block <| Sq <| Rg <| Aq (Ai v8) <| Aq (Ai v8) <| Ad <| Sq <| Rg <| Aq (AV.i .i64 v) <| Aq ((slA 1 (AV.i .i64)) s') <| Aq (Ai v8) <| Ap (AV.pt ((AV.i .i64) x1).cells) (g_idx (k := 1) (nl := false) (e := 3) (kk := .i64) (A := (AV.i .i64)) (xs := s') (i := v8) kr kr kr ⟨by kernel_rfl, by decide⟩ hx1) <| Aq (AV.i .i64 x1) <| Aq (AV.b (decide (v = x1))) <| Ad ?_
 cases c_1 : decide (v = x1)
 have k_1 := of_decide_eq_false c_1
 refine Cf <| Awp.skip <| Rg <| Ap (Ai (v8 + 1)) (g_addN (i := v8) (m := 1) kr kr sd) <| Aq (Ai (v8 + 1)) <| Ad ?_
 try simp only [c_1, sbt] at hE1
 refine ⟨v8 + 1, od, ⟨od, hE1⟩, ?_⟩
 exact ⟨[], ⟨by decide, rfl, FitsObjs.nil, (Ee (Ee (Ee (Ee EntE.nil))))⟩, keep0⟩
 have k_1 := of_decide_eq_true c_1
 refine Ct <| Sq <| Rg <| Aq (Ai v8) <| Aq (Ai v8) <| Ad <| Rt ?_
 try simp only [c_1, sbt] at hE1
 subst hE1
 have hM : m_aq s' v = ((v8 : Nat) : Int) := by simp only [m_aq, hR1, sbt]
 refine ⟨Or.inr rfl, ?_⟩
 rw [hM]
 exact Ec
 have hc1 : decide (((v8 : Nat) : Int) < ((s'.length : Nat) : Int)) = false := decide_eq_false (by omega)
 refine Awp.cond (t := false) (by rw [← hc1] <;> kernel_rfl) (Awp.exit ?_)
 rw [List.drop_eq_nil_of_le (hl1), m_be.eq_1] at hE1
 subst hE1
 refine Sq <| Rg <| Aq (AV.i .i64 (-1 : Int)) <| Ad <| Rt ?_
 have hM : m_aq s' v = (-1 : Int) := by simp only [m_aq, hR1, sbt]
 refine ⟨Or.inr rfl, ?_⟩
 rw [hM]
 exact Ec
theorem w_slices_Contains_int_int (W : World) (s' : List Int) (v : Int) : PureAt Go.Proofs.Tryz.prog W 107 [((slA 1 (AV.i .i64)) s'), (AV.i .i64 v)] (AV.b (m_4 s' v)) [] := by
 refine pure_of_bodyC (fn := Go.Proofs.Tryz.f107) Go.Proofs.Tryz.func107 rfl (en107 W) (ts := [4]) rfl le <| Sq <| Rg <| Aq (AV.b false) <| Ad <| Sq <| Rg <| Aq ((slA 1 (AV.i .i64)) s') <| Aq (AV.i .i64 v) <| AOps.sc0 (vs := [((slA 1 (AV.i .i64)) s'), (AV.i .i64 v)]) (r0 := (AV.i .i64 (m_aq s' v))) kr kr (w_slices_Index_int_int W s' v) kr le <| Aq (AV.b (decide ((0 : Int) ≤ (m_aq s' v)))) <| Aq (AV.b (decide ((0 : Int) ≤ (m_aq s' v)))) <| Ad <| Rt ?_
 have hM : m_4 s' v = decide ((0 : Int) ≤ (m_aq s' v)) := by simp only [m_4, sbt]
 refine ⟨Or.inr rfl, ?_⟩
 rw [hM]
 exact Ec
theorem w_slices_Index_string_string (W : World) (s' : List ByteArray) (v : ByteArray) : PureAt Go.Proofs.Tryz.prog W 157 [((slA 1 AV.s) s'), (AV.s v)] (AV.i .i64 (m_9 s' v)) [] := by
 refine pure_of_bodyC (fn := Go.Proofs.Tryz.f157) Go.Proofs.Tryz.func157 rfl (en157 W) (ts := [4]) rfl le <| Sq <| Rg <| Aq (AV.i .i64 (0 : Int)) <| Ad <| Sq <| Sq <| Rg <| Aq ((slA 1 AV.s) s') <| Ap (Ai s'.length) (g_len (k := 1) (nl := false) (e := 9) (A := AV.s) (xs := s') kr kr) <| Aq (AV.i .i64 (0 : Int)) <| Ad <| Awp.block <| Awp.lim 0 (x := ((slA 1 AV.s) s')) kr fun hlm1 => ?_
 have hB1 : s'.length ≤ 281474976710656 := lim_slA hlm1
 obtain ⟨R1, hR1⟩ : ∃ R, m_aw v s' 0 = R := ⟨_, rfl⟩
 refine Awp.loopT (fun (v8 : Nat) => [(0, ((slA 1 AV.s) s')), (1, (AV.s v)), (7, (Ai s'.length)), (8, (Ai v8))]) (fun (v8 : Nat) => ⟨0, []⟩) (fun (v8 : Nat) => v8 ≤ s'.length ∧ m_aw v (s'.drop v8) v8 = R1) (fun (v8 : Nat) => s'.length - v8) 0 ?_ ?_ ?_
 exact ⟨[], ⟨by decide, rfl, FitsObjs.nil, (Ee (Ee (Ee (Ee EntE.nil))))⟩, keep0⟩
 exact ⟨od, hR1⟩
 rintro v8 ⟨hi1, hE1⟩
 try dsimp only
 refine Sq <| Rg <| Aq (AV.b (decide (((v8 : Nat) : Int) < ((s'.length : Nat) : Int)))) <| Ad <| Sq ?_
 rcases Nat.lt_or_ge v8 s'.length with hl1 | hl1
 have hc1 : decide (((v8 : Nat) : Int) < ((s'.length : Nat) : Int)) = true := decide_eq_true (by omega)
 refine Awp.cond (t := true) (by rw [← hc1] <;> kernel_rfl) (Awp.skip ?_)
 obtain ⟨x1, hx1⟩ : ∃ x, s'[v8]? = some x := ⟨_, List.getElem?_eq_getElem hl1⟩
 rw [drop_at hx1, m_aw.eq_2] at hE1
 refine Sq <| Awp.block <| Sq <| Rg <| Aq (Ai v8) <| Aq (Ai v8) <| Ad <| Sq <| Rg <| Aq (AV.s v) <| Aq ((slA 1 AV.s) s') <| Aq (Ai v8) <| Ap (AV.pt (AV.s x1).cells) (g_idx (k := 1) (nl := false) (e := 9) (kk := .i64) (A := AV.s) (xs := s') (i := v8) kr kr kr ⟨by kernel_rfl, by decide⟩ hx1) <| Aq (AV.s x1) <| Aq (AV.b (decide (v = x1))) <| Ad ?_
 cases c_1 : decide (v = x1)
 have k_1 := of_decide_eq_false c_1
 refine Cf <| Awp.skip <| Rg <| Ap (Ai (v8 + 1)) (g_addN (i := v8) (m := 1) kr kr sd) <| Aq (Ai (v8 + 1)) <| Ad ?_
 try simp only [c_1, sbt] at hE1
 refine ⟨v8 + 1, od, ⟨od, hE1⟩, ?_⟩
 exact ⟨[], ⟨by decide, rfl, FitsObjs.nil, (Ee (Ee (Ee (Ee EntE.nil))))⟩, keep0⟩
 have k_1 := of_decide_eq_true c_1
 refine Ct <| Sq <| Rg <| Aq (Ai v8) <| Aq (Ai v8) <| Ad <| Rt ?_
 try simp only [c_1, sbt] at hE1
 subst hE1
 have hM : m_9 s' v = ((v8 : Nat) : Int) := by simp only [m_9, hR1, sbt]
 refine ⟨Or.inr rfl, ?_⟩
 rw [hM]
 exact Ec
 have hc1 : decide (((v8 : Nat) : Int) < ((s'.length : Nat) : Int)) = false := decide_eq_false (by omega)
 refine Awp.cond (t := false) (by rw [← hc1] <;> kernel_rfl) (Awp.exit ?_)
 rw [List.drop_eq_nil_of_le (hl1), m_aw.eq_1] at hE1
 subst hE1
 refine Sq <| Rg <| Aq (AV.i .i64 (-1 : Int)) <| Ad <| Rt ?_
 have hM : m_9 s' v = (-1 : Int) := by simp only [m_9, hR1, sbt]
 refine ⟨Or.inr rfl, ?_⟩
 rw [hM]
 exact Ec
theorem w_slices_Contains_string_string (W : World) (s' : List ByteArray) (v : ByteArray) : PureAt Go.Proofs.Tryz.prog W 112 [((slA 1 AV.s) s'), (AV.s v)] (AV.b (m_ab s' v)) [] := by
 refine pure_of_bodyC (fn := Go.Proofs.Tryz.f112) Go.Proofs.Tryz.func112 rfl (en112 W) (ts := [4]) rfl le <| Sq <| Rg <| Aq (AV.b false) <| Ad <| Sq <| Rg <| Aq ((slA 1 AV.s) s') <| Aq (AV.s v) <| AOps.sc0 (vs := [((slA 1 AV.s) s'), (AV.s v)]) (r0 := (AV.i .i64 (m_9 s' v))) kr kr (w_slices_Index_string_string W s' v) kr le <| Aq (AV.b (decide ((0 : Int) ≤ (m_9 s' v)))) <| Aq (AV.b (decide ((0 : Int) ≤ (m_9 s' v)))) <| Ad <| Rt ?_
 have hM : m_ab s' v = decide ((0 : Int) ≤ (m_9 s' v)) := by simp only [m_ab, sbt]
 refine ⟨Or.inr rfl, ?_⟩
 rw [hM]
 exact Ec
theorem w_slices_IndexFunc_api_Edge_api_Edge (W : World) (s' : List DEdge) (f_f : FuncId) (c_f : List AV) (f : DEdge → Bool) (hcl_f : closedL c_f = true) (hp_f : ∀ (z0 : DEdge), PureAt Go.Proofs.Tryz.prog W f_f ((DEdge.av z0) :: c_f) (AV.b (f z0)) []) : PureAt Go.Proofs.Tryz.prog W 110 [((slA 7 DEdge.av) s'), (AV.fn f_f c_f)] (AV.i .i64 (m_v s' f)) [] := by
 refine pure_of_bodyC (fn := Go.Proofs.Tryz.f110) Go.Proofs.Tryz.func110 rfl (en110 W) (ts := [4]) rfl le <| Sq <| Rg <| Aq (AV.i .i64 (0 : Int)) <| Ad <| Sq <| Sq <| Rg <| Aq ((slA 7 DEdge.av) s') <| Ap (Ai s'.length) (g_len (k := 7) (nl := false) (e := 65) (A := DEdge.av) (xs := s') kr kr) <| Aq (AV.i .i64 (0 : Int)) <| Ad <| Awp.block <| Awp.lim 0 (x := ((slA 7 DEdge.av) s')) kr fun hlm1 => ?_
 have hB1 : s'.length ≤ 281474976710656 := lim_slA hlm1
 obtain ⟨R1, hR1⟩ : ∃ R, m_1 f s' 0 = R := ⟨_, rfl⟩
 refine Awp.loopT (fun (v8 : Nat) => [(0, ((slA 7 DEdge.av) s')), (1, (AV.fn f_f c_f)), (7, (Ai s'.length)), (8, (Ai v8))]) (fun (v8 : Nat) => ⟨0, []⟩) (fun (v8 : Nat) => v8 ≤ s'.length ∧ m_1 f (s'.drop v8) v8 = R1) (fun (v8 : Nat) => s'.length - v8) 0 ?_ ?_ ?_
 exact ⟨[], ⟨by decide, rfl, FitsObjs.nil, (Ee (EntE.cons (Ent.c kr hcl_f) (Ee (Ee EntE.nil))))⟩, keep0⟩
 exact ⟨od, hR1⟩
 rintro v8 ⟨hi1, hE1⟩
 try dsimp only
 refine Sq <| Rg <| Aq (AV.b (decide (((v8 : Nat) : Int) < ((s'.length : Nat) : Int)))) <| Ad <| Sq ?_
 rcases Nat.lt_or_ge v8 s'.length with hl1 | hl1
 have hc1 : decide (((v8 : Nat) : Int) < ((s'.length : Nat) : Int)) = true := decide_eq_true (by omega)
 refine Awp.cond (t := true) (by rw [← hc1] <;> kernel_rfl) (Awp.skip ?_)
 obtain ⟨x1, hx1⟩ : ∃ x, s'[v8]? = some x := ⟨_, List.getElem?_eq_getElem hl1⟩
 rw [drop_at hx1, m_1.eq_2] at hE1
 refine Sq <| Awp.block <| Sq <| Rg <| Aq (Ai v8) <| Aq (Ai v8) <| Ad <| Sq <| Rg <| Aq (AV.fn f_f c_f) <| Aq ((slA 7 DEdge.av) s') <| Aq (Ai v8) <| Ap (AV.pt (DEdge.av x1).cells) (g_idx (k := 7) (nl := false) (e := 65) (kk := .i64) (A := DEdge.av) (xs := s') (i := v8) kr kr kr ⟨by kernel_rfl, by decide⟩ hx1) <| Aq (DEdge.av x1) <| AOps.sc0 (vs := ((DEdge.av x1) :: c_f)) (r0 := (AV.b (f x1))) kr (by simp only [closedL, Bool.and_eq_true]; exact ⟨by kernel_rfl, hcl_f⟩) (hp_f x1) kr le <| Ad ?_
 cases c_1 : (f x1)
 refine Cf <| Awp.skip <| Rg <| Ap (Ai (v8 + 1)) (g_addN (i := v8) (m := 1) kr kr sd) <| Aq (Ai (v8 + 1)) <| Ad ?_
 try simp only [c_1, sbt] at hE1
 refine ⟨v8 + 1, od, ⟨od, hE1⟩, ?_⟩
 exact ⟨[], ⟨by decide, rfl, FitsObjs.nil, (Ee (EntE.cons (Ent.c kr hcl_f) (Ee (Ee EntE.nil))))⟩, keep0⟩
 refine Ct <| Sq <| Rg <| Aq (Ai v8) <| Aq (Ai v8) <| Ad <| Rt ?_
 try simp only [c_1, sbt] at hE1
 subst hE1
 have hM : m_v s' f = ((v8 : Nat) : Int) := by simp only [m_v, hR1, sbt]
 refine ⟨Or.inr rfl, ?_⟩
 rw [hM]
 exact Ec
 have hc1 : decide (((v8 : Nat) : Int) < ((s'.length : Nat) : Int)) = false := decide_eq_false (by omega)
 refine Awp.cond (t := false) (by rw [← hc1] <;> kernel_rfl) (Awp.exit ?_)
 rw [List.drop_eq_nil_of_le (hl1), m_1.eq_1] at hE1
 subst hE1
 refine Sq <| Rg <| Aq (AV.i .i64 (-1 : Int)) <| Ad <| Rt ?_
 have hM : m_v s' f = (-1 : Int) := by simp only [m_v, hR1, sbt]
 refine ⟨Or.inr rfl, ?_⟩
 rw [hM]
 exact Ec
theorem w_graph_Makes_1 (W : World) (e : DEdge) (name : ByteArray) : PureAt Go.Proofs.Tryz.prog W 111 [(DEdge.av e), (AV.pt (AV.s name).cells)] (AV.b (m_bn e name)) [] := by
 refine pure_of_bodyC (fn := Go.Proofs.Tryz.f111) Go.Proofs.Tryz.func111 rfl (en111 W) (ts := [3]) rfl le <| Sq <| Rg <| Nn (AV.loc 0 0 0) ⟨65, 7, [(DEdge.av e)]⟩ <| Aq (AV.b false) <| Ad <| Sq <| Rg <| Aq (AV.loc 0 0 0) <| Aq ((slA 1 AV.s) e.outs) <| Aq (AV.s name) <| AOps.sc0 (vs := [((slA 1 AV.s) e.outs), (AV.s name)]) (r0 := (AV.b (m_ab e.outs name))) kr kr (w_slices_Contains_string_string W e.outs name) kr le <| Aq (AV.b (m_ab e.outs name)) <| Ad <| Rt ?_
 have hM : m_bn e name = (m_ab e.outs name) := by simp only [m_bn, sbt]
 refine ⟨Or.inr rfl, ?_⟩
 rw [hM]
 exact Ec
theorem w_graph_Makes (W : World) (g : DGraph) (s' : ByteArray) : PureAt Go.Proofs.Tryz.prog W 63 [(AV.pt (DGraph.av g).cells), (AV.s s')] (AV.i .i64 (m_g g s')) [] := by
 refine pure_of_bodyC (fn := Go.Proofs.Tryz.f63) Go.Proofs.Tryz.func63 rfl (en63 W) (ts := [4]) rfl le <| Sq <| Rg <| Nn (AV.loc 0 0 0) ⟨9, 1, [(AV.s s')]⟩ <| Aq (AV.i .i64 (0 : Int)) <| Ad <| Sq <| Rg <| Aq (AV.pt (DGraph.av g).cells) <| Aq (AV.pt (DGraph.av g).cells) <| Aq (AV.pt ((DGraph.av g).cells.drop 0)) <| Aq ((slA 7 DEdge.av) g.edges) <| Aq (AV.fn 111 [(AV.loc 0 0 0)]) <| AOps.sfw (vs := [((slA 7 DEdge.av) g.edges), (AV.fn 111 [(AV.loc 0 0 0)])]) (ss := [((slA 7 DEdge.av) g.edges), (AV.fn 111 [(AV.pt (AV.s s').cells)])]) (r0 := (AV.i .i64 (m_v g.edges (fun z0 => m_bn z0 s')))) kr (show SnapW _ _ _ from ⟨(SnapW.e kr), ⟨(EntK.w (EntK.cast (x' := (AV.fn 111 [(AV.loc 0 0 0)])) kr kr (EntK.fn (EntKs.cons (EntK.loc1 (id := 0) (j := 0) (ob := ⟨9, 1, [(AV.s s')]⟩) (x := (AV.s s')) rfl rfl rfl rfl (EntK.cr (x := (AV.s s')) kr)) EntKs.nil)))), trivial⟩⟩) (w_slices_IndexFunc_api_Edge_api_Edge W g.edges 111 [(AV.pt (AV.s s').cells)] (fun z0 => m_bn z0 s') kr (fun z0 => (w_graph_Makes_1 W z0 s'))) rfl kr le <| Aq (AV.i .i64 (m_v g.edges (fun z0 => m_bn z0 s'))) <| Ad <| Rt ?_
 have hM : m_g g s' = (m_v g.edges (fun z0 => m_bn z0 s')) := by simp only [m_g, sbt]
 refine ⟨Or.inr rfl, ?_⟩
 rw [hM]
 exact Ec
theorem w_slices_IndexFunc_int_int (W : World) (s' : List Int) (f_f : FuncId) (c_f : List AV) (f : Int → Bool) (hcl_f : closedL c_f = true) (hp_f : ∀ (z0 : Int), PureAt Go.Proofs.Tryz.prog W f_f ((AV.i .i64 z0) :: c_f) (AV.b (f z0)) []) : PureAt Go.Proofs.Tryz.prog W 156 [((slA 1 (AV.i .i64)) s'), (AV.fn f_f c_f)] (AV.i .i64 (m_ad s' f)) [] := by
 refine pure_of_bodyC (fn := Go.Proofs.Tryz.f156) Go.Proofs.Tryz.func156 rfl (en156 W) (ts := [4]) rfl le <| Sq <| Rg <| Aq (AV.i .i64 (0 : Int)) <| Ad <| Sq <| Sq <| Rg <| Aq ((slA 1 (AV.i .i64)) s') <| Ap (Ai s'.length) (g_len (k := 1) (nl := false) (e := 3) (A := (AV.i .i64)) (xs := s') kr kr) <| Aq (AV.i .i64 (0 : Int)) <| Ad <| Awp.block <| Awp.lim 0 (x := ((slA 1 (AV.i .i64)) s')) kr fun hlm1 => ?_
 have hB1 : s'.length ≤ 281474976710656 := lim_slA hlm1
 obtain ⟨R1, hR1⟩ : ∃ R, m_a0 f s' 0 = R := ⟨_, rfl⟩
 refine Awp.loopT (fun (v8 : Nat) => [(0, ((slA 1 (AV.i .i64)) s')), (1, (AV.fn f_f c_f)), (7, (Ai s'.length)), (8, (Ai v8))]) (fun (v8 : Nat) => ⟨0, []⟩) (fun (v8 : Nat) => v8 ≤ s'.length ∧ m_a0 f (s'.drop v8) v8 = R1) (fun (v8 : Nat) => s'.length - v8) 0 ?_ ?_ ?_
 exact ⟨[], ⟨by decide, rfl, FitsObjs.nil, (Ee (EntE.cons (Ent.c kr hcl_f) (Ee (Ee EntE.nil))))⟩, keep0⟩
 exact ⟨od, hR1⟩
 rintro v8 ⟨hi1, hE1⟩
 try dsimp only
 refine Sq <| Rg <| Aq (AV.b (decide (((v8 : Nat) : Int) < ((s'.length : Nat) : Int)))) <| Ad <| Sq ?_
 rcases Nat.lt_or_ge v8 s'.length with hl1 | hl1
 have hc1 : decide (((v8 : Nat) : Int) < ((s'.length : Nat) : Int)) = true := decide_eq_true (by omega)
 refine Awp.cond (t := true) (by rw [← hc1] <;> kernel_rfl) (Awp.skip ?_)
 obtain ⟨x1, hx1⟩ : ∃ x, s'[v8]? = some x := ⟨_, List.getElem?_eq_getElem hl1⟩
 rw [drop_at hx1, m_a0.eq_2] at hE1
 refine Sq <| Awp.block <| Sq <| Rg <| Aq (Ai v8) <| Aq (Ai v8) <| Ad <| Sq <| Rg <| Aq (AV.fn f_f c_f) <| Aq ((slA 1 (AV.i .i64)) s') <| Aq (Ai v8) <| Ap (AV.pt ((AV.i .i64) x1).cells) (g_idx (k := 1) (nl := false) (e := 3) (kk := .i64) (A := (AV.i .i64)) (xs := s') (i := v8) kr kr kr ⟨by kernel_rfl, by decide⟩ hx1) <| Aq (AV.i .i64 x1) <| AOps.sc0 (vs := ((AV.i .i64 x1) :: c_f)) (r0 := (AV.b (f x1))) kr (by simp only [closedL, Bool.and_eq_true]; exact ⟨by kernel_rfl, hcl_f⟩) (hp_f x1) kr le <| Ad ?_
 cases c_1 : (f x1)
 refine Cf <| Awp.skip <| Rg <| Ap (Ai (v8 + 1)) (g_addN (i := v8) (m := 1) kr kr sd) <| Aq (Ai (v8 + 1)) <| Ad ?_
 try simp only [c_1, sbt] at hE1
 refine ⟨v8 + 1, od, ⟨od, hE1⟩, ?_⟩
 exact ⟨[], ⟨by decide, rfl, FitsObjs.nil, (Ee (EntE.cons (Ent.c kr hcl_f) (Ee (Ee EntE.nil))))⟩, keep0⟩
 refine Ct <| Sq <| Rg <| Aq (Ai v8) <| Aq (Ai v8) <| Ad <| Rt ?_
 try simp only [c_1, sbt] at hE1
 subst hE1
 have hM : m_ad s' f = ((v8 : Nat) : Int) := by simp only [m_ad, hR1, sbt]
 refine ⟨Or.inr rfl, ?_⟩
 rw [hM]
 exact Ec
 have hc1 : decide (((v8 : Nat) : Int) < ((s'.length : Nat) : Int)) = false := decide_eq_false (by omega)
 refine Awp.cond (t := false) (by rw [← hc1] <;> kernel_rfl) (Awp.exit ?_)
 rw [List.drop_eq_nil_of_le (hl1), m_a0.eq_1] at hE1
 subst hE1
 refine Sq <| Rg <| Aq (AV.i .i64 (-1 : Int)) <| Ad <| Rt ?_
 have hM : m_ad s' f = (-1 : Int) := by simp only [m_ad, hR1, sbt]
 refine ⟨Or.inr rfl, ?_⟩
 rw [hM]
 exact Ec
theorem w_slices_ContainsFunc_int_int (W : World) (s' : List Int) (f_f : FuncId) (c_f : List AV) (f : Int → Bool) (hcl_f : closedL c_f = true) (hp_f : ∀ (z0 : Int), PureAt Go.Proofs.Tryz.prog W f_f ((AV.i .i64 z0) :: c_f) (AV.b (f z0)) []) : PureAt Go.Proofs.Tryz.prog W 109 [((slA 1 (AV.i .i64)) s'), (AV.fn f_f c_f)] (AV.b (m_0 s' f)) [] := by
 refine pure_of_bodyC (fn := Go.Proofs.Tryz.f109) Go.Proofs.Tryz.func109 rfl (en109 W) (ts := [4]) rfl le <| Sq <| Rg <| Aq (AV.b false) <| Ad <| Sq <| Rg <| Aq ((slA 1 (AV.i .i64)) s') <| Aq (AV.fn f_f c_f) <| AOps.sc0 (vs := [((slA 1 (AV.i .i64)) s'), (AV.fn f_f c_f)]) (r0 := (AV.i .i64 (m_ad s' f))) kr (by simp only [closedL, Bool.and_eq_true]; exact ⟨by kernel_rfl, hcl_f, trivial⟩) (w_slices_IndexFunc_int_int W s' f_f c_f f hcl_f hp_f) kr le <| Aq (AV.b (decide ((0 : Int) ≤ (m_ad s' f)))) <| Aq (AV.b (decide ((0 : Int) ≤ (m_ad s' f)))) <| Ad <| Rt ?_
 have hM : m_0 s' f = decide ((0 : Int) ≤ (m_ad s' f)) := by simp only [m_0, sbt]
 refine ⟨Or.inr rfl, ?_⟩
 rw [hM]
 exact Ec
theorem w_grow0 (W : World) : PureAt Go.Proofs.Tryz.prog W 96 [(AV.sl 1 true []), (AV.i .i64 (0 : Int))] (AV.sl 1 true []) [] := by
 refine pure_of_bodyC (fn := Go.Proofs.Tryz.f96) Go.Proofs.Tryz.func96 rfl (en96 W) (ts := [4]) rfl le <| Sq <| Rg <| Aq (AV.sl 1 true []) <| Ad <| Sq <| Sq <| Rg <| Aq (AV.i .i64 (0 : Int)) <| Aq (AV.b false) <| Ad <| Cf <| Awp.skip <| Sq <| Sq <| Rg <| Aq (AV.i .i64 (0 : Int)) <| Aq (AV.sl 1 true []) <| Aq (AV.i .i64 (0 : Int)) <| Aq (AV.sl 1 true []) <| Aq (AV.i .i64 (0 : Int)) <| Aq (AV.i .i64 (0 : Int)) <| Aq (AV.i .i64 (0 : Int)) <| Aq (AV.i .i64 (0 : Int)) <| Ad <| Sq <| Rg <| Aq (AV.i .i64 (0 : Int)) <| Aq (AV.b false) <| Ad <| Cf <| Awp.skip <| Sq <| Rg <| Aq (AV.sl 1 true []) <| Aq (AV.sl 1 true []) <| Ad <| Rt ?_
 exact ⟨Or.inr rfl, Ent.c kr kr⟩
theorem wo_grow_string (W : World) (n' : Nat) (hn : 0 < n') (hz : n' ≤ 1048576) : PureAt Go.Proofs.Tryz.prog W 96 [(AV.sl 1 true []), (Ai n')] (.own 0 0 0) [⟨9, 1, (List.replicate n' (⟨#[]⟩ : ByteArray)).map AV.s⟩] := by
 refine pure_of_bodyR (fn := Go.Proofs.Tryz.f96) Go.Proofs.Tryz.func96 rfl (en96 W) (ts := [4]) rfl le (fun _ => rfl) <| Sq <| Rg <| Aq (AV.sl 1 true []) <| Ad <| Sq <| Sq <| Rg <| Aq (Ai n') <| Aq (AV.b (decide (((n' : Nat) : Int) < (0 : Int)))) <| Ad ?_
 cases c_1 : decide (((n' : Nat) : Int) < (0 : Int))
 have k_1 := of_decide_eq_false c_1
 refine Cf <| Awp.skip <| Sq <| Sq <| Rg <| Aq (Ai n') <| Aq (AV.sl 1 true []) <| Aq (AV.i .i64 (0 : Int)) <| Aq (AV.sl 1 true []) <| Aq (AV.i .i64 (0 : Int)) <| Aq (AV.i .i64 (0 : Int)) <| Ap (Ai n') (g_subN (i := n') (m := 0) kr kr sd sd) <| Aq (Ai n') <| Ad <| Sq <| Rg <| Aq (Ai n') <| Aq (AV.b (decide ((0 : Int) < ((n' : Nat) : Int)))) <| Ad ?_
 cases c_2 : decide ((0 : Int) < ((n' : Nat) : Int))
 have k_2 := of_decide_eq_false c_2
 refine Cf <| Awp.skip <| Sq <| Rg <| Aq (AV.sl 1 true []) <| Aq (AV.sl 1 true []) <| Ad <| Rt ?_
 have hM : m_grow_string n' = [] := by simp only [m_grow_string, c_1, c_2, sbt]
 exfalso
 omega
 have k_2 := of_decide_eq_true c_2
 refine Ct <| Rg <| Aq (AV.sl 1 true []) <| Aq (AV.sl 1 true []) <| Aq (AV.i .i64 (0 : Int)) <| Aq (AV.sl 1 true []) <| Aq (Ai n') <| AOps.se (x := (AV.own 0 0 n')) (h' := ⟨1, [(0, some ⟨9, 1, (List.replicate n' (⟨#[]⟩ : ByteArray)).map AV.s⟩)]⟩) (g_appZ (kn := .i64) (kk := .i64) (e := 9) (A := AV.s) (i := tI_9) (k := 1) (z := (⟨#[]⟩ : ByteArray)) (n := n') (by decide) kr kr kr kr kr sd ⟨by decide, by kernel_rfl⟩ kr (by show _ * 16 ≤ 140737488355328; first | omega | (simp only [List.length_append, List.length_cons, List.length_nil, List.length_set, List.length_replicate]; omega) | (simp; omega)) sd) le <| Aq (AV.sl 1 true []) <| Aq (AV.i .i64 (0 : Int)) <| Ap (AV.own 0 0 0) (g_cutO (e := 9) (id := 0) (len := n') (ob := ⟨9, 1, (List.replicate n' (⟨#[]⟩ : ByteArray)).map AV.s⟩) (l := none) (g := (some (0 : Int))) (b := 0) kr kr kr kr kr kr rfl rfl (by simp only [List.length_map, List.length_append, List.length_cons, List.length_nil]; omega)) <| Aq (AV.own 0 0 0) <| Ad <| Sq <| Rg <| Aq (AV.own 0 0 0) <| Aq (AV.own 0 0 0) <| Ad <| Rt ?_
 have hM : m_grow_string n' = ((List.replicate n' (⟨#[]⟩ : ByteArray)).take 0) := by simp only [m_grow_string, c_1, c_2, sbt]
 refine ⟨Or.inr rfl, 0, ?_, rfl⟩
 first | rfl | (show AV.own _ _ _ = AV.own _ _ _; congr 1; simp)
 have k_1 := of_decide_eq_true c_1
 refine Ct <| Rg ?_
 exfalso
 omega
theorem w_slices_Concat_string_string (W : World) (slices : List (List ByteArray)) (hz : (slices.flatten).length ≤ 1048576) : PureAt Go.Proofs.Tryz.prog W 55 [((slA 1 (slA 1 AV.s)) slices)] ((slA 1 AV.s) (m_a slices)) [] := by
 refine pure_of_bodyC (fn := Go.Proofs.Tryz.f55) Go.Proofs.Tryz.func55 rfl (en55 W) (ts := [2]) rfl le <| Sq <| Rg <| Aq (AV.sl 1 true []) <| Ad <| Sq <| Rg <| Aq (AV.i .i64 (0 : Int)) <| Ad <| Sq <| Sq <| Rg <| Aq ((slA 1 (slA 1 AV.s)) slices) <| Ap (Ai slices.length) (g_len (k := 1) (nl := false) (e := 24) (A := (slA 1 AV.s)) (xs := slices) kr kr) <| Aq (AV.i .i64 (0 : Int)) <| Ad <| Awp.block <| Awp.lim 0 (x := ((slA 1 (slA 1 AV.s)) slices)) kr fun hlm1 => ?_
 have hB1 : slices.length ≤ 281474976710656 := lim_slA hlm1
 obtain ⟨R1, hR1⟩ : ∃ R, m_u slices 0 0 = R := ⟨_, rfl⟩
 refine Awp.loopT (fun ((size, v11) : Nat × Nat) => [(0, ((slA 1 (slA 1 AV.s)) slices)), (9, ((slA 1 (slA 1 AV.s)) slices)), (10, (Ai slices.length)), (3, (Ai size)), (11, (Ai v11))]) (fun ((size, v11) : Nat × Nat) => ⟨0, []⟩) (fun ((size, v11) : Nat × Nat) => v11 ≤ slices.length ∧ size + ((slices.drop v11).flatten).length = (slices.flatten).length ∧ m_u (slices.drop v11) v11 size = R1) (fun ((size, v11) : Nat × Nat) => slices.length - v11) (0, 0) ?_ ?_ ?_
 exact ⟨[], ⟨by decide, rfl, FitsObjs.nil, (Ee (Ee (Ee (Ee (Ee EntE.nil)))))⟩, keep0⟩
 exact ⟨od, by (try dsimp only) <;> (simp), hR1⟩
 rintro ⟨size, v11⟩ ⟨hi1, hs, hE1⟩
 try dsimp only
 refine Sq <| Rg <| Aq (AV.b (decide (((v11 : Nat) : Int) < ((slices.length : Nat) : Int)))) <| Ad <| Sq ?_
 rcases Nat.lt_or_ge v11 slices.length with hl1 | hl1
 have hc1 : decide (((v11 : Nat) : Int) < ((slices.length : Nat) : Int)) = true := decide_eq_true (by omega)
 refine Awp.cond (t := true) (by rw [← hc1] <;> kernel_rfl) (Awp.skip ?_)
 obtain ⟨x1, hx1⟩ : ∃ x, slices[v11]? = some x := ⟨_, List.getElem?_eq_getElem hl1⟩
 rw [drop_at hx1, m_u.eq_2] at hE1
 rw [drop_at hx1] at hs
 simp only [List.flatten_cons, List.length_append] at hs
 refine Sq <| Awp.block <| Sq <| Rg <| Ap (AV.pt ((slA 1 AV.s) x1).cells) (g_idx (k := 1) (nl := false) (e := 24) (kk := .i64) (A := (slA 1 AV.s)) (xs := slices) (i := v11) kr kr kr ⟨by kernel_rfl, by decide⟩ hx1) <| Aq ((slA 1 AV.s) x1) <| Aq ((slA 1 AV.s) x1) <| Ad <| Sq <| Rg <| Aq (Ai size) <| Aq ((slA 1 AV.s) x1) <| Ap (Ai x1.length) (g_len (k := 1) (nl := false) (e := 9) (A := AV.s) (xs := x1) kr kr) <| Ap (Ai (size + x1.length)) (g_addN (i := size) (m := x1.length) kr kr sd) <| Aq (Ai (size + x1.length)) <| Ad <| Sq <| Rg <| Aq (Ai (size + x1.length)) <| Aq (AV.b (decide (((size + x1.length : Nat) : Int) < (0 : Int)))) <| Ad ?_
 cases c_1 : decide (((size + x1.length : Nat) : Int) < (0 : Int))
 have k_1 := of_decide_eq_false c_1
 refine Cf <| Awp.skip <| Rg <| Ap (Ai (v11 + 1)) (g_addN (i := v11) (m := 1) kr kr sd) <| Aq (Ai (v11 + 1)) <| Ad ?_
 try simp only [c_1, sbt] at hE1
 refine ⟨(size + x1.length, v11 + 1), od, ⟨od, by (try dsimp only) <;> (omega), hE1⟩, ?_⟩
 exact ⟨[], ⟨by decide, rfl, FitsObjs.nil, (Ee (Ee (Ee (Ee (Ee EntE.nil)))))⟩, keep0⟩
 have k_1 := of_decide_eq_true c_1
 refine Ct <| Rg ?_
 exfalso
 omega
 have hc1 : decide (((v11 : Nat) : Int) < ((slices.length : Nat) : Int)) = false := decide_eq_false (by omega)
 refine Awp.cond (t := false) (by rw [← hc1] <;> kernel_rfl) (Awp.exit ?_)
 rw [List.drop_eq_nil_of_le (hl1), m_u.eq_1] at hE1
 subst hE1
 refine Sq <| Rg <| Aq (Ai size) ?_
 by_cases z_2 : (List.replicate size (⟨#[]⟩ : ByteArray)) = []
 have hzz_2 : size = 0 := by simpa using z_2
 refine AOps.sc0 (vs := [(AV.sl 1 true []), (Ai size)]) (r0 := (AV.sl 1 true [])) kr kr (by rw [hzz_2]; exact w_grow0 W) kr le <| Aq (AV.sl 1 true []) <| Ad <| Sq <| Sq <| Rg <| Aq ((slA 1 (slA 1 AV.s)) slices) <| Ap (Ai slices.length) (g_len (k := 1) (nl := false) (e := 24) (A := (slA 1 AV.s)) (xs := slices) kr kr) <| Aq (AV.i .i64 (0 : Int)) <| Ad <| Awp.block <| Awp.lim 0 (x := ((slA 1 (slA 1 AV.s)) slices)) kr fun hlm2 => ?_
 have hB2 : slices.length ≤ 281474976710656 := lim_slA hlm2
 obtain ⟨R2, hR2⟩ : ∃ R, m_e slices 0 [] = R := ⟨_, rfl⟩
 refine Awp.loopT (fun ((b_newslice, newslice, v27) : Bool × (List ByteArray) × Nat) => [(25, ((slA 1 (slA 1 AV.s)) slices)), (26, (Ai slices.length)), (6, (accW 0 1 AV.s b_newslice newslice)), (27, (Ai v27))]) (fun ((b_newslice, newslice, v27) : Bool × (List ByteArray) × Nat) => ⟨1, [(0, accWO 9 1 AV.s b_newslice newslice)]⟩) (fun ((b_newslice, newslice, v27) : Bool × (List ByteArray) × Nat) => v27 ≤ slices.length ∧ (b_newslice = false → newslice = []) ∧ newslice.length + ((slices.drop v27).flatten).length ≤ (slices.flatten).length ∧ m_e (slices.drop v27) v27 newslice = R2) (fun ((b_newslice, newslice, v27) : Bool × (List ByteArray) × Nat) => slices.length - v27) (false, [], 0) ?_ ?_ ?_
 exact ⟨[1000000], ⟨by decide, rfl, (FitsObjs.cons rfl FitsObjs.nil), (Ee (Ee (Ee (Ee EntE.nil))))⟩, keep0⟩
 exact ⟨od, (by simp), by (try dsimp only) <;> (simp), hR2⟩
 rintro ⟨b_newslice, newslice, v27⟩ ⟨hi2, hn_newslice, ha, hE2⟩
 try dsimp only
 cases b_newslice
 have hz_newslice := hn_newslice rfl
 subst hz_newslice
 try dsimp only
 refine Sq <| Rg <| Aq (AV.b (decide (((v27 : Nat) : Int) < ((slices.length : Nat) : Int)))) <| Ad <| Sq ?_
 rcases Nat.lt_or_ge v27 slices.length with hl2 | hl2
 have hc2 : decide (((v27 : Nat) : Int) < ((slices.length : Nat) : Int)) = true := decide_eq_true (by omega)
 refine Awp.cond (t := true) (by rw [← hc2] <;> kernel_rfl) (Awp.skip ?_)
 obtain ⟨x2, hx2⟩ : ∃ x, slices[v27]? = some x := ⟨_, List.getElem?_eq_getElem hl2⟩
 rw [drop_at hx2, m_e.eq_2] at hE2
 rw [drop_at hx2] at ha
 simp only [List.flatten_cons, List.length_append] at ha
 refine Sq <| Awp.block <| Sq <| Rg <| Ap (AV.pt ((slA 1 AV.s) x2).cells) (g_idx (k := 1) (nl := false) (e := 24) (kk := .i64) (A := (slA 1 AV.s)) (xs := slices) (i := v27) kr kr kr ⟨by kernel_rfl, by decide⟩ hx2) <| Aq ((slA 1 AV.s) x2) <| Aq ((slA 1 AV.s) x2) <| Ad <| Rg <| Aq (AV.sl 1 true []) <| Aq ((slA 1 AV.s) x2) ?_
 by_cases z_3 : x2 = []
 refine AOps.se (x := (AV.sl 1 true [])) (h' := ⟨1, [(0, none)]⟩) (g_app0 (e := 9) (X := ((slA 1 AV.s) x2)) (A := AV.s) (i := tI_9) (k := 1) (ys := x2) kr kr kr (hx := kr) rfl z_3 ⟨by decide, by kernel_rfl⟩) le <| Aq (AV.sl 1 true []) <| Ad <| Rg <| Ap (Ai (v27 + 1)) (g_addN (i := v27) (m := 1) kr kr sd) <| Aq (Ai (v27 + 1)) <| Ad ?_
 try simp only [z_3, sbt] at hE2
 refine ⟨(false, [], v27 + 1), od, ⟨od, (by simp), by (try dsimp only) <;> (first | omega | (simp only [List.length_append]; omega)), hE2⟩, ?_⟩
 exact ⟨[1000000], ⟨by decide, rfl, (FitsObjs.cons rfl FitsObjs.nil), (Ee (Ee (Ee (Ee EntE.nil))))⟩, keep0⟩
 refine AOps.se (x := (AV.own 1 0 x2.length)) (h' := ⟨2, [(1, some ⟨9, 1, x2.map AV.s⟩), (0, none)]⟩) (g_app1 (e := 9) (X := ((slA 1 AV.s) x2)) (A := AV.s) (i := tI_9) (k := 1) (ys := x2) kr kr kr (hx := kr) rfl z_3 ⟨by decide, by kernel_rfl⟩ (by show _ * 16 ≤ 140737488355328; first | omega | (simp only [List.length_append, List.length_cons, List.length_nil, List.length_set, List.length_replicate]; omega) | (simp; omega)) sd) le <| Aq (AV.own 1 0 x2.length) <| Ad <| Rg <| Ap (Ai (v27 + 1)) (g_addN (i := v27) (m := 1) kr kr sd) <| Aq (Ai (v27 + 1)) <| Ad ?_
 refine ⟨(true, x2, v27 + 1), od, ⟨od, (by simp), by (try dsimp only) <;> (first | omega | (simp only [List.length_append]; omega)), hE2⟩, ?_⟩
 exact ⟨[1], ⟨by decide, rfl, (FitsObjs.cons (obj_row (fun _ => rfl) (e := 9) (k := 1) (A := AV.s) (xs := x2) rfl rfl) FitsObjs.nil), (Ee (Ee (EntE.cons (ent_keepO (by decide) rfl) (Ee EntE.nil))))⟩, keep0⟩
 have hc2 : decide (((v27 : Nat) : Int) < ((slices.length : Nat) : Int)) = false := decide_eq_false (by omega)
 refine Awp.cond (t := false) (by rw [← hc2] <;> kernel_rfl) (Awp.exit ?_)
 rw [List.drop_eq_nil_of_le (hl2), m_e.eq_1] at hE2
 subst hE2
 refine Sq <| Rg <| Aq (AV.sl 1 true []) <| Aq (AV.sl 1 true []) <| Ad <| Rt ?_
 have hM : m_a slices = [] := by simp only [m_a, hR1, z_2, hR2, sbt]
 refine ⟨Or.inr rfl, ?_⟩
 rw [hM]
 exact Ent.cast (x' := (AV.sl 1 true [])) (y' := ((slA 1 AV.s) [])) kr kr (Ent.w rfl (WeakC.nil 1))
 try dsimp only
 refine Sq <| Rg <| Aq (AV.b (decide (((v27 : Nat) : Int) < ((slices.length : Nat) : Int)))) <| Ad <| Sq ?_
 rcases Nat.lt_or_ge v27 slices.length with hl2 | hl2
 have hc2 : decide (((v27 : Nat) : Int) < ((slices.length : Nat) : Int)) = true := decide_eq_true (by omega)
 refine Awp.cond (t := true) (by rw [← hc2] <;> kernel_rfl) (Awp.skip ?_)
 obtain ⟨x2, hx2⟩ : ∃ x, slices[v27]? = some x := ⟨_, List.getElem?_eq_getElem hl2⟩
 rw [drop_at hx2, m_e.eq_2] at hE2
 rw [drop_at hx2] at ha
 simp only [List.flatten_cons, List.length_append] at ha
 refine Sq <| Awp.block <| Sq <| Rg <| Ap (AV.pt ((slA 1 AV.s) x2).cells) (g_idx (k := 1) (nl := false) (e := 24) (kk := .i64) (A := (slA 1 AV.s)) (xs := slices) (i := v27) kr kr kr ⟨by kernel_rfl, by decide⟩ hx2) <| Aq ((slA 1 AV.s) x2) <| Aq ((slA 1 AV.s) x2) <| Ad <| Rg <| Aq (AV.own 0 0 newslice.length) <| Aq ((slA 1 AV.s) x2) <| AOps.se (x := (AV.own 1 0 ((newslice ++ x2).length))) (h' := ⟨2, [(1, some ⟨9, 1, (newslice ++ x2).map AV.s⟩), (0, none)]⟩) (g_appR (len := newslice.length) (e := 9) (X := ((slA 1 AV.s) x2)) (A := AV.s) (i := tI_9) (p := 0) (xs := newslice) (ys := x2) kr kr kr (hx := kr) kr ⟨by decide, by kernel_rfl⟩ rfl rfl (by show _ * 16 ≤ 140737488355328; first | omega | (simp only [List.length_append, List.length_cons, List.length_nil, List.length_set, List.length_replicate]; omega) | (simp; omega)) sd) le <| Aq (AV.own 1 0 ((newslice ++ x2).length)) <| Ad <| Rg <| Ap (Ai (v27 + 1)) (g_addN (i := v27) (m := 1) kr kr sd) <| Aq (Ai (v27 + 1)) <| Ad ?_
 refine ⟨(true, (newslice ++ x2), v27 + 1), od, ⟨od, (by simp), by (try dsimp only) <;> (first | omega | (simp only [List.length_append]; omega)), hE2⟩, ?_⟩
 exact ⟨[1], ⟨by decide, rfl, (FitsObjs.cons (obj_row (fun _ => rfl) (e := 9) (k := 1) (A := AV.s) (xs := (newslice ++ x2)) rfl rfl) FitsObjs.nil), (Ee (Ee (EntE.cons (ent_keepO (by decide) rfl) (Ee EntE.nil))))⟩, keep0⟩
 have hc2 : decide (((v27 : Nat) : Int) < ((slices.length : Nat) : Int)) = false := decide_eq_false (by omega)
 refine Awp.cond (t := false) (by rw [← hc2] <;> kernel_rfl) (Awp.exit ?_)
 rw [List.drop_eq_nil_of_le (hl2), m_e.eq_1] at hE2
 subst hE2
 refine Sq <| Rg <| Aq (AV.own 0 0 newslice.length) <| Aq (AV.own 0 0 newslice.length) <| Ad <| Rt ?_
 have hM : m_a slices = newslice := by simp only [m_a, hR1, z_2, hR2, sbt]
 refine ⟨Or.inr rfl, ?_⟩
 rw [hM]
 exact Ent.cast (x' := (AV.own 0 0 newslice.length)) (y' := ((slA 1 AV.s) newslice)) kr kr (EntD.kk (x' := (AV.own 0 0 newslice.length)) kr kr rfl (EntK.row (fun _ => rfl) (A := AV.s) (id := 0) (e := 9) (k := 1) (xs := newslice) rfl rfl rfl sd))
 have hzz_2 : 0 < size := by have := z_2; simp only [ne_eq, List.replicate_eq_nil_iff] at this; omega
 refine AOps.scR (A := AV.s) (xs := (List.replicate size (⟨#[]⟩ : ByteArray))) (vs := [(AV.sl 1 true []), (Ai size)]) kr kr (wo_grow_string W size hzz_2 sd) (fun _ => rfl) le <| Aq (AV.own 0 0 0) <| Ad <| Sq <| Sq <| Rg <| Aq ((slA 1 (slA 1 AV.s)) slices) <| Ap (Ai slices.length) (g_len (k := 1) (nl := false) (e := 24) (A := (slA 1 AV.s)) (xs := slices) kr kr) <| Aq (AV.i .i64 (0 : Int)) <| Ad <| Awp.block <| Awp.lim 0 (x := ((slA 1 (slA 1 AV.s)) slices)) kr fun hlm2 => ?_
 have hB2 : slices.length ≤ 281474976710656 := lim_slA hlm2
 obtain ⟨R2, hR2⟩ : ∃ R, m_e slices 0 ((List.replicate size (⟨#[]⟩ : ByteArray)).take 0) = R := ⟨_, rfl⟩
 refine Awp.loopT (fun ((b_newslice2, newslice2, v272) : Bool × (List ByteArray) × Nat) => [(25, ((slA 1 (slA 1 AV.s)) slices)), (26, (Ai slices.length)), (6, (accW 0 1 AV.s b_newslice2 newslice2)), (27, (Ai v272))]) (fun ((b_newslice2, newslice2, v272) : Bool × (List ByteArray) × Nat) => ⟨1, [(0, accWO 9 1 AV.s b_newslice2 newslice2)]⟩) (fun ((b_newslice2, newslice2, v272) : Bool × (List ByteArray) × Nat) => v272 ≤ slices.length ∧ (b_newslice2 = false → newslice2 = []) ∧ newslice2.length + ((slices.drop v272).flatten).length ≤ (slices.flatten).length ∧ m_e (slices.drop v272) v272 newslice2 = R2) (fun ((b_newslice2, newslice2, v272) : Bool × (List ByteArray) × Nat) => slices.length - v272) (true, ((List.replicate size (⟨#[]⟩ : ByteArray)).take 0), 0) ?_ ?_ ?_
 exact ⟨[0], ⟨by decide, rfl, (FitsObjs.consW (obj_pre (fun _ => rfl) (fun _ => rfl) (e := 9) (k := 1) (A := AV.s) (xs := (List.replicate size (⟨#[]⟩ : ByteArray))) (ys := ((List.replicate size (⟨#[]⟩ : ByteArray)).take 0)) (take_pre _ _) rfl rfl) FitsObjs.nil), (Ee (Ee (EntE.cons (ent_keepO (by decide) (by simp)) (Ee EntE.nil))))⟩, keep0⟩
 exact ⟨od, (by simp), by (try dsimp only) <;> (simp), hR2⟩
 rintro ⟨b_newslice2, newslice2, v272⟩ ⟨hi2, hn_newslice2, ha, hE2⟩
 try dsimp only
 cases b_newslice2
 have hz_newslice2 := hn_newslice2 rfl
 subst hz_newslice2
 try dsimp only
 refine Sq <| Rg <| Aq (AV.b (decide (((v272 : Nat) : Int) < ((slices.length : Nat) : Int)))) <| Ad <| Sq ?_
 rcases Nat.lt_or_ge v272 slices.length with hl2 | hl2
 have hc2 : decide (((v272 : Nat) : Int) < ((slices.length : Nat) : Int)) = true := decide_eq_true (by omega)
 refine Awp.cond (t := true) (by rw [← hc2] <;> kernel_rfl) (Awp.skip ?_)
 obtain ⟨x22, hx2⟩ : ∃ x, slices[v272]? = some x := ⟨_, List.getElem?_eq_getElem hl2⟩
 rw [drop_at hx2, m_e.eq_2] at hE2
 rw [drop_at hx2] at ha
 simp only [List.flatten_cons, List.length_append] at ha
 refine Sq <| Awp.block <| Sq <| Rg <| Ap (AV.pt ((slA 1 AV.s) x22).cells) (g_idx (k := 1) (nl := false) (e := 24) (kk := .i64) (A := (slA 1 AV.s)) (xs := slices) (i := v272) kr kr kr ⟨by kernel_rfl, by decide⟩ hx2) <| Aq ((slA 1 AV.s) x22) <| Aq ((slA 1 AV.s) x22) <| Ad <| Rg <| Aq (AV.sl 1 true []) <| Aq ((slA 1 AV.s) x22) ?_
 by_cases z_4 : x22 = []
 refine AOps.se (x := (AV.sl 1 true [])) (h' := ⟨1, [(0, none)]⟩) (g_app0 (e := 9) (X := ((slA 1 AV.s) x22)) (A := AV.s) (i := tI_9) (k := 1) (ys := x22) kr kr kr (hx := kr) rfl z_4 ⟨by decide, by kernel_rfl⟩) le <| Aq (AV.sl 1 true []) <| Ad <| Rg <| Ap (Ai (v272 + 1)) (g_addN (i := v272) (m := 1) kr kr sd) <| Aq (Ai (v272 + 1)) <| Ad ?_
 try simp only [z_4, sbt] at hE2
 refine ⟨(false, [], v272 + 1), od, ⟨od, (by simp), by (try dsimp only) <;> (first | omega | (simp only [List.length_append]; omega)), hE2⟩, ?_⟩
 exact ⟨[1000000], ⟨by decide, rfl, (FitsObjs.cons rfl FitsObjs.nil), (Ee (Ee (Ee (Ee EntE.nil))))⟩, keep0⟩
 refine AOps.se (x := (AV.own 1 0 x22.length)) (h' := ⟨2, [(1, some ⟨9, 1, x22.map AV.s⟩), (0, none)]⟩) (g_app1 (e := 9) (X := ((slA 1 AV.s) x22)) (A := AV.s) (i := tI_9) (k := 1) (ys := x22) kr kr kr (hx := kr) rfl z_4 ⟨by decide, by kernel_rfl⟩ (by show _ * 16 ≤ 140737488355328; first | omega | (simp only [List.length_append, List.length_cons, List.length_nil, List.length_set, List.length_replicate]; omega) | (simp; omega)) sd) le <| Aq (AV.own 1 0 x22.length) <| Ad <| Rg <| Ap (Ai (v272 + 1)) (g_addN (i := v272) (m := 1) kr kr sd) <| Aq (Ai (v272 + 1)) <| Ad ?_
 refine ⟨(true, x22, v272 + 1), od, ⟨od, (by simp), by (try dsimp only) <;> (first | omega | (simp only [List.length_append]; omega)), hE2⟩, ?_⟩
 exact ⟨[1], ⟨by decide, rfl, (FitsObjs.cons (obj_row (fun _ => rfl) (e := 9) (k := 1) (A := AV.s) (xs := x22) rfl rfl) FitsObjs.nil), (Ee (Ee (EntE.cons (ent_keepO (by decide) rfl) (Ee EntE.nil))))⟩, keep0⟩
 have hc2 : decide (((v272 : Nat) : Int) < ((slices.length : Nat) : Int)) = false := decide_eq_false (by omega)
 refine Awp.cond (t := false) (by rw [← hc2] <;> kernel_rfl) (Awp.exit ?_)
 rw [List.drop_eq_nil_of_le (hl2), m_e.eq_1] at hE2
 subst hE2
 refine Sq <| Rg <| Aq (AV.sl 1 true []) <| Aq (AV.sl 1 true []) <| Ad <| Rt ?_
 have hM : m_a slices = [] := by simp only [m_a, hR1, hR2, sbt]
 refine ⟨Or.inr rfl, ?_⟩
 rw [hM]
 exact Ent.cast (x' := (AV.sl 1 true [])) (y' := ((slA 1 AV.s) [])) kr kr (Ent.w rfl (WeakC.nil 1))
 try dsimp only
 refine Sq <| Rg <| Aq (AV.b (decide (((v272 : Nat) : Int) < ((slices.length : Nat) : Int)))) <| Ad <| Sq ?_
 rcases Nat.lt_or_ge v272 slices.length with hl2 | hl2
 have hc2 : decide (((v272 : Nat) : Int) < ((slices.length : Nat) : Int)) = true := decide_eq_true (by omega)
 refine Awp.cond (t := true) (by rw [← hc2] <;> kernel_rfl) (Awp.skip ?_)
 obtain ⟨x22, hx2⟩ : ∃ x, slices[v272]? = some x := ⟨_, List.getElem?_eq_getElem hl2⟩
 rw [drop_at hx2, m_e.eq_2] at hE2
 rw [drop_at hx2] at ha
 simp only [List.flatten_cons, List.length_append] at ha
 refine Sq <| Awp.block <| Sq <| Rg <| Ap (AV.pt ((slA 1 AV.s) x22).cells) (g_idx (k := 1) (nl := false) (e := 24) (kk := .i64) (A := (slA 1 AV.s)) (xs := slices) (i := v272) kr kr kr ⟨by kernel_rfl, by decide⟩ hx2) <| Aq ((slA 1 AV.s) x22) <| Aq ((slA 1 AV.s) x22) <| Ad <| Rg <| Aq (AV.own 0 0 newslice2.length) <| Aq ((slA 1 AV.s) x22) <| AOps.se (x := (AV.own 1 0 ((newslice2 ++ x22).length))) (h' := ⟨2, [(1, some ⟨9, 1, (newslice2 ++ x22).map AV.s⟩), (0, none)]⟩) (g_appR (len := newslice2.length) (e := 9) (X := ((slA 1 AV.s) x22)) (A := AV.s) (i := tI_9) (p := 0) (xs := newslice2) (ys := x22) kr kr kr (hx := kr) kr ⟨by decide, by kernel_rfl⟩ rfl rfl (by show _ * 16 ≤ 140737488355328; first | omega | (simp only [List.length_append, List.length_cons, List.length_nil, List.length_set, List.length_replicate]; omega) | (simp; omega)) sd) le <| Aq (AV.own 1 0 ((newslice2 ++ x22).length)) <| Ad <| Rg <| Ap (Ai (v272 + 1)) (g_addN (i := v272) (m := 1) kr kr sd) <| Aq (Ai (v272 + 1)) <| Ad ?_
 refine ⟨(true, (newslice2 ++ x22), v272 + 1), od, ⟨od, (by simp), by (try dsimp only) <;> (first | omega | (simp only [List.length_append]; omega)), hE2⟩, ?_⟩
 exact ⟨[1], ⟨by decide, rfl, (FitsObjs.cons (obj_row (fun _ => rfl) (e := 9) (k := 1) (A := AV.s) (xs := (newslice2 ++ x22)) rfl rfl) FitsObjs.nil), (Ee (Ee (EntE.cons (ent_keepO (by decide) rfl) (Ee EntE.nil))))⟩, keep0⟩
 have hc2 : decide (((v272 : Nat) : Int) < ((slices.length : Nat) : Int)) = false := decide_eq_false (by omega)
 refine Awp.cond (t := false) (by rw [← hc2] <;> kernel_rfl) (Awp.exit ?_)
 rw [List.drop_eq_nil_of_le (hl2), m_e.eq_1] at hE2
 subst hE2
 refine Sq <| Rg <| Aq (AV.own 0 0 newslice2.length) <| Aq (AV.own 0 0 newslice2.length) <| Ad <| Rt ?_
 have hM : m_a slices = newslice2 := by simp only [m_a, hR1, hR2, sbt]
 refine ⟨Or.inr rfl, ?_⟩
 rw [hM]
 exact Ent.cast (x' := (AV.own 0 0 newslice2.length)) (y' := ((slA 1 AV.s) newslice2)) kr kr (EntD.kk (x' := (AV.own 0 0 newslice2.length)) kr kr rfl (EntK.row (fun _ => rfl) (A := AV.s) (id := 0) (e := 9) (k := 1) (xs := newslice2) rfl rfl rfl sd))
theorem wo_slices_Concat_string_string (W : World) (slices : List (List ByteArray)) (hz : (slices.flatten).length ≤ 1048576) (hne : m_a slices ≠ []) : PureAt Go.Proofs.Tryz.prog W 55 [((slA 1 (slA 1 AV.s)) slices)] (.own 0 0 (m_a slices).length) [⟨9, 1, (m_a slices).map AV.s⟩] := by
 refine pure_of_bodyR (fn := Go.Proofs.Tryz.f55) Go.Proofs.Tryz.func55 rfl (en55 W) (ts := [2]) rfl le (fun _ => rfl) <| Sq <| Rg <| Aq (AV.sl 1 true []) <| Ad <| Sq <| Rg <| Aq (AV.i .i64 (0 : Int)) <| Ad <| Sq <| Sq <| Rg <| Aq ((slA 1 (slA 1 AV.s)) slices) <| Ap (Ai slices.length) (g_len (k := 1) (nl := false) (e := 24) (A := (slA 1 AV.s)) (xs := slices) kr kr) <| Aq (AV.i .i64 (0 : Int)) <| Ad <| Awp.block <| Awp.lim 0 (x := ((slA 1 (slA 1 AV.s)) slices)) kr fun hlm1 => ?_
 have hB1 : slices.length ≤ 281474976710656 := lim_slA hlm1
 obtain ⟨R1, hR1⟩ : ∃ R, m_u slices 0 0 = R := ⟨_, rfl⟩
 refine Awp.loopT (fun ((size, v11) : Nat × Nat) => [(0, ((slA 1 (slA 1 AV.s)) slices)), (9, ((slA 1 (slA 1 AV.s)) slices)), (10, (Ai slices.length)), (3, (Ai size)), (11, (Ai v11))]) (fun ((size, v11) : Nat × Nat) => ⟨0, []⟩) (fun ((size, v11) : Nat × Nat) => v11 ≤ slices.length ∧ size + ((slices.drop v11).flatten).length = (slices.flatten).length ∧ m_u (slices.drop v11) v11 size = R1) (fun ((size, v11) : Nat × Nat) => slices.length - v11) (0, 0) ?_ ?_ ?_
 exact ⟨[], ⟨by decide, rfl, FitsObjs.nil, (Ee (Ee (Ee (Ee (Ee EntE.nil)))))⟩, keep0⟩
 exact ⟨od, by (try dsimp only) <;> (simp), hR1⟩
 rintro ⟨size, v11⟩ ⟨hi1, hs, hE1⟩
 try dsimp only
 refine Sq <| Rg <| Aq (AV.b (decide (((v11 : Nat) : Int) < ((slices.length : Nat) : Int)))) <| Ad <| Sq ?_
 rcases Nat.lt_or_ge v11 slices.length with hl1 | hl1
 have hc1 : decide (((v11 : Nat) : Int) < ((slices.length : Nat) : Int)) = true := decide_eq_true (by omega)
 refine Awp.cond (t := true) (by rw [← hc1] <;> kernel_rfl) (Awp.skip ?_)
 obtain ⟨x1, hx1⟩ : ∃ x, slices[v11]? = some x := ⟨_, List.getElem?_eq_getElem hl1⟩
 rw [drop_at hx1, m_u.eq_2] at hE1
 rw [drop_at hx1] at hs
 simp only [List.flatten_cons, List.length_append] at hs
 refine Sq <| Awp.block <| Sq <| Rg <| Ap (AV.pt ((slA 1 AV.s) x1).cells) (g_idx (k := 1) (nl := false) (e := 24) (kk := .i64) (A := (slA 1 AV.s)) (xs := slices) (i := v11) kr kr kr ⟨by kernel_rfl, by decide⟩ hx1) <| Aq ((slA 1 AV.s) x1) <| Aq ((slA 1 AV.s) x1) <| Ad <| Sq <| Rg <| Aq (Ai size) <| Aq ((slA 1 AV.s) x1) <| Ap (Ai x1.length) (g_len (k := 1) (nl := false) (e := 9) (A := AV.s) (xs := x1) kr kr) <| Ap (Ai (size + x1.length)) (g_addN (i := size) (m := x1.length) kr kr sd) <| Aq (Ai (size + x1.length)) <| Ad <| Sq <| Rg <| Aq (Ai (size + x1.length)) <| Aq (AV.b (decide (((size + x1.length : Nat) : Int) < (0 : Int)))) <| Ad ?_
 cases c_1 : decide (((size + x1.length : Nat) : Int) < (0 : Int))
 have k_1 := of_decide_eq_false c_1
 refine Cf <| Awp.skip <| Rg <| Ap (Ai (v11 + 1)) (g_addN (i := v11) (m := 1) kr kr sd) <| Aq (Ai (v11 + 1)) <| Ad ?_
 try simp only [c_1, sbt] at hE1
 refine ⟨(size + x1.length, v11 + 1), od, ⟨od, by (try dsimp only) <;> (omega), hE1⟩, ?_⟩
 exact ⟨[], ⟨by decide, rfl, FitsObjs.nil, (Ee (Ee (Ee (Ee (Ee EntE.nil)))))⟩, keep0⟩
 have k_1 := of_decide_eq_true c_1
 refine Ct <| Rg ?_
 exfalso
 omega
 have hc1 : decide (((v11 : Nat) : Int) < ((slices.length : Nat) : Int)) = false := decide_eq_false (by omega)
 refine Awp.cond (t := false) (by rw [← hc1] <;> kernel_rfl) (Awp.exit ?_)
 rw [List.drop_eq_nil_of_le (hl1), m_u.eq_1] at hE1
 subst hE1
 refine Sq <| Rg <| Aq (Ai size) ?_
 by_cases z_2 : (List.replicate size (⟨#[]⟩ : ByteArray)) = []
 have hzz_2 : size = 0 := by simpa using z_2
 refine AOps.sc0 (vs := [(AV.sl 1 true []), (Ai size)]) (r0 := (AV.sl 1 true [])) kr kr (by rw [hzz_2]; exact w_grow0 W) kr le <| Aq (AV.sl 1 true []) <| Ad <| Sq <| Sq <| Rg <| Aq ((slA 1 (slA 1 AV.s)) slices) <| Ap (Ai slices.length) (g_len (k := 1) (nl := false) (e := 24) (A := (slA 1 AV.s)) (xs := slices) kr kr) <| Aq (AV.i .i64 (0 : Int)) <| Ad <| Awp.block <| Awp.lim 0 (x := ((slA 1 (slA 1 AV.s)) slices)) kr fun hlm2 => ?_
 have hB2 : slices.length ≤ 281474976710656 := lim_slA hlm2
 obtain ⟨R2, hR2⟩ : ∃ R, m_e slices 0 [] = R := ⟨_, rfl⟩
 refine Awp.loopT (fun ((b_newslice, newslice, v27) : Bool × (List ByteArray) × Nat) => [(25, ((slA 1 (slA 1 AV.s)) slices)), (26, (Ai slices.length)), (6, (accW 0 1 AV.s b_newslice newslice)), (27, (Ai v27))]) (fun ((b_newslice, newslice, v27) : Bool × (List ByteArray) × Nat) => ⟨1, [(0, accWO 9 1 AV.s b_newslice newslice)]⟩) (fun ((b_newslice, newslice, v27) : Bool × (List ByteArray) × Nat) => v27 ≤ slices.length ∧ (b_newslice = false → newslice = []) ∧ newslice.length + ((slices.drop v27).flatten).length ≤ (slices.flatten).length ∧ m_e (slices.drop v27) v27 newslice = R2) (fun ((b_newslice, newslice, v27) : Bool × (List ByteArray) × Nat) => slices.length - v27) (false, [], 0) ?_ ?_ ?_
 exact ⟨[1000000], ⟨by decide, rfl, (FitsObjs.cons rfl FitsObjs.nil), (Ee (Ee (Ee (Ee EntE.nil))))⟩, keep0⟩
 exact ⟨od, (by simp), by (try dsimp only) <;> (simp), hR2⟩
 rintro ⟨b_newslice, newslice, v27⟩ ⟨hi2, hn_newslice, ha, hE2⟩
 try dsimp only
 cases b_newslice
 have hz_newslice := hn_newslice rfl
 subst hz_newslice
 try dsimp only
 refine Sq <| Rg <| Aq (AV.b (decide (((v27 : Nat) : Int) < ((slices.length : Nat) : Int)))) <| Ad <| Sq ?_
 rcases Nat.lt_or_ge v27 slices.length with hl2 | hl2
 have hc2 : decide (((v27 : Nat) : Int) < ((slices.length : Nat) : Int)) = true := decide_eq_true (by omega)
 refine Awp.cond (t := true) (by rw [← hc2] <;> kernel_rfl) (Awp.skip ?_)
 obtain ⟨x2, hx2⟩ : ∃ x, slices[v27]? = some x := ⟨_, List.getElem?_eq_getElem hl2⟩
 rw [drop_at hx2, m_e.eq_2] at hE2
 rw [drop_at hx2] at ha
 simp only [List.flatten_cons, List.length_append] at ha
 refine Sq <| Awp.block <| Sq <| Rg <| Ap (AV.pt ((slA 1 AV.s) x2).cells) (g_idx (k := 1) (nl := false) (e := 24) (kk := .i64) (A := (slA 1 AV.s)) (xs := slices) (i := v27) kr kr kr ⟨by kernel_rfl, by decide⟩ hx2) <| Aq ((slA 1 AV.s) x2) <| Aq ((slA 1 AV.s) x2) <| Ad <| Rg <| Aq (AV.sl 1 true []) <| Aq ((slA 1 AV.s) x2) ?_
 by_cases z_3 : x2 = []
 refine AOps.se (x := (AV.sl 1 true [])) (h' := ⟨1, [(0, none)]⟩) (g_app0 (e := 9) (X := ((slA 1 AV.s) x2)) (A := AV.s) (i := tI_9) (k := 1) (ys := x2) kr kr kr (hx := kr) rfl z_3 ⟨by decide, by kernel_rfl⟩) le <| Aq (AV.sl 1 true []) <| Ad <| Rg <| Ap (Ai (v27 + 1)) (g_addN (i := v27) (m := 1) kr kr sd) <| Aq (Ai (v27 + 1)) <| Ad ?_
 try simp only [z_3, sbt] at hE2
 refine ⟨(false, [], v27 + 1), od, ⟨od, (by simp), by (try dsimp only) <;> (first | omega | (simp only [List.length_append]; omega)), hE2⟩, ?_⟩
 exact ⟨[1000000], ⟨by decide, rfl, (FitsObjs.cons rfl FitsObjs.nil), (Ee (Ee (Ee (Ee EntE.nil))))⟩, keep0⟩
 refine AOps.se (x := (AV.own 1 0 x2.length)) (h' := ⟨2, [(1, some ⟨9, 1, x2.map AV.s⟩), (0, none)]⟩) (g_app1 (e := 9) (X := ((slA 1 AV.s) x2)) (A := AV.s) (i := tI_9) (k := 1) (ys := x2) kr kr kr (hx := kr) rfl z_3 ⟨by decide, by kernel_rfl⟩ (by show _ * 16 ≤ 140737488355328; first | omega | (simp only [List.length_append, List.length_cons, List.length_nil, List.length_set, List.length_replicate]; omega) | (simp; omega)) sd) le <| Aq (AV.own 1 0 x2.length) <| Ad <| Rg <| Ap (Ai (v27 + 1)) (g_addN (i := v27) (m := 1) kr kr sd) <| Aq (Ai (v27 + 1)) <| Ad ?_
 refine ⟨(true, x2, v27 + 1), od, ⟨od, (by simp), by (try dsimp only) <;> (first | omega | (simp only [List.length_append]; omega)), hE2⟩, ?_⟩
 exact ⟨[1], ⟨by decide, rfl, (FitsObjs.cons (obj_row (fun _ => rfl) (e := 9) (k := 1) (A := AV.s) (xs := x2) rfl rfl) FitsObjs.nil), (Ee (Ee (EntE.cons (ent_keepO (by decide) rfl) (Ee EntE.nil))))⟩, keep0⟩
 have hc2 : decide (((v27 : Nat) : Int) < ((slices.length : Nat) : Int)) = false := decide_eq_false (by omega)
 refine Awp.cond (t := false) (by rw [← hc2] <;> kernel_rfl) (Awp.exit ?_)
 rw [List.drop_eq_nil_of_le (hl2), m_e.eq_1] at hE2
 subst hE2
 refine Sq <| Rg <| Aq (AV.sl 1 true []) <| Aq (AV.sl 1 true []) <| Ad <| Rt ?_
 have hM : m_a slices = [] := by simp only [m_a, hR1, z_2, hR2, sbt]
 exact absurd hM hne
 try dsimp only
 refine Sq <| Rg <| Aq (AV.b (decide (((v27 : Nat) : Int) < ((slices.length : Nat) : Int)))) <| Ad <| Sq ?_
 rcases Nat.lt_or_ge v27 slices.length with hl2 | hl2
 have hc2 : decide (((v27 : Nat) : Int) < ((slices.length : Nat) : Int)) = true := decide_eq_true (by omega)
 refine Awp.cond (t := true) (by rw [← hc2] <;> kernel_rfl) (Awp.skip ?_)
 obtain ⟨x2, hx2⟩ : ∃ x, slices[v27]? = some x := ⟨_, List.getElem?_eq_getElem hl2⟩
 rw [drop_at hx2, m_e.eq_2] at hE2
 rw [drop_at hx2] at ha
 simp only [List.flatten_cons, List.length_append] at ha
 refine Sq <| Awp.block <| Sq <| Rg <| Ap (AV.pt ((slA 1 AV.s) x2).cells) (g_idx (k := 1) (nl := false) (e := 24) (kk := .i64) (A := (slA 1 AV.s)) (xs := slices) (i := v27) kr kr kr ⟨by kernel_rfl, by decide⟩ hx2) <| Aq ((slA 1 AV.s) x2) <| Aq ((slA 1 AV.s) x2) <| Ad <| Rg <| Aq (AV.own 0 0 newslice.length) <| Aq ((slA 1 AV.s) x2) <| AOps.se (x := (AV.own 1 0 ((newslice ++ x2).length))) (h' := ⟨2, [(1, some ⟨9, 1, (newslice ++ x2).map AV.s⟩), (0, none)]⟩) (g_appR (len := newslice.length) (e := 9) (X := ((slA 1 AV.s) x2)) (A := AV.s) (i := tI_9) (p := 0) (xs := newslice) (ys := x2) kr kr kr (hx := kr) kr ⟨by decide, by kernel_rfl⟩ rfl rfl (by show _ * 16 ≤ 140737488355328; first | omega | (simp only [List.length_append, List.length_cons, List.length_nil, List.length_set, List.length_replicate]; omega) | (simp; omega)) sd) le <| Aq (AV.own 1 0 ((newslice ++ x2).length)) <| Ad <| Rg <| Ap (Ai (v27 + 1)) (g_addN (i := v27) (m := 1) kr kr sd) <| Aq (Ai (v27 + 1)) <| Ad ?_
 refine ⟨(true, (newslice ++ x2), v27 + 1), od, ⟨od, (by simp), by (try dsimp only) <;> (first | omega | (simp only [List.length_append]; omega)), hE2⟩, ?_⟩
 exact ⟨[1], ⟨by decide, rfl, (FitsObjs.cons (obj_row (fun _ => rfl) (e := 9) (k := 1) (A := AV.s) (xs := (newslice ++ x2)) rfl rfl) FitsObjs.nil), (Ee (Ee (EntE.cons (ent_keepO (by decide) rfl) (Ee EntE.nil))))⟩, keep0⟩
 have hc2 : decide (((v27 : Nat) : Int) < ((slices.length : Nat) : Int)) = false := decide_eq_false (by omega)
 refine Awp.cond (t := false) (by rw [← hc2] <;> kernel_rfl) (Awp.exit ?_)
 rw [List.drop_eq_nil_of_le (hl2), m_e.eq_1] at hE2
 subst hE2
 refine Sq <| Rg <| Aq (AV.own 0 0 newslice.length) <| Aq (AV.own 0 0 newslice.length) <| Ad <| Rt ?_
 have hM : m_a slices = newslice := by simp only [m_a, hR1, z_2, hR2, sbt]
 rw [hM]
 refine ⟨Or.inr rfl, 0, ?_, rfl⟩
 first | rfl | (show AV.own _ _ _ = AV.own _ _ _; congr 1; simp)
 have hzz_2 : 0 < size := by have := z_2; simp only [ne_eq, List.replicate_eq_nil_iff] at this; omega
 refine AOps.scR (A := AV.s) (xs := (List.replicate size (⟨#[]⟩ : ByteArray))) (vs := [(AV.sl 1 true []), (Ai size)]) kr kr (wo_grow_string W size hzz_2 sd) (fun _ => rfl) le <| Aq (AV.own 0 0 0) <| Ad <| Sq <| Sq <| Rg <| Aq ((slA 1 (slA 1 AV.s)) slices) <| Ap (Ai slices.length) (g_len (k := 1) (nl := false) (e := 24) (A := (slA 1 AV.s)) (xs := slices) kr kr) <| Aq (AV.i .i64 (0 : Int)) <| Ad <| Awp.block <| Awp.lim 0 (x := ((slA 1 (slA 1 AV.s)) slices)) kr fun hlm2 => ?_
 have hB2 : slices.length ≤ 281474976710656 := lim_slA hlm2
 obtain ⟨R2, hR2⟩ : ∃ R, m_e slices 0 ((List.replicate size (⟨#[]⟩ : ByteArray)).take 0) = R := ⟨_, rfl⟩
 refine Awp.loopT (fun ((b_newslice2, newslice2, v272) : Bool × (List ByteArray) × Nat) => [(25, ((slA 1 (slA 1 AV.s)) slices)), (26, (Ai slices.length)), (6, (accW 0 1 AV.s b_newslice2 newslice2)), (27, (Ai v272))]) (fun ((b_newslice2, newslice2, v272) : Bool × (List ByteArray) × Nat) => ⟨1, [(0, accWO 9 1 AV.s b_newslice2 newslice2)]⟩) (fun ((b_newslice2, newslice2, v272) : Bool × (List ByteArray) × Nat) => v272 ≤ slices.length ∧ (b_newslice2 = false → newslice2 = []) ∧ newslice2.length + ((slices.drop v272).flatten).length ≤ (slices.flatten).length ∧ m_e (slices.drop v272) v272 newslice2 = R2) (fun ((b_newslice2, newslice2, v272) : Bool × (List ByteArray) × Nat) => slices.length - v272) (true, ((List.replicate size (⟨#[]⟩ : ByteArray)).take 0), 0) ?_ ?_ ?_
 exact ⟨[0], ⟨by decide, rfl, (FitsObjs.consW (obj_pre (fun _ => rfl) (fun _ => rfl) (e := 9) (k := 1) (A := AV.s) (xs := (List.replicate size (⟨#[]⟩ : ByteArray))) (ys := ((List.replicate size (⟨#[]⟩ : ByteArray)).take 0)) (take_pre _ _) rfl rfl) FitsObjs.nil), (Ee (Ee (EntE.cons (ent_keepO (by decide) (by simp)) (Ee EntE.nil))))⟩, keep0⟩
 exact ⟨od, (by simp), by (try dsimp only) <;> (simp), hR2⟩
 rintro ⟨b_newslice2, newslice2, v272⟩ ⟨hi2, hn_newslice2, ha, hE2⟩
 try dsimp only
 cases b_newslice2
 have hz_newslice2 := hn_newslice2 rfl
 subst hz_newslice2
 try dsimp only
 refine Sq <| Rg <| Aq (AV.b (decide (((v272 : Nat) : Int) < ((slices.length : Nat) : Int)))) <| Ad <| Sq ?_
 rcases Nat.lt_or_ge v272 slices.length with hl2 | hl2
 have hc2 : decide (((v272 : Nat) : Int) < ((slices.length : Nat) : Int)) = true := decide_eq_true (by omega)
 refine Awp.cond (t := true) (by rw [← hc2] <;> kernel_rfl) (Awp.skip ?_)
 obtain ⟨x22, hx2⟩ : ∃ x, slices[v272]? = some x := ⟨_, List.getElem?_eq_getElem hl2⟩
 rw [drop_at hx2, m_e.eq_2] at hE2
 rw [drop_at hx2] at ha
 simp only [List.flatten_cons, List.length_append] at ha
 refine Sq <| Awp.block <| Sq <| Rg <| Ap (AV.pt ((slA 1 AV.s) x22).cells) (g_idx (k := 1) (nl := false) (e := 24) (kk := .i64) (A := (slA 1 AV.s)) (xs := slices) (i := v272) kr kr kr ⟨by kernel_rfl, by decide⟩ hx2) <| Aq ((slA 1 AV.s) x22) <| Aq ((slA 1 AV.s) x22) <| Ad <| Rg <| Aq (AV.sl 1 true []) <| Aq ((slA 1 AV.s) x22) ?_
 by_cases z_4 : x22 = []
 refine AOps.se (x := (AV.sl 1 true [])) (h' := ⟨1, [(0, none)]⟩) (g_app0 (e := 9) (X := ((slA 1 AV.s) x22)) (A := AV.s) (i := tI_9) (k := 1) (ys := x22) kr kr kr (hx := kr) rfl z_4 ⟨by decide, by kernel_rfl⟩) le <| Aq (AV.sl 1 true []) <| Ad <| Rg <| Ap (Ai (v272 + 1)) (g_addN (i := v272) (m := 1) kr kr sd) <| Aq (Ai (v272 + 1)) <| Ad ?_
 try simp only [z_4, sbt] at hE2
 refine ⟨(false, [], v272 + 1), od, ⟨od, (by simp), by (try dsimp only) <;> (first | omega | (simp only [List.length_append]; omega)), hE2⟩, ?_⟩
 exact ⟨[1000000], ⟨by decide, rfl, (FitsObjs.cons rfl FitsObjs.nil), (Ee (Ee (Ee (Ee EntE.nil))))⟩, keep0⟩
 refine AOps.se (x := (AV.own 1 0 x22.length)) (h' := ⟨2, [(1, some ⟨9, 1, x22.map AV.s⟩), (0, none)]⟩) (g_app1 (e := 9) (X := ((slA 1 AV.s) x22)) (A := AV.s) (i := tI_9) (k := 1) (ys := x22) kr kr kr (hx := kr) rfl z_4 ⟨by decide, by kernel_rfl⟩ (by show _ * 16 ≤ 140737488355328; first | omega | (simp only [List.length_append, List.length_cons, List.length_nil, List.length_set, List.length_replicate]; omega) | (simp; omega)) sd) le <| Aq (AV.own 1 0 x22.length) <| Ad <| Rg <| Ap (Ai (v272 + 1)) (g_addN (i := v272) (m := 1) kr kr sd) <| Aq (Ai (v272 + 1)) <| Ad ?_
 refine ⟨(true, x22, v272 + 1), od, ⟨od, (by simp), by (try dsimp only) <;> (first | omega | (simp only [List.length_append]; omega)), hE2⟩, ?_⟩
 exact ⟨[1], ⟨by decide, rfl, (FitsObjs.cons (obj_row (fun _ => rfl) (e := 9) (k := 1) (A := AV.s) (xs := x22) rfl rfl) FitsObjs.nil), (Ee (Ee (EntE.cons (ent_keepO (by decide) rfl) (Ee EntE.nil))))⟩, keep0⟩
 have hc2 : decide (((v272 : Nat) : Int) < ((slices.length : Nat) : Int)) = false := decide_eq_false (by omega)
 refine Awp.cond (t := false) (by rw [← hc2] <;> kernel_rfl) (Awp.exit ?_)
 rw [List.drop_eq_nil_of_le (hl2), m_e.eq_1] at hE2
 subst hE2
 refine Sq <| Rg <| Aq (AV.sl 1 true []) <| Aq (AV.sl 1 true []) <| Ad <| Rt ?_
 have hM : m_a slices = [] := by simp only [m_a, hR1, hR2, sbt]
 exact absurd hM hne
 try dsimp only
 refine Sq <| Rg <| Aq (AV.b (decide (((v272 : Nat) : Int) < ((slices.length : Nat) : Int)))) <| Ad <| Sq ?_
 rcases Nat.lt_or_ge v272 slices.length with hl2 | hl2
 have hc2 : decide (((v272 : Nat) : Int) < ((slices.length : Nat) : Int)) = true := decide_eq_true (by omega)
 refine Awp.cond (t := true) (by rw [← hc2] <;> kernel_rfl) (Awp.skip ?_)
 obtain ⟨x22, hx2⟩ : ∃ x, slices[v272]? = some x := ⟨_, List.getElem?_eq_getElem hl2⟩
 rw [drop_at hx2, m_e.eq_2] at hE2
 rw [drop_at hx2] at ha
 simp only [List.flatten_cons, List.length_append] at ha
 refine Sq <| Awp.block <| Sq <| Rg <| Ap (AV.pt ((slA 1 AV.s) x22).cells) (g_idx (k := 1) (nl := false) (e := 24) (kk := .i64) (A := (slA 1 AV.s)) (xs := slices) (i := v272) kr kr kr ⟨by kernel_rfl, by decide⟩ hx2) <| Aq ((slA 1 AV.s) x22) <| Aq ((slA 1 AV.s) x22) <| Ad <| Rg <| Aq (AV.own 0 0 newslice2.length) <| Aq ((slA 1 AV.s) x22) <| AOps.se (x := (AV.own 1 0 ((newslice2 ++ x22).length))) (h' := ⟨2, [(1, some ⟨9, 1, (newslice2 ++ x22).map AV.s⟩), (0, none)]⟩) (g_appR (len := newslice2.length) (e := 9) (X := ((slA 1 AV.s) x22)) (A := AV.s) (i := tI_9) (p := 0) (xs := newslice2) (ys := x22) kr kr kr (hx := kr) kr ⟨by decide, by kernel_rfl⟩ rfl rfl (by show _ * 16 ≤ 140737488355328; first | omega | (simp only [List.length_append, List.length_cons, List.length_nil, List.length_set, List.length_replicate]; omega) | (simp; omega)) sd) le <| Aq (AV.own 1 0 ((newslice2 ++ x22).length)) <| Ad <| Rg <| Ap (Ai (v272 + 1)) (g_addN (i := v272) (m := 1) kr kr sd) <| Aq (Ai (v272 + 1)) <| Ad ?_
 refine ⟨(true, (newslice2 ++ x22), v272 + 1), od, ⟨od, (by simp), by (try dsimp only) <;> (first | omega | (simp only [List.length_append]; omega)), hE2⟩, ?_⟩
 exact ⟨[1], ⟨by decide, rfl, (FitsObjs.cons (obj_row (fun _ => rfl) (e := 9) (k := 1) (A := AV.s) (xs := (newslice2 ++ x22)) rfl rfl) FitsObjs.nil), (Ee (Ee (EntE.cons (ent_keepO (by decide) rfl) (Ee EntE.nil))))⟩, keep0⟩
 have hc2 : decide (((v272 : Nat) : Int) < ((slices.length : Nat) : Int)) = false := decide_eq_false (by omega)
 refine Awp.cond (t := false) (by rw [← hc2] <;> kernel_rfl) (Awp.exit ?_)
 rw [List.drop_eq_nil_of_le (hl2), m_e.eq_1] at hE2
 subst hE2
 refine Sq <| Rg <| Aq (AV.own 0 0 newslice2.length) <| Aq (AV.own 0 0 newslice2.length) <| Ad <| Rt ?_
 have hM : m_a slices = newslice2 := by simp only [m_a, hR1, hR2, sbt]
 rw [hM]
 refine ⟨Or.inr rfl, 0, ?_, rfl⟩
 first | rfl | (show AV.own _ _ _ = AV.own _ _ _; congr 1; simp)
theorem w_order_Needs (W : World) (g : DGraph) (edge : Int) (he : edge.toNat < g.edges.length ∧ 0 ≤ edge) (hz : needsN g edge ≤ 1048576) : PureAt Go.Proofs.Tryz.prog W 105 [(AV.pt (DGraph.av g).cells), (AV.i .i64 edge)] ((slA 1 (AV.i .i64)) (m_am g edge)) [] := by
 have hfl : ([(g.edges.getD edge.toNat default).ins, (g.edges.getD edge.toNat default).implicit, (g.edges.getD edge.toNat default).order].flatten).length ≤ 1048576 := by have hz' := hz; unfold needsN at hz'; simp only [List.flatten_cons, List.flatten_nil, List.append_nil, List.length_append]; omega
 have hlen : (m_a [(g.edges.getD edge.toNat default).ins, (g.edges.getD edge.toNat default).implicit, (g.edges.getD edge.toNat default).order]).length ≤ 1048576 := by rw [concat_eq]; exact hfl
 refine pure_of_bodyC (fn := Go.Proofs.Tryz.f105) Go.Proofs.Tryz.func105 rfl (en105 W) (ts := [4]) rfl le <| Sq <| Rg <| Aq (AV.sl 1 true []) <| Ad <| Sq <| Rg <| Aq (AV.sl 1 true []) <| Ad <| Sq <| Rg <| Aq (AV.pt (DGraph.av g).cells) <| Aq (AV.pt (DGraph.av g).cells) <| Aq (AV.pt ((DGraph.av g).cells.drop 0)) <| Aq ((slA 7 DEdge.av) g.edges) <| Aq (AV.i .i64 edge) <| Ap (AV.pt (DEdge.av (g.edges.getD edge.toNat default)).cells) (g_idxI (k := 7) (nl := false) (e := 65) (kk := .i64) (A := DEdge.av) (xs := g.edges) (n := edge) kr kr kr ⟨by kernel_rfl, by decide⟩ sd (getD_some sd)) <| Aq (AV.pt (DEdge.av (g.edges.getD edge.toNat default)).cells) <| Ad <| Sq ?_
 refine Awp.cut [(0, (AV.pt (DGraph.av g).cells)), (5, (AV.sl 1 true [])), (29, ((slA 1 AV.s) (m_a [(g.edges.getD edge.toNat default).ins, (g.edges.getD edge.toNat default).implicit, (g.edges.getD edge.toNat default).order]))), (30, (AV.i .i64 (((m_a [(g.edges.getD edge.toNat default).ins, (g.edges.getD edge.toNat default).implicit, (g.edges.getD edge.toNat default).order]).length : Nat) : Int))), (31, (AV.i .i64 (0 : Int)))] ⟨0, []⟩ ?_ ?_
 refine Awp.drawn tabS_ok mixed 16 kr le <| Dq (AV.pt (DEdge.av (g.edges.getD edge.toNat default)).cells) <| Dq (AV.pt (DEdge.av (g.edges.getD edge.toNat default)).cells) <| Dq (AV.pt ((DEdge.av (g.edges.getD edge.toNat default)).cells.drop 1)) <| Dq ((slA 1 AV.s) ((g.edges.getD edge.toNat default).ins)) <| Dq (AV.pt (DEdge.av (g.edges.getD edge.toNat default)).cells) <| Dq (AV.pt (DEdge.av (g.edges.getD edge.toNat default)).cells) <| Dq (AV.pt ((DEdge.av (g.edges.getD edge.toNat default)).cells.drop 2)) <| Dq ((slA 1 AV.s) ((g.edges.getD edge.toNat default).implicit)) <| Dq (AV.pt (DEdge.av (g.edges.getD edge.toNat default)).cells) <| Dq (AV.pt (DEdge.av (g.edges.getD edge.toNat default)).cells) <| Dq (AV.pt ((DEdge.av (g.edges.getD edge.toNat default)).cells.drop 3)) <| Dq ((slA 1 AV.s) ((g.edges.getD edge.toNat default).order)) <| AOpsD.sn (x := (AV.own 0 0 3)) (h' := ⟨1, [(0, some ⟨24, 1, [(g.edges.getD edge.toNat default).ins, (g.edges.getD edge.toNat default).implicit, (g.edges.getD edge.toNat default).order].map (slA 1 AV.s)⟩)]⟩) kr le ?_
 by_cases z_1 : (m_a [(g.edges.getD edge.toNat default).ins, (g.edges.getD edge.toNat default).implicit, (g.edges.getD edge.toNat default).order]) = []
 refine AOpsD.sfw (vs := [(AV.own 0 0 3)]) (ss := [((slA 1 (slA 1 AV.s)) [(g.edges.getD edge.toNat default).ins, (g.edges.getD edge.toNat default).implicit, (g.edges.getD edge.toNat default).order])]) (r0 := ((slA 1 AV.s) ([] : List ByteArray))) kr (show SnapW _ _ _ from ⟨(EntK.w (EntK.cast (x' := (AV.own 0 0 3)) kr kr (EntK.row (fun _ => rfl) (A := (slA 1 AV.s)) (id := 0) (e := 24) (k := 1) (xs := [(g.edges.getD edge.toNat default).ins, (g.edges.getD edge.toNat default).implicit, (g.edges.getD edge.toNat default).order]) rfl rfl sd sd))), trivial⟩) (by rw [← show (m_a [(g.edges.getD edge.toNat default).ins, (g.edges.getD edge.toNat default).implicit, (g.edges.getD edge.toNat default).order]) = [] from z_1]; exact (w_slices_Concat_string_string W [(g.edges.getD edge.toNat default).ins, (g.edges.getD edge.toNat default).implicit, (g.edges.getD edge.toNat default).order] hfl)) rfl kr le <| Dp (AV.i .i64 ((([] : List ByteArray).length : Nat) : Int)) (g_len (k := 1) (nl := false) (e := 9) (A := AV.s) (xs := ([] : List ByteArray)) kr kr) <| Dq (AV.i .i64 (0 : Int)) <| AOpsD.fin ?_
 rw [z_1]
 exact ⟨[], ⟨by decide, rfl, FitsObjs.nil, (Ee (Ee (Ee (Ee (Ee EntE.nil)))))⟩, keep0⟩
 refine AOpsD.sfR (A := AV.s) (xs := (m_a [(g.edges.getD edge.toNat default).ins, (g.edges.getD edge.toNat default).implicit, (g.edges.getD edge.toNat default).order])) (vs := [(AV.own 0 0 3)]) (ss := [((slA 1 (slA 1 AV.s)) [(g.edges.getD edge.toNat default).ins, (g.edges.getD edge.toNat default).implicit, (g.edges.getD edge.toNat default).order])]) kr (show SnapW _ _ _ from ⟨(EntK.w (EntK.cast (x' := (AV.own 0 0 3)) kr kr (EntK.row (fun _ => rfl) (A := (slA 1 AV.s)) (id := 0) (e := 24) (k := 1) (xs := [(g.edges.getD edge.toNat default).ins, (g.edges.getD edge.toNat default).implicit, (g.edges.getD edge.toNat default).order]) rfl rfl sd sd))), trivial⟩) (wo_slices_Concat_string_string W [(g.edges.getD edge.toNat default).ins, (g.edges.getD edge.toNat default).implicit, (g.edges.getD edge.toNat default).order] hfl z_1) (fun _ => rfl) (fun _ => rfl) le <| Dq (AV.i .i64 (((m_a [(g.edges.getD edge.toNat default).ins, (g.edges.getD edge.toNat default).implicit, (g.edges.getD edge.toNat default).order]).length : Nat) : Int)) <| Dq (AV.i .i64 (0 : Int)) <| AOpsD.fin ?_
 exact ⟨[], ⟨by decide, rfl, FitsObjs.nil, (Ee (Ee (EntE.cons (EntD.kk (x' := (AV.own 1 0 ((m_a [(g.edges.getD edge.toNat default).ins, (g.edges.getD edge.toNat default).implicit, (g.edges.getD edge.toNat default).order]).length))) kr kr rfl (EntK.row (fun _ => rfl) (A := AV.s) (id := 1) (e := 9) (k := 1) (xs := (m_a [(g.edges.getD edge.toNat default).ins, (g.edges.getD edge.toNat default).implicit, (g.edges.getD edge.toNat default).order])) rfl rfl rfl sd)) (Ee (Ee EntE.nil)))))⟩, keep0⟩
 refine Awp.block <| Awp.lim 29 (x := ((slA 1 AV.s) (m_a [(g.edges.getD edge.toNat default).ins, (g.edges.getD edge.toNat default).implicit, (g.edges.getD edge.toNat default).order]))) kr fun hlm1 => ?_
 have hB1 : (m_a [(g.edges.getD edge.toNat default).ins, (g.edges.getD edge.toNat default).implicit, (g.edges.getD edge.toNat default).order]).length ≤ 281474976710656 := lim_slA hlm1
 obtain ⟨R1, hR1⟩ : ∃ R, m_bj g (m_a [(g.edges.getD edge.toNat default).ins, (g.edges.getD edge.toNat default).implicit, (g.edges.getD edge.toNat default).order]) 0 [] = R := ⟨_, rfl⟩
 refine Awp.loopT (fun ((out, v31) : (List Int) × Nat) => [(0, (AV.pt (DGraph.av g).cells)), (29, ((slA 1 AV.s) (m_a [(g.edges.getD edge.toNat default).ins, (g.edges.getD edge.toNat default).implicit, (g.edges.getD edge.toNat default).order]))), (30, (AV.i .i64 (((m_a [(g.edges.getD edge.toNat default).ins, (g.edges.getD edge.toNat default).implicit, (g.edges.getD edge.toNat default).order]).length : Nat) : Int))), (5, (accV 0 1 (AV.i .i64) out)), (31, (Ai v31))]) (fun ((out, v31) : (List Int) × Nat) => ⟨1, [(0, accO 3 1 (AV.i .i64) out)]⟩) (fun ((out, v31) : (List Int) × Nat) => v31 ≤ (m_a [(g.edges.getD edge.toNat default).ins, (g.edges.getD edge.toNat default).implicit, (g.edges.getD edge.toNat default).order]).length ∧ out.length ≤ v31 ∧ m_bj g ((m_a [(g.edges.getD edge.toNat default).ins, (g.edges.getD edge.toNat default).implicit, (g.edges.getD edge.toNat default).order]).drop v31) v31 out = R1) (fun ((out, v31) : (List Int) × Nat) => (m_a [(g.edges.getD edge.toNat default).ins, (g.edges.getD edge.toNat default).implicit, (g.edges.getD edge.toNat default).order]).length - v31) ([], 0) ?_ ?_ ?_
 exact ⟨[1000000], ⟨by decide, rfl, (FitsObjs.cons rfl FitsObjs.nil), (Ee (Ee (Ee (Ee (Ee EntE.nil)))))⟩, keep0⟩
 exact ⟨od, sdd, hR1⟩
 rintro ⟨out, v31⟩ ⟨hi1, hl, hE1⟩
 try dsimp only
 refine Sq <| Rg <| Aq (AV.b (decide (((v31 : Nat) : Int) < (((m_a [(g.edges.getD edge.toNat default).ins, (g.edges.getD edge.toNat default).implicit, (g.edges.getD edge.toNat default).order]).length : Nat) : Int)))) <| Ad <| Sq ?_
 rcases Nat.lt_or_ge v31 (m_a [(g.edges.getD edge.toNat default).ins, (g.edges.getD edge.toNat default).implicit, (g.edges.getD edge.toNat default).order]).length with hl1 | hl1
 have hc1 : decide (((v31 : Nat) : Int) < (((m_a [(g.edges.getD edge.toNat default).ins, (g.edges.getD edge.toNat default).implicit, (g.edges.getD edge.toNat default).order]).length : Nat) : Int)) = true := decide_eq_true (by omega)
 refine Awp.cond (t := true) (by rw [← hc1] <;> kernel_rfl) (Awp.skip ?_)
 obtain ⟨x1, hx1⟩ : ∃ x, (m_a [(g.edges.getD edge.toNat default).ins, (g.edges.getD edge.toNat default).implicit, (g.edges.getD edge.toNat default).order])[v31]? = some x := ⟨_, List.getElem?_eq_getElem hl1⟩
 rw [drop_at hx1, m_bj.eq_2] at hE1
 refine Sq <| Awp.block <| Sq <| Rg <| Ap (AV.pt (AV.s x1).cells) (g_idx (k := 1) (nl := false) (e := 9) (kk := .i64) (A := AV.s) (xs := (m_a [(g.edges.getD edge.toNat default).ins, (g.edges.getD edge.toNat default).implicit, (g.edges.getD edge.toNat default).order])) (i := v31) kr kr kr ⟨by kernel_rfl, by decide⟩ hx1) <| Aq (AV.s x1) <| Aq (AV.s x1) <| Ad <| Sq <| Rg <| Aq (AV.pt (DGraph.av g).cells) <| Aq (AV.s x1) <| AOps.sc0 (vs := [(AV.pt (DGraph.av g).cells), (AV.s x1)]) (r0 := (AV.i .i64 (m_g g x1))) kr kr (w_graph_Makes W g x1) kr le <| Aq (AV.i .i64 (m_g g x1)) <| Ad <| Sq <| Rg <| Aq (AV.i .i64 (m_g g x1)) <| Aq (AV.b (decide ((0 : Int) ≤ (m_g g x1)))) <| Aq (AV.b (decide ((0 : Int) ≤ (m_g g x1)))) ?_
 cases c_2 : decide ((0 : Int) ≤ (m_g g x1))
 have k_2 := of_decide_eq_false c_2
 refine An <| An <| An <| An <| Aq (AV.b false) <| Ad <| Cf <| Awp.skip <| Rg <| Ap (Ai (v31 + 1)) (g_addN (i := v31) (m := 1) kr kr sd) <| Aq (Ai (v31 + 1)) <| Ad ?_
 try simp only [c_2, sbt] at hE1
 refine ⟨(out, v31 + 1), od, ⟨od, sdd, hE1⟩, ?_⟩
 exact ⟨[0], ⟨by decide, rfl, (FitsObjs.cons (obj_acc (fun _ => rfl) (e := 3) (k := 1) (A := (AV.i .i64)) (xs := out) rfl rfl) FitsObjs.nil), (Ee (Ee (Ee (EntE.cons (ent_keepA (by decide)) (Ee EntE.nil)))))⟩, keep0⟩
 have k_2 := of_decide_eq_true c_2
 refine Ay <| Aq (accV 0 1 (AV.i .i64) out) <| Ay <| Aq (AV.i .i64 (m_g g x1)) <| Ay <| AOps.sfw (vs := [(accV 0 1 (AV.i .i64) out), (AV.i .i64 (m_g g x1))]) (ss := [((slA 1 (AV.i .i64)) out), (AV.i .i64 (m_g g x1))]) (r0 := (AV.b (m_4 out (m_g g x1)))) kr (show SnapW _ _ _ from ⟨(EntK.w (EntK.cast (x' := (accV 0 1 (AV.i .i64) out)) kr kr (EntK.acc (fun _ => rfl) (A := (AV.i .i64)) (e := 3) (k := 1) (id := 0) (xs := out) rfl rfl sd))), ⟨(SnapW.e kr), trivial⟩⟩) (w_slices_Contains_int_int W out (m_g g x1)) rfl kr le <| Ay <| Aq (AV.b (!(m_4 out (m_g g x1)))) <| Aq (AV.b (!(m_4 out (m_g g x1)))) <| Ad ?_
 cases c_3 : (!(m_4 out (m_g g x1)))
 refine Cf <| Awp.skip <| Rg <| Ap (Ai (v31 + 1)) (g_addN (i := v31) (m := 1) kr kr sd) <| Aq (Ai (v31 + 1)) <| Ad ?_
 try simp only [c_2, c_3, sbt] at hE1
 refine ⟨(out, v31 + 1), od, ⟨od, sdd, hE1⟩, ?_⟩
 exact ⟨[0], ⟨by decide, rfl, (FitsObjs.cons (obj_acc (fun _ => rfl) (e := 3) (k := 1) (A := (AV.i .i64)) (xs := out) rfl rfl) FitsObjs.nil), (Ee (Ee (Ee (EntE.cons (ent_keepA (by decide)) (Ee EntE.nil)))))⟩, keep0⟩
 refine Ct <| Rg <| Aq (accV 0 1 (AV.i .i64) out) <| Aq (AV.i .i64 (m_g g x1)) <| Nn (AV.own 1 0 1) ⟨3, 1, [(m_g g x1)].map (AV.i .i64)⟩ <| AOps.se (x := (AV.own 2 0 ((out ++ [(m_g g x1)]).length))) (h' := ⟨3, [(2, some ⟨3, 1, (out ++ [(m_g g x1)]).map (AV.i .i64)⟩), (1, some ⟨3, 1, [(m_g g x1)].map (AV.i .i64)⟩), (0, none)]⟩) (g_app (e := 3) (X := (AV.own 1 0 1)) (A := (AV.i .i64)) (i := tI_3) (p := 0) (xs := out) (ys := [(m_g g x1)]) kr kr kr (hx := kr) kr (by simp) ⟨by decide, by kernel_rfl⟩ rfl (by intro q; first | (subst q; rfl) | (rw [q]; rfl) | (simp only [q]; rfl)) (by show _ * 8 ≤ 140737488355328; first | omega | (simp only [List.length_append, List.length_cons, List.length_nil, List.length_set, List.length_replicate]; omega) | (simp; omega)) sd) le <| Aq (AV.own 2 0 ((out ++ [(m_g g x1)]).length)) <| Ad <| Rg <| Ap (Ai (v31 + 1)) (g_addN (i := v31) (m := 1) kr kr sd) <| Aq (Ai (v31 + 1)) <| Ad ?_
 try simp only [c_2, c_3, sbt] at hE1
 refine ⟨((out ++ [(m_g g x1)]), v31 + 1), od, ⟨od, sdd, hE1⟩, ?_⟩
 exact ⟨[2], ⟨by decide, rfl, (FitsObjs.cons (obj_acc' (fun _ => rfl) (e := 3) (k := 1) (A := (AV.i .i64)) (xs := (out ++ [(m_g g x1)])) (by simp) rfl rfl) FitsObjs.nil), (Ee (Ee (Ee (EntE.cons (ent_keep (A := (AV.i .i64)) (xs := (out ++ [(m_g g x1)])) (by decide) (by simp) rfl) (Ee EntE.nil)))))⟩, keep0⟩
 have hc1 : decide (((v31 : Nat) : Int) < (((m_a [(g.edges.getD edge.toNat default).ins, (g.edges.getD edge.toNat default).implicit, (g.edges.getD edge.toNat default).order]).length : Nat) : Int)) = false := decide_eq_false (by omega)
 refine Awp.cond (t := false) (by rw [← hc1] <;> kernel_rfl) (Awp.exit ?_)
 rw [List.drop_eq_nil_of_le (hl1), m_bj.eq_1] at hE1
 subst hE1
 refine Sq <| Rg <| Aq (accV 0 1 (AV.i .i64) out) <| Aq (accV 0 1 (AV.i .i64) out) <| Ad <| Rt ?_
 have hM : m_am g edge = out := by simp only [m_am, hR1, sbt]
 refine ⟨Or.inr rfl, ?_⟩
 rw [hM]
 exact Ent.cast (x' := (accV 0 1 (AV.i .i64) out)) (y' := ((slA 1 (AV.i .i64)) out)) kr kr (Ent.cast (x' := (accV 0 1 (AV.i .i64) out)) (y' := slA 1 (AV.i .i64) out) kr kr (ent_acc (fun _ => rfl) (by decide) (by decide) (e := 3) (k := 1) rfl sd))
theorem w_order_Of_1 (W : World) (edge : Int) (out : List Int) : PureAt Go.Proofs.Tryz.prog W 106 [(AV.i .i64 edge), (AV.pt ((slA 1 (AV.i .i64)) out).cells)] (AV.b (m_ax edge out)) [] := by
 refine pure_of_bodyC (fn := Go.Proofs.Tryz.f106) Go.Proofs.Tryz.func106 rfl (en106 W) (ts := [3]) rfl le <| Sq <| Rg <| Aq (AV.b false) <| Ad <| Sq <| Rg <| Aq ((slA 1 (AV.i .i64)) out) <| Aq (AV.i .i64 edge) <| AOps.sc0 (vs := [((slA 1 (AV.i .i64)) out), (AV.i .i64 edge)]) (r0 := (AV.b (m_4 out edge))) kr kr (w_slices_Contains_int_int W out edge) kr le <| Aq (AV.b (m_4 out edge)) <| Ad <| Rt ?_
 have hM : m_ax edge out = (m_4 out edge) := by simp only [m_ax, sbt]
 refine ⟨Or.inr rfl, ?_⟩
 rw [hM]
 exact Ec
theorem w_order_Of_2 (W : World) (edge : Int) (f_told : FuncId) (c_told : List AV) (told : Int → Bool) (hcl_told : closedL c_told = true) (hp_told : ∀ (z0 : Int), PureAt Go.Proofs.Tryz.prog W f_told ((AV.i .i64 z0) :: c_told) (AV.b (told z0)) []) : PureAt Go.Proofs.Tryz.prog W 108 [(AV.i .i64 edge), (AV.pt [(AV.fn f_told c_told)])] (AV.b (m_bu edge told)) [] := by
 refine pure_of_bodyC (fn := Go.Proofs.Tryz.f108) Go.Proofs.Tryz.func108 rfl (en108 W) (ts := [3]) rfl le <| Sq <| Rg <| Aq (AV.b false) <| Ad <| Sq <| Rg <| Aq (AV.fn f_told c_told) <| Aq (AV.i .i64 edge) <| AOps.sc0 (vs := ((AV.i .i64 edge) :: c_told)) (r0 := (AV.b (told edge))) kr (by simp only [closedL, Bool.and_eq_true]; exact ⟨by kernel_rfl, hcl_told⟩) (hp_told edge) kr le <| Aq (AV.b (!(told edge))) <| Aq (AV.b (!(told edge))) <| Ad <| Rt ?_
 have hM : m_bu edge told = (!(told edge)) := by simp only [m_bu, sbt]
 refine ⟨Or.inr rfl, ?_⟩
 rw [hM]
 exact Ec
theorem w_order_Of (W : World) {m0 : Int} (hW : W.cell? ⟨0, 0, none⟩ = some (.int .i64 m0)) (g : DGraph) (hz0 : g.sz ≤ 1048576) : PureAt Go.Proofs.Tryz.prog W 62 [(DGraph.av g)] (AV.tup [((slA 1 (AV.i .i64)) ((m_s g).1)), (AV.i .i64 ((m_s g).2))]) [] := by
 have hz : ∀ i, needsN g i ≤ 1048576 := fun i => Nat.le_trans (needsN_sz g i) hz0
 have hzo : outsN g.edges ≤ 1048576 := Nat.le_trans (outsN_sz g) hz0
 refine pure_of_bodyC (fn := Go.Proofs.Tryz.f62) Go.Proofs.Tryz.func62 rfl (en62 W) (ts := [2, 3]) rfl le <| Sq <| Rg <| Nn (AV.loc 0 0 0) ⟨26, 3, [(DGraph.av g)]⟩ <| Aq (AV.sl 1 true []) <| Aq (AV.i .i64 (0 : Int)) <| Ad <| Awp.fitsW [] (env' := [(0, (DGraph.av g)), (1, (AV.pt (DGraph.av g).cells)), (2, (AV.sl 1 true [])), (3, (AV.i .i64 (0 : Int)))]) (h' := ⟨0, []⟩) ⟨by decide, rfl, FitsObjs.nil, (Ee (EntE.cons (EntD.kk (x' := (AV.loc 0 0 0)) kr kr rfl (EntK.loc (id := 0) (j := 0) (o := 0) (ob := ⟨26, 3, [(DGraph.av g)]⟩) (x := (DGraph.av g)) rfl rfl rfl (EntKs.cons (EntK.cr (x := ((slA 7 DEdge.av) g.edges)) kr) (EntKs.cons (EntK.cr (x := ((slA 2 DPool.av) g.pools)) kr) (EntKs.cons (EntK.cr (x := ((slA 1 AV.s) g.defaults)) kr) EntKs.nil))))) (Ee (Ee EntE.nil))))⟩ keep0 <| Awp.scopeN <| Sq <| Sq <| Rg <| Aq (DGraph.av g) <| AOps.sc0 (vs := [(DGraph.av g)]) (r0 := (AV.i .i64 (m_ak g))) kr kr (w_graph_Check W hW g) kr le <| Aq (AV.b (!decide ((m_ak g) = (0 : Int)))) <| Ad ?_
 cases c_1 : (!decide ((m_ak g) = (0 : Int)))
 have k_1 := nde c_1
 have q_1 := check_len c_1
 refine Cf <| Awp.skip <| Sq <| Rg <| Nn (AV.loc 0 0 0) ⟨33, 1, [(AV.sl 1 true [])]⟩ <| Ad <| Sq <| Rg <| Aq (AV.pt ((DGraph.av g).cells.drop 0)) <| Aq ((slA 7 DEdge.av) g.edges) <| Ap (Ai g.edges.length) (g_len (k := 7) (nl := false) (e := 65) (A := DEdge.av) (xs := g.edges) kr kr) <| AOps.sn (x := (AV.own 1 0 g.edges.length)) (h' := ⟨2, [(1, some ⟨33, 1, (List.replicate g.edges.length ([] : List Int)).map (fun (_ : List Int) => AV.sl 1 true [])⟩), (0, some ⟨33, 1, [(AV.sl 1 true [])]⟩)]⟩) (g_make (e := 33) (i := tI_33) (A := (fun (_ : List Int) => AV.sl 1 true [])) (z := ([] : List Int)) (n := g.edges.length) kr kr kr kr ⟨by decide, by kernel_rfl⟩ kr (by show _ * 24 ≤ 140737488355328; first | omega | (simp only [List.length_append, List.length_cons, List.length_nil, List.length_set, List.length_replicate]; omega) | (simp; omega)) sd) le <| Aq (AV.own 1 0 g.edges.length) <| Ad <| Sq <| Sq <| Rg <| Aq (AV.own 1 0 g.edges.length) <| Aq (Ai g.edges.length) <| Aq (AV.i .i64 (0 : Int)) <| Ad <| Awp.block ?_
 have hB1 : g.edges.length ≤ 281474976710656 := by first | omega | (simp; done) | (simp; omega)
 obtain ⟨R1, hR1⟩ : ∃ R, m_bx g (List.replicate g.edges.length ([] : List Int)) 0 (List.replicate g.edges.length ([] : List Int)) = R := ⟨_, rfl⟩
 refine Awp.loopT (fun ((v20, row) : Nat × (List (List Int))) => [(1, (AV.pt (DGraph.av g).cells)), (4, (AV.loc 0 0 0)), (5, (AV.own 1 0 g.edges.length)), (19, (Ai g.edges.length)), (20, (Ai v20))]) (fun ((v20, row) : Nat × (List (List Int))) => ⟨2, [(0, some ⟨33, 1, [(AV.sl 1 true [])]⟩), (1, some ⟨33, 1, row.map (slA 1 (AV.i .i64))⟩)]⟩) (fun ((v20, row) : Nat × (List (List Int))) => v20 ≤ g.edges.length ∧ row.length = g.edges.length ∧ m_bx g ((List.replicate g.edges.length ([] : List Int)).drop v20) v20 row = R1) (fun ((v20, row) : Nat × (List (List Int))) => g.edges.length - v20) (0, (List.replicate g.edges.length ([] : List Int))) ?_ ?_ ?_
 exact ⟨[0, 1], ⟨by decide, rfl, (FitsObjs.cons kr (FitsObjs.consW (obj_nils rfl rfl) FitsObjs.nil)), (Ee (EntE.cons (Ent.f kr) (EntE.cons (Ent.f kr) (Ee (Ee EntE.nil)))))⟩, keep0⟩
 exact ⟨od, sdd, hR1⟩
 rintro ⟨v20, row⟩ ⟨hi1, hr, hE1⟩
 try dsimp only
 refine Sq <| Rg <| Aq (AV.b (decide (((v20 : Nat) : Int) < ((g.edges.length : Nat) : Int)))) <| Ad <| Sq ?_
 rcases Nat.lt_or_ge v20 g.edges.length with hl1 | hl1
 have hc1 : decide (((v20 : Nat) : Int) < ((g.edges.length : Nat) : Int)) = true := decide_eq_true (by omega)
 refine Awp.cond (t := true) (by rw [← hc1] <;> kernel_rfl) (Awp.skip ?_)
 obtain ⟨x1, hx1⟩ : ∃ x, (List.replicate g.edges.length ([] : List Int))[v20]? = some x := ⟨_, List.getElem?_eq_getElem (by first | (simpa using hl1) | omega)⟩
 rw [drop_at hx1, m_bx.eq_2] at hE1
 refine Sq <| Awp.block <| Sq <| Rg <| Aq (Ai v20) <| Aq (Ai v20) <| Ad <| Rg <| Aq (AV.own 1 0 g.edges.length) <| Aq (Ai v20) <| Aq (Ai v20) <| AOps.sc0 (vs := [(AV.pt (DGraph.av g).cells), (Ai v20)]) (r0 := ((slA 1 (AV.i .i64)) (m_am g ((v20 : Nat) : Int)))) kr kr (w_order_Needs W g ((v20 : Nat) : Int) ⟨by simp; omega, by omega⟩ (hz _)) kr le <| Ap (AV.loc 1 v20 0) (g_oidx (e := 33) (id := 1) (len := g.edges.length) (kk := .i64) (ob := ⟨33, 1, row.map (slA 1 (AV.i .i64))⟩) (i := v20) kr kr kr rfl kr sd) <| AOps.st (x := AV.und) (h' := ⟨2, [(0, some ⟨33, 1, [(AV.sl 1 true [])]⟩), (1, some ⟨33, 1, (row.set v20 (m_am g ((v20 : Nat) : Int))).map (slA 1 (AV.i .i64))⟩)]⟩) (g_set (e := 33) (k := 1) (i := tI_33) (id := 1) (A := (slA 1 (AV.i .i64))) (xs := row) (y := (m_am g ((v20 : Nat) : Int))) (j := v20) kr kr kr rfl sd (fun _ => rfl) kr (fun _ => rfl) (fun _ => rfl)) <| Ad <| Rg <| Ap (Ai (v20 + 1)) (g_addN (i := v20) (m := 1) kr kr sd) <| Aq (Ai (v20 + 1)) <| Ad ?_
 refine ⟨(v20 + 1, (row.set v20 (m_am g ((v20 : Nat) : Int)))), od, ⟨od, sdd, hE1⟩, ?_⟩
 exact ⟨[0, 1], ⟨by decide, rfl, (FitsObjs.cons kr (FitsObjs.cons (obj_row (fun _ => rfl) (e := 33) (k := 1) (A := (slA 1 (AV.i .i64))) (xs := (row.set v20 (m_am g ((v20 : Nat) : Int)))) rfl rfl) FitsObjs.nil)), (Ee (EntE.cons (Ent.f kr) (EntE.cons (Ent.f kr) (Ee (Ee EntE.nil)))))⟩, keep0⟩
 have hc1 : decide (((v20 : Nat) : Int) < ((g.edges.length : Nat) : Int)) = false := decide_eq_false (by omega)
 refine Awp.cond (t := false) (by rw [← hc1] <;> kernel_rfl) (Awp.exit ?_)
 rw [List.drop_eq_nil_of_le (by first | (simpa using hl1) | omega), m_bx.eq_1] at hE1
 subst hE1
 refine Sq <| Rg <| Aq (AV.fn 106 [(AV.loc 0 0 0)]) <| Nn (AV.loc 2 0 0) ⟨153, 1, [AV.nilf]⟩ <| Sp 2 ⟨153, 1, [(AV.fn 106 [(AV.loc 0 0 0)])]⟩ <| Ad <| Sq <| Rg <| Aq (AV.fn 108 [(AV.loc 2 0 0)]) <| Aq (AV.fn 108 [(AV.loc 2 0 0)]) <| Ad <| Sq <| Awp.label <| Sq <| Awp.block ?_
 obtain ⟨R2, hR2⟩ : ∃ R, m_b1 g row (g.edges.length - 0 + 1) [] = R := ⟨_, rfl⟩
 refine Awp.loopT (fun ((kf2, cell) : Nat × (List Int)) => [(4, (AV.loc 0 0 0)), (5, (AV.own 2 0 g.edges.length)), (7, (AV.loc 3 0 0)), (8, (AV.fn 108 [(AV.loc 3 0 0)]))]) (fun ((kf2, cell) : Nat × (List Int)) => ⟨4, [(1, accO 3 1 (AV.i .i64) cell), (0, some ⟨33, 1, [(accV 1 1 (AV.i .i64) cell)]⟩), (2, some ⟨33, 1, row.map (slA 1 (AV.i .i64))⟩), (3, some ⟨153, 1, [(AV.fn 106 [(AV.loc 0 0 0)])]⟩)]⟩) (fun ((kf2, cell) : Nat × (List Int)) => g.edges.length - cell.length < kf2 ∧ cell.length ≤ g.edges.length ∧ m_b1 g row kf2 cell = R2) (fun ((kf2, cell) : Nat × (List Int)) => kf2) (g.edges.length - 0 + 1, []) ?_ ?_ ?_
 exact ⟨[0, 1000001, 1, 2], ⟨by decide, rfl, (FitsObjs.cons rfl (FitsObjs.cons rfl (FitsObjs.cons (obj_row (fun _ => rfl) (e := 33) (k := 1) (A := (slA 1 (AV.i .i64))) (xs := row) rfl rfl) (FitsObjs.cons kr FitsObjs.nil)))), (EntE.cons (Ent.f kr) (EntE.cons (Ent.f kr) (EntE.cons (Ent.f kr) (EntE.cons (Ent.f kr) EntE.nil))))⟩, keep0⟩
 exact ⟨od, sdd, hR2⟩
 rintro ⟨kf2, cell⟩ ⟨hi2, hcl, hE2⟩
 try dsimp only
 rcases kf2 with _ | kf2
 exact absurd hi2 (Nat.not_lt_zero _)
 rw [m_b1.eq_2] at hE2
 refine Sq <| Sq <| Rg <| Ap (accV 1 1 (AV.i .i64) cell) (g_loadC (i := tI_33) (id := 0) (j := 0) (ob := ⟨33, 1, [(accV 1 1 (AV.i .i64) cell)]⟩) (x := (accV 1 1 (AV.i .i64) cell)) kr kr kr kr acc_cells rfl) <| Ap (Ai cell.length) (g_lenAcc (e := 3) (A := (AV.i .i64)) (xs := cell) (p := 1) (k := 1) kr kr (fun q => acc_some (e := 3) (k := 1) (A := (AV.i .i64)) q rfl)) <| Aq (AV.own 2 0 g.edges.length) <| Aq (Ai g.edges.length) <| Aq (AV.b (decide (((cell.length : Nat) : Int) < ((g.edges.length : Nat) : Int)))) <| Ad ?_
 cases c_2 : decide (((cell.length : Nat) : Int) < ((g.edges.length : Nat) : Int))
 have k_2 := of_decide_eq_false c_2
 refine Cf <| Awp.exit ?_
 try simp only [c_2, sbt] at hE2
 subst hE2
 refine Sq <| Rg <| Ap (accV 1 1 (AV.i .i64) cell) (g_loadC (i := tI_33) (id := 0) (j := 0) (ob := ⟨33, 1, [(accV 1 1 (AV.i .i64) cell)]⟩) (x := (accV 1 1 (AV.i .i64) cell)) kr kr kr kr acc_cells rfl) <| Aq (accV 1 1 (AV.i .i64) cell) <| Aq (AV.i .i64 (0 : Int)) <| Ad <| Rt ?_
 have hM : m_s g = (cell, (0 : Int)) := by simp only [m_s, c_1, hR1, hR2, sbt]
 refine ⟨Or.inr rfl, ?_⟩
 rw [hM]
 exact Ent.cast (x' := (AV.tup [(accV 1 1 (AV.i .i64) cell), (AV.i .i64 (0 : Int))])) (y' := (AV.tup [((slA 1 (AV.i .i64)) ((cell, (0 : Int)).1)), (AV.i .i64 ((cell, (0 : Int)).2))])) kr kr (Ent.tup ⟨(Ent.cast (x' := (accV 1 1 (AV.i .i64) cell)) (y' := slA 1 (AV.i .i64) cell) kr kr (ent_acc (fun _ => rfl) (by decide) (by decide) (e := 3) (k := 1) rfl sd)), ⟨Ec, trivial⟩⟩ kr)
 have k_2 := of_decide_eq_true c_2
 refine Ct <| Awp.skip <| Awp.block <| Sq <| Sq <| Rg <| Aq (AV.own 2 0 g.edges.length) <| Aq (Ai g.edges.length) <| Aq (AV.i .i64 (0 : Int)) <| Ad <| Awp.block ?_
 have hB3 : g.edges.length ≤ 281474976710656 := by first | omega | (simp; done) | (simp; omega)
 obtain ⟨R3, hR3⟩ : ∃ R, m_by row 0 cell = R := ⟨_, rfl⟩
 refine Awp.loopT (fun ((v38, cell2) : Nat × (List Int)) => [(4, (AV.loc 0 0 0)), (5, (AV.own 2 0 g.edges.length)), (7, (AV.loc 3 0 0)), (8, (AV.fn 108 [(AV.loc 3 0 0)])), (36, (AV.own 2 0 g.edges.length)), (37, (Ai g.edges.length)), (38, (Ai v38))]) (fun ((v38, cell2) : Nat × (List Int)) => ⟨4, [(1, accO 3 1 (AV.i .i64) cell2), (0, some ⟨33, 1, [(accV 1 1 (AV.i .i64) cell2)]⟩), (2, some ⟨33, 1, row.map (slA 1 (AV.i .i64))⟩), (3, some ⟨153, 1, [(AV.fn 106 [(AV.loc 0 0 0)])]⟩)]⟩) (fun ((v38, cell2) : Nat × (List Int)) => v38 ≤ g.edges.length ∧ cell2.length = cell.length ∧ m_by (row.drop v38) v38 cell2 = R3) (fun ((v38, cell2) : Nat × (List Int)) => g.edges.length - v38) (0, cell) ?_ ?_ ?_
 exact ⟨[0, 1, 2, 3], ⟨by decide, rfl, (FitsObjs.cons (boxAA (A := (AV.i .i64)) (e := 33) (k := 1) (ek := 1) (xs := cell) rfl (by decide) rfl) (FitsObjs.cons (obj_acc (fun _ => rfl) (e := 3) (k := 1) (A := (AV.i .i64)) (xs := cell) rfl rfl) (FitsObjs.cons (obj_row (fun _ => rfl) (e := 33) (k := 1) (A := (slA 1 (AV.i .i64))) (xs := row) rfl rfl) (FitsObjs.cons kr FitsObjs.nil)))), (EntE.cons (Ent.f kr) (EntE.cons (Ent.f kr) (EntE.cons (Ent.f kr) (EntE.cons (Ent.f kr) (EntE.cons (Ent.f kr) (Ee (Ee EntE.nil)))))))⟩, keep0⟩
 exact ⟨od, sdd, hR3⟩
 rintro ⟨v38, cell2⟩ ⟨hi3, hcm, hE3⟩
 try dsimp only
 refine Sq <| Rg <| Aq (AV.b (decide (((v38 : Nat) : Int) < ((g.edges.length : Nat) : Int)))) <| Ad <| Sq ?_
 rcases Nat.lt_or_ge v38 g.edges.length with hl3 | hl3
 have hc3 : decide (((v38 : Nat) : Int) < ((g.edges.length : Nat) : Int)) = true := decide_eq_true (by omega)
 refine Awp.cond (t := true) (by rw [← hc3] <;> kernel_rfl) (Awp.skip ?_)
 obtain ⟨x3, hx3⟩ : ∃ x, row[v38]? = some x := ⟨_, List.getElem?_eq_getElem (by first | (simpa using hl3) | omega)⟩
 rw [drop_at hx3, m_by.eq_2] at hE3
 refine Sq <| Awp.block <| Sq <| Rg <| Aq (Ai v38) <| Ap (AV.loc 2 v38 0) (g_oidx (e := 33) (id := 2) (len := g.edges.length) (kk := .i64) (ob := ⟨33, 1, row.map (slA 1 (AV.i .i64))⟩) (i := v38) kr kr kr rfl kr sd) <| Ap ((slA 1 (AV.i .i64)) x3) (g_oload (e := 33) (k := 1) (i := tI_33) (id := 2) (xs := row) (A := (slA 1 (AV.i .i64))) (j := v38) kr kr rfl hx3 kr) <| Aq (Ai v38) <| Aq ((slA 1 (AV.i .i64)) x3) <| Ad <| Sq <| Rg <| Aq (AV.fn 106 [(AV.loc 0 0 0)]) <| Aq (Ai v38) <| AOps.sfw (vs := [(Ai v38), (AV.loc 0 0 0)]) (ss := [(Ai v38), (AV.pt ((slA 1 (AV.i .i64)) cell2).cells)]) (r0 := (AV.b (m_ax ((v38 : Nat) : Int) cell2))) kr (show SnapW _ _ _ from ⟨(SnapW.e kr), ⟨(EntK.w (EntK.cast (x' := (AV.loc 0 0 0)) kr kr (EntK.loc1 (id := 0) (j := 0) (ob := ⟨33, 1, [(accV 1 1 (AV.i .i64) cell2)]⟩) (x := (accV 1 1 (AV.i .i64) cell2)) rfl rfl rfl acc_cells (EntK.acc (fun _ => rfl) (A := (AV.i .i64)) (e := 3) (k := 1) (id := 1) (xs := cell2) rfl rfl sd)))), trivial⟩⟩) (w_order_Of_1 W ((v38 : Nat) : Int) cell2) rfl kr le <| Aq (AV.b (!(m_ax ((v38 : Nat) : Int) cell2))) <| Aq (AV.b (!(m_ax ((v38 : Nat) : Int) cell2))) ?_
 cases c_3 : (!(m_ax ((v38 : Nat) : Int) cell2))
 refine An <| An <| An <| An <| Aq (AV.b false) <| Ad <| Cf <| Awp.skip <| Rg <| Ap (Ai (v38 + 1)) (g_addN (i := v38) (m := 1) kr kr sd) <| Aq (Ai (v38 + 1)) <| Ad ?_
 try simp only [c_3, sbt] at hE3
 refine ⟨(v38 + 1, cell2), od, ⟨od, sdd, hE3⟩, ?_⟩
 exact ⟨[0, 1, 2, 3], ⟨by decide, rfl, (FitsObjs.cons (boxAA (A := (AV.i .i64)) (e := 33) (k := 1) (ek := 1) (xs := cell2) rfl (by decide) rfl) (FitsObjs.cons (obj_acc (fun _ => rfl) (e := 3) (k := 1) (A := (AV.i .i64)) (xs := cell2) rfl rfl) (FitsObjs.cons (obj_row (fun _ => rfl) (e := 33) (k := 1) (A := (slA 1 (AV.i .i64))) (xs := row) rfl rfl) (FitsObjs.cons kr FitsObjs.nil)))), (EntE.cons (Ent.f kr) (EntE.cons (Ent.f kr) (EntE.cons (Ent.f kr) (EntE.cons (Ent.f kr) (EntE.cons (Ent.f kr) (Ee (Ee EntE.nil)))))))⟩, keep0⟩
 refine Ay <| Aq ((slA 1 (AV.i .i64)) x3) <| Ay <| Aq (AV.fn 108 [(AV.loc 3 0 0)]) <| Ay <| AOps.sfw (vs := [((slA 1 (AV.i .i64)) x3), (AV.fn 108 [(AV.loc 3 0 0)])]) (ss := [((slA 1 (AV.i .i64)) x3), (AV.fn 108 [(AV.pt [AV.fn 106 [(AV.pt ((slA 1 (AV.i .i64)) cell2).cells)]])])]) (r0 := (AV.b (m_0 x3 (fun z0 => m_bu z0 (fun z0 => m_ax z0 cell2))))) kr (show SnapW _ _ _ from ⟨(SnapW.e kr), ⟨(EntK.w (EntK.cast (x' := (AV.fn 108 [(AV.loc 3 0 0)])) kr kr (EntK.fn (EntKs.cons (EntK.loc1 (id := 3) (j := 0) (ob := ⟨153, 1, [(AV.fn 106 [(AV.loc 0 0 0)])]⟩) (x := (AV.fn 106 [(AV.loc 0 0 0)])) rfl rfl rfl rfl (EntK.fn (EntKs.cons (EntK.loc1 (id := 0) (j := 0) (ob := ⟨33, 1, [(accV 1 1 (AV.i .i64) cell2)]⟩) (x := (accV 1 1 (AV.i .i64) cell2)) rfl rfl rfl acc_cells (EntK.acc (fun _ => rfl) (A := (AV.i .i64)) (e := 3) (k := 1) (id := 1) (xs := cell2) rfl rfl sd)) EntKs.nil))) EntKs.nil)))), trivial⟩⟩) (w_slices_ContainsFunc_int_int W x3 108 [(AV.pt [AV.fn 106 [(AV.pt ((slA 1 (AV.i .i64)) cell2).cells)]])] (fun z0 => m_bu z0 (fun z0 => m_ax z0 cell2)) kr (fun z0 => (w_order_Of_2 W z0 106 [(AV.pt ((slA 1 (AV.i .i64)) cell2).cells)] (fun z0 => m_ax z0 cell2) kr (fun z0 => (w_order_Of_1 W z0 cell2))))) rfl kr le <| Ay <| Aq (AV.b (!(m_0 x3 (fun z0 => m_bu z0 (fun z0 => m_ax z0 cell2))))) <| Aq (AV.b (!(m_0 x3 (fun z0 => m_bu z0 (fun z0 => m_ax z0 cell2))))) ?_
 refine Ad ?_
 cases c_4 : (!(m_0 x3 (fun z0 => m_bu z0 (fun z0 => m_ax z0 cell2))))
 refine Cf <| Awp.skip <| Rg <| Ap (Ai (v38 + 1)) (g_addN (i := v38) (m := 1) kr kr sd) <| Aq (Ai (v38 + 1)) <| Ad ?_
 try simp only [c_3, c_4, sbt] at hE3
 refine ⟨(v38 + 1, cell2), od, ⟨od, sdd, hE3⟩, ?_⟩
 exact ⟨[0, 1, 2, 3], ⟨by decide, rfl, (FitsObjs.cons (boxAA (A := (AV.i .i64)) (e := 33) (k := 1) (ek := 1) (xs := cell2) rfl (by decide) rfl) (FitsObjs.cons (obj_acc (fun _ => rfl) (e := 3) (k := 1) (A := (AV.i .i64)) (xs := cell2) rfl rfl) (FitsObjs.cons (obj_row (fun _ => rfl) (e := 33) (k := 1) (A := (slA 1 (AV.i .i64))) (xs := row) rfl rfl) (FitsObjs.cons kr FitsObjs.nil)))), (EntE.cons (Ent.f kr) (EntE.cons (Ent.f kr) (EntE.cons (Ent.f kr) (EntE.cons (Ent.f kr) (EntE.cons (Ent.f kr) (Ee (Ee EntE.nil)))))))⟩, keep0⟩
 refine Ct <| Sq <| Rg <| Ap (accV 1 1 (AV.i .i64) cell2) (g_loadC (i := tI_33) (id := 0) (j := 0) (ob := ⟨33, 1, [(accV 1 1 (AV.i .i64) cell2)]⟩) (x := (accV 1 1 (AV.i .i64) cell2)) kr kr kr kr acc_cells rfl) <| Aq (Ai v38) <| Nn (AV.own 4 0 1) ⟨3, 1, [((v38 : Nat) : Int)].map (AV.i .i64)⟩ <| AOps.se (x := (AV.own 5 0 ((cell2 ++ [((v38 : Nat) : Int)]).length))) (h' := ⟨6, [(5, some ⟨3, 1, (cell2 ++ [((v38 : Nat) : Int)]).map (AV.i .i64)⟩), (4, some ⟨3, 1, [((v38 : Nat) : Int)].map (AV.i .i64)⟩), (1, none), (0, some ⟨33, 1, [(accV 1 1 (AV.i .i64) cell2)]⟩), (2, some ⟨33, 1, row.map (slA 1 (AV.i .i64))⟩), (3, some ⟨153, 1, [(AV.fn 106 [(AV.loc 0 0 0)])]⟩)]⟩) (g_app (e := 3) (X := (AV.own 4 0 1)) (A := (AV.i .i64)) (i := tI_3) (p := 1) (xs := cell2) (ys := [((v38 : Nat) : Int)]) kr kr kr (hx := kr) kr (by simp) ⟨by decide, by kernel_rfl⟩ rfl (by intro q; first | (subst q; rfl) | (rw [q]; rfl) | (simp only [q]; rfl)) (by show _ * 8 ≤ 140737488355328; first | omega | (simp only [List.length_append, List.length_cons, List.length_nil, List.length_set, List.length_replicate]; omega) | (simp; omega)) sd) le <| AOps.st (x := AV.und) (h' := ⟨6, [(5, some ⟨3, 1, (cell2 ++ [((v38 : Nat) : Int)]).map (AV.i .i64)⟩), (4, some ⟨3, 1, [((v38 : Nat) : Int)].map (AV.i .i64)⟩), (1, none), (0, some ⟨33, 1, [(AV.own 5 0 ((cell2 ++ [((v38 : Nat) : Int)]).length))]⟩), (2, some ⟨33, 1, row.map (slA 1 (AV.i .i64))⟩), (3, some ⟨153, 1, [(AV.fn 106 [(AV.loc 0 0 0)])]⟩)]⟩) (g_setC (i := tI_33) (id := 0) (j := 0) (e := 33) (k := 1) (els := [(accV 1 1 (AV.i .i64) cell2)]) (x := (accV 1 1 (AV.i .i64) cell2)) (y := (AV.own 5 0 ((cell2 ++ [((v38 : Nat) : Int)]).length))) kr kr kr kr kr Cell.acc rfl (by intro fs hh; cases hh) kr kr) ?_
 refine Ad <| Awp.exit ?_
 try simp only [c_3, c_4, sbt] at hE3
 subst hE3
 try simp only [c_2, hR3, sbt] at hE2
 refine ⟨(kf2, (cell2 ++ [((v38 : Nat) : Int)])), od, ⟨sdd, sdd, hE2⟩, ?_⟩
 exact ⟨[0, 5, 2, 3], ⟨by decide, rfl, (FitsObjs.cons (boxA (A := (AV.i .i64)) (e := 33) (k := 1) (ek := 1) (xs := (cell2 ++ [((v38 : Nat) : Int)])) (by simp) rfl (by decide) (by simp) rfl) (FitsObjs.cons (obj_acc' (fun _ => rfl) (e := 3) (k := 1) (A := (AV.i .i64)) (xs := (cell2 ++ [((v38 : Nat) : Int)])) (by simp) rfl rfl) (FitsObjs.cons (obj_row (fun _ => rfl) (e := 33) (k := 1) (A := (slA 1 (AV.i .i64))) (xs := row) rfl rfl) (FitsObjs.cons kr FitsObjs.nil)))), (EntE.cons (Ent.f kr) (EntE.cons (Ent.f kr) (EntE.cons (Ent.f kr) (EntE.cons (Ent.f kr) EntE.nil))))⟩, keep0⟩
 have hc3 : decide (((v38 : Nat) : Int) < ((g.edges.length : Nat) : Int)) = false := decide_eq_false (by omega)
 refine Awp.cond (t := false) (by rw [← hc3] <;> kernel_rfl) (Awp.exit ?_)
 rw [List.drop_eq_nil_of_le (by first | (simpa using hl3) | omega), m_by.eq_1] at hE3
 subst hE3
 refine Sq <| Rg <| Aq (AV.sl 1 true []) <| Aq (AV.i .i64 (1001 : Int)) <| Ad <| Rt ?_
 try simp only [c_2, hR3, sbt] at hE2
 subst hE2
 have hM : m_s g = (([] : List Int), (1001 : Int)) := by simp only [m_s, c_1, hR1, hR2, sbt]
 refine ⟨Or.inr rfl, ?_⟩
 rw [hM]
 exact Ent.cast (x' := (AV.tup [(AV.sl 1 true []), (AV.i .i64 (1001 : Int))])) (y' := (AV.tup [((slA 1 (AV.i .i64)) ((([] : List Int), (1001 : Int)).1)), (AV.i .i64 ((([] : List Int), (1001 : Int)).2))])) kr kr (Ent.tup ⟨(Ent.w rfl (WeakC.nil 1)), ⟨Ec, trivial⟩⟩ kr)
 have k_1 := ndt c_1
 refine Ct <| Sq <| Rg <| Aq (AV.sl 1 true []) <| Aq (AV.i .i64 (1000 : Int)) <| Ad <| Rt ?_
 have hM : m_s g = (([] : List Int), (1000 : Int)) := by simp only [m_s, c_1, sbt]
 refine ⟨Or.inr rfl, ?_⟩
 rw [hM]
 exact Ent.cast (x' := (AV.tup [(AV.sl 1 true []), (AV.i .i64 (1000 : Int))])) (y' := (AV.tup [((slA 1 (AV.i .i64)) ((([] : List Int), (1000 : Int)).1)), (AV.i .i64 ((([] : List Int), (1000 : Int)).2))])) kr kr (Ent.tup ⟨(Ent.w rfl (WeakC.nil 1)), ⟨Ec, trivial⟩⟩ kr)
theorem w_law0_Num (W : World) (e : Int) : PureAt Go.Proofs.Tryz.prog W 21 [(AV.i .i64 e)] (AV.i .i64 (m_3 e)) [] := by
 refine pure_of_bodyC (fn := Go.Proofs.Tryz.f21) Go.Proofs.Tryz.func21 rfl (en21 W) (ts := [2]) rfl le <| Sq <| Rg <| Aq (AV.i .i64 (0 : Int)) <| Ad <| Sq <| Rg <| Aq (AV.i .i64 e) <| Aq (AV.i .i64 e) <| Ad <| Rt ?_
 have hM : m_3 e = e := by simp only [m_3, sbt]
 refine ⟨Or.inr rfl, ?_⟩
 rw [hM]
 exact Ec
theorem w_command_odd (W : World) {m0 : Int} (hW : W.cell? ⟨0, 0, none⟩ = some (.int .i64 m0)) (a : DAction) : PureAt Go.Proofs.Tryz.prog W 121 [(DAction.av a)] (AV.b (m_bi a)) [] := by
 refine pure_of_bodyC (fn := Go.Proofs.Tryz.f121) Go.Proofs.Tryz.func121 rfl (en121 W) (ts := [2]) rfl le <| Sq <| Rg <| Nn (AV.loc 0 0 0) ⟨67, 3, [(DAction.av a)]⟩ <| Aq (AV.b false) <| Ad <| Sq <| Rg <| Aq (AV.loc 0 0 0) <| Aq (AV.s a.command) <| AOps.sc0 (vs := [(AV.s a.command)]) (r0 := (AV.b (m_ae a.command))) kr kr (w_graph_Command W a.command) kr le <| Aq (AV.b (!(m_ae a.command))) <| Aq (AV.b (!(m_ae a.command))) ?_
 cases c_1 : (!(m_ae a.command))
 refine Ay <| Aq (AV.loc 0 0 1) <| Ay <| Aq ((slA 1 AV.s) a.reads) <| Ay <| AOps.sc0 (vs := [((slA 1 AV.s) a.reads), (AV.i .i64 (8 : Int))]) (r0 := (AV.b (m_a1 a.reads (8 : Int)))) kr kr (w_path_All W hW a.reads (8 : Int)) kr le <| Ay <| Aq (AV.b (!(m_a1 a.reads (8 : Int)))) <| Aq (AV.b (!(m_a1 a.reads (8 : Int)))) <| Aq (AV.b (!(m_a1 a.reads (8 : Int)))) <| Ad <| Rt ?_
 have hM : m_bi a = (!(m_a1 a.reads (8 : Int))) := by simp only [m_bi, c_1, sbt]
 refine ⟨Or.inr rfl, ?_⟩
 rw [hM]
 exact Ec
 refine An <| An <| An <| An <| Aq (AV.b true) <| Aq (AV.b true) <| Ad <| Rt ?_
 have hM : m_bi a = true := by simp only [m_bi, c_1, sbt]
 refine ⟨Or.inr rfl, ?_⟩
 rw [hM]
 exact Ec
theorem w_slices_IndexFunc_api_Action_api_Action (W : World) (s' : List DAction) (f_f : FuncId) (c_f : List AV) (f : DAction → Bool) (hcl_f : closedL c_f = true) (hp_f : ∀ (z0 : DAction), PureAt Go.Proofs.Tryz.prog W f_f ((DAction.av z0) :: c_f) (AV.b (f z0)) []) : PureAt Go.Proofs.Tryz.prog W 161 [((slA 3 DAction.av) s'), (AV.fn f_f c_f)] (AV.i .i64 (m_p s' f)) [] := by
 refine pure_of_bodyC (fn := Go.Proofs.Tryz.f161) Go.Proofs.Tryz.func161 rfl (en161 W) (ts := [4]) rfl le <| Sq <| Rg <| Aq (AV.i .i64 (0 : Int)) <| Ad <| Sq <| Sq <| Rg <| Aq ((slA 3 DAction.av) s') <| Ap (Ai s'.length) (g_len (k := 3) (nl := false) (e := 67) (A := DAction.av) (xs := s') kr kr) <| Aq (AV.i .i64 (0 : Int)) <| Ad <| Awp.block <| Awp.lim 0 (x := ((slA 3 DAction.av) s')) kr fun hlm1 => ?_
 have hB1 : s'.length ≤ 281474976710656 := lim_slA hlm1
 obtain ⟨R1, hR1⟩ : ∃ R, m_y f s' 0 = R := ⟨_, rfl⟩
 refine Awp.loopT (fun (v8 : Nat) => [(0, ((slA 3 DAction.av) s')), (1, (AV.fn f_f c_f)), (7, (Ai s'.length)), (8, (Ai v8))]) (fun (v8 : Nat) => ⟨0, []⟩) (fun (v8 : Nat) => v8 ≤ s'.length ∧ m_y f (s'.drop v8) v8 = R1) (fun (v8 : Nat) => s'.length - v8) 0 ?_ ?_ ?_
 exact ⟨[], ⟨by decide, rfl, FitsObjs.nil, (Ee (EntE.cons (Ent.c kr hcl_f) (Ee (Ee EntE.nil))))⟩, keep0⟩
 exact ⟨od, hR1⟩
 rintro v8 ⟨hi1, hE1⟩
 try dsimp only
 refine Sq <| Rg <| Aq (AV.b (decide (((v8 : Nat) : Int) < ((s'.length : Nat) : Int)))) <| Ad <| Sq ?_
 rcases Nat.lt_or_ge v8 s'.length with hl1 | hl1
 have hc1 : decide (((v8 : Nat) : Int) < ((s'.length : Nat) : Int)) = true := decide_eq_true (by omega)
 refine Awp.cond (t := true) (by rw [← hc1] <;> kernel_rfl) (Awp.skip ?_)
 obtain ⟨x1, hx1⟩ : ∃ x, s'[v8]? = some x := ⟨_, List.getElem?_eq_getElem hl1⟩
 rw [drop_at hx1, m_y.eq_2] at hE1
 refine Sq <| Awp.block <| Sq <| Rg <| Aq (Ai v8) <| Aq (Ai v8) <| Ad <| Sq <| Rg <| Aq (AV.fn f_f c_f) <| Aq ((slA 3 DAction.av) s') <| Aq (Ai v8) <| Ap (AV.pt (DAction.av x1).cells) (g_idx (k := 3) (nl := false) (e := 67) (kk := .i64) (A := DAction.av) (xs := s') (i := v8) kr kr kr ⟨by kernel_rfl, by decide⟩ hx1) <| Aq (DAction.av x1) <| AOps.sc0 (vs := ((DAction.av x1) :: c_f)) (r0 := (AV.b (f x1))) kr (by simp only [closedL, Bool.and_eq_true]; exact ⟨by kernel_rfl, hcl_f⟩) (hp_f x1) kr le <| Ad ?_
 cases c_1 : (f x1)
 refine Cf <| Awp.skip <| Rg <| Ap (Ai (v8 + 1)) (g_addN (i := v8) (m := 1) kr kr sd) <| Aq (Ai (v8 + 1)) <| Ad ?_
 try simp only [c_1, sbt] at hE1
 refine ⟨v8 + 1, od, ⟨od, hE1⟩, ?_⟩
 exact ⟨[], ⟨by decide, rfl, FitsObjs.nil, (Ee (EntE.cons (Ent.c kr hcl_f) (Ee (Ee EntE.nil))))⟩, keep0⟩
 refine Ct <| Sq <| Rg <| Aq (Ai v8) <| Aq (Ai v8) <| Ad <| Rt ?_
 try simp only [c_1, sbt] at hE1
 subst hE1
 have hM : m_p s' f = ((v8 : Nat) : Int) := by simp only [m_p, hR1, sbt]
 refine ⟨Or.inr rfl, ?_⟩
 rw [hM]
 exact Ec
 have hc1 : decide (((v8 : Nat) : Int) < ((s'.length : Nat) : Int)) = false := decide_eq_false (by omega)
 refine Awp.cond (t := false) (by rw [← hc1] <;> kernel_rfl) (Awp.exit ?_)
 rw [List.drop_eq_nil_of_le (hl1), m_y.eq_1] at hE1
 subst hE1
 refine Sq <| Rg <| Aq (AV.i .i64 (-1 : Int)) <| Ad <| Rt ?_
 have hM : m_p s' f = (-1 : Int) := by simp only [m_p, hR1, sbt]
 refine ⟨Or.inr rfl, ?_⟩
 rw [hM]
 exact Ec
theorem w_slices_ContainsFunc_api_Action_api_Action (W : World) (s' : List DAction) (f_f : FuncId) (c_f : List AV) (f : DAction → Bool) (hcl_f : closedL c_f = true) (hp_f : ∀ (z0 : DAction), PureAt Go.Proofs.Tryz.prog W f_f ((DAction.av z0) :: c_f) (AV.b (f z0)) []) : PureAt Go.Proofs.Tryz.prog W 120 [((slA 3 DAction.av) s'), (AV.fn f_f c_f)] (AV.b (m_j s' f)) [] := by
 refine pure_of_bodyC (fn := Go.Proofs.Tryz.f120) Go.Proofs.Tryz.func120 rfl (en120 W) (ts := [4]) rfl le <| Sq <| Rg <| Aq (AV.b false) <| Ad <| Sq <| Rg <| Aq ((slA 3 DAction.av) s') <| Aq (AV.fn f_f c_f) <| AOps.sc0 (vs := [((slA 3 DAction.av) s'), (AV.fn f_f c_f)]) (r0 := (AV.i .i64 (m_p s' f))) kr (by simp only [closedL, Bool.and_eq_true]; exact ⟨by kernel_rfl, hcl_f, trivial⟩) (w_slices_IndexFunc_api_Action_api_Action W s' f_f c_f f hcl_f hp_f) kr le <| Aq (AV.b (decide ((0 : Int) ≤ (m_p s' f)))) <| Aq (AV.b (decide ((0 : Int) ≤ (m_p s' f)))) <| Ad <| Rt ?_
 have hM : m_j s' f = decide ((0 : Int) ≤ (m_p s' f)) := by simp only [m_j, sbt]
 refine ⟨Or.inr rfl, ?_⟩
 rw [hM]
 exact Ec
theorem w_command_May (W : World) {m0 : Int} (hW : W.cell? ⟨0, 0, none⟩ = some (.int .i64 m0)) (as' : List DAction) : PureAt Go.Proofs.Tryz.prog W 73 [((slA 3 DAction.av) as')] (AV.b (m_bs as')) [] := by
 refine pure_of_bodyC (fn := Go.Proofs.Tryz.f73) Go.Proofs.Tryz.func73 rfl (en73 W) (ts := [2]) rfl le <| Sq <| Rg <| Aq (AV.b false) <| Ad <| Sq <| Rg <| Aq ((slA 3 DAction.av) as') <| Ap (Ai as'.length) (g_len (k := 3) (nl := false) (e := 67) (A := DAction.av) (xs := as') kr kr) <| Aq (AV.b (decide (((as'.length : Nat) : Int) ≤ (16 : Int)))) <| Aq (AV.b (decide (((as'.length : Nat) : Int) ≤ (16 : Int)))) ?_
 cases c_1 : decide (((as'.length : Nat) : Int) ≤ (16 : Int))
 have k_1 := of_decide_eq_false c_1
 refine An <| An <| An <| Aq (AV.b false) <| Aq (AV.b false) <| Ad <| Rt ?_
 have hM : m_bs as' = false := by simp only [m_bs, c_1, sbt]
 refine ⟨Or.inr rfl, ?_⟩
 rw [hM]
 exact Ec
 have k_1 := of_decide_eq_true c_1
 refine Ay <| Aq ((slA 3 DAction.av) as') <| Ay <| AOps.sc0 (vs := [((slA 3 DAction.av) as'), (AV.fn 121 [])]) (r0 := (AV.b (m_j as' (fun z0 => m_bi z0)))) kr (by simp only [closedL, Bool.and_eq_true]; exact ⟨by kernel_rfl, kr, trivial⟩) (w_slices_ContainsFunc_api_Action_api_Action W as' 121 [] (fun z0 => m_bi z0) kr (fun z0 => (w_command_odd W hW z0))) kr le <| Ay <| Aq (AV.b (!(m_j as' (fun z0 => m_bi z0)))) <| Aq (AV.b (!(m_j as' (fun z0 => m_bi z0)))) <| Aq (AV.b (!(m_j as' (fun z0 => m_bi z0)))) <| Ad <| Rt ?_
 have hM : m_bs as' = (!(m_j as' (fun z0 => m_bi z0))) := by simp only [m_bs, c_1, sbt]
 refine ⟨Or.inr rfl, ?_⟩
 rw [hM]
 exact Ec
theorem w_logline_Time (W : World) (x' : Int) : PureAt Go.Proofs.Tryz.prog W 188 [(AV.i .i64 x')] (AV.b (m_a6 x')) [] := by
 refine pure_of_bodyC (fn := Go.Proofs.Tryz.f188) Go.Proofs.Tryz.func188 rfl (en188 W) (ts := [2]) rfl le <| Sq <| Rg <| Aq (AV.b false) <| Ad <| Sq <| Rg <| Aq (AV.i .i64 x') <| Aq (AV.b (decide ((1 : Int) ≤ x'))) <| Aq (AV.b (decide ((1 : Int) ≤ x'))) ?_
 cases c_1 : decide ((1 : Int) ≤ x')
 have k_1 := of_decide_eq_false c_1
 refine An <| An <| Aq (AV.b false) <| Aq (AV.b false) <| Ad <| Rt ?_
 have hM : m_a6 x' = false := by simp only [m_a6, c_1, sbt]
 refine ⟨Or.inr rfl, ?_⟩
 rw [hM]
 exact Ec
 have k_1 := of_decide_eq_true c_1
 refine Ay <| Aq (AV.i .i64 x') <| Ay <| Aq (AV.b (decide (x' ≤ (1048576 : Int)))) <| Aq (AV.b (decide (x' ≤ (1048576 : Int)))) <| Aq (AV.b (decide (x' ≤ (1048576 : Int)))) <| Ad <| Rt ?_
 have hM : m_a6 x' = decide (x' ≤ (1048576 : Int)) := by simp only [m_a6, c_1, sbt]
 refine ⟨Or.inr rfl, ?_⟩
 rw [hM]
 exact Ec
theorem w_logline_May (W : World) {m0 : Int} (hW : W.cell? ⟨0, 0, none⟩ = some (.int .i64 m0)) (r : DRecord) : PureAt Go.Proofs.Tryz.prog W 139 [(DRecord.av r)] (AV.b (m_az r)) [] := by
 refine pure_of_bodyC (fn := Go.Proofs.Tryz.f139) Go.Proofs.Tryz.func139 rfl (en139 W) (ts := [2]) rfl le <| Sq <| Rg <| Nn (AV.loc 0 0 0) ⟨56, 3, [(DRecord.av r)]⟩ <| Aq (AV.b false) <| Ad <| Sq <| Rg <| Aq (AV.loc 0 0 0) <| Aq (AV.s r.out) <| AOps.sc0 (vs := [(AV.s r.out)]) (r0 := (AV.b (m_6 r.out))) kr kr (w_path_Is W hW r.out) kr le <| Aq (AV.b (m_6 r.out)) ?_
 cases c_1 : (m_6 r.out)
 refine An <| An <| An <| Aq (AV.b false) <| Aq (AV.b false) <| An <| An <| An <| Aq (AV.b false) <| Aq (AV.b false) <| An <| An <| An <| Aq (AV.b false) <| Aq (AV.b false) <| Ad <| Rt ?_
 have hM : m_az r = false := by simp only [m_az, c_1, sbt]
 refine ⟨Or.inr rfl, ?_⟩
 rw [hM]
 exact Ec
 refine Ay <| Aq (AV.loc 0 0 1) <| Ay <| Aq (AV.i .i64 r.time) <| Ay <| AOps.sc0 (vs := [(AV.i .i64 r.time)]) (r0 := (AV.b (m_a6 r.time))) kr kr (w_logline_Time W r.time) kr le <| Aq (AV.b (m_a6 r.time)) <| Aq (AV.b (m_a6 r.time)) ?_
 cases c_2 : (m_a6 r.time)
 refine An <| An <| An <| Aq (AV.b false) <| Aq (AV.b false) <| An <| An <| An <| Aq (AV.b false) <| Aq (AV.b false) <| Ad <| Rt ?_
 have hM : m_az r = false := by simp only [m_az, c_1, c_2, sbt]
 refine ⟨Or.inr rfl, ?_⟩
 rw [hM]
 exact Ec
 refine Ay <| Aq (AV.loc 0 0 2) <| Ay <| Aq (AV.s r.sign) <| Ay <| Aq (AV.b (!decide (r.sign = (⟨#[]⟩ : ByteArray)))) <| Aq (AV.b (!decide (r.sign = (⟨#[]⟩ : ByteArray)))) <| Aq (AV.b (!decide (r.sign = (⟨#[]⟩ : ByteArray)))) ?_
 cases c_3 : (!decide (r.sign = (⟨#[]⟩ : ByteArray)))
 refine An <| An <| An <| Aq (AV.b false) <| Aq (AV.b false) <| Ad <| Rt ?_
 have hM : m_az r = false := by simp only [m_az, c_1, c_2, c_3, sbt]
 refine ⟨Or.inr rfl, ?_⟩
 rw [hM]
 exact Ec
 refine Ay <| Aq (AV.loc 0 0 2) <| Ay <| Aq (AV.s r.sign) <| Ay <| AOps.sc0 (vs := [(AV.s r.sign), (AV.i .i64 (2048 : Int))]) (r0 := (AV.b (m_a3 r.sign (2048 : Int)))) kr kr (w_name_Plain W r.sign (2048 : Int)) kr le <| Aq (AV.b (m_a3 r.sign (2048 : Int))) <| Aq (AV.b (m_a3 r.sign (2048 : Int))) <| Ad <| Rt ?_
 have hM : m_az r = (m_a3 r.sign (2048 : Int)) := by simp only [m_az, c_1, c_2, c_3, sbt]
 refine ⟨Or.inr rfl, ?_⟩
 rw [hM]
 exact Ec
theorem w_log_May_1 (W : World) {m0 : Int} (hW : W.cell? ⟨0, 0, none⟩ = some (.int .i64 m0)) (r : DRecord) : PureAt Go.Proofs.Tryz.prog W 138 [(DRecord.av r)] (AV.b (m_b9 r)) [] := by
 refine pure_of_bodyC (fn := Go.Proofs.Tryz.f138) Go.Proofs.Tryz.func138 rfl (en138 W) (ts := [2]) rfl le <| Sq <| Rg <| Nn (AV.loc 0 0 0) ⟨56, 3, [(DRecord.av r)]⟩ <| Aq (AV.b false) <| Ad <| Sq <| Rg <| Aq (DRecord.av r) <| AOps.sc0 (vs := [(DRecord.av r)]) (r0 := (AV.b (m_az r))) kr kr (w_logline_May W hW r) kr le <| Aq (AV.b (!(m_az r))) <| Aq (AV.b (!(m_az r))) <| Ad <| Rt ?_
 have hM : m_b9 r = (!(m_az r)) := by simp only [m_b9, sbt]
 refine ⟨Or.inr rfl, ?_⟩
 rw [hM]
 exact Ec
theorem w_slices_IndexFunc_api_Record_api_Record (W : World) (s' : List DRecord) (f_f : FuncId) (c_f : List AV) (f : DRecord → Bool) (hcl_f : closedL c_f = true) (hp_f : ∀ (z0 : DRecord), PureAt Go.Proofs.Tryz.prog W f_f ((DRecord.av z0) :: c_f) (AV.b (f z0)) []) : PureAt Go.Proofs.Tryz.prog W 190 [((slA 3 DRecord.av) s'), (AV.fn f_f c_f)] (AV.i .i64 (m_q s' f)) [] := by
 refine pure_of_bodyC (fn := Go.Proofs.Tryz.f190) Go.Proofs.Tryz.func190 rfl (en190 W) (ts := [4]) rfl le <| Sq <| Rg <| Aq (AV.i .i64 (0 : Int)) <| Ad <| Sq <| Sq <| Rg <| Aq ((slA 3 DRecord.av) s') <| Ap (Ai s'.length) (g_len (k := 3) (nl := false) (e := 56) (A := DRecord.av) (xs := s') kr kr) <| Aq (AV.i .i64 (0 : Int)) <| Ad <| Awp.block <| Awp.lim 0 (x := ((slA 3 DRecord.av) s')) kr fun hlm1 => ?_
 have hB1 : s'.length ≤ 281474976710656 := lim_slA hlm1
 obtain ⟨R1, hR1⟩ : ∃ R, m_z f s' 0 = R := ⟨_, rfl⟩
 refine Awp.loopT (fun (v8 : Nat) => [(0, ((slA 3 DRecord.av) s')), (1, (AV.fn f_f c_f)), (7, (Ai s'.length)), (8, (Ai v8))]) (fun (v8 : Nat) => ⟨0, []⟩) (fun (v8 : Nat) => v8 ≤ s'.length ∧ m_z f (s'.drop v8) v8 = R1) (fun (v8 : Nat) => s'.length - v8) 0 ?_ ?_ ?_
 exact ⟨[], ⟨by decide, rfl, FitsObjs.nil, (Ee (EntE.cons (Ent.c kr hcl_f) (Ee (Ee EntE.nil))))⟩, keep0⟩
 exact ⟨od, hR1⟩
 rintro v8 ⟨hi1, hE1⟩
 try dsimp only
 refine Sq <| Rg <| Aq (AV.b (decide (((v8 : Nat) : Int) < ((s'.length : Nat) : Int)))) <| Ad <| Sq ?_
 rcases Nat.lt_or_ge v8 s'.length with hl1 | hl1
 have hc1 : decide (((v8 : Nat) : Int) < ((s'.length : Nat) : Int)) = true := decide_eq_true (by omega)
 refine Awp.cond (t := true) (by rw [← hc1] <;> kernel_rfl) (Awp.skip ?_)
 obtain ⟨x1, hx1⟩ : ∃ x, s'[v8]? = some x := ⟨_, List.getElem?_eq_getElem hl1⟩
 rw [drop_at hx1, m_z.eq_2] at hE1
 refine Sq <| Awp.block <| Sq <| Rg <| Aq (Ai v8) <| Aq (Ai v8) <| Ad <| Sq <| Rg <| Aq (AV.fn f_f c_f) <| Aq ((slA 3 DRecord.av) s') <| Aq (Ai v8) <| Ap (AV.pt (DRecord.av x1).cells) (g_idx (k := 3) (nl := false) (e := 56) (kk := .i64) (A := DRecord.av) (xs := s') (i := v8) kr kr kr ⟨by kernel_rfl, by decide⟩ hx1) <| Aq (DRecord.av x1) <| AOps.sc0 (vs := ((DRecord.av x1) :: c_f)) (r0 := (AV.b (f x1))) kr (by simp only [closedL, Bool.and_eq_true]; exact ⟨by kernel_rfl, hcl_f⟩) (hp_f x1) kr le <| Ad ?_
 cases c_1 : (f x1)
 refine Cf <| Awp.skip <| Rg <| Ap (Ai (v8 + 1)) (g_addN (i := v8) (m := 1) kr kr sd) <| Aq (Ai (v8 + 1)) <| Ad ?_
 try simp only [c_1, sbt] at hE1
 refine ⟨v8 + 1, od, ⟨od, hE1⟩, ?_⟩
 exact ⟨[], ⟨by decide, rfl, FitsObjs.nil, (Ee (EntE.cons (Ent.c kr hcl_f) (Ee (Ee EntE.nil))))⟩, keep0⟩
 refine Ct <| Sq <| Rg <| Aq (Ai v8) <| Aq (Ai v8) <| Ad <| Rt ?_
 try simp only [c_1, sbt] at hE1
 subst hE1
 have hM : m_q s' f = ((v8 : Nat) : Int) := by simp only [m_q, hR1, sbt]
 refine ⟨Or.inr rfl, ?_⟩
 rw [hM]
 exact Ec
 have hc1 : decide (((v8 : Nat) : Int) < ((s'.length : Nat) : Int)) = false := decide_eq_false (by omega)
 refine Awp.cond (t := false) (by rw [← hc1] <;> kernel_rfl) (Awp.exit ?_)
 rw [List.drop_eq_nil_of_le (hl1), m_z.eq_1] at hE1
 subst hE1
 refine Sq <| Rg <| Aq (AV.i .i64 (-1 : Int)) <| Ad <| Rt ?_
 have hM : m_q s' f = (-1 : Int) := by simp only [m_q, hR1, sbt]
 refine ⟨Or.inr rfl, ?_⟩
 rw [hM]
 exact Ec
theorem w_slices_ContainsFunc_api_Record_api_Record (W : World) (s' : List DRecord) (f_f : FuncId) (c_f : List AV) (f : DRecord → Bool) (hcl_f : closedL c_f = true) (hp_f : ∀ (z0 : DRecord), PureAt Go.Proofs.Tryz.prog W f_f ((DRecord.av z0) :: c_f) (AV.b (f z0)) []) : PureAt Go.Proofs.Tryz.prog W 140 [((slA 3 DRecord.av) s'), (AV.fn f_f c_f)] (AV.b (m_k s' f)) [] := by
 refine pure_of_bodyC (fn := Go.Proofs.Tryz.f140) Go.Proofs.Tryz.func140 rfl (en140 W) (ts := [4]) rfl le <| Sq <| Rg <| Aq (AV.b false) <| Ad <| Sq <| Rg <| Aq ((slA 3 DRecord.av) s') <| Aq (AV.fn f_f c_f) <| AOps.sc0 (vs := [((slA 3 DRecord.av) s'), (AV.fn f_f c_f)]) (r0 := (AV.i .i64 (m_q s' f))) kr (by simp only [closedL, Bool.and_eq_true]; exact ⟨by kernel_rfl, hcl_f, trivial⟩) (w_slices_IndexFunc_api_Record_api_Record W s' f_f c_f f hcl_f hp_f) kr le <| Aq (AV.b (decide ((0 : Int) ≤ (m_q s' f)))) <| Aq (AV.b (decide ((0 : Int) ≤ (m_q s' f)))) <| Ad <| Rt ?_
 have hM : m_k s' f = decide ((0 : Int) ≤ (m_q s' f)) := by simp only [m_k, sbt]
 refine ⟨Or.inr rfl, ?_⟩
 rw [hM]
 exact Ec
theorem w_log_May (W : World) {m0 : Int} (hW : W.cell? ⟨0, 0, none⟩ = some (.int .i64 m0)) (rs : List DRecord) : PureAt Go.Proofs.Tryz.prog W 93 [((slA 3 DRecord.av) rs)] (AV.b (m_b6 rs)) [] := by
 refine pure_of_bodyC (fn := Go.Proofs.Tryz.f93) Go.Proofs.Tryz.func93 rfl (en93 W) (ts := [2]) rfl le <| Sq <| Rg <| Aq (AV.b false) <| Ad <| Sq <| Rg <| Aq (AV.fn 138 []) <| Ad <| Sq <| Rg <| Aq ((slA 3 DRecord.av) rs) <| Ap (Ai rs.length) (g_len (k := 3) (nl := false) (e := 56) (A := DRecord.av) (xs := rs) kr kr) <| Aq (AV.b (decide (((rs.length : Nat) : Int) ≤ (256 : Int)))) <| Aq (AV.b (decide (((rs.length : Nat) : Int) ≤ (256 : Int)))) ?_
 cases c_1 : decide (((rs.length : Nat) : Int) ≤ (256 : Int))
 have k_1 := of_decide_eq_false c_1
 refine An <| An <| An <| An <| Aq (AV.b false) <| Aq (AV.b false) <| Ad <| Rt ?_
 have hM : m_b6 rs = false := by simp only [m_b6, c_1, sbt]
 refine ⟨Or.inr rfl, ?_⟩
 rw [hM]
 exact Ec
 have k_1 := of_decide_eq_true c_1
 refine Ay <| Aq ((slA 3 DRecord.av) rs) <| Ay <| Aq (AV.fn 138 []) <| Ay <| AOps.sc0 (vs := [((slA 3 DRecord.av) rs), (AV.fn 138 [])]) (r0 := (AV.b (m_k rs (fun z0 => m_b9 z0)))) kr (by simp only [closedL, Bool.and_eq_true]; exact ⟨by kernel_rfl, kr, trivial⟩) (w_slices_ContainsFunc_api_Record_api_Record W rs 138 [] (fun z0 => m_b9 z0) kr (fun z0 => (w_log_May_1 W hW z0))) kr le <| Ay <| Aq (AV.b (!(m_k rs (fun z0 => m_b9 z0)))) <| Aq (AV.b (!(m_k rs (fun z0 => m_b9 z0)))) <| Aq (AV.b (!(m_k rs (fun z0 => m_b9 z0)))) <| Ad <| Rt ?_
 have hM : m_b6 rs = (!(m_k rs (fun z0 => m_b9 z0))) := by simp only [m_b6, c_1, sbt]
 refine ⟨Or.inr rfl, ?_⟩
 rw [hM]
 exact Ec
theorem w_deprec_May (W : World) {m0 : Int} (hW : W.cell? ⟨0, 0, none⟩ = some (.int .i64 m0)) (f : DFound) : PureAt Go.Proofs.Tryz.prog W 142 [(DFound.av f)] (AV.b (m_bg f)) [] := by
 refine pure_of_bodyC (fn := Go.Proofs.Tryz.f142) Go.Proofs.Tryz.func142 rfl (en142 W) (ts := [2]) rfl le <| Sq <| Rg <| Nn (AV.loc 0 0 0) ⟨61, 3, [(DFound.av f)]⟩ <| Aq (AV.b false) <| Ad <| Sq <| Rg <| Aq (AV.loc 0 0 0) <| Aq (AV.s f.out) <| AOps.sc0 (vs := [(AV.s f.out)]) (r0 := (AV.b (m_6 f.out))) kr kr (w_path_Is W hW f.out) kr le <| Aq (AV.b (m_6 f.out)) ?_
 cases c_1 : (m_6 f.out)
 refine An <| An <| An <| Aq (AV.b false) <| Aq (AV.b false) <| An <| An <| An <| Aq (AV.b false) <| Aq (AV.b false) <| Ad <| Rt ?_
 have hM : m_bg f = false := by simp only [m_bg, c_1, sbt]
 refine ⟨Or.inr rfl, ?_⟩
 rw [hM]
 exact Ec
 refine Ay <| Aq (AV.loc 0 0 1) <| Ay <| Aq (AV.i .i64 f.time) <| Ay <| AOps.sc0 (vs := [(AV.i .i64 f.time)]) (r0 := (AV.b (m_a6 f.time))) kr kr (w_logline_Time W f.time) kr le <| Aq (AV.b (m_a6 f.time)) <| Aq (AV.b (m_a6 f.time)) ?_
 cases c_2 : (m_a6 f.time)
 refine An <| An <| An <| Aq (AV.b false) <| Aq (AV.b false) <| Ad <| Rt ?_
 have hM : m_bg f = false := by simp only [m_bg, c_1, c_2, sbt]
 refine ⟨Or.inr rfl, ?_⟩
 rw [hM]
 exact Ec
 refine Ay <| Aq (AV.loc 0 0 2) <| Ay <| Aq ((slA 1 AV.s) f.ins) <| Ay <| AOps.sc0 (vs := [((slA 1 AV.s) f.ins), (AV.i .i64 (8 : Int))]) (r0 := (AV.b (m_a1 f.ins (8 : Int)))) kr kr (w_path_All W hW f.ins (8 : Int)) kr le <| Aq (AV.b (m_a1 f.ins (8 : Int))) <| Aq (AV.b (m_a1 f.ins (8 : Int))) <| Ad <| Rt ?_
 have hM : m_bg f = (m_a1 f.ins (8 : Int)) := by simp only [m_bg, c_1, c_2, sbt]
 refine ⟨Or.inr rfl, ?_⟩
 rw [hM]
 exact Ec
theorem w_deplog_May_1 (W : World) {m0 : Int} (hW : W.cell? ⟨0, 0, none⟩ = some (.int .i64 m0)) (f : DFound) : PureAt Go.Proofs.Tryz.prog W 141 [(DFound.av f)] (AV.b (m_bq f)) [] := by
 refine pure_of_bodyC (fn := Go.Proofs.Tryz.f141) Go.Proofs.Tryz.func141 rfl (en141 W) (ts := [2]) rfl le <| Sq <| Rg <| Nn (AV.loc 0 0 0) ⟨61, 3, [(DFound.av f)]⟩ <| Aq (AV.b false) <| Ad <| Sq <| Rg <| Aq (DFound.av f) <| AOps.sc0 (vs := [(DFound.av f)]) (r0 := (AV.b (m_bg f))) kr kr (w_deprec_May W hW f) kr le <| Aq (AV.b (!(m_bg f))) <| Aq (AV.b (!(m_bg f))) <| Ad <| Rt ?_
 have hM : m_bq f = (!(m_bg f)) := by simp only [m_bq, sbt]
 refine ⟨Or.inr rfl, ?_⟩
 rw [hM]
 exact Ec
theorem w_slices_IndexFunc_api_Found_api_Found (W : World) (s' : List DFound) (f_f : FuncId) (c_f : List AV) (f : DFound → Bool) (hcl_f : closedL c_f = true) (hp_f : ∀ (z0 : DFound), PureAt Go.Proofs.Tryz.prog W f_f ((DFound.av z0) :: c_f) (AV.b (f z0)) []) : PureAt Go.Proofs.Tryz.prog W 191 [((slA 3 DFound.av) s'), (AV.fn f_f c_f)] (AV.i .i64 (m_r s' f)) [] := by
 refine pure_of_bodyC (fn := Go.Proofs.Tryz.f191) Go.Proofs.Tryz.func191 rfl (en191 W) (ts := [4]) rfl le <| Sq <| Rg <| Aq (AV.i .i64 (0 : Int)) <| Ad <| Sq <| Sq <| Rg <| Aq ((slA 3 DFound.av) s') <| Ap (Ai s'.length) (g_len (k := 3) (nl := false) (e := 61) (A := DFound.av) (xs := s') kr kr) <| Aq (AV.i .i64 (0 : Int)) <| Ad <| Awp.block <| Awp.lim 0 (x := ((slA 3 DFound.av) s')) kr fun hlm1 => ?_
 have hB1 : s'.length ≤ 281474976710656 := lim_slA hlm1
 obtain ⟨R1, hR1⟩ : ∃ R, m_2 f s' 0 = R := ⟨_, rfl⟩
 refine Awp.loopT (fun (v8 : Nat) => [(0, ((slA 3 DFound.av) s')), (1, (AV.fn f_f c_f)), (7, (Ai s'.length)), (8, (Ai v8))]) (fun (v8 : Nat) => ⟨0, []⟩) (fun (v8 : Nat) => v8 ≤ s'.length ∧ m_2 f (s'.drop v8) v8 = R1) (fun (v8 : Nat) => s'.length - v8) 0 ?_ ?_ ?_
 exact ⟨[], ⟨by decide, rfl, FitsObjs.nil, (Ee (EntE.cons (Ent.c kr hcl_f) (Ee (Ee EntE.nil))))⟩, keep0⟩
 exact ⟨od, hR1⟩
 rintro v8 ⟨hi1, hE1⟩
 try dsimp only
 refine Sq <| Rg <| Aq (AV.b (decide (((v8 : Nat) : Int) < ((s'.length : Nat) : Int)))) <| Ad <| Sq ?_
 rcases Nat.lt_or_ge v8 s'.length with hl1 | hl1
 have hc1 : decide (((v8 : Nat) : Int) < ((s'.length : Nat) : Int)) = true := decide_eq_true (by omega)
 refine Awp.cond (t := true) (by rw [← hc1] <;> kernel_rfl) (Awp.skip ?_)
 obtain ⟨x1, hx1⟩ : ∃ x, s'[v8]? = some x := ⟨_, List.getElem?_eq_getElem hl1⟩
 rw [drop_at hx1, m_2.eq_2] at hE1
 refine Sq <| Awp.block <| Sq <| Rg <| Aq (Ai v8) <| Aq (Ai v8) <| Ad <| Sq <| Rg <| Aq (AV.fn f_f c_f) <| Aq ((slA 3 DFound.av) s') <| Aq (Ai v8) <| Ap (AV.pt (DFound.av x1).cells) (g_idx (k := 3) (nl := false) (e := 61) (kk := .i64) (A := DFound.av) (xs := s') (i := v8) kr kr kr ⟨by kernel_rfl, by decide⟩ hx1) <| Aq (DFound.av x1) <| AOps.sc0 (vs := ((DFound.av x1) :: c_f)) (r0 := (AV.b (f x1))) kr (by simp only [closedL, Bool.and_eq_true]; exact ⟨by kernel_rfl, hcl_f⟩) (hp_f x1) kr le <| Ad ?_
 cases c_1 : (f x1)
 refine Cf <| Awp.skip <| Rg <| Ap (Ai (v8 + 1)) (g_addN (i := v8) (m := 1) kr kr sd) <| Aq (Ai (v8 + 1)) <| Ad ?_
 try simp only [c_1, sbt] at hE1
 refine ⟨v8 + 1, od, ⟨od, hE1⟩, ?_⟩
 exact ⟨[], ⟨by decide, rfl, FitsObjs.nil, (Ee (EntE.cons (Ent.c kr hcl_f) (Ee (Ee EntE.nil))))⟩, keep0⟩
 refine Ct <| Sq <| Rg <| Aq (Ai v8) <| Aq (Ai v8) <| Ad <| Rt ?_
 try simp only [c_1, sbt] at hE1
 subst hE1
 have hM : m_r s' f = ((v8 : Nat) : Int) := by simp only [m_r, hR1, sbt]
 refine ⟨Or.inr rfl, ?_⟩
 rw [hM]
 exact Ec
 have hc1 : decide (((v8 : Nat) : Int) < ((s'.length : Nat) : Int)) = false := decide_eq_false (by omega)
 refine Awp.cond (t := false) (by rw [← hc1] <;> kernel_rfl) (Awp.exit ?_)
 rw [List.drop_eq_nil_of_le (hl1), m_2.eq_1] at hE1
 subst hE1
 refine Sq <| Rg <| Aq (AV.i .i64 (-1 : Int)) <| Ad <| Rt ?_
 have hM : m_r s' f = (-1 : Int) := by simp only [m_r, hR1, sbt]
 refine ⟨Or.inr rfl, ?_⟩
 rw [hM]
 exact Ec
theorem w_slices_ContainsFunc_api_Found_api_Found (W : World) (s' : List DFound) (f_f : FuncId) (c_f : List AV) (f : DFound → Bool) (hcl_f : closedL c_f = true) (hp_f : ∀ (z0 : DFound), PureAt Go.Proofs.Tryz.prog W f_f ((DFound.av z0) :: c_f) (AV.b (f z0)) []) : PureAt Go.Proofs.Tryz.prog W 143 [((slA 3 DFound.av) s'), (AV.fn f_f c_f)] (AV.b (m_n s' f)) [] := by
 refine pure_of_bodyC (fn := Go.Proofs.Tryz.f143) Go.Proofs.Tryz.func143 rfl (en143 W) (ts := [4]) rfl le <| Sq <| Rg <| Aq (AV.b false) <| Ad <| Sq <| Rg <| Aq ((slA 3 DFound.av) s') <| Aq (AV.fn f_f c_f) <| AOps.sc0 (vs := [((slA 3 DFound.av) s'), (AV.fn f_f c_f)]) (r0 := (AV.i .i64 (m_r s' f))) kr (by simp only [closedL, Bool.and_eq_true]; exact ⟨by kernel_rfl, hcl_f, trivial⟩) (w_slices_IndexFunc_api_Found_api_Found W s' f_f c_f f hcl_f hp_f) kr le <| Aq (AV.b (decide ((0 : Int) ≤ (m_r s' f)))) <| Aq (AV.b (decide ((0 : Int) ≤ (m_r s' f)))) <| Ad <| Rt ?_
 have hM : m_n s' f = decide ((0 : Int) ≤ (m_r s' f)) := by simp only [m_n, sbt]
 refine ⟨Or.inr rfl, ?_⟩
 rw [hM]
 exact Ec
theorem w_deplog_May (W : World) {m0 : Int} (hW : W.cell? ⟨0, 0, none⟩ = some (.int .i64 m0)) (fs : List DFound) : PureAt Go.Proofs.Tryz.prog W 94 [((slA 3 DFound.av) fs)] (AV.b (m_bf fs)) [] := by
 refine pure_of_bodyC (fn := Go.Proofs.Tryz.f94) Go.Proofs.Tryz.func94 rfl (en94 W) (ts := [2]) rfl le <| Sq <| Rg <| Aq (AV.b false) <| Ad <| Sq <| Rg <| Aq (AV.fn 141 []) <| Ad <| Sq <| Rg <| Aq ((slA 3 DFound.av) fs) <| Ap (Ai fs.length) (g_len (k := 3) (nl := false) (e := 61) (A := DFound.av) (xs := fs) kr kr) <| Aq (AV.b (decide (((fs.length : Nat) : Int) ≤ (256 : Int)))) <| Aq (AV.b (decide (((fs.length : Nat) : Int) ≤ (256 : Int)))) ?_
 cases c_1 : decide (((fs.length : Nat) : Int) ≤ (256 : Int))
 have k_1 := of_decide_eq_false c_1
 refine An <| An <| An <| An <| Aq (AV.b false) <| Aq (AV.b false) <| Ad <| Rt ?_
 have hM : m_bf fs = false := by simp only [m_bf, c_1, sbt]
 refine ⟨Or.inr rfl, ?_⟩
 rw [hM]
 exact Ec
 have k_1 := of_decide_eq_true c_1
 refine Ay <| Aq ((slA 3 DFound.av) fs) <| Ay <| Aq (AV.fn 141 []) <| Ay <| AOps.sc0 (vs := [((slA 3 DFound.av) fs), (AV.fn 141 [])]) (r0 := (AV.b (m_n fs (fun z0 => m_bq z0)))) kr (by simp only [closedL, Bool.and_eq_true]; exact ⟨by kernel_rfl, kr, trivial⟩) (w_slices_ContainsFunc_api_Found_api_Found W fs 141 [] (fun z0 => m_bq z0) kr (fun z0 => (w_deplog_May_1 W hW z0))) kr le <| Ay <| Aq (AV.b (!(m_n fs (fun z0 => m_bq z0)))) <| Aq (AV.b (!(m_n fs (fun z0 => m_bq z0)))) <| Aq (AV.b (!(m_n fs (fun z0 => m_bq z0)))) <| Ad <| Rt ?_
 have hM : m_bf fs = (!(m_n fs (fun z0 => m_bq z0))) := by simp only [m_bf, c_1, sbt]
 refine ⟨Or.inr rfl, ?_⟩
 rw [hM]
 exact Ec
theorem w_disk_content (W : World) (x' : Int) : PureAt Go.Proofs.Tryz.prog W 123 [(AV.i .i64 x')] (AV.b (m_bl x')) [] := by
 refine pure_of_bodyC (fn := Go.Proofs.Tryz.f123) Go.Proofs.Tryz.func123 rfl (en123 W) (ts := [2]) rfl le <| Sq <| Rg <| Aq (AV.b false) <| Ad <| Sq <| Rg <| Aq (AV.i .i64 x') <| Aq (AV.b (decide ((0 : Int) ≤ x'))) <| Aq (AV.b (decide ((0 : Int) ≤ x'))) ?_
 cases c_1 : decide ((0 : Int) ≤ x')
 have k_1 := of_decide_eq_false c_1
 refine An <| An <| Aq (AV.b false) <| Aq (AV.b false) <| Ad <| Rt ?_
 have hM : m_bl x' = false := by simp only [m_bl, c_1, sbt]
 refine ⟨Or.inr rfl, ?_⟩
 rw [hM]
 exact Ec
 have k_1 := of_decide_eq_true c_1
 refine Ay <| Aq (AV.i .i64 x') <| Ay <| Aq (AV.b (decide (x' ≤ (2147483647 : Int)))) <| Aq (AV.b (decide (x' ≤ (2147483647 : Int)))) <| Aq (AV.b (decide (x' ≤ (2147483647 : Int)))) <| Ad <| Rt ?_
 have hM : m_bl x' = decide (x' ≤ (2147483647 : Int)) := by simp only [m_bl, c_1, sbt]
 refine ⟨Or.inr rfl, ?_⟩
 rw [hM]
 exact Ec
theorem w_disk_May (W : World) {m0 : Int} (hW : W.cell? ⟨0, 0, none⟩ = some (.int .i64 m0)) (d : DDisk) : PureAt Go.Proofs.Tryz.prog W 74 [DDisk.av d] (.b (dmayS m_6 d)) [] where
 enters := en74 W
 calls := fun w Y vs hG hY hvs => by
    refine calls_of_wp Go.Proofs.Tryz.func74 rfl ?_
    have F0 := CF.start (P := Go.Proofs.Tryz.prog) (n := 77) hG hY rfl hvs (by simp)
    refine wp_seq (wp_mono (F0.run (Q := fun e env => e = .normal ∧ env = [(1, (AV.pt (DDisk.av d).cells))]) ?_) ?_)
    · refine Rg ?_
      refine Nn (AV.loc 0 0 0) ⟨30, 2, [(DDisk.av d)]⟩ <| Aq (AV.b false) <| Ad ?_
      exact ⟨[], [(1, (AV.pt (DDisk.av d).cells))], ⟨0, []⟩, ⟨by decide, rfl, FitsObjs.nil, (EntE.cons (EntD.kk (x' := (AV.loc 0 0 0)) kr kr rfl (EntK.loc (id := 0) (j := 0) (o := 0) (ob := ⟨30, 2, [(DDisk.av d)]⟩) (x := (DDisk.av d)) rfl rfl rfl (EntKs.cons (EntK.cr (x := (AV.i .i64 d.clock)) kr) (EntKs.cons (EntK.cr (x := ((slA 3 DFile.av) d.files)) kr) EntKs.nil)))) EntE.nil)⟩, rfl, rfl, ⟨rfl, rfl⟩⟩
    rintro e a1 w1 ⟨env1, ⟨rfl, rfl⟩, F1, hb1⟩
    have hr0 : w.heap.size ≤ w1.heap.size := hb1.size
    have hrW : W.heap.size ≤ w1.heap.size := Nat.le_trans hG.size hr0
    refine wp_seq (wp_region ?_)
    show wpOps _ _ _ [0, 1] _ _
    refine wpOps_one rfl rfl (v := .map (some w1.heap.size)) (w' := w1.alloc (.map #[] 0)) rfl ?_
    have F2 := (F1.made (.map #[] 0)).put (t := 6) (x := .raw (.map (some w1.heap.size))) (v := .map (some w1.heap.size)) (by decide) (by simp only [CR])
    refine wpOps_one rfl rfl (v := (a1.put (some 6) (.map (some w1.heap.size))).eval (.tmp 6)) (w' := w1.alloc (.map #[] 0)) rfl ?_
    have F3 := F2.put (t := 3) (by decide) (F2.env 6)
    have hr3 : (w1.alloc (.map #[] 0)).heap[w1.heap.size]? = some (.map #[] 0) := heap_push_new _ _
    obtain ⟨r, hrr⟩ : ∃ r, w1.heap.size = r := ⟨_, rfl⟩
    rw [hrr] at hr0 hrW hr3 F3
    simp only [hrr]
    refine wp_seq (wp_seq (wp_mono (F3.run (Q := fun e env => e = .normal ∧ env = [(1, (AV.pt (DDisk.av d).cells)), (3, (AV.raw (Value.map (some r)))), (8, ((slA 3 DFile.av) d.files)), (9, (Ai d.files.length)), (10, (AV.i .i64 (0 : Int)))]) ?_) ?_))
    · refine Rg ?_
      refine Aq (AV.pt ((DDisk.av d).cells.drop 1)) <| Aq ((slA 3 DFile.av) d.files) <| Ap (Ai d.files.length) (g_len (k := 3) (nl := false) (e := 85) (A := DFile.av) (xs := d.files) kr kr) <| Aq (AV.i .i64 (0 : Int)) <| Ad ?_
      exact ⟨[], [(1, (AV.pt (DDisk.av d).cells)), (3, (AV.raw (Value.map (some r)))), (8, ((slA 3 DFile.av) d.files)), (9, (Ai d.files.length)), (10, (AV.i .i64 (0 : Int)))], ⟨0, []⟩, ⟨by decide, rfl, FitsObjs.nil, (Ee (Ee (Ee (Ee (Ee EntE.nil)))))⟩, rfl, rfl, ⟨rfl, rfl⟩⟩
    rintro e a2 w2 ⟨env2, ⟨rfl, rfl⟩, F4, hb2⟩
    have hr4 := Below.blk hb2 hr3
    have hB : d.files.length ≤ 281474976710656 := F4.len (t := 8) rfl
    obtain ⟨R, hR0⟩ : ∃ R, dmayL m_6 d.clock d.files [] none = R := ⟨_, rfl⟩
    refine wp_block <| wp_loop_k (fun k a w' => ∃ (i : Nat) (es : Array MapEntry) (clock : Nat), k = d.files.length - i ∧ i ≤ d.files.length ∧ CF 77 W w Y [(1, (AV.pt (DDisk.av d).cells)), (3, (AV.raw (Value.map (some r)))), (8, ((slA 3 DFile.av) d.files)), (9, (Ai d.files.length)), (10, (Ai i))] a w' ∧ w'.heap[r]? = some (.map es clock) ∧ EsOk es ((d.files.take i).map DFile.time) ∧ dmayL m_6 d.clock (d.files.drop i) ((d.files.take i).map DFile.time) (d.files.take i).getLast? = R) (k0 := d.files.length) ⟨0, #[], 0, rfl, Nat.zero_le _, F4, hr4, EsOk.nil, hR0⟩ ?_
    rintro k a3 w3 ⟨i, es, clock, hk, hi, F5, hr5, hes, hR⟩
    refine wp_seq (wp_mono (F5.run (Q := fun e env => e = .normal ∧ env = [(1, (AV.pt (DDisk.av d).cells)), (3, (AV.raw (Value.map (some r)))), (8, ((slA 3 DFile.av) d.files)), (9, (Ai d.files.length)), (10, (Ai i)), (11, (AV.b (decide (((i : Nat) : Int) < ((d.files.length : Nat) : Int)))))]) ?_) ?_)
    · refine Rg ?_
      refine Aq (AV.b (decide (((i : Nat) : Int) < ((d.files.length : Nat) : Int)))) <| Ad ?_
      exact ⟨[], [(1, (AV.pt (DDisk.av d).cells)), (3, (AV.raw (Value.map (some r)))), (8, ((slA 3 DFile.av) d.files)), (9, (Ai d.files.length)), (10, (Ai i)), (11, (AV.b (decide (((i : Nat) : Int) < ((d.files.length : Nat) : Int)))))], ⟨0, []⟩, ⟨by decide, rfl, FitsObjs.nil, (Ee (Ee (Ee (Ee (Ee (Ee EntE.nil))))))⟩, rfl, rfl, ⟨rfl, rfl⟩⟩
    rintro e a4 w4 ⟨env4, ⟨rfl, rfl⟩, F6, hb4⟩
    have hr6 := Below.blk hb4 hr5
    refine wp_seq ?_
    rcases Nat.lt_or_ge i d.files.length with hl | hl
    · refine wp_cond (t := true) ((F6.bool (t := 11) rfl).trans (congrArg Value.bool (decide_eq_true (by omega)))) (wp_skip ?_)
      obtain ⟨x, hx⟩ : ∃ x, d.files[i]? = some x := ⟨_, List.getElem?_eq_getElem hl⟩
      have hst := dmay_step (d := d) hx
      obtain ⟨ts, hts⟩ : ∃ ts, (d.files.take i).map DFile.time = ts := ⟨_, rfl⟩
      rw [hts] at hes hR hst
      refine wp_seq (wp_block (wp_seq (wp_mono (F6.run (Q := fun e env => e = .normal ∧ env = [(1, (AV.pt (DDisk.av d).cells)), (3, (AV.raw (Value.map (some r)))), (4, (Ai i)), (5, (AV.pt (DFile.av x).cells)), (8, ((slA 3 DFile.av) d.files)), (9, (Ai d.files.length)), (10, (Ai i))]) ?_) ?_)))
      · refine Rg ?_
        refine Aq (Ai i) <| Ap (AV.pt (DFile.av x).cells) (g_idx (k := 3) (nl := false) (e := 85) (kk := .i64) (A := DFile.av) (xs := d.files) (i := i) kr kr kr ⟨by kernel_rfl, by decide⟩ hx) <| Aq (DFile.av x) <| Nn (AV.loc 0 0 0) ⟨85, 3, [(AV.st [(AV.s (⟨#[]⟩ : ByteArray)), (AV.i .i64 (0 : Int)), (AV.i .i64 (0 : Int))])]⟩ <| Aq (Ai i) <| Sp 0 ⟨85, 3, [(AV.st [(AV.s x.name), (AV.i .i64 x.content), (AV.i .i64 x.time)])]⟩ <| Ad ?_
        exact ⟨[], [(1, (AV.pt (DDisk.av d).cells)), (3, (AV.raw (Value.map (some r)))), (4, (Ai i)), (5, (AV.pt (DFile.av x).cells)), (8, ((slA 3 DFile.av) d.files)), (9, (Ai d.files.length)), (10, (Ai i))], ⟨0, []⟩, ⟨by decide, rfl, FitsObjs.nil, (Ee (Ee (Ee (EntE.cons (EntD.kk (x' := (AV.loc 0 0 0)) kr kr rfl (EntK.loc (id := 0) (j := 0) (o := 0) (ob := ⟨85, 3, [(AV.st [(AV.s x.name), (AV.i .i64 x.content), (AV.i .i64 x.time)])]⟩) (x := (AV.st [(AV.s x.name), (AV.i .i64 x.content), (AV.i .i64 x.time)])) rfl rfl rfl (EntKs.cons (EntK.cr (x := (AV.s x.name)) kr) (EntKs.cons (EntK.cr (x := (AV.i .i64 x.content)) kr) (EntKs.cons (EntK.cr (x := (AV.i .i64 x.time)) kr) EntKs.nil))))) (Ee (Ee (Ee EntE.nil)))))))⟩, rfl, rfl, ⟨rfl, rfl⟩⟩
      rintro e a5 w5 ⟨env5, ⟨rfl, rfl⟩, F7, hb5⟩
      have hr := Below.blk hb5 hr6
      have hWw5 := F7.glob.cell hW
      refine wp_seq (wp_mono (F7.run (Q := fun e env => (e = .ret ∧ env = [(2, (AV.b false))] ∧ diskC d ts x i = false) ∨ (e = .normal ∧ env = [(1, (AV.pt (DDisk.av d).cells)), (3, (AV.raw (Value.map (some r)))), (5, (AV.pt (DFile.av x).cells)), (8, ((slA 3 DFile.av) d.files)), (9, (Ai d.files.length)), (10, (Ai i))] ∧ diskC d ts x i = true)) ?_) ?_)
      · refine Sq ?_
        refine Awp.drawn tabS_ok mixed 41 kr le <| Dq (AV.pt ((DFile.av x).cells.drop 0)) <| Dq (AV.s x.name) <| AOpsD.sc0 (vs := [(AV.s x.name)]) (r0 := (AV.b (m_6 x.name))) kr kr (w_path_Is w5 hWw5 x.name) kr le <| Dq (AV.b (!(m_6 x.name))) <| Dq (AV.b (!(m_6 x.name))) ?_
        cases c_1 : (!(m_6 x.name))
        refine Dy <| Dq (AV.pt ((DFile.av x).cells.drop 1)) <| Dy <| Dq (AV.i .i64 x.content) <| Dy <| AOpsD.sc0 (vs := [(AV.i .i64 x.content)]) (r0 := (AV.b (m_bl x.content))) kr kr (w_disk_content w5 x.content) kr le <| Dy <| Dq (AV.b (!(m_bl x.content))) <| Dq (AV.b (!(m_bl x.content))) <| Dq (AV.b (!(m_bl x.content))) ?_
        cases c_2 : (!(m_bl x.content))
        refine Dy <| Dq (AV.pt ((DFile.av x).cells.drop 2)) <| Dy <| Dq (AV.i .i64 x.time) <| Dy <| Dq (AV.b (decide (x.time < (1 : Int)))) <| Dq (AV.b (decide (x.time < (1 : Int)))) <| Dq (AV.b (decide (x.time < (1 : Int)))) ?_
        cases c_3 : decide (x.time < (1 : Int))
        have k_3 := of_decide_eq_false c_3
        refine Dy <| Dq (AV.pt ((DFile.av x).cells.drop 2)) <| Dy <| Dq (AV.i .i64 x.time) <| Dy <| Dq (AV.pt ((DDisk.av d).cells.drop 0)) <| Dy <| Dq (AV.i .i64 d.clock) <| Dy <| Dq (AV.b (decide (d.clock < x.time))) <| Dq (AV.b (decide (d.clock < x.time))) <| Dq (AV.b (decide (d.clock < x.time))) ?_
        cases c_4 : decide (d.clock < x.time)
        have k_4 := of_decide_eq_false c_4
        refine Dy <| Dq (AV.raw (Value.map (some r))) <| Dy <| Dq (AV.pt ((DFile.av x).cells.drop 2)) <| Dy <| Dq (AV.i .i64 x.time) <| Dy <| AOpsD.sg (x := (AV.b (ts.any (fun t => decide (t = x.time))))) (lookup_ok (vt := 4) Go.Proofs.Tryz.underlying166 Go.Proofs.Tryz.underlying3 (fun _ => by kernel_rfl) hr hes rfl rfl) le <| Dq (AV.b (ts.any (fun t => decide (t = x.time)))) <| Dq (AV.b (ts.any (fun t => decide (t = x.time)))) ?_
        cases c_5 : (ts.any (fun t => decide (t = x.time)))
        refine Dy <| Dq (Ai i) <| Dy <| Dq (AV.b (decide ((0 : Int) < ((i : Nat) : Int)))) <| Dy <| Dq (AV.b (decide ((0 : Int) < ((i : Nat) : Int)))) ?_
        cases c_6 : decide ((0 : Int) < ((i : Nat) : Int))
        have k_6 := of_decide_eq_false c_6
        refine Dn <| Dn <| Dn <| Dn <| Dn <| Dn <| Dn <| Dn <| Dn <| Dn <| Dy <| Dq (AV.b false) <| Dq (AV.b false) <| AOpsD.fin <| Cf <| Awp.skip ?_
        have hM : diskC d ts x i = true := by simp only [diskC, c_1, c_2, c_3, c_4, c_5, c_6, sbt]
        exact ⟨[], [(1, (AV.pt (DDisk.av d).cells)), (3, (AV.raw (Value.map (some r)))), (5, (AV.pt (DFile.av x).cells)), (8, ((slA 3 DFile.av) d.files)), (9, (Ai d.files.length)), (10, (Ai i))], ⟨0, []⟩, ⟨by decide, rfl, FitsObjs.nil, (Ee (Ee (Ee (Ee (Ee (Ee EntE.nil))))))⟩, rfl, rfl, Or.inr ⟨rfl, rfl, hM⟩⟩
        have k_6 := of_decide_eq_true c_6
        refine Dy <| Dq (AV.pt ((DDisk.av d).cells.drop 1)) <| Dy <| Dq ((slA 3 DFile.av) d.files) <| Dy <| Dq (Ai i) <| Dy <| Dp (AV.i .i64 ((i - 1 : Nat) : Int)) (g_subN (i := i) (m := 1) kr kr sd sd) <| Dy <| Dp (AV.pt (DFile.av (d.files.getD (i - 1) default)).cells) (g_idx (k := 3) (nl := false) (e := 85) (kk := .i64) (A := DFile.av) (xs := d.files) (i := i - 1) kr kr kr ⟨by kernel_rfl, by decide⟩ (getD_some sd)) <| Dy <| Dq (AV.pt ((DFile.av (d.files.getD (i - 1) default)).cells.drop 0)) <| Dy <| Dq (AV.s ((d.files.getD (i - 1) default).name)) <| Dy <| Dq (AV.pt ((DFile.av x).cells.drop 0)) <| Dy <| Dq (AV.s x.name) <| Dy <| Dq (AV.b (!Op.bytesLess ((d.files.getD (i - 1) default).name).toList x.name.toList)) <| Dy <| Dq (AV.b (!Op.bytesLess ((d.files.getD (i - 1) default).name).toList x.name.toList)) <| Dq (AV.b (!Op.bytesLess ((d.files.getD (i - 1) default).name).toList x.name.toList)) <| AOpsD.fin ?_
        cases c_7 : (!Op.bytesLess ((d.files.getD (i - 1) default).name).toList x.name.toList)
        refine Cf <| Awp.skip ?_
        have hM : diskC d ts x i = true := by simp only [diskC, c_1, c_2, c_3, c_4, c_5, c_6, c_7, sbt]
        exact ⟨[], [(1, (AV.pt (DDisk.av d).cells)), (3, (AV.raw (Value.map (some r)))), (5, (AV.pt (DFile.av x).cells)), (8, ((slA 3 DFile.av) d.files)), (9, (Ai d.files.length)), (10, (Ai i))], ⟨0, []⟩, ⟨by decide, rfl, FitsObjs.nil, (Ee (Ee (Ee (Ee (Ee (Ee EntE.nil))))))⟩, rfl, rfl, Or.inr ⟨rfl, rfl, hM⟩⟩
        refine Ct <| Sq <| Rg <| Aq (AV.b false) <| Ad <| Rt ?_
        have hM : diskC d ts x i = false := by simp only [diskC, c_1, c_2, c_3, c_4, c_5, c_6, c_7, sbt]
        exact ⟨[], [(2, (AV.b false))], ⟨0, []⟩, ⟨by decide, rfl, FitsObjs.nil, (Ee EntE.nil)⟩, rfl, rfl, Or.inl ⟨rfl, rfl, hM⟩⟩
        refine Dn <| Dn <| Dn <| Dn <| Dn <| Dn <| Dn <| Dn <| Dn <| Dn <| Dn <| Dn <| Dn <| Dn <| Dq (AV.b true) <| AOpsD.fin <| Ct <| Sq <| Rg <| Aq (AV.b false) <| Ad <| Rt ?_
        have hM : diskC d ts x i = false := by simp only [diskC, c_1, c_2, c_3, c_4, c_5, sbt]
        exact ⟨[], [(2, (AV.b false))], ⟨0, []⟩, ⟨by decide, rfl, FitsObjs.nil, (Ee EntE.nil)⟩, rfl, rfl, Or.inl ⟨rfl, rfl, hM⟩⟩
        have k_4 := of_decide_eq_true c_4
        refine Dn <| Dn <| Dn <| Dn <| Dq (AV.b true) <| Dq (AV.b true) <| Dn <| Dn <| Dn <| Dn <| Dn <| Dn <| Dn <| Dn <| Dn <| Dn <| Dn <| Dn <| Dn <| Dn <| Dq (AV.b true) <| AOpsD.fin <| Ct <| Sq <| Rg <| Aq (AV.b false) <| Ad <| Rt ?_
        have hM : diskC d ts x i = false := by simp only [diskC, c_1, c_2, c_3, c_4, sbt]
        exact ⟨[], [(2, (AV.b false))], ⟨0, []⟩, ⟨by decide, rfl, FitsObjs.nil, (Ee EntE.nil)⟩, rfl, rfl, Or.inl ⟨rfl, rfl, hM⟩⟩
        have k_3 := of_decide_eq_true c_3
        refine Dn <| Dn <| Dn <| Dn <| Dn <| Dq (AV.b true) <| Dq (AV.b true) <| Dn <| Dn <| Dn <| Dn <| Dq (AV.b true) <| Dq (AV.b true) <| Dn <| Dn <| Dn <| Dn <| Dn <| Dn <| Dn <| Dn <| Dn <| Dn <| Dn <| Dn <| Dn <| Dn <| Dq (AV.b true) <| AOpsD.fin <| Ct <| Sq <| Rg <| Aq (AV.b false) <| Ad <| Rt ?_
        have hM : diskC d ts x i = false := by simp only [diskC, c_1, c_2, c_3, sbt]
        exact ⟨[], [(2, (AV.b false))], ⟨0, []⟩, ⟨by decide, rfl, FitsObjs.nil, (Ee EntE.nil)⟩, rfl, rfl, Or.inl ⟨rfl, rfl, hM⟩⟩
        refine Dn <| Dn <| Dn <| Dq (AV.b true) <| Dq (AV.b true) <| Dn <| Dn <| Dn <| Dn <| Dn <| Dq (AV.b true) <| Dq (AV.b true) <| Dn <| Dn <| Dn <| Dn <| Dq (AV.b true) <| Dq (AV.b true) <| Dn <| Dn <| Dn <| Dn <| Dn <| Dn <| Dn <| Dn <| Dn <| Dn <| Dn <| Dn <| Dn <| Dn <| Dq (AV.b true) <| AOpsD.fin <| Ct <| Sq <| Rg <| Aq (AV.b false) <| Ad <| Rt ?_
        have hM : diskC d ts x i = false := by simp only [diskC, c_1, c_2, sbt]
        exact ⟨[], [(2, (AV.b false))], ⟨0, []⟩, ⟨by decide, rfl, FitsObjs.nil, (Ee EntE.nil)⟩, rfl, rfl, Or.inl ⟨rfl, rfl, hM⟩⟩
        refine Dn <| Dn <| Dn <| Dn <| Dq (AV.b true) <| Dq (AV.b true) <| Dn <| Dn <| Dn <| Dq (AV.b true) <| Dq (AV.b true) <| Dn <| Dn <| Dn <| Dn <| Dn <| Dq (AV.b true) <| Dq (AV.b true) <| Dn <| Dn <| Dn <| Dn <| Dq (AV.b true) <| Dq (AV.b true) <| Dn <| Dn <| Dn <| Dn <| Dn <| Dn <| Dn <| Dn <| Dn <| Dn <| Dn <| Dn <| Dn <| Dn <| Dq (AV.b true) <| AOpsD.fin <| Ct <| Sq <| Rg <| Aq (AV.b false) <| Ad <| Rt ?_
        have hM : diskC d ts x i = false := by simp only [diskC, c_1, sbt]
        exact ⟨[], [(2, (AV.b false))], ⟨0, []⟩, ⟨by decide, rfl, FitsObjs.nil, (Ee EntE.nil)⟩, rfl, rfl, Or.inl ⟨rfl, rfl, hM⟩⟩
      rintro e a6 w6 ⟨env6, hq, F8, hb6⟩
      rcases hq with ⟨rfl, rfl, hC⟩ | ⟨rfl, rfl, hC⟩
      · show a6.defers = [] ∧ ∃ v, _
        have hD : dmayS m_6 d = false := by
          unfold dmayS
          rw [hR0, ← hR, hst, hC]; rfl
        rw [hD]
        exact F8.done (t := 2) rfl rfl rfl
      · have hr8 := Below.blk hb6 hr
        rw [hC, Bool.true_and] at hst
        refine wp_region ?_
        show wpOps _ _ _ (List.range 3 ++ [3]) _ _
        refine region_first tabS_ok 3 [3] (by decide) (R := fun env h => CQ (fun e env => e = .normal ∧ env = [(1, (AV.pt (DDisk.av d).cells)), (3, (AV.raw (Value.map (some r)))), (8, ((slA 3 DFile.av) d.files)), (9, (Ai d.files.length)), (10, (Ai i)), (59, (AV.raw (Value.map (some r)))), (61, (AV.i .i64 x.time))]) .normal env h) ?_ rfl F8.rel ?_
        · refine Aq (AV.raw (Value.map (some r))) ?_
          refine Aq (AV.pt ((DFile.av x).cells.drop 2)) <| Aq (AV.i .i64 x.time) <| Ad ?_
          exact ⟨[], [(1, (AV.pt (DDisk.av d).cells)), (3, (AV.raw (Value.map (some r)))), (8, ((slA 3 DFile.av) d.files)), (9, (Ai d.files.length)), (10, (Ai i)), (59, (AV.raw (Value.map (some r)))), (61, (AV.i .i64 x.time))], ⟨0, []⟩, ⟨by decide, rfl, FitsObjs.nil, (Ee (Ee (Ee (Ee (Ee (Ee (Ee EntE.nil)))))))⟩, rfl, rfl, ⟨rfl, rfl⟩⟩
        rintro env' h' μ' a7 w7 ⟨keep, env7, h7, hf, hn, hc, _, rfl⟩ R7
        obtain ⟨F9, hb7⟩ := F8.of_rel hn hc (rel_finW R7 hf (fun i hi => by simp at hi))
        have hr9 := Below.blk hb7 hr8
        have hnk : ts.any (fun t => decide (t = x.time)) = false := diskC_any hC
        refine wpOps_unit rfl rfl (w' := { w7 with heap := w7.heap.setIfInBounds r (.map (es.push ⟨.int .i64 x.time, .bool true, clock⟩) (clock + 1)) }) ?_ ?_
        · unfold execOp
          refine run_uu ?_
          rw [F9.raw (t := 59) rfl, F9.int (t := 61) rfl]
          exact run_mapUpdate_new Go.Proofs.Tryz.underlying166 Go.Proofs.Tryz.underlying3 hr9 hes hnk
        obtain ⟨F10, hr10⟩ := F9.turn (es' := es.push ⟨.int .i64 x.time, .bool true, clock⟩) (c' := clock + 1) hr9 hr0 hrW
        refine wp_mono (F10.run (Q := fun e env => e = .normal ∧ env = [(1, (AV.pt (DDisk.av d).cells)), (3, (AV.raw (Value.map (some r)))), (8, ((slA 3 DFile.av) d.files)), (9, (Ai d.files.length)), (10, (Ai (i + 1)))]) ?_) ?_
        · refine Rg ?_
          refine Ap (Ai (i + 1)) (g_addN (i := i) (m := 1) kr kr sd) <| Aq (Ai (i + 1)) <| Ad ?_
          exact ⟨[], [(1, (AV.pt (DDisk.av d).cells)), (3, (AV.raw (Value.map (some r)))), (8, ((slA 3 DFile.av) d.files)), (9, (Ai d.files.length)), (10, (Ai (i + 1)))], ⟨0, []⟩, ⟨by decide, rfl, FitsObjs.nil, (Ee (Ee (Ee (Ee (Ee EntE.nil)))))⟩, rfl, rfl, ⟨rfl, rfl⟩⟩
        rintro e a8 w8 ⟨env8, ⟨rfl, rfl⟩, F11, hb8⟩
        refine ⟨d.files.length - (i + 1), by omega, i + 1, _, _, rfl, by omega, F11, Below.blk hb8 hr10, ?_, by rw [← hst]; exact hR⟩
        have := hes.push x.time clock
        rw [← hts] at this
        rw [take_snoc hx, List.map_append]
        exact this
    · refine wp_cond (t := false) ((F6.bool (t := 11) rfl).trans (congrArg Value.bool (decide_eq_false (by omega)))) (wp_exit ?_)
      show (Code.seq _ _).wp _ _ _ _
      have hD : dmayS m_6 d = diskF d := by
        have e : R = true := by rw [← hR, List.drop_eq_nil_of_le hl]; rfl
        unfold dmayS
        rw [hR0, e]
        exact diskF_eq d
      rw [hD]
      refine wp_seq (wp_mono (F6.run (Q := fun e env => e = .normal ∧ env = [(2, (AV.b (diskF d)))]) ?_) ?_)
      · refine Rg ?_
        refine Aq (AV.pt ((DDisk.av d).cells.drop 0)) <| Aq (AV.i .i64 d.clock) <| Aq (AV.b (decide ((0 : Int) ≤ d.clock))) <| Aq (AV.b (decide ((0 : Int) ≤ d.clock))) ?_
        cases c_1 : decide ((0 : Int) ≤ d.clock)
        have k_1 := of_decide_eq_false c_1
        refine An <| An <| An <| Aq (AV.b false) <| Aq (AV.b false) <| An <| An <| An <| An <| Aq (AV.b false) <| Aq (AV.b false) <| Ad ?_
        have hM : diskF d = false := by simp only [diskF, c_1, sbt]
        rw [hM]
        exact ⟨[], [(2, (AV.b false))], ⟨0, []⟩, ⟨by decide, rfl, FitsObjs.nil, (Ee EntE.nil)⟩, rfl, rfl, ⟨rfl, rfl⟩⟩
        have k_1 := of_decide_eq_true c_1
        refine Ay <| Aq (AV.pt ((DDisk.av d).cells.drop 0)) <| Ay <| Aq (AV.i .i64 d.clock) <| Ay <| Aq (AV.b (decide (d.clock ≤ (1048576 : Int)))) <| Aq (AV.b (decide (d.clock ≤ (1048576 : Int)))) <| Aq (AV.b (decide (d.clock ≤ (1048576 : Int)))) ?_
        cases c_2 : decide (d.clock ≤ (1048576 : Int))
        have k_2 := of_decide_eq_false c_2
        refine An <| An <| An <| An <| Aq (AV.b false) <| Aq (AV.b false) <| Ad ?_
        have hM : diskF d = false := by simp only [diskF, c_1, c_2, sbt]
        rw [hM]
        exact ⟨[], [(2, (AV.b false))], ⟨0, []⟩, ⟨by decide, rfl, FitsObjs.nil, (Ee EntE.nil)⟩, rfl, rfl, ⟨rfl, rfl⟩⟩
        have k_2 := of_decide_eq_true c_2
        refine Ay <| Aq (AV.pt ((DDisk.av d).cells.drop 1)) <| Ay <| Aq ((slA 3 DFile.av) d.files) <| Ay <| Ap (Ai d.files.length) (g_len (k := 3) (nl := false) (e := 85) (A := DFile.av) (xs := d.files) kr kr) <| Ay <| Aq (AV.b (decide (((d.files.length : Nat) : Int) ≤ (64 : Int)))) <| Aq (AV.b (decide (((d.files.length : Nat) : Int) ≤ (64 : Int)))) <| Aq (AV.b (decide (((d.files.length : Nat) : Int) ≤ (64 : Int)))) <| Ad ?_
        have hM : diskF d = decide (((d.files.length : Nat) : Int) ≤ (64 : Int)) := by simp only [diskF, c_1, c_2, sbt]
        rw [hM]
        exact ⟨[], [(2, (AV.b (decide (((d.files.length : Nat) : Int) ≤ (64 : Int)))))], ⟨0, []⟩, ⟨by decide, rfl, FitsObjs.nil, (Ee EntE.nil)⟩, rfl, rfl, ⟨rfl, rfl⟩⟩
      rintro e a9 w9 ⟨env9, ⟨rfl, rfl⟩, F12, hb9⟩
      refine wp_ret ?_
      show a9.defers = [] ∧ ∃ v, _
      exact F12.done (t := 2) rfl rfl rfl
theorem w_dirty_May (W : World) {m0 : Int} (hW : W.cell? ⟨0, 0, none⟩ = some (.int .i64 m0)) (s' : DState) (hz : s'.sz ≤ 1048576) : PureAt Go.Proofs.Tryz.prog W 53 [(AV.pt (DState.av s').cells)] (AV.b (m_aa s')) [] := by
 have hzg := s'.sz_graph
 refine pure_of_bodyC (fn := Go.Proofs.Tryz.f53) Go.Proofs.Tryz.func53 rfl (en53 W) (ts := [2]) rfl le <| Sq <| Rg <| Aq (AV.b false) <| Ad <| Sq <| Rg <| Aq (AV.pt (DState.av s').cells) <| Aq (AV.pt (DState.av s').cells) <| Aq (AV.pt ((DState.av s').cells.drop 0)) <| Aq (DGraph.av s'.graph) <| AOps.sc0 (vs := [(DGraph.av s'.graph)]) (r0 := (AV.tup [((slA 1 (AV.i .i64)) ((m_s s'.graph).1)), (AV.i .i64 ((m_s s'.graph).2))])) kr kr (w_order_Of W hW s'.graph sd) kr le <| Aq (AV.tup [((slA 1 (AV.i .i64)) ((m_s s'.graph).1)), (AV.i .i64 ((m_s s'.graph).2))]) <| Aq ((slA 1 (AV.i .i64)) ((m_s s'.graph).1)) <| Aq (AV.i .i64 ((m_s s'.graph).2)) <| Aq ((slA 1 (AV.i .i64)) ((m_s s'.graph).1)) <| Aq (AV.i .i64 ((m_s s'.graph).2)) <| Ad <| Sq <| Rg <| Aq (AV.i .i64 ((m_s s'.graph).2)) <| Aq (AV.b (decide ((m_s s'.graph).2 = (0 : Int)))) <| Aq (AV.b (decide ((m_s s'.graph).2 = (0 : Int)))) ?_
 cases c_1 : decide ((m_s s'.graph).2 = (0 : Int))
 have k_1 := of_decide_eq_false c_1
 refine An <| An <| An <| An <| An <| Aq (AV.b false) <| Aq (AV.b false) <| An <| An <| An <| An <| An <| Aq (AV.b false) <| Aq (AV.b false) <| An <| An <| An <| An <| An <| Aq (AV.b false) <| Aq (AV.b false) <| An <| An <| An <| An <| An <| Aq (AV.b false) <| Aq (AV.b false) <| Ad <| Rt ?_
 have hM : m_aa s' = false := by simp only [m_aa, c_1, sbt]
 refine ⟨Or.inr rfl, ?_⟩
 rw [hM]
 exact Ec
 have k_1 := of_decide_eq_true c_1
 refine Ay <| Aq (AV.pt (DState.av s').cells) <| Ay <| Aq (AV.pt (DState.av s').cells) <| Ay <| Aq (AV.pt ((DState.av s').cells.drop 3)) <| Ay <| Aq ((slA 3 DAction.av) s'.actions) <| Ay <| AOps.sc0 (vs := [((slA 3 DAction.av) s'.actions)]) (r0 := (AV.b (m_bs s'.actions))) kr kr (w_command_May W hW s'.actions) kr le <| Aq (AV.b (m_bs s'.actions)) <| Aq (AV.b (m_bs s'.actions)) ?_
 cases c_2 : (m_bs s'.actions)
 refine An <| An <| An <| An <| An <| Aq (AV.b false) <| Aq (AV.b false) <| An <| An <| An <| An <| An <| Aq (AV.b false) <| Aq (AV.b false) <| An <| An <| An <| An <| An <| Aq (AV.b false) <| Aq (AV.b false) <| Ad <| Rt ?_
 have hM : m_aa s' = false := by simp only [m_aa, c_1, c_2, sbt]
 refine ⟨Or.inr rfl, ?_⟩
 rw [hM]
 exact Ec
 refine Ay <| Aq (AV.pt (DState.av s').cells) <| Ay <| Aq (AV.pt (DState.av s').cells) <| Ay <| Aq (AV.pt ((DState.av s').cells.drop 4)) <| Ay <| Aq (DDisk.av s'.disk) <| Ay <| AOps.sc0 (vs := [(DDisk.av s'.disk)]) (r0 := (AV.b (dmayS m_6 s'.disk))) kr kr (w_disk_May W hW s'.disk) kr le <| Aq (AV.b (dmayS m_6 s'.disk)) <| Aq (AV.b (dmayS m_6 s'.disk)) ?_
 cases c_3 : (dmayS m_6 s'.disk)
 refine An <| An <| An <| An <| An <| Aq (AV.b false) <| Aq (AV.b false) <| An <| An <| An <| An <| An <| Aq (AV.b false) <| Aq (AV.b false) <| Ad <| Rt ?_
 have hM : m_aa s' = false := by simp only [m_aa, c_1, c_2, c_3, sbt]
 refine ⟨Or.inr rfl, ?_⟩
 rw [hM]
 exact Ec
 refine Ay <| Aq (AV.pt (DState.av s').cells) <| Ay <| Aq (AV.pt (DState.av s').cells) <| Ay <| Aq (AV.pt ((DState.av s').cells.drop 6)) <| Ay <| Aq ((slA 3 DRecord.av) s'.log) <| Ay <| AOps.sc0 (vs := [((slA 3 DRecord.av) s'.log)]) (r0 := (AV.b (m_b6 s'.log))) kr kr (w_log_May W hW s'.log) kr le <| Aq (AV.b (m_b6 s'.log)) <| Aq (AV.b (m_b6 s'.log)) ?_
 cases c_4 : (m_b6 s'.log)
 refine An <| An <| An <| An <| An <| Aq (AV.b false) <| Aq (AV.b false) <| Ad <| Rt ?_
 have hM : m_aa s' = false := by simp only [m_aa, c_1, c_2, c_3, c_4, sbt]
 refine ⟨Or.inr rfl, ?_⟩
 rw [hM]
 exact Ec
 refine Ay <| Aq (AV.pt (DState.av s').cells) <| Ay <| Aq (AV.pt (DState.av s').cells) <| Ay <| Aq (AV.pt ((DState.av s').cells.drop 7)) <| Ay <| Aq ((slA 3 DFound.av) s'.deps) <| Ay <| AOps.sc0 (vs := [((slA 3 DFound.av) s'.deps)]) (r0 := (AV.b (m_bf s'.deps))) kr kr (w_deplog_May W hW s'.deps) kr le <| Aq (AV.b (m_bf s'.deps)) <| Aq (AV.b (m_bf s'.deps)) <| Ad <| Rt ?_
 have hM : m_aa s' = (m_bf s'.deps) := by simp only [m_aa, c_1, c_2, c_3, c_4, sbt]
 refine ⟨Or.inr rfl, ?_⟩
 rw [hM]
 exact Ec
end
end Go.Lift
