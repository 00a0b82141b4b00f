/-
  Lemmas of this claim: a layer over the kit's calls, contracts of the functions that the law reaches, and the law's row. No condition of its own.
-/
import Derived.Test.YtjfhbchfhpgefaaGreatDoorLaDirtyOwn
import Derived.Scope
import Derived.Laws.AppendOwn
import Derived.Lib.Split
import Derived.Shelf.GgClosure.StringsIndexFuncTop
import Derived.Laws.RangeAny
import Derived.Lib.Join
import Derived.Lib.SlicesS
import Derived.Sort.Row
import Derived.Sort.Grow
import Derived.Sort.EncStr
import Derived.Lib.SlicesCompact
import Derived.WalkKit
import Derived.ChangeSame
import Derived.RowKit3
import Derived.Carry
import Derived.OpenShut
import Derived.Deep.DeepHandedRow
import Derived.Shelf.Vars
import Derived.ChangeArms
import Derived.ChangeMaps5
import Derived.WideShapes
import Derived.MapKept
import Derived.RangeFuncNested
import Derived.RangeFuncLeaves
import Derived.RangeFuncCalls
namespace Go.Lift
noncomputable section
open Go Go.RowKit
set_option linter.unusedSimpArgs false
set_option linter.unusedVariables false
set_option linter.unusedSectionVars false
def posOf : List Nat → Nat → Option Nat
  | [], _ => none
  | i :: r, id => if id = i then some 0 else (posOf r id).map (· + 1)
theorem posOf_get : ∀ {keep : List Nat} {id p : Nat}, posOf keep id = some p → keep[p]? = some id
  | [], _, _, h => by simp [posOf] at h
  | i :: r, id, p, h => by
    simp only [posOf] at h
    split at h
    · rename_i e; cases h; simp [e]
    · obtain ⟨q, hq, rfl⟩ := Option.map_eq_some_iff.1 h
      simpa using posOf_get hq
def finV (keep : List Nat) (h : Store) : Nat → AV → Option AV
  | 0, x => if closed x then some x else none
  | d + 1, .own id off len => match posOf keep id with
    | some p => some (.own p off len)
    | none => snapC keep h (d + 1) (.own id off len)
  | d + 1, .loc id j o => match posOf keep id with
    | some p => some (.loc p j o)
    | none => snapC keep h (d + 1) (.loc id j o)
  | d + 1, .st fs => (mapC (finV keep h d) fs).map .st
  | d + 1, .tup fs => (mapC (finV keep h d) fs).map .tup
  | d + 1, .fn f fs => (mapC (finV keep h d) fs).map (.fn f)
  | _ + 1, x => some x
def finO (keep : List Nat) (h : Store) (d : Nat) (o : Obj) : Option Obj := (mapC (finV keep h d) o.els).map fun ys => ⟨o.e, o.k, ys⟩
def Mu.fin (μ : Mu) (keep : List Nat) : Mu := ⟨fun p => (keep[p]?).bind μ.f, μ.Y⟩
theorem fin_keeps (μ : Mu) (keep : List Nat) : Keeps μ (μ.fin keep) keep := by
  rintro g (hy | ⟨p, s, hs, rfl⟩)
  · exact Or.inl hy
  · dsimp only [Mu.fin] at hs
    obtain ⟨id, h1, h2⟩ := Option.bind_eq_some_iff.1 hs
    exact Or.inr ⟨id, List.mem_of_getElem? h1, s, h2, rfl⟩
section
variable {w0 w : World} {μ : Mu} {h : Store} (s : Sim w0 μ w h) (keep : List Nat)
include s
theorem mapC_fin {f : AV → Option AV} (hf : ∀ x y v, f x = some y → VR w μ x v → VR w (μ.fin keep) y v) {xs ys : List AV} (h : mapC f xs = some ys) {vs : List Value} (hv : VRs w μ xs vs) : VRs w (μ.fin keep) ys vs := by
  unfold mapC at h
  split at h
  · rename_i hc
    cases h
    exact VRs_of_CRs _ _ (CRs_less (ext_less (fin_keeps μ keep).less) _ _ (CRs_of_closed _ _ hc hv))
  · rename_i hc
    clear hc
    induction xs generalizing ys vs with
    | nil => simp [mapO] at h; subst h; simpa only [VRs] using hv
    | cons x xs ih =>
      simp only [mapO] at h
      split at h
      · rename_i y zs h1 h2
        cases h
        simp only [VRs] at hv
        obtain ⟨v, r, rfl, k1, k2⟩ := hv
        simp only [VRs]
        exact ⟨v, r, rfl, hf x y v h1 k1, ih k2 h2⟩
      · cases h
theorem VR_closed_fin {x : AV} {v : Value} (hc : closed x = true) (hv : VR w μ x v) : VR w (μ.fin keep) x v :=
  VR_of_CR _ _ (CR_less (ext_less (fin_keeps μ keep).less) _ _ (CR_of_closed _ _ hc hv))
theorem finV_ok : ∀ (d : Nat) (x y : AV) (v : Value), finV keep h d x = some y → VR w μ x v → VR w (μ.fin keep) y v
  | 0, x, y, v, e, hv => by
    simp only [finV] at e
    split at e
    · rename_i hc; cases e; exact VR_closed_fin s keep hc hv
    · cases e
  | d + 1, .own id off len, y, v, e, hv => by
    simp only [finV] at e
    split at e
    · rename_i p hp
      cases e
      have hg := posOf_get hp
      simp only [VR] at hv ⊢
      have : (μ.fin keep) p = μ id := by dsimp only [Mu.fin]; rw [hg]; rfl
      rw [this]; exact hv
    · exact VR_of_CR _ _ (snapC_ok s (fin_keeps μ keep) (d + 1) _ y v e hv)
  | d + 1, .loc id j o, y, v, e, hv => by
    simp only [finV] at e
    split at e
    · rename_i p hp
      cases e
      have hg := posOf_get hp
      simp only [VR] at hv ⊢
      have : (μ.fin keep) p = μ id := by dsimp only [Mu.fin]; rw [hg]; rfl
      rw [this]; exact hv
    · exact VR_of_CR _ _ (snapC_ok s (fin_keeps μ keep) (d + 1) _ y v e hv)
  | d + 1, .st fs, y, v, e, hv => by
    simp only [finV] at e
    obtain ⟨zs, h1, rfl⟩ := Option.map_eq_some_iff.1 e
    simp only [VR] at hv ⊢
    obtain ⟨cs, e, k⟩ := hv
    exact ⟨cs, e, mapC_fin s keep (fun x y v => finV_ok d x y v) h1 k⟩
  | d + 1, .tup fs, y, v, e, hv => by
    simp only [finV] at e
    obtain ⟨zs, h1, rfl⟩ := Option.map_eq_some_iff.1 e
    simp only [VR] at hv ⊢
    obtain ⟨cs, e, k⟩ := hv
    exact ⟨cs, e, mapC_fin s keep (fun x y v => finV_ok d x y v) h1 k⟩
  | d + 1, .fn f fs, y, v, e, hv => by
    simp only [finV] at e
    obtain ⟨zs, h1, rfl⟩ := Option.map_eq_some_iff.1 e
    simp only [VR] at hv ⊢
    obtain ⟨cs, e, k⟩ := hv
    exact ⟨cs, e, mapC_fin s keep (fun x y v => finV_ok d x y v) h1 k⟩
  | d + 1, .und, y, v, e, hv => by simp only [finV] at e; cases e; exact VR_closed_fin s keep rfl hv
  | d + 1, .b _, y, v, e, hv => by simp only [finV] at e; cases e; exact VR_closed_fin s keep rfl hv
  | d + 1, .i _ _, y, v, e, hv => by simp only [finV] at e; cases e; exact VR_closed_fin s keep rfl hv
  | d + 1, .s _, y, v, e, hv => by simp only [finV] at e; cases e; exact VR_closed_fin s keep rfl hv
  | d + 1, .sl _ _ _, y, v, e, hv => by simp only [finV] at e; cases e; exact VR_closed_fin s keep rfl hv
  | d + 1, .pt _, y, v, e, hv => by simp only [finV] at e; cases e; exact VR_closed_fin s keep rfl hv
  | d + 1, .nilp, y, v, e, hv => by simp only [finV] at e; cases e; exact VR_closed_fin s keep rfl hv
  | d + 1, .nilf, y, v, e, hv => by simp only [finV] at e; cases e; exact VR_closed_fin s keep rfl hv
  | d + 1, .raw _, y, v, e, hv => by simp only [finV] at e; cases e; exact VR_closed_fin s keep rfl hv
omit s in
theorem finV_nst {hh : Store} {d : Nat} {x y : AV} (h : finV keep hh d x = some y) (hx : x.cells = [x]) : y.cells = [y] := by
  cases d with
  | zero => simp only [finV] at h; split at h <;> cases h; exact hx
  | succ d =>
    cases x with
    | st fs =>
      exfalso
      simp only [AV.cells] at hx
      have h1 : SizeOf.sizeOf fs = SizeOf.sizeOf [AV.st fs] := congrArg SizeOf.sizeOf hx
      simp at h1; omega
    | own id off len =>
      simp only [finV] at h
      split at h
      · cases h; rfl
      · exact snapC_nst h rfl
    | loc id j o =>
      simp only [finV] at h
      split at h
      · cases h; rfl
      · exact snapC_nst h rfl
    | tup fs => simp only [finV] at h; obtain ⟨zs, _, rfl⟩ := Option.map_eq_some_iff.1 h; rfl
    | fn f fs => simp only [finV] at h; obtain ⟨zs, _, rfl⟩ := Option.map_eq_some_iff.1 h; rfl
    | _ => simp only [finV] at h; cases h; rfl
theorem elem_fin {d : Nat} {x y : AV} (hxy : (closed x = true ∧ y = x) ∨ finV keep h d x = some y) {vs : List Value} (hv : VRs w μ x.cells vs) : VRs w (μ.fin keep) y.cells vs := by
  have hcl : ∀ xs : List AV, closedL xs = true → ∀ vs, VRs w μ xs vs → VRs w (μ.fin keep) xs vs := fun xs hc vs hv =>
    VRs_of_CRs _ _ (CRs_less (ext_less (fin_keeps μ keep).less) _ _ (CRs_of_closed _ _ hc hv))
  by_cases hx : ∃ fs, x = .st fs
  · obtain ⟨fs, rfl⟩ := hx
    rcases hxy with ⟨hc, rfl⟩ | hxy
    · simp only [closed] at hc
      exact hcl _ hc _ hv
    · cases d with
      | zero =>
        simp only [finV] at hxy
        split at hxy
        · rename_i hc; cases hxy
          simp only [closed] at hc
          exact hcl _ hc _ hv
        · cases hxy
      | succ d =>
        simp only [finV] at hxy
        obtain ⟨zs, h1, rfl⟩ := Option.map_eq_some_iff.1 hxy
        exact mapC_fin s keep (fun x y v => finV_ok s keep d x y v) h1 hv
  · have hc : x.cells = [x] := by cases x <;> first | rfl | exact absurd ⟨_, rfl⟩ hx
    rw [hc] at hv
    simp only [VRs] at hv
    obtain ⟨v, r, rfl, h1, rfl⟩ := hv
    rcases hxy with ⟨hcl, rfl⟩ | hxy
    · rw [hc]
      simp only [VRs]
      exact ⟨v, [], rfl, VR_closed_fin s keep hcl h1, rfl⟩
    · rw [finV_nst keep hxy hc]
      simp only [VRs]
      exact ⟨v, [], rfl, finV_ok s keep d x y v hxy h1, rfl⟩
theorem finO_ok {d : Nat} {o o' : Obj} {sl : Slot} (he : finO keep h d o = some o') (B : BlkOk w μ o sl) : BlkOk w (μ.fin keep) o' sl := by
  unfold finO at he
  obtain ⟨ys, e1, rfl⟩ := Option.map_eq_some_iff.1 he
  obtain ⟨m1, m2⟩ := mapC_get e1
  obtain ⟨cs, c1, c2, c3⟩ := B.blk
  refine ⟨B.k, B.pos, by simp only [m1]; exact B.len, B.cap, cs, c1, c2, fun j y hy => ?_⟩
  have hj : j < o.els.length := by have := (List.getElem?_eq_some_iff.1 hy).1; simp only at this; omega
  have hxs : o.els[j]? = some o.els[j] := List.getElem?_eq_getElem hj
  obtain ⟨y', y1, y2⟩ := m2 j _ hxs
  simp only at hy ⊢
  rw [hy] at y1; cases y1
  obtain ⟨q1, q2⟩ := c3 j _ hxs
  have hk : j * o.k + o.k ≤ cs.size := by
    have h1 : j * o.k + o.k ≤ o.els.length * o.k := by
      have := Nat.mul_le_mul_right o.k (Nat.succ_le_of_lt hj)
      rw [Nat.succ_mul] at this; exact this
    have h2 : o.els.length * o.k ≤ cs.size := by rw [c2]; exact Nat.mul_le_mul_right _ B.len
    omega
  have hvs : VRs w μ (o.els[j]).cells ((cs.toList.drop (j * o.k)).take o.k) := by
    refine VRs_of_get (by simp only [List.length_take, List.length_drop, Array.length_toList]; omega) fun i z v hz hv => ?_
    obtain ⟨u, u1, u2, _⟩ := q2 i z hz
    rw [List.getElem?_take] at hv
    split at hv
    · rw [List.getElem?_drop] at hv
      have : cs.toList[j * o.k + i]? = some u := by simpa using u1
      rw [this] at hv; cases hv; exact u2
    · cases hv
  have hys := elem_fin s keep y2 hvs
  have hlen : y.cells.length = o.k := by
    rw [← VRs_length hys]; simp only [List.length_take, List.length_drop, Array.length_toList]; omega
  refine ⟨hlen, fun i z hz => ?_⟩
  have hi : i < o.k := by have := (List.getElem?_eq_some_iff.1 hz).1; omega
  obtain ⟨u, u1, u2⟩ := VRs_get hys i z hz
  rw [List.getElem?_take, if_pos hi, List.getElem?_drop] at u1
  obtain ⟨u', v1, _, v3⟩ := q2 i _ (List.getElem?_eq_getElem (by omega))
  have : cs.toList[j * o.k + i]? = some u' := by simpa using v1
  rw [this] at u1; cases u1
  exact ⟨_, v1, u2, v3⟩
end
def FitsObjs (keep : List Nat) (h h' : Store) : Nat → List Nat → Prop
  | _, [] => True
  | p, id :: r => (h.get id).bind (finO keep h 9) = h'.get p ∧ FitsObjs keep h h' (p + 1) r
def FitsEnv (keep : List Nat) (h : Store) (env : Env) : Env → Prop
  | [] => True
  | (t, x) :: r => finV keep h 9 (env.get t) = some x ∧ FitsEnv keep h env r
structure Fits (keep : List Nat) (env : Env) (h : Store) (env' : Env) (h' : Store) : Prop where
  nodup : keep.Nodup
  next : h'.next = keep.length
  objs : FitsObjs keep h h' 0 keep
  vars : FitsEnv keep h env env'
theorem FitsObjs_get {keep : List Nat} {h h' : Store} : ∀ {l : List Nat} {q : Nat}, FitsObjs keep h h' q l → ∀ p id, l[p]? = some id → (h.get id).bind (finO keep h 9) = h'.get (q + p)
  | [], q, _, p, id, hp => by simp at hp
  | i :: r, q, k, p, id, hp => by
    simp only [FitsObjs] at k
    cases p with
    | zero => simp at hp; subst hp; exact k.1
    | succ p =>
      simp at hp
      have := FitsObjs_get k.2 p id hp
      rwa [show q + 1 + p = q + (p + 1) by omega] at this
theorem FitsEnv_get {keep : List Nat} {h : Store} {env : Env} : ∀ {env' : Env}, FitsEnv keep h env env' → ∀ t, env'.get t = .und ∨ finV keep h 9 (env.get t) = some (env'.get t)
  | [], _, t => Or.inl rfl
  | (t', x) :: r, k, t => by
    simp only [FitsEnv] at k
    unfold Env.get
    simp only [look_cons]
    by_cases ht : t = t'
    · subst ht; right; simpa [Env.get] using k.1
    · rw [if_neg ht]; exact FitsEnv_get k.2 t
theorem nodup_get : ∀ {keep : List Nat} (_ : keep.Nodup) {p q id : Nat} (_ : keep[p]? = some id) (_ : keep[q]? = some id), p = q
  | [], _, p, q, id, hp, hq => by simp at hp
  | i :: r, hn, p, q, id, hp, hq => by
    rw [List.nodup_cons] at hn
    cases p with
    | zero =>
      cases q with
      | zero => rfl
      | succ q => simp at hp hq; subst hp; exact absurd (List.mem_of_getElem? hq) hn.1
    | succ p =>
      cases q with
      | zero => simp at hp hq; subst hq; exact absurd (List.mem_of_getElem? hp) hn.1
      | succ q => simp at hp hq; rw [nodup_get hn.2 hp hq]
theorem rel_fin {n : Nat} {B : Base} {w0 w : World} {μ : Mu} {env env' : Env} {h h' : Store} {a : Act} (R : Rel n B w0 μ env h a w) {keep : List Nat} (F : Fits keep env h env' h')
    (hN : ∀ i, i < B.N → keep[i]? = some i) : Rel n B w0 (μ.fin keep) env' h' a w where
  glob := R.glob
  snc := {
    ext := ⟨fun x u hr => ext_less (fin_keeps μ keep).less _ _ (R.snc.ext.rd x u hr), fun id t ht => by
      have : id < B.N := by
        rcases Nat.lt_or_ge id B.N with q | q
        · exact q
        · rw [R.snc.top id q] at ht; cases ht
      have e : (μ.fin keep) id = μ id := by dsimp only [Mu.fin]; rw [hN id this]; rfl
      rw [e]; exact R.snc.ext.mu id t ht, R.snc.ext.bl, fun g q => R.snc.ext.mt g ((fin_keeps μ keep).less g q)⟩
    y := R.snc.y
    dom := fun id hi h0 => by
      have e : (μ.fin keep) id = μ id := by dsimp only [Mu.fin]; rw [hN id hi]; rfl
      rw [e]; exact R.snc.dom id hi h0
    top := R.snc.top }
  low := by
    rw [F.next]
    cases e : B.N with
    | zero => omega
    | succ k => have := (List.getElem?_eq_some_iff.1 (hN k (by omega))).1; omega
  sim := {
    below := R.sim.below
    lt := fun p t ht => by
      obtain ⟨id, h1, h2⟩ := Option.bind_eq_some_iff.1 ht
      exact R.sim.lt id t h2
    inj := fun p p' t t' ht ht' e => by
      obtain ⟨id, h1, h2⟩ := Option.bind_eq_some_iff.1 ht
      obtain ⟨id', h1', h2'⟩ := Option.bind_eq_some_iff.1 ht'
      have := R.sim.inj id id' t t' h2 h2' e
      subst this
      exact nodup_get F.nodup h1 h1'
    live := fun p o ho hp => by
      obtain ⟨id, h1, h2⟩ := Option.bind_eq_some_iff.1 hp
      have := FitsObjs_get F.objs p id h1
      rw [Nat.zero_add, ho] at this
      obtain ⟨o', h3, _⟩ := Option.bind_eq_some_iff.1 this
      exact R.sim.live id o' h3 h2
    ylt := R.sim.ylt
    blk := fun p o t ho hp => by
      obtain ⟨id, h1, h2⟩ := Option.bind_eq_some_iff.1 hp
      have := FitsObjs_get F.objs p id h1
      rw [Nat.zero_add, ho] at this
      obtain ⟨o', h3, h4⟩ := Option.bind_eq_some_iff.1 this
      exact finO_ok R.sim keep h4 (R.sim.blk id o' t h3 h2) }
  env := fun t => by
    rcases FitsEnv_get F.vars t with e | e
    · rw [e]; simp only [VR]
    · exact finV_ok R.sim keep 9 _ _ _ e (R.env t)
  sz := R.sz
  dfr := R.dfr
  fresh := fun p hp => by
    dsimp only [Mu.fin]
    rw [List.getElem?_eq_none (by rw [F.next] at hp; exact hp)]; rfl
end
end Go.Lift
namespace Go.Lift
noncomputable section
open Go Go.RowKit
set_option linter.unusedSimpArgs false
set_option linter.unusedVariables false
set_option linter.unusedSectionVars false
theorem wp_loop_k {P : Program} {Q : Exit → Act → World → Prop} {a : Act} {w : World} {c : Code} (I : Nat → Act → World → Prop) {k0 : Nat} (h₀ : I k0 a w)
    (round : ∀ k a w, I k a w → c.wp P (Exit.then (fun a' w' => ∃ k', k' < k ∧ I k' a' w') Q) a w) : (Code.loop c).wp P Q a w := by
  intro b k cs
  have key : ∀ n a w, I n a w →
      ∃ e a' w', Q e a' w' ∧ Arrives P (lone (b.at a (.code c :: .inLoop c :: k)) cs w) b k cs e a' w' := by
    intro n
    induction n using Nat.strongRecOn with
    | _ n ih =>
      intro a w hI
      obtain ⟨e, a₁, w₁, hq, harr⟩ := round n a w hI b (.inLoop c :: k) cs
      cases e with
      | normal =>
        obtain ⟨n', hlt, hI₁⟩ := hq
        obtain ⟨e₂, a₂, w₂, hq₂, harr₂⟩ := ih n' hlt a₁ w₁ hI₁
        exact ⟨e₂, a₂, w₂, hq₂, .of_steps (Steps.trans harr (.one step_inLoop)) harr₂⟩
      | exit id => exact ⟨_, a₁, w₁, hq, .pass (x := .inLoop c) rfl (fun _ _ => .inl (by simp)) harr⟩
      | goto l => exact ⟨_, a₁, w₁, hq, .pass (x := .inLoop c) rfl (fun _ _ => .inl (by simp)) harr⟩
      | ret => exact ⟨_, a₁, w₁, hq, .pass (x := .inLoop c) rfl (fun _ _ => .inl (by simp)) harr⟩
      | panic ch => exact ⟨_, a₁, w₁, hq, .pass (x := .inLoop c) rfl (fun _ _ => .inl (by simp)) harr⟩
      | outgrown => exact ⟨_, a₁, w₁, hq, .pass (x := .inLoop c) rfl (fun _ _ => .inl (by simp)) harr⟩
  obtain ⟨e, a', w', hq, harr⟩ := key k0 a w h₀
  exact ⟨e, a', w', hq, .of_steps (.one step_loop) harr⟩
abbrev Post := Exit → Env → Store → Prop
def Awp (P : Program) (W : World) (n N : Nat) (c : Code) (env : Env) (h : Store) (Q : Post) : Prop :=
  ∀ (B : Base) (w0 : World) (μ : Mu) (a : Act) (w : World), B.W = W → B.N = N → Rel n B w0 μ env h a w →
    c.wp P (fun e a' w' => ∃ env' h' μ', Q e env' h' ∧ Rel n B w0 μ' env' h' a' w') a w
def Post.then (k : Env → Store → Prop) (Q : Post) : Post
  | .normal, env, h => k env h
  | e, env, h => Q e env h
def Post.inBlock (id : Nat) (Q : Post) : Post
  | .exit id', env, h => if id' = id then Q .normal env h else Q (.exit id') env h
  | e, env, h => Q e env h
section
variable {P : Program} {W : World} {n N : Nat} {env : Env} {h : Store} {Q : Post}
theorem Awp.mono {c : Code} {Q' : Post} (k : Awp P W n N c env h Q) (hq : ∀ e env h, Q e env h → Q' e env h) : Awp P W n N c env h Q' :=
  fun B w0 μ a w hW hB R => wp_mono (k B w0 μ a w hW hB R) fun _ _ _ ⟨env', h', μ', q, r⟩ => ⟨env', h', μ', hq _ _ _ q, r⟩
theorem Awp.skip (k : Q .normal env h) : Awp P W n N .skip env h Q := fun B w0 μ a w hW hB R => wp_skip ⟨env, h, μ, k, R⟩
theorem Awp.label {l : Nat} (k : Q .normal env h) : Awp P W n N (.label l) env h Q := fun B w0 μ a w hW hB R => wp_label ⟨env, h, μ, k, R⟩
theorem Awp.exit {id : Nat} (k : Q (.exit id) env h) : Awp P W n N (.exit id) env h Q := fun B w0 μ a w hW hB R => wp_exit ⟨env, h, μ, k, R⟩
theorem Awp.ret (k : Q .ret env h) : Awp P W n N .ret env h Q := fun B w0 μ a w hW hB R => wp_ret ⟨env, h, μ, k, R⟩
theorem Awp.seq {x y : Code} (k : Awp P W n N x env h (Post.then (fun env' h' => Awp P W n N y env' h' Q) Q)) : Awp P W n N (.seq x y) env h Q :=
  fun B w0 μ a w hW hB R => wp_seq (wp_mono (k B w0 μ a w hW hB R) fun e a' w' hh => by
    obtain ⟨env', h', μ', q, r⟩ := hh
    cases e <;> first | exact q B w0 μ' a' w' hW hB r | exact ⟨env', h', μ', q, r⟩)
theorem Awp.cond {c : Operand} {x y : Code} {t : Bool} (hc : ev env 0 c = some (.b t)) (k : Awp P W n N (if t then x else y) env h Q) : Awp P W n N (.cond c x y) env h Q :=
  fun B w0 μ a w hW hB R => by
    have hv := ev_ok (w := w) (μ := μ) (a := a) (x := c) (fun t _ => R.env t) hc
    simp only [VR, CR] at hv
    exact wp_cond hv (k B w0 μ a w hW hB R)
theorem Awp.cond' {c : Operand} {x y : Code} {t : Bool} (hc : ev env 0 c = some (.b t)) (k1 : t = true → Awp P W n N x env h Q) (k2 : t = false → Awp P W n N y env h Q) : Awp P W n N (.cond c x y) env h Q :=
  Awp.cond hc (by cases t <;> simp_all)
theorem Awp.block {id : Nat} {c : Code} (k : Awp P W n N c env h (Post.inBlock id Q)) : Awp P W n N (.block id c) env h Q :=
  fun B w0 μ a w hW hB R => wp_block (wp_mono (k B w0 μ a w hW hB R) fun e a' w' hh => by
    obtain ⟨env', h', μ', q, r⟩ := hh
    cases e with
    | exit id' =>
      simp only [Post.inBlock, Exit.inBlock] at q ⊢
      split at q <;> rename_i hi
      · rw [if_pos hi]; exact ⟨env', h', μ', q, r⟩
      · rw [if_neg hi]; exact ⟨env', h', μ', q, r⟩
    | _ => exact ⟨env', h', μ', q, r⟩)
theorem Awp.scope {c : Code} (k : Awp P W n N c env h fun e env h => (∀ l, e ≠ .goto l) ∧ Q e env h) : Awp P W n N (.scope c) env h Q :=
  fun B w0 μ a w hW hB R => wp_scope_straight (wp_mono (k B w0 μ a w hW hB R) fun e a' w' hh => by
    obtain ⟨env', h', μ', q, r⟩ := hh
    cases e with
    | goto l => exact absurd rfl (q.1 l)
    | _ => exact ⟨env', h', μ', q.2, r⟩)
theorem Awp.fits {c : Code} (keep : List Nat) {env' : Env} {h' : Store} (F : Fits keep env h env' h') (hN : ∀ i, i < N → keep[i]? = some i) (k : Awp P W n N c env' h' Q) : Awp P W n N c env h Q :=
  fun B w0 μ a w hW hB R => k B w0 _ a w hW hB (rel_fin R F (by rw [hB]; exact hN))
theorem Awp.region {T : Tab} (hT : tabOk P T = true) {id : Nat} {ops : Array Oper} (k : AOps P W T n ops ops.toList env h (Q .normal)) : Awp P W n N (.region id ops false) env h Q :=
  fun B w0 μ a w hW hB R => wp_region (region_ordered hT _ (os := ops.toList) (by
    apply List.ext_getElem?
    intro i
    simp only [List.getElem?_map, List.getElem?_range]
    rcases Nat.lt_or_ge i ops.size with q | q
    · rw [List.getElem?_range q]; simp [q]
    · rw [List.getElem?_eq_none (by simpa using q), Array.getElem?_toList, Array.getElem?_eq_none q]; rfl) k hW R fun env' h' μ' a' w' q r => ⟨env', h', μ', q, r⟩)
theorem Awp.drawn {T : Tab} (hT : tabOk P T = true) (hm : P.follows .mixedOrders = true) {id : Nat} {ops : Array Oper} (m : Nat) (hr : regOk ops m = true) (hmn : m ≤ ops.size) (k : AOpsD P W T n ops m 0 ops.toList env h (Q .normal)) : Awp P W n N (.region id ops true) env h Q :=
  fun B w0 μ a w hW hB R => region_drawn hT hm hr hmn k hW R fun env' h' μ' a' w' q r => ⟨env', h', μ', q, r⟩
theorem Awp.loop {c : Code} (I : Nat → Env → Store → Prop) (k0 : Nat) (h0 : I k0 env h)
    (round : ∀ k env h, I k env h → Awp P W n N c env h (Post.then (fun env' h' => ∃ keep env'' h'', Fits keep env' h' env'' h'' ∧ (∀ i, i < N → keep[i]? = some i) ∧ ∃ k', k' < k ∧ I k' env'' h'') Q)) : Awp P W n N (.loop c) env h Q :=
  fun B w0 μ a w hW hB R => wp_loop_k (fun k a w => ∃ env h μ, I k env h ∧ Rel n B w0 μ env h a w) ⟨env, h, μ, h0, R⟩ fun k a w ⟨env, h, μ, hI, R⟩ =>
    wp_mono (round k env h hI B w0 μ a w hW hB R) fun e a' w' hh => by
      obtain ⟨env', h', μ', q, r⟩ := hh
      cases e with
      | normal =>
        obtain ⟨keep, env'', h'', F, hN, k', hk, hI'⟩ := q
        exact ⟨k', hk, env'', h'', _, hI', rel_fin r F (by rw [hB]; exact hN)⟩
      | _ => exact ⟨env', h', μ', q, r⟩
end
def argEnv : Nat → List AV → Env
  | _, [] => []
  | k, x :: xs => (k, x) :: argEnv (k + 1) xs
theorem argEnv_get : ∀ (xs : List AV) (k t : Nat), (argEnv k xs).get t = if k ≤ t then (xs[t - k]?).getD .und else .und
  | [], k, t => by simp [argEnv, Env.get, look_nil]
  | x :: xs, k, t => by
    unfold Env.get argEnv
    rw [look_cons]
    by_cases h : t = k
    · subst h; simp
    · rw [if_neg h]
      have := argEnv_get xs (k + 1) t
      unfold Env.get at this
      rw [this]
      by_cases hk : k ≤ t
      · rw [if_pos hk, if_pos (by omega)]
        obtain ⟨d, rfl⟩ : ∃ d, t = k + 1 + d := ⟨t - (k + 1), by omega⟩
        rw [show k + 1 + d - (k + 1) = d by omega, show k + 1 + d - k = d + 1 by omega]; rfl
      · rw [if_neg hk, if_neg (by omega)]
def resTmps : List ResultVar → Option (List Nat)
  | [] => some []
  | .tmp t :: r => (resTmps r).map (t :: ·)
  | .cell _ _ :: _ => none
def resAV (ts : List Nat) (env : Env) : AV := match ts with
  | [t] => env.get t
  | ts => .tup (ts.map env.get)
def resVal (ts : List Nat) (tmps : Array Value) : Value := match ts with
  | [t] => tmps.getD t undef
  | ts => .tuple (ts.map (fun t => tmps.getD t undef)).toArray
theorem results_run {P : Program} {fn : Func} {ts : List Nat} (h : resTmps fn.results.toList = some ts) (tmps : Array Value) (w : World) :
    (results fn tmps).run P w = .ok (resVal ts tmps) w := by
  have h1 : ∀ (rs : List ResultVar) (ts : List Nat), resTmps rs = some ts → rs = ts.map ResultVar.tmp := by
    intro rs
    induction rs with
    | nil => intro ts h; simp [resTmps] at h; subst h; rfl
    | cons r rs ih =>
      intro ts h
      cases r with
      | tmp t =>
        simp only [resTmps] at h
        obtain ⟨us, hu, rfl⟩ := Option.map_eq_some_iff.1 h
        rw [ih us hu]; rfl
      | cell _ _ => simp [resTmps] at h
  have h2 : fn.results = (ts.map ResultVar.tmp).toArray := by
    apply Array.ext'; rw [h1 _ _ h]
  have h3 : ∀ (f : ResultVar → Sem Value) (hf : ∀ t w, (f (.tmp t)).run P w = .ok (tmps.getD t undef) w) (ts : List Nat) (w : World),
      ((ts.map ResultVar.tmp).mapM f).run P w = .ok (ts.map (fun t => tmps.getD t undef)) w := by
    intro f hf ts
    induction ts with
    | nil => intro w; simp
    | cons t ts ih =>
      intro w
      simp only [List.map_cons, List.mapM_cons, Sem.run_bind, hf, ih, Result.andThen_ok, Sem.run_pure]
  unfold results
  rw [h2]
  simp only [List.mapM_toArray]
  simp only [Sem.run_bind, map_eq_pure_bind, Sem.run_pure]
  rw [h3 _ (fun t w => rfl)]
  simp only [Result.andThen_ok, Sem.run_pure]
  clear h h1 h2
  unfold resVal
  cases ts with
  | nil => simp
  | cons t ts =>
    cases ts with
    | nil => simp
    | cons t2 ts => simp
theorem resAV_ok {w : World} {μ : Mu} {env : Env} {tmps : Array Value} (h : ∀ t, VR w μ (env.get t) (tmps.getD t undef)) (ts : List Nat) :
    VR w μ (resAV ts env) (resVal ts tmps) := by
  have h1 : ∀ ts : List Nat, VRs w μ (ts.map env.get) (ts.map (fun t => tmps.getD t undef)) := by
    intro ts
    induction ts with
    | nil => simp [VRs]
    | cons t ts ih => simp only [List.map_cons, VRs]; exact ⟨_, _, rfl, h t, ih⟩
  unfold resAV resVal
  split
  · exact h _
  · simp only [VR]; exact ⟨_, rfl, h1 _⟩
theorem start_env {w : World} {μ : Mu} {args : List AV} {vs : List Value} (h : VRs w μ args vs) (m : Nat) (t : Nat) : VR w μ ((argEnv 0 args).get t) ((vs.toArray ++ Array.replicate m undef).getD t undef) := by
  rw [argEnv_get, if_pos (Nat.zero_le _), Nat.sub_zero]
  cases e : args[t]? with
  | none => simp only [Option.getD_none, VR]
  | some x =>
    obtain ⟨v, hv, hx⟩ := VRs_get h t x e
    simp only [Option.getD_some]
    have : (vs.toArray ++ Array.replicate m undef).getD t undef = v := by
      have hlt := (List.getElem?_eq_some_iff.1 hv).1
      rw [Array.getD_eq_getD_getElem?, Array.getElem?_append_left (by simpa using hlt)]
      simp [hv]
    rw [this]; exact hx
def Fin (keep : List Nat) (ts : List Nat) (r : AV) (S : List Obj) : Post := fun e env h =>
  (e = .normal ∨ e = .ret) ∧ keep.Nodup ∧ S.length = keep.length ∧ FitsObjs keep h (S0 S) 0 keep ∧ finV keep h 9 (resAV ts env) = some r
theorem pure_of_body {P : Program} {W : World} {f : FuncId} {fn : Func} {c : Code} (hf : P.funcs[f]? = some fn) (hb : fn.body = some c) (he : ∀ (vs : Array Value) (w : World), (callFunc f vs).run P w = .ok (.enter f vs) w)
    {ts : List Nat} (hr : resTmps fn.results.toList = some ts) {args : List AV} (hn : args.length ≤ fn.ntmps) {r : AV} {S : List Obj}
    (k : Awp P W fn.ntmps 0 c (argEnv 0 args) ⟨0, []⟩ (fun e env h => ∃ keep, Fin keep ts r S e env h)) (hM : f < 1000000 := by decide) : PureAt P W f args r S := .plain hM he <| fun w Y vs hG hY hvs => by
    have hvr := VRs_of_CRs _ _ hvs
    have hlen := VRs_length hvr
    refine calls_of_wp hf hb ?_
    have R : Rel fn.ntmps ⟨W, w, mu0 Y, 0⟩ w (mu0 Y) (argEnv 0 args) ⟨0, []⟩ { tmps := vs.toArray ++ Array.replicate (fn.ntmps - vs.toArray.size) undef, defers := [] } w := {
      glob := hG
      snc := ⟨Ext.refl _ _, rfl, fun _ h => by simp at h, fun _ _ => rfl⟩
      low := Nat.zero_le _
      sim := {
        below := Below.refl _ _
        lt := by intro _ _ h; cases h
        inj := by intro _ _ _ _ h; cases h
        live := by intro _ _ _ h; cases h
        ylt := hY
        blk := by intro _ _ _ _ h; cases h }
      env := start_env hvr _
      sz := by simp [hlen]; omega
      dfr := rfl
      fresh := fun _ _ => rfl }
    refine wp_mono (k _ w (mu0 Y) _ w rfl rfl R) ?_
    rintro e a' w' ⟨env', h', μ', ⟨keep, he, hnd, hS, hF, hfv⟩, R'⟩
    have hv := finV_ok R'.sim keep 9 _ _ _ hfv (resAV_ok R'.env ts)
    have R2 := rel_fin R' (keep := keep) (env' := []) (h' := S0 S) ⟨hnd, hS, hF, trivial⟩ (fun i hi => by simp at hi)
    have hrun := results_run (P := P) hr a'.tmps w'
    have hpost : a'.defers = [] ∧ ∃ v, (results fn a'.tmps).run P w' = .ok v w' ∧ ∃ v' μ'', (Ending.returned v) = .returned v' ∧ μ''.Y = Y ∧ VR w' μ'' r v' ∧ Sim w μ'' w' (S0 S) ∧ (∀ id, S.length ≤ id → μ'' id = none) :=
      ⟨R'.dfr, _, hrun, _, μ'.fin keep, rfl, R'.snc.y, hv, R2.sim, R2.fresh⟩
    rcases he with rfl | rfl
    · exact hpost
    · exact hpost
end
end Go.Lift
namespace Go.Lift
noncomputable section
open Go Go.RowKit
set_option linter.unusedSimpArgs false
set_option linter.unusedVariables false
set_option linter.unusedSectionVars false
section
variable {P : Program} {W : World} {T : Tab} {n : Nat} {ops : Array Oper} {d : Tmp} {op : Op} {ty : TypeId} {pos : String} {af : Array Edge} {gd : Option (Nat × Bool)} {r : List Oper} {env : Env} {h h' : Store} {x : AV} {Q : Env → Store → Prop}
theorem AOps.sq (e : qop T (ev env) h ⟨some d, op, ty, pos, af, none⟩ = some x) (hd : d < n) (k : AOps P W T n ops r ((d, x) :: env) h Q) : AOps P W T n ops (⟨some d, op, ty, pos, af, none⟩ :: r) env h Q := by
  simp only [AOps, wantA]; exact ⟨by simpa [dstOk] using hd, x, h, .x (.q e rfl), k⟩
theorem AOps.sn (e : nop T (ev env) h ⟨some d, op, ty, pos, af, none⟩ = some (x, h')) (hd : d < n) (k : AOps P W T n ops r ((d, x) :: env) h' Q) : AOps P W T n ops (⟨some d, op, ty, pos, af, none⟩ :: r) env h Q := by
  simp only [AOps, wantA]; exact ⟨by simpa [dstOk] using hd, x, h', .x (.n e), k⟩
theorem AOps.se (e : eop T (ev env) h ⟨some d, op, ty, pos, af, none⟩ = some (x, h')) (hd : d < n) (k : AOps P W T n ops r ((d, x) :: env) h' Q) : AOps P W T n ops (⟨some d, op, ty, pos, af, none⟩ :: r) env h Q := by
  simp only [AOps, wantA]; exact ⟨by simpa [dstOk] using hd, x, h', .e e, k⟩
theorem AOps.st (e : eop T (ev env) h ⟨none, op, ty, pos, af, none⟩ = some (x, h')) (k : AOps P W T n ops r env h' Q) : AOps P W T n ops (⟨none, op, ty, pos, af, none⟩ :: r) env h Q := by
  simp only [AOps, wantA]; exact ⟨rfl, x, h', .e e, k⟩
theorem AOps.sc {g : FuncId} {vs : List AV} {r0 : AV} {S : List Obj} (hc : callee T (ev env) ⟨some d, op, ty, pos, af, none⟩ = some (g, vs)) (hcl : closedL vs = true) (hp : PureAt P W g vs r0 S) (hd : d < n)
    (k : AOps P W T n ops r ((d, r0.ren (· + h.next)) :: env) (h.add S) Q) : AOps P W T n ops (⟨some d, op, ty, pos, af, none⟩ :: r) env h Q := by
  simp only [AOps, wantA]; exact ⟨by simpa [dstOk] using hd, _, _, .x (.c (.closed g vs r0 S hc hcl hp rfl rfl)), k⟩
theorem AOps.sc0 {g : FuncId} {vs : List AV} {r0 : AV} (hc : callee T (ev env) ⟨some d, op, ty, pos, af, none⟩ = some (g, vs)) (hcl : closedL vs = true) (hp : PureAt P W g vs r0 []) (hr : closed r0 = true) (hd : d < n)
    (k : AOps P W T n ops r ((d, r0) :: env) h Q) : AOps P W T n ops (⟨some d, op, ty, pos, af, none⟩ :: r) env h Q := by
  simp only [AOps, wantA]; exact ⟨by simpa [dstOk] using hd, _, _, .x (.c (.closed g vs r0 [] hc hcl hp (ren_closed _ _ hr).symm rfl)), k⟩
theorem AOps.sf {g : FuncId} {vs ss : List AV} {r0 : AV} {S : List Obj} (hc : callee T (ev env) ⟨some d, op, ty, pos, af, none⟩ = some (g, vs)) (hs : mapC (snapC [] h 8) vs = some ss) (hp : PureAt P W g ss r0 S)
    (hf : flat r0 = true) (hF : S.all (fun o => o.els.all fun y => y.cells.all flat) = true) (hd : d < n)
    (k : AOps P W T n ops r ((d, r0.ren (· + h.next)) :: env) (h.add S) Q) : AOps P W T n ops (⟨some d, op, ty, pos, af, none⟩ :: r) env h Q := by
  simp only [AOps, wantA]; exact ⟨by simpa [dstOk] using hd, _, _, .x (.c (.flat g vs ss r0 S hc hs hp hf hF rfl rfl)), k⟩
theorem AOps.sf0 {g : FuncId} {vs ss : List AV} {r0 : AV} (hc : callee T (ev env) ⟨some d, op, ty, pos, af, none⟩ = some (g, vs)) (hs : mapC (snapC [] h 8) vs = some ss) (hp : PureAt P W g ss r0 [])
    (hf : flat r0 = true) (hr : closed r0 = true) (hd : d < n)
    (k : AOps P W T n ops r ((d, r0) :: env) h Q) : AOps P W T n ops (⟨some d, op, ty, pos, af, none⟩ :: r) env h Q := by
  simp only [AOps, wantA]; exact ⟨by simpa [dstOk] using hd, _, _, .x (.c (.flat g vs ss r0 [] hc hs hp hf rfl (ren_closed _ _ hr).symm rfl)), k⟩
theorem AOps.sm {g : FuncId} {vs : List AV} (hc : callee T (ev env) ⟨some d, op, ty, pos, af, none⟩ = some (g, vs)) (hp : EffAt P W g vs h x h') (hd : d < n)
    (k : AOps P W T n ops r ((d, x) :: env) h' Q) : AOps P W T n ops (⟨some d, op, ty, pos, af, none⟩ :: r) env h Q := by
  simp only [AOps, wantA]; exact ⟨by simpa [dstOk] using hd, x, h', .c g vs hc hp, k⟩
theorem AOps.sgy {j : Nat} {want t : Bool} {o : Oper} {t' : Tmp} (hj : ops[j]? = some o) (ho : o.dst = some t') (ht : env.get t' = .b t) (e : t = want)
    (k1 : AOps P W T n ops (⟨some d, op, ty, pos, af, none⟩ :: r) env h Q) : AOps P W T n ops (⟨some d, op, ty, pos, af, some (j, want)⟩ :: r) env h Q := by
  have hw : wantA ops env ⟨some d, op, ty, pos, af, some (j, want)⟩ = some true := by
    simp only [wantA, hj, Option.bind_some, ho, ht, e, BEq.rfl]
  simp only [AOps, wantA] at k1
  simp only [AOps, hw]
  obtain ⟨a, x, h', b, c⟩ := k1
  refine ⟨a, x, h', ?_, c⟩
  cases b with
  | x b => cases b with
    | q b e => exact .x (.q b e)
    | n b => exact .x (.n b)
    | s b e hh => exact .x (.s b e hh)
    | g b e => exact .x (.g b e)
    | c b => cases b with
      | closed g vs r0 S h1 h2 h3 h4 h5 => exact .x (.c (.closed g vs r0 S h1 h2 h3 h4 h5))
      | flat g vs ss r0 S h1 h2 h3 h4 h5 h6 h7 => exact .x (.c (.flat g vs ss r0 S h1 h2 h3 h4 h5 h6 h7))
  | e b => exact .e b
  | c g vs b c => exact .c g vs b c
theorem AOps.sgn {j : Nat} {want t : Bool} {o : Oper} {t' : Tmp} (hj : ops[j]? = some o) (ho : o.dst = some t') (ht : env.get t' = .b t) (e : t = !want) (hd : d < n)
    (k2 : AOps P W T n ops r ((d, .tup []) :: env) h Q) : AOps P W T n ops (⟨some d, op, ty, pos, af, some (j, want)⟩ :: r) env h Q := by
  have hw : wantA ops env ⟨some d, op, ty, pos, af, some (j, want)⟩ = some false := by
    simp only [wantA, hj, Option.bind_some, ho, ht, e]; cases want <;> rfl
  simp only [AOps, hw]
  exact ⟨by simpa [dstOk] using hd, k2⟩
theorem AOps.sgu {j : Nat} {want : Bool} {o : Oper} {t' : Tmp} (hj : ops[j]? = some o) (ho : o.dst = some t') (ht : env.get t' = .tup []) (hd : d < n)
    (k2 : AOps P W T n ops r ((d, .tup []) :: env) h Q) : AOps P W T n ops (⟨some d, op, ty, pos, af, some (j, want)⟩ :: r) env h Q := by
  have hw : wantA ops env ⟨some d, op, ty, pos, af, some (j, want)⟩ = some false := by
    simp only [wantA, hj, Option.bind_some, ho, ht]
  simp only [AOps, hw]
  exact ⟨by simpa [dstOk] using hd, k2⟩
end
section
variable {P : Program} {W : World} {T : Tab} {n : Nat} {ops : Array Oper} {m i : Nat} {d : Tmp} {op : Op} {ty : TypeId} {pos : String} {af : Array Edge} {gd : Option (Nat × Bool)} {r : List Oper} {env : Env} {h h' : Store} {x : AV} {Q : Env → Store → Prop}
theorem ext_either {o : Oper} (k : ExtOp P W T (ev env) h o x h') : if i < m then ExtOp P W T (ev env) h o x h' else EffOp P W T (ev env) h o x h' := by
  split
  · exact k
  · exact .x k
theorem AOpsD.sq (e : qop T (ev env) h ⟨some d, op, ty, pos, af, none⟩ = some x) (hd : d < n) (k : AOpsD P W T n ops m (i + 1) r ((d, x) :: env) h Q) : AOpsD P W T n ops m i (⟨some d, op, ty, pos, af, none⟩ :: r) env h Q := by
  simp only [AOpsD, wantA]; exact ⟨by simpa [dstOk] using hd, x, h, ext_either (.q e rfl), k⟩
theorem AOpsD.sg (e : ∀ (w : World) (μ : Mu) (c : Operand → Value), Glob W w → (∀ x ∈ op.operands, ∀ k y, ev env k x = some y → VR w μ y (c x)) → ∃ z, (execOp c ⟨some d, op, ty, pos, af, none⟩).run P w = .ok (.value z) w ∧ VR w μ x z) (hd : d < n) (k : AOpsD P W T n ops m (i + 1) r ((d, x) :: env) h Q) : AOpsD P W T n ops m i (⟨some d, op, ty, pos, af, none⟩ :: r) env h Q := by
  simp only [AOpsD, wantA]; exact ⟨by simpa [dstOk] using hd, x, h, ext_either (.g e rfl), k⟩
theorem AOpsD.sn (e : nop T (ev env) h ⟨some d, op, ty, pos, af, none⟩ = some (x, h')) (hd : d < n) (k : AOpsD P W T n ops m (i + 1) r ((d, x) :: env) h' Q) : AOpsD P W T n ops m i (⟨some d, op, ty, pos, af, none⟩ :: r) env h Q := by
  simp only [AOpsD, wantA]; exact ⟨by simpa [dstOk] using hd, x, h', ext_either (.n e), k⟩
theorem AOpsD.st (hm : ¬ i < m) (e : eop T (ev env) h ⟨none, op, ty, pos, af, none⟩ = some (x, h')) (k : AOpsD P W T n ops m (i + 1) r env h' Q) : AOpsD P W T n ops m i (⟨none, op, ty, pos, af, none⟩ :: r) env h Q := by
  simp only [AOpsD, wantA]; exact ⟨rfl, x, h', (by rw [if_neg hm]; exact .e e), k⟩
theorem AOpsD.sc0 {g : FuncId} {vs : List AV} {r0 : AV} (hc : callee T (ev env) ⟨some d, op, ty, pos, af, none⟩ = some (g, vs)) (hcl : closedL vs = true) (hp : PureAt P W g vs r0 []) (hr : closed r0 = true) (hd : d < n)
    (k : AOpsD P W T n ops m (i + 1) r ((d, r0) :: env) h Q) : AOpsD P W T n ops m i (⟨some d, op, ty, pos, af, none⟩ :: r) env h Q := by
  simp only [AOpsD, wantA]; exact ⟨by simpa [dstOk] using hd, _, _, ext_either (.c (.closed g vs r0 [] hc hcl hp (ren_closed _ _ hr).symm rfl)), k⟩
theorem AOpsD.sf {g : FuncId} {vs ss : List AV} {r0 : AV} {S : List Obj} (hc : callee T (ev env) ⟨some d, op, ty, pos, af, none⟩ = some (g, vs)) (hs : mapC (snapC [] h 8) vs = some ss) (hp : PureAt P W g ss r0 S)
    (hf : flat r0 = true) (hF : S.all (fun o => o.els.all fun y => y.cells.all flat) = true) (hd : d < n)
    (k : AOpsD P W T n ops m (i + 1) r ((d, r0.ren (· + h.next)) :: env) (h.add S) Q) : AOpsD P W T n ops m i (⟨some d, op, ty, pos, af, none⟩ :: r) env h Q := by
  simp only [AOpsD, wantA]; exact ⟨by simpa [dstOk] using hd, _, _, ext_either (.c (.flat g vs ss r0 S hc hs hp hf hF rfl rfl)), k⟩
theorem AOpsD.sf0 {g : FuncId} {vs ss : List AV} {r0 : AV} (hc : callee T (ev env) ⟨some d, op, ty, pos, af, none⟩ = some (g, vs)) (hs : mapC (snapC [] h 8) vs = some ss) (hp : PureAt P W g ss r0 [])
    (hf : flat r0 = true) (hr : closed r0 = true) (hd : d < n)
    (k : AOpsD P W T n ops m (i + 1) r ((d, r0) :: env) h Q) : AOpsD P W T n ops m i (⟨some d, op, ty, pos, af, none⟩ :: r) env h Q := by
  simp only [AOpsD, wantA]; exact ⟨by simpa [dstOk] using hd, _, _, ext_either (.c (.flat g vs ss r0 [] hc hs hp hf rfl (ren_closed _ _ hr).symm rfl)), k⟩
theorem AOpsD.sgy {j : Nat} {want t : Bool} {o : Oper} {t' : Tmp} (hj : ops[j]? = some o) (ho : o.dst = some t') (ht : env.get t' = .b t) (e : t = want)
    (k1 : AOpsD P W T n ops m i (⟨some d, op, ty, pos, af, none⟩ :: r) env h Q) : AOpsD P W T n ops m i (⟨some d, op, ty, pos, af, some (j, want)⟩ :: r) env h Q := by
  have hw : wantA ops env ⟨some d, op, ty, pos, af, some (j, want)⟩ = some true := by
    simp only [wantA, hj, Option.bind_some, ho, ht, e, BEq.rfl]
  simp only [AOpsD, wantA] at k1
  simp only [AOpsD, hw]
  obtain ⟨a, x, h', b, c⟩ := k1
  refine ⟨a, x, h', ?_, c⟩
  have hx : ∀ {h'}, ExtOp P W T (ev env) h ⟨some d, op, ty, pos, af, none⟩ x h' → ExtOp P W T (ev env) h ⟨some d, op, ty, pos, af, some (j, want)⟩ x h' := by
    intro h' b
    cases b with
    | q b e => exact .q b e
    | n b => exact .n b
    | s b e hh => exact .s b e hh
    | g b e => exact .g b e
    | c b => cases b with
      | closed g vs r0 S h1 h2 h3 h4 h5 => exact .c (.closed g vs r0 S h1 h2 h3 h4 h5)
      | flat g vs ss r0 S h1 h2 h3 h4 h5 h6 h7 => exact .c (.flat g vs ss r0 S h1 h2 h3 h4 h5 h6 h7)
  by_cases hm : i < m
  · rw [if_pos hm] at b ⊢
    exact hx b
  · rw [if_neg hm] at b ⊢
    cases b with
    | x b => exact .x (hx b)
    | e b => exact .e b
    | c g vs b c => exact .c g vs b c
end
theorem get_cons (t : Nat) (x : AV) (env : Env) (u : Nat) : Env.get ((t, x) :: env) u = if u = t then x else env.get u := by
  unfold Env.get; rw [look_cons]; split <;> rfl
theorem get_nil (u : Nat) : Env.get [] u = .und := rfl
end
end Go.Lift
namespace Go.Lift
noncomputable section
open Go Go.RowKit
set_option linter.unusedSimpArgs false
set_option linter.unusedVariables false
set_option linter.unusedSectionVars false
mutual
def lim : AV → Prop
  | .s x => x.size ≤ LIM
  | .sl _ nl xs => xs.length ≤ LIM ∧ (nl = true → xs = []) ∧ limL xs
  | .st fs => limL fs
  | .tup fs => limL fs
  | .pt cs => limL cs
  | .fn _ cs => limL cs
  | _ => True
def limL : List AV → Prop
  | [] => True
  | x :: xs => lim x ∧ limL xs
end
mutual
theorem CR_lim {w : World} {μ : Mu} : ∀ (x : AV) (v : Value), CR w μ x v → lim x
  | .und, _, _ => by simp only [lim]
  | .b x, v, k => by simp only [lim]
  | .i x y, v, k => by simp only [lim]
  | .s x, v, k => by simp only [CR] at k; simp only [lim]; exact k.2
  | .sl n nl xs, v, k => by
    simp only [CR] at k
    simp only [lim]
    rcases k with ⟨e, _⟩ | ⟨e, a, c, _, _, h3, h4⟩
    · subst e; exact ⟨Nat.zero_le _, fun _ => rfl, trivial⟩
    · exact ⟨h3, (fun h => by rw [e] at h; cases h), CRrows_lim n xs a h4⟩
  | .own _ _ _, v, k => by simp only [lim]
  | .st fs, v, k => by
    simp only [CR] at k
    simp only [lim]
    obtain ⟨cs, _, k⟩ := k
    exact CRs_lim fs _ k
  | .tup fs, v, k => by
    simp only [CR] at k
    simp only [lim]
    obtain ⟨cs, _, k⟩ := k
    exact CRs_lim fs _ k
  | .pt cs, v, k => by
    simp only [CR] at k
    simp only [lim]
    obtain ⟨a, _, k⟩ := k
    exact CRcells_lim cs a k
  | .loc _ _ _, v, k => by simp only [lim]
  | .fn f fs, v, k => by
    simp only [CR] at k
    simp only [lim]
    obtain ⟨cs, _, k⟩ := k
    exact CRs_lim fs _ k
  | .nilp, _, _ => by simp only [lim]
  | .nilf, _, _ => by simp only [lim]
  | .raw _, _, _ => by simp only [lim]
theorem CRs_lim {w : World} {μ : Mu} : ∀ (xs : List AV) (vs : List Value), CRs w μ xs vs → limL xs
  | [], vs, k => by simp only [limL]
  | x :: xs, vs, k => by
    simp only [CRs] at k
    simp only [limL]
    obtain ⟨v, r, _, k1, k2⟩ := k
    exact ⟨CR_lim x v k1, CRs_lim xs r k2⟩
theorem CRcells_lim {w : World} {μ : Mu} : ∀ (cs : List AV) (a : Addr), CRcells w μ cs a → limL cs
  | [], a, k => by simp only [limL]
  | x :: xs, a, k => by
    simp only [CRcells] at k
    simp only [limL]
    obtain ⟨⟨u, _, k2⟩, k3⟩ := k
    exact ⟨CR_lim x u k2, CRcells_lim xs _ k3⟩
theorem CRrows_lim {w : World} {μ : Mu} (n : Nat) : ∀ (cs : List AV) (a : Addr), CRrows w μ n cs a → limL cs
  | [], a, k => by simp only [limL]
  | x :: xs, a, k => by
    simp only [limL]
    cases x with
    | st fs => simp only [CRrows] at k; exact ⟨by simp only [lim]; exact CRcells_lim fs a k.1.2, CRrows_lim n xs _ k.2⟩
    | und => simp only [CRrows] at k; obtain ⟨⟨_, u, _, q2⟩, q3⟩ := k; exact ⟨CR_lim _ u q2, CRrows_lim n xs _ q3⟩
    | b x => simp only [CRrows] at k; obtain ⟨⟨_, u, _, q2⟩, q3⟩ := k; exact ⟨CR_lim _ u q2, CRrows_lim n xs _ q3⟩
    | i x y => simp only [CRrows] at k; obtain ⟨⟨_, u, _, q2⟩, q3⟩ := k; exact ⟨CR_lim _ u q2, CRrows_lim n xs _ q3⟩
    | s x => simp only [CRrows] at k; obtain ⟨⟨_, u, _, q2⟩, q3⟩ := k; exact ⟨CR_lim _ u q2, CRrows_lim n xs _ q3⟩
    | sl p q zs => simp only [CRrows] at k; obtain ⟨⟨_, u, _, q2⟩, q3⟩ := k; exact ⟨CR_lim (.sl p q zs) u q2, CRrows_lim n xs _ q3⟩
    | own p q r => simp only [CRrows, CR] at k; obtain ⟨⟨_, u, _, q2⟩, _⟩ := k; exact q2.elim
    | tup zs => simp only [CRrows] at k; obtain ⟨⟨_, u, _, q2⟩, q3⟩ := k; exact ⟨CR_lim (.tup zs) u q2, CRrows_lim n xs _ q3⟩
    | pt zs => simp only [CRrows] at k; obtain ⟨⟨_, u, _, q2⟩, q3⟩ := k; exact ⟨CR_lim (.pt zs) u q2, CRrows_lim n xs _ q3⟩
    | loc p q r => simp only [CRrows, CR] at k; obtain ⟨⟨_, u, _, q2⟩, _⟩ := k; exact q2.elim
    | fn f zs => simp only [CRrows] at k; obtain ⟨⟨_, u, _, q2⟩, q3⟩ := k; exact ⟨CR_lim (.fn f zs) u q2, CRrows_lim n xs _ q3⟩
    | nilp => simp only [CRrows] at k; obtain ⟨⟨_, u, _, q2⟩, q3⟩ := k; exact ⟨CR_lim _ u q2, CRrows_lim n xs _ q3⟩
    | nilf => simp only [CRrows] at k; obtain ⟨⟨_, u, _, q2⟩, q3⟩ := k; exact ⟨CR_lim _ u q2, CRrows_lim n xs _ q3⟩
    | raw _ => simp only [CRrows] at k; obtain ⟨⟨_, u, _, q2⟩, q3⟩ := k; exact ⟨CR_lim _ u q2, CRrows_lim n xs _ q3⟩
end
mutual
theorem VR_lim {w : World} {μ : Mu} : ∀ (x : AV) (v : Value), VR w μ x v → lim x
  | .und, _, _ => by simp only [lim]
  | .b x, v, k => by simp only [lim]
  | .i x y, v, k => by simp only [lim]
  | .s x, v, k => by simp only [VR] at k; exact CR_lim _ v k
  | .sl n nl xs, v, k => by simp only [VR] at k; exact CR_lim _ v k
  | .pt cs, v, k => by simp only [VR] at k; exact CR_lim _ v k
  | .own _ _ _, v, k => by simp only [lim]
  | .loc _ _ _, v, k => by simp only [lim]
  | .st fs, v, k => by
    simp only [VR] at k
    simp only [lim]
    obtain ⟨cs, _, k⟩ := k
    exact VRs_lim fs _ k
  | .tup fs, v, k => by
    simp only [VR] at k
    simp only [lim]
    obtain ⟨cs, _, k⟩ := k
    exact VRs_lim fs _ k
  | .fn f fs, v, k => by
    simp only [VR] at k
    simp only [lim]
    obtain ⟨cs, _, k⟩ := k
    exact VRs_lim fs _ k
  | .nilp, _, _ => by simp only [lim]
  | .nilf, _, _ => by simp only [lim]
  | .raw _, _, _ => by simp only [lim]
theorem VRs_lim {w : World} {μ : Mu} : ∀ (xs : List AV) (vs : List Value), VRs w μ xs vs → limL xs
  | [], vs, k => by simp only [limL]
  | x :: xs, vs, k => by
    simp only [VRs] at k
    simp only [limL]
    obtain ⟨v, r, _, k1, k2⟩ := k
    exact ⟨VR_lim x v k1, VRs_lim xs r k2⟩
end
theorem Awp.lim {P : Program} {W : World} {n N : Nat} {env : Env} {h : Store} {Q : Post} {c : Code} (t : Nat) {x : AV} (ht : env.get t = x) (k : Go.Lift.lim x → Awp P W n N c env h Q) : Awp P W n N c env h Q :=
  fun B w0 μ a w hW hB R => k (ht ▸ VR_lim _ _ (R.env t)) B w0 μ a w hW hB R
theorem pure_of_lim {P : Program} {W : World} {f : FuncId} (he : ∀ (vs : Array Value) (w : World), (callFunc f vs).run P w = .ok (.enter f vs) w) {args : List AV} {r : AV} {S : List Obj} (k : limL args → PureAt P W f args r S) (hM : f < 1000000 := by decide) : PureAt P W f args r S := .plain hM he <| fun w Y vs hG hY hvs => (k (CRs_lim _ _ hvs)).callsP hM w Y vs hG hY hvs
end
end Go.Lift
namespace Go.Lift
noncomputable section
open Go Go.RowKit
set_option linter.unusedSimpArgs false
set_option linter.unusedVariables false
set_option linter.unusedSectionVars false
section
variable {P : Program} {W : World} {f : FuncId}
theorem pure_of_calls (he : ∀ (vs : Array Value) (w : World), (callFunc f vs).run P w = .ok (.enter f vs) w) {args : List AV} {r : AV}
    (k : ∀ (w : World) (Y : Nat → Prop) (vs : List Value), Glob W w → CRs w (mu0 Y) args vs → Calls P f vs.toArray w fun e w' => ∃ v, e = .returned v ∧ VR w' (mu0 Y) r v ∧ Below w.heap.size w w') (hM : f < 1000000 := by decide) : PureAt P W f args r [] := .plain hM he <| fun w Y vs hG hY hvs => (k w Y vs hG hvs).mono fun e w' ⟨v, e1, e2, e3⟩ =>
    ⟨v, mu0 Y, e1, rfl, e2, { below := e3, lt := (by intro _ _ h; cases h), inj := (by intro _ _ _ _ h; cases h), live := (by intro _ _ _ h; cases h), ylt := hY, blk := (by intro _ _ _ _ h; cases h) }, fun _ _ => rfl⟩
def mu1 (Y : Nat → Prop) (s : Slot) : Mu := ⟨fun i => if i = 0 then some (some s) else none, Y⟩
theorem pure_of_row (he : ∀ (vs : Array Value) (w : World), (callFunc f vs).run P w = .ok (.enter f vs) w) {args : List AV} {et : TypeId} {k : Nat} (hk : 0 < k) {els : List AV}
    (kk : ∀ (w : World) (Y : Nat → Prop) (vs : List Value), Glob W w → CRs w (mu0 Y) args vs → Calls P f vs.toArray w fun e w' => ∃ v news, e = .returned v ∧ w'.ownsRow w.heap.size et k v els.length news ∧ v ≠ .slice none 0 0 ∧ Below w.heap.size w w' ∧
      ∀ (j : Nat) x, els[j]? = some x → x.cells.length = k ∧ ∀ (i : Nat) y, x.cells[i]? = some y → ∃ u, news[j * k + i]? = some u ∧ CR w (mu0 Y) y u ∧ u.oneCell' = true) (hM : f < 1000000 := by decide) : PureAt P W f args (.own 0 0 els.length) [⟨et, k, els⟩] := .plain hM he <| fun w Y vs hG hY hvs => (kk w Y vs hG hvs).mono fun e w' ⟨v, news, e1, e2, e3, e4, e5⟩ => by
    obtain ⟨hl, e2 | ⟨g, cap, cur, rfl, hg, hb, hn, hc, hs, ht⟩⟩ := e2
    · exact absurd e2.1 e3
    have hext : Ext w (mu0 Y) w' (mu1 Y ⟨g, cap, k⟩) := by
      refine Ext.of (fun g' hg' _ => e4.block g' hg') (by intro _ _ h; cases h) ?_
      rintro g' (hy | ⟨id, s, hs', rfl⟩)
      · exact Or.inl (Or.inl hy)
      · dsimp only [mu1] at hs'; split at hs' <;> cases hs'; exact Or.inr hg
    have hglt : g < w'.heap.size := (Array.getElem?_eq_some_iff.1 hb).1
    refine ⟨_, mu1 Y ⟨g, cap, k⟩, e1, rfl, ?_, { below := e4, lt := ?_, inj := ?_, live := ?_, ylt := hY, blk := ?_ }, ?_⟩
    · simp only [VR, mu1, if_true]
      exact ⟨_, _, rfl, hn, by omega, rfl, fun _ => by simp⟩
    · intro id s h; dsimp only [mu1] at h; split at h <;> cases h; exact ⟨hg, hglt⟩
    · intro id id' s s' h h' _; dsimp only [mu1] at h h'; split at h <;> cases h; split at h' <;> cases h'; omega
    · intro id o h; dsimp only [mu1]; split <;> simp
    · intro id o s ho h
      dsimp only [mu1] at h; split at h <;> cases h
      rename_i hid; subst hid
      rw [Store.get_S0] at ho
      simp at ho; subst ho
      refine ⟨rfl, hk, hn, hc, cur, hb, hs, fun j x hx => ?_⟩
      obtain ⟨q1, q2⟩ := e5 j x hx
      refine ⟨q1, fun i y hy => ?_⟩
      obtain ⟨u, u1, u2, u3⟩ := q2 i y hy
      refine ⟨u, ?_, VR_of_CR _ _ (CR_mono hext _ _ u2), u3⟩
      rw [← ht] at u1
      rw [List.getElem?_take] at u1
      split at u1
      · simpa using u1
      · cases u1
    · intro id hid; dsimp only [mu1]; rw [if_neg (by simp at hid; omega)]
end
theorem CRs_cons {w : World} {μ : Mu} {x : AV} {xs : List AV} {vs : List Value} : CRs w μ (x :: xs) vs ↔ ∃ v r, vs = v :: r ∧ CR w μ x v ∧ CRs w μ xs r := by simp only [CRs]
theorem CRs_nil {w : World} {μ : Mu} {vs : List Value} : CRs w μ [] vs ↔ vs = [] := by simp only [CRs]
theorem CR_s {w : World} {μ : Mu} {x : ByteArray} {v : Value} : CR w μ (.s x) v ↔ v = .string x ∧ x.size ≤ LIM := by simp only [CR]
theorem CR_i {w : World} {μ : Mu} {k : IntKind} {n : Int} {v : Value} : CR w μ (.i k n) v ↔ v = .int k n := by simp only [CR]
theorem CR_sl {w : World} {μ : Mu} {k : Nat} {nl : Bool} {xs : List AV} {v : Value} : CR w μ (.sl k nl xs) v ↔ (xs = [] ∧ v = .slice none 0 0) ∨
      (nl = false ∧ ∃ a c, v = .slice (some a) xs.length c ∧ xs.length ≤ c ∧ xs.length ≤ LIM ∧ CRrows w μ k xs a) := by simp only [CR]
theorem cell_plain {w : World} {a : Addr} {u : Value} (h : w.cell? a = some u) : a = ⟨a.block, a.off, none⟩ := by
  obtain ⟨b, o, sp⟩ := a
  unfold World.cell? at h
  cases sp with
  | none => rfl
  | some s => simp only [Option.isSome_some, if_true] at h; split at h <;> cases h
theorem CRrows_cells {w : World} {μ : Mu} {k : Nat} {xs : List AV} {a : Addr} (h : CRrows w μ k xs a) (hk : 0 < k) (hx : xs ≠ []) :
    a = ⟨a.block, a.off, none⟩ ∧ a.block < w.heap.size ∧ ∀ (j : Nat) x, xs[j]? = some x → x.cells.length = k ∧ ∀ (i : Nat) y, x.cells[i]? = some y → ∃ u, w.cell? ⟨a.block, a.off + (j * k + i), none⟩ = some u ∧ CR w μ y u ∧ u.oneCell' = true := by
  cases xs with
  | nil => exact absurd rfl hx
  | cons x xs =>
    obtain ⟨h1, h2⟩ := CRrows_get h 0 x rfl
    rw [Nat.zero_mul, add_zero] at h2
    obtain ⟨u, ⟨hu, _, _⟩, _⟩ := CRcells_get h2 0 _ (List.getElem?_eq_getElem (by omega))
    rw [add_zero] at hu
    have ha := cell_plain hu
    refine ⟨ha, cell_lt hu, fun j y hy => ?_⟩
    obtain ⟨q1, q2⟩ := CRrows_get h j y hy
    refine ⟨q1, fun i z hz => ?_⟩
    obtain ⟨u, ⟨r1, _, r3⟩, r4⟩ := CRcells_get q2 i z hz
    rw [add_add, ha, add_plain] at r1
    exact ⟨u, r1, r4, r3⟩
theorem CRrows_strs {w : World} {μ : Mu} {xs : List ByteArray} {a : Addr} (h : CRrows w μ 1 (xs.map .s) a) (hx : xs ≠ []) :
    a = ⟨a.block, a.off, none⟩ ∧ a.block < w.heap.size ∧ ∀ (j : Nat) x, xs[j]? = some x → w.cell? ⟨a.block, a.off + j, none⟩ = some (.string x) ∧ x.size ≤ LIM := by
  obtain ⟨h1, h2, h3⟩ := CRrows_cells h (by omega) (by simpa using hx)
  refine ⟨h1, h2, fun j x hj => ?_⟩
  obtain ⟨q1, q2⟩ := h3 j (.s x) (by simp [hj])
  obtain ⟨u, r1, r2, _⟩ := q2 0 (.s x) rfl
  rw [CR_s] at r2
  obtain ⟨rfl, r2⟩ := r2
  exact ⟨by simpa using r1, r2⟩
end
end Go.Lift
namespace Go.Lift
noncomputable section
open Go Go.RowKit
set_option linter.defProp false
theorem ev_tmp (env : Env) (k : Nat) (t : Tmp) : ev env k (.tmp t) = some (env.get t) := rfl
theorem ev_const (env : Env) (k : Nat) (v : Value) : ev env k (.const v) = lit k v := rfl
theorem ev_func (env : Env) (k : Nat) (f : FuncId) (h : f ≤ 999999) : ev env k (.func f) = some (.fn f []) := by
  show cond (Nat.ble f 999999) (some (AV.fn f [])) none = _
  rw [Nat.ble_eq_true_of_le h]; rfl
theorem lit_b (k : Nat) (b : Bool) : lit k (.bool b) = some (.b b) := rfl
theorem lit_i (k : Nat) (t : IntKind) (n : Int) : lit k (.int t n) = some (.i t n) := rfl
theorem lit_nil (k : Nat) : lit k (.slice none 0 0) = some (.sl k true []) := rfl
theorem lit_np (k : Nat) : lit k (.pointer none) = some .nilp := rfl
theorem lit_nf (k : Nat) : lit k .nilFunc = some .nilf := rfl
theorem lit_s (k : Nat) (l : List UInt8) : lit k (.string ⟨⟨l⟩⟩) = if l.length ≤ LIM then some (.s ⟨⟨l⟩⟩) else none := rfl
theorem agg_1 : TD.agg .bool = false := rfl
theorem agg_2 (k : IntKind) : TD.agg (.int k) = false := rfl
theorem agg_3 : TD.agg .str = false := rfl
theorem agg_4 (e : TypeId) : TD.agg (.slice e) = false := rfl
theorem agg_5 (l : List (Nat × TypeId)) : TD.agg (.struct l) = true := rfl
theorem agg_6 (n : Nat) (e : TypeId) : TD.agg (.arr n e) = true := rfl
theorem agg_7 : TD.agg .other = false := rfl
theorem cells_st (fs : List AV) : AV.cells (.st fs) = fs := rfl
theorem cells_i (k : IntKind) (n : Int) : AV.cells (.i k n) = [.i k n] := rfl
theorem cells_s (x : ByteArray) : AV.cells (.s x) = [.s x] := rfl
theorem cells_b (x : Bool) : AV.cells (.b x) = [.b x] := rfl
theorem cells_sl (k : Nat) (nl : Bool) (xs : List AV) : AV.cells (.sl k nl xs) = [.sl k nl xs] := rfl
theorem cells_own (a b c : Nat) : AV.cells (.own a b c) = [.own a b c] := rfl
theorem cells_loc (a b c : Nat) : AV.cells (.loc a b c) = [.loc a b c] := rfl
theorem cells_pt (cs : List AV) : AV.cells (.pt cs) = [.pt cs] := rfl
theorem cells_nilp : AV.cells .nilp = [.nilp] := rfl
theorem cells_nilf : AV.cells .nilf = [.nilf] := rfl
theorem cells_fn (f : FuncId) (cs : List AV) : AV.cells (.fn f cs) = [.fn f cs] := rfl
theorem oneIn_i (h : Store) (k : IntKind) (n : Int) : oneIn h (.i k n) = true := rfl
theorem oneIn_b (h : Store) (b : Bool) : oneIn h (.b b) = true := rfl
theorem oneIn_s (h : Store) (b : ByteArray) : oneIn h (.s b) = true := rfl
theorem oneIn_sl (h : Store) (k : Nat) (b : Bool) (xs : List AV) : oneIn h (.sl k b xs) = true := rfl
theorem oneIn_own (h : Store) (a b c : Nat) : oneIn h (.own a b c) = (h.get a).isSome := rfl
theorem oneIn_loc (h : Store) (a b c : Nat) : oneIn h (.loc a b c) = (h.get a).isSome := rfl
theorem oneIn_pt (h : Store) (cs : List AV) : oneIn h (.pt cs) = true := rfl
theorem oneIn_fn (h : Store) (f : FuncId) (cs : List AV) : oneIn h (.fn f cs) = true := rfl
theorem oneIn_np (h : Store) : oneIn h .nilp = true := rfl
theorem oneIn_nf (h : Store) : oneIn h .nilf = true := rfl
def BB := And.intro @get_cons (And.intro @get_nil (And.intro @qop.eq_1 (And.intro @nop.eq_1 (And.intro @eop.eq_1 (And.intro @callee.eq_1 (And.intro @evArgs.eq_1 (And.intro @evArgs.eq_2 (And.intro @evArgs.eq_3 (And.intro @ev_tmp (And.intro @ev_const (And.intro @ev_func (And.intro @lit_b (And.intro @lit_i (And.intro @lit_nil (And.intro @lit_np (And.intro @lit_nf (And.intro @lit_s (And.intro @kOf.eq_1 (And.intro @elemT.eq_1 (And.intro @sizeT.eq_1 (And.intro @descOf.eq_1 (And.intro @agg_1 (And.intro @agg_2 (And.intro @agg_3 (And.intro @agg_4 (And.intro @agg_5 (And.intro @agg_6 (And.intro @agg_7 (And.intro @argEnv.eq_1 (And.intro @argEnv.eq_2 (And.intro @qcall.eq_1 (And.intro @fillAV.eq_1 (And.intro @fillAV.eq_2 (And.intro @fillEls.eq_1 (And.intro @fillEls.eq_2 (And.intro @puny.eq_def (And.intro @cellsIn.eq_1 (And.intro @pbin.eq_def (And.intro @pint.eq_def (And.intro @pstr.eq_def (And.intro @memAt.eq_1 (And.intro @partOf.eq_1 (And.intro @evs.eq_1 (And.intro @evs.eq_2 (And.intro @bdOf.eq_1 (And.intro @intOfAV.eq_1 (And.intro @pconv.eq_def (And.intro @elsOf.eq_1 (And.intro @cells_st (And.intro @cells_i (And.intro @cells_s (And.intro @cells_b (And.intro @cells_sl (And.intro @cells_own (And.intro @cells_loc (And.intro @cells_pt (And.intro @cells_nilp (And.intro @cells_fn (And.intro @cells_nilf (And.intro @oneIn_i (And.intro @oneIn_b (And.intro @oneIn_s (And.intro @oneIn_sl (And.intro @oneIn_own (And.intro @oneIn_loc (And.intro @oneIn_pt (And.intro @oneIn_fn (And.intro @oneIn_np (And.intro @oneIn_nf (And.intro @elsOf.eq_2 (And.intro @memAt.eq_2 (And.intro @bdOf.eq_2 (And.intro @Store.new.eq_1 (And.intro @Store.put.eq_1 (And.intro @putL_nil (And.intro @putL_cons (And.intro @Store.get.eq_1 (And.intro @look_nil (And.intro @look_cons (And.intro @cutAV.eq_def (@bnd.eq_1)))))))))))))))))))))))))))))))))))))))))))))))))))))))))))))))))))))))))))))))))
def BC := And.intro @Option.bind_some.{0,0} (And.intro @Option.bind_none.{0,0} (And.intro @Option.map_some.{0,0} (And.intro @Option.isSome_some.{0} (And.intro @List.all_cons.{0} (And.intro @List.all_nil.{0} (And.intro @Bool.and_true (And.intro @Bool.true_and (And.intro @List.getElem?_cons_zero.{0} (And.intro @List.getElem?_cons_succ.{0} (And.intro @List.drop_zero.{0} (And.intro @List.drop_succ_cons.{0} (And.intro @List.take_zero.{0} (And.intro @List.take_succ_cons.{0} (And.intro @List.length_cons.{0} (And.intro @List.length_nil.{0} (And.intro @List.nil_append.{0} (And.intro @List.cons_append.{0} (And.intro @List.append_nil.{0} (And.intro @List.toList_toArray.{0} (And.intro @Int.toNat_natCast (And.intro @true_and (And.intro @and_true (And.intro @ne_eq.{1} (And.intro @not_false_eq_true (And.intro @not_true_eq_false (And.intro @Int.natCast_nonneg (And.intro @and_self (And.intro @false_and (And.intro @and_false (And.intro @List.getElem?_map.{0,0} (And.intro @List.length_map.{0,0} (And.intro @List.length_append.{0} (And.intro @List.length_take.{0} (And.intro @List.length_drop.{0} (And.intro @Bool.false_and (And.intro @Bool.and_false (And.intro @Bool.not_true (And.intro @Bool.not_false (And.intro @List.all_append.{0} (And.intro @List.length_replicate.{0} (And.intro @Option.join_some.{0} (And.intro @Option.getD_some.{0} (And.intro @Option.getD_none.{0} (And.intro @Option.isSome_none.{0} (And.intro @List.replicate_succ.{0} (And.intro @List.replicate_zero.{0} (And.intro @List.set_cons_zero.{0} (And.intro @List.set_cons_succ.{0} (And.intro @Int.toNat_zero (And.intro @Nat.sub_zero (And.intro @Nat.zero_add (And.intro @Nat.add_zero (@Int.le_refl)))))))))))))))))))))))))))))))))))))))))))))))))))))
end
end Go.Lift
namespace Go.Lift
noncomputable section
open Go Go.RowKit
set_option linter.unusedSectionVars false
set_option linter.unusedSimpArgs false
set_option linter.unusedVariables false
structure Strs where
  nl : Bool
  xs : List ByteArray
def Strs.av (s : Strs) : AV := .sl 1 s.nl (s.xs.map .s)
structure EdgeD where
  outs : Strs
  ins : Strs
  implicit : Strs
  order : Strs
  command : ByteArray
  deps : Bool
  pool : ByteArray
def EdgeD.av (e : EdgeD) : AV := .st [e.outs.av, e.ins.av, e.implicit.av, e.order.av, .s e.command, .b e.deps, .s e.pool]
structure PoolD where
  name : ByteArray
  depth : Int
def PoolD.av (p : PoolD) : AV := .st [.s p.name, .i .i64 p.depth]
structure GraphD where
  enl : Bool
  edges : List EdgeD
  pnl : Bool
  pools : List PoolD
  defaults : Strs
def GraphD.av (g : GraphD) : AV := .st [.sl 7 g.enl (g.edges.map EdgeD.av), .sl 2 g.pnl (g.pools.map PoolD.av), g.defaults.av]
theorem wrap_i64 {n : Int} (h1 : -9223372036854775808 ≤ n) (h2 : n < 9223372036854775808) : IntKind.i64.wrap n = n := by
  show (if (true && decide (n % (18446744073709551616 : Int) ≥ (9223372036854775808 : Int))) = true then n % (18446744073709551616 : Int) - (18446744073709551616 : Int) else n % (18446744073709551616 : Int)) = n
  simp only [Bool.true_and, decide_eq_true_eq]
  split <;> omega
theorem wrap_succ {i n : Nat} (h : i < n) (hn : n ≤ 281474976710656) : IntKind.i64.wrap ((i : Int) + 1) = ((i + 1 : Nat) : Int) := by
  rw [wrap_i64 (by omega) (by omega)]; omega
theorem all_false {α : Type} {xs : List α} {i : Nat} {x : α} {f : α → Bool} (hx : xs[i]? = some x) (h : f x = false) : xs.all f = false := by
  rw [List.all_eq_false]
  exact ⟨x, List.mem_of_getElem? hx, by simp [h]⟩
theorem all_take_succ {α : Type} {xs : List α} {i : Nat} {x : α} {f : α → Bool} (hx : xs[i]? = some x) (hp : (xs.take i).all f = true) (h : f x = true) : (xs.take (i + 1)).all f = true := by
  rw [List.take_add_one, hx]
  simp [hp, h]
theorem all_take_all {α : Type} {xs : List α} {i : Nat} {f : α → Bool} (hp : (xs.take i).all f = true) (h : xs.length ≤ i) : xs.all f = true := by
  rwa [List.take_of_length_le h] at hp
theorem fits0 {env env' : Env} {h : Store} (k : FitsEnv [] h env env') : Fits [] env h env' ⟨0, []⟩ := ⟨List.nodup_nil, rfl, trivial, k⟩
theorem finV_closed {keep : List Nat} {h : Store} {d : Nat} {x : AV} (hc : closed x = true) : finV keep h (d + 1) x = some x := by
  cases x with
  | own _ _ _ => simp [closed] at hc
  | loc _ _ _ => simp [closed] at hc
  | st fs => simp only [closed] at hc; simp only [finV, mapC, hc, if_true, Option.map_some]
  | tup fs => simp only [closed] at hc; simp only [finV, mapC, hc, if_true, Option.map_some]
  | fn f fs => simp only [closed] at hc; simp only [finV, mapC, hc, if_true, Option.map_some]
  | _ => rfl
def varS (b : Int) : Bool := decide (97 ≤ b) && decide (b ≤ 122) || decide (48 ≤ b) && decide (b ≤ 57) || decide (b = 95)
def SameEnv (env : Env) : Env → Prop
  | [] => True
  | (t, x) :: r => env.get t = x ∧ closed x = true ∧ SameEnv env r
theorem SameEnv.fits {keep : List Nat} {h : Store} {env : Env} : ∀ {env' : Env}, SameEnv env env' → FitsEnv keep h env env'
  | [], _ => trivial
  | (t, x) :: r, k => ⟨by rw [k.1]; exact finV_closed k.2.1, SameEnv.fits k.2.2⟩
theorem fitsC {env env' : Env} {h : Store} (k : SameEnv env env') : Fits [] env h env' ⟨0, []⟩ := fits0 k.fits
theorem keep0 {keep : List Nat} : ∀ i, i < 0 → keep[i]? = some i := fun i h => absurd h (Nat.not_lt_zero i)
end
end Go.Lift
namespace Go.Lift
noncomputable section
open Go Go.RowKit
set_option linter.unusedSectionVars false
set_option linter.unusedSimpArgs false
set_option linter.unusedVariables false
def splitL (c : UInt8) : List UInt8 → List (List UInt8)
  | [] => [[]]
  | b :: l => if b = c then [] :: splitL c l else match splitL c l with
    | [] => [[b]]
    | p :: r => (b :: p) :: r
theorem index_nil (c : UInt8) : Lib.index [] [c] = -1 := by simp [Lib.index]
theorem index_cons (c b : UInt8) (l : List UInt8) : Lib.index (b :: l) [c] = if b = c then 0 else if Lib.index l [c] = -1 then -1 else Lib.index l [c] + 1 := by
  conv => lhs; unfold Lib.index
  by_cases h : b = c
  · subst h; simp
  · have : (c == b) = false := by simpa using fun e => h e.symm
    have h' : ¬ c = b := fun e => h e.symm
    simp [h, h', this]
theorem splitK_byte (c : UInt8) : ∀ l : List UInt8, Lib.splitK [c] 0 (Lib.count l [c]) l = splitL c l ∧ (Lib.splitK [c] 0 (Lib.count l [c]) l).length = Lib.count l [c] + 1
  | [] => by rw [Lib.count_miss (index_nil c)]; exact ⟨rfl, rfl⟩
  | b :: l => by
    obtain ⟨ih1, ih2⟩ := splitK_byte c l
    have hx := index_cons c b l
    by_cases h : b = c
    · rw [if_pos h] at hx
      have hc := Lib.count_hit (sub := [c]) (i := 0) (by simp) hx
      simp only [Nat.zero_add, List.length_singleton, List.drop_succ_cons, List.drop_zero] at hc
      rw [hc, Nat.add_comm 1]
      have e : Lib.splitK [c] 0 (Lib.count l [c] + 1) (b :: l) = [] :: Lib.splitK [c] 0 (Lib.count l [c]) l := by
        conv => lhs; unfold Lib.splitK
        rw [hx]; simp
      rw [e, ih1]
      refine ⟨by simp [splitL, h], ?_⟩
      rw [← ih1]; simp only [List.length_cons, ih2]
    · rw [if_neg h] at hx
      by_cases hm : Lib.index l [c] = -1
      · rw [if_pos hm] at hx
        rw [Lib.count_miss hx]
        rw [Lib.count_miss hm] at ih1
        refine ⟨?_, rfl⟩
        simp only [splitL, if_neg h]
        rw [← ih1]; rfl
      · rw [if_neg hm] at hx
        obtain ⟨i, hi⟩ : ∃ i : Nat, Lib.index l [c] = i := ⟨(Lib.index l [c]).toNat, by have := Lib.index_ge l [c]; omega⟩
        rw [hi] at hx
        have hc := Lib.count_hit (sub := [c]) (i := i + 1) (by simp) (by rw [hx]; rfl)
        have hc2 := Lib.count_hit (sub := [c]) (i := i) (by simp) hi
        simp only [List.length_singleton, List.drop_succ_cons] at hc hc2
        rw [hc2] at ih1 ih2
        rw [hc]
        have hn : ∀ n, Lib.splitK [c] 0 (n + 1) (b :: l) = (b :: l.take i) :: Lib.splitK [c] 0 n (l.drop (i + 1)) := by
          intro n
          conv => lhs; unfold Lib.splitK
          rw [hx, if_neg (by simp only [beq_iff_eq]; omega)]
          have : ((i : Int) + 1).toNat = i + 1 := by omega
          simp [this]
        have hn2 : ∀ n, Lib.splitK [c] 0 (n + 1) l = l.take i :: Lib.splitK [c] 0 n (l.drop (i + 1)) := by
          intro n
          conv => lhs; unfold Lib.splitK
          rw [hi, if_neg (by simp only [beq_iff_eq]; omega)]
          simp
        rw [Nat.add_comm 1] at ih1 ih2 ⊢
        rw [hn2] at ih1 ih2
        rw [hn]
        simp only [splitL, if_neg h]
        rw [← ih1]
        refine ⟨rfl, ?_⟩
        simpa using ih2
theorem splitL_len (c : UInt8) : ∀ (l p : List UInt8), p ∈ splitL c l → p.length ≤ l.length
  | [], p, h => by simp [splitL] at h; simp [h]
  | b :: l, p, h => by
    simp only [splitL] at h
    split at h
    · rcases List.mem_cons.1 h with rfl | h
      · simp
      · have := splitL_len c l p h; simp; omega
    · split at h
      · simp at h; simp [h]
      · rename_i q r hq
        rcases List.mem_cons.1 h with rfl | h
        · have := splitL_len c l q (by rw [hq]; simp); simp; omega
        · have := splitL_len c l p (by rw [hq]; simp [h]); simp; omega
def toBA (l : List UInt8) : ByteArray := ⟨l.toArray⟩
theorem toBA_data (l : List UInt8) : (toBA l).data.toList = l := by simp [toBA]
theorem toBA_toList (s : ByteArray) : toBA s.data.toList = s := rfl
theorem ba_ext {a b : ByteArray} (h : a.data.toList = b.data.toList) : a = b := by
  rw [← toBA_toList a, ← toBA_toList b, h]
theorem splitB_byte (c : UInt8) (s : ByteArray) : Lib.splitB ⟨#[c]⟩ 0 (Lib.countB s ⟨#[c]⟩) s = (splitL c s.data.toList).map toBA ∧ (Lib.splitB ⟨#[c]⟩ 0 (Lib.countB s ⟨#[c]⟩) s).length = Lib.countB s ⟨#[c]⟩ + 1 := by
  have hd := Lib.splitB_data ⟨#[c]⟩ 0 (Lib.countB s ⟨#[c]⟩) s
  obtain ⟨h1, h2⟩ := splitK_byte c s.data.toList
  have e : Lib.splitB ⟨#[c]⟩ 0 (Lib.countB s ⟨#[c]⟩) s = (splitL c s.data.toList).map toBA := by
    rw [← h1]
    have hd' : (Lib.splitB ⟨#[c]⟩ 0 (Lib.countB s ⟨#[c]⟩) s).map (·.data.toList) = Lib.splitK [c] 0 (Lib.count s.data.toList [c]) s.data.toList := hd
    rw [← hd', List.map_map]
    conv => lhs; rw [← List.map_id (Lib.splitB ⟨#[c]⟩ 0 (Lib.countB s ⟨#[c]⟩) s)]
    rfl
  refine ⟨e, ?_⟩
  rw [e, List.length_map, ← h1]
  exact h2
theorem wrap_u8 {n : Nat} (h : n < 256) : IntKind.u8.wrap (n : Int) = (n : Int) := by
  show (if (false && decide ((n : Int) % (256 : Int) ≥ (128 : Int))) = true then (n : Int) % (256 : Int) - (256 : Int) else (n : Int) % (256 : Int)) = (n : Int)
  simp only [Bool.false_and, Bool.false_eq_true, if_false]
  omega
def oneS (x : Nat) : Bool := decide (x < 128) && (varS x || (x == 46 || x == 45 || x == 47))
theorem index3 {x : Nat} (h : x < 128) : decide (0 ≤ Lib.indexByte [46, 45, 47] (Int.toNat (x : Int)).toUInt8) = (x == 46 || x == 45 || x == 47) := by
  rw [Int.toNat_natCast]
  have : ∀ x : _root_.Fin 128, decide (0 ≤ Lib.indexByte [46, 45, 47] (x.1).toUInt8) = (x.1 == 46 || x.1 == 45 || x.1 == 47) := by decide
  exact this ⟨x, h⟩
end
end Go.Lift
namespace Go.Lift
noncomputable section
open Go Go.RowKit
set_option linter.unusedSectionVars false
set_option linter.unusedSimpArgs false
set_option linter.unusedVariables false
def byteOk (b : UInt8) : Bool := oneS b.toNat
def mayL (l : List UInt8) : Bool := !l.isEmpty && decide (l.length ≤ 16) && l.all byteOk
def mayS (s : ByteArray) : Bool := mayL s.data.toList
theorem oneS_big {x : Nat} (h : 128 ≤ x) : oneS x = false := by
  unfold oneS
  have : ¬ x < 128 := by omega
  simp [this]
theorem idxFrom_ok (s : ByteArray) : ∀ (f pos : Nat), s.size ≤ pos + f → (0 ≤ Lib.idxFuncFrom (fun r => !oneS r) true s f pos ↔ (s.data.toList.drop pos).all byteOk = false)
  | 0, pos, h => by
    have : s.data.toList.drop pos = [] := List.drop_eq_nil_of_le (by rw [Array.length_toList]; exact h)
    rw [this]
    simp [Lib.idxFuncFrom]
  | f + 1, pos, h => by
    unfold Lib.idxFuncFrom
    by_cases hp : pos < s.size
    · rw [if_pos hp]
      have hp' : pos < s.data.toList.length := by rw [Array.length_toList]; exact hp
      have hg : s.data.toList.drop pos = (s[pos]'hp) :: s.data.toList.drop (pos + 1) := by
        rw [List.drop_eq_getElem_cons hp']; rfl
      rw [hg]
      simp only [List.all_cons]
      by_cases ha : (s[pos]'hp).toNat < 128
      · rw [decode_ascii s pos hp ha]
        simp only []
        have ih := idxFrom_ok s f (pos + 1) (by omega)
        have hb : byteOk (s[pos]'hp) = oneS (s[pos]'hp).toNat := rfl
        by_cases ho : oneS (s[pos]'hp).toNat = true
        · rw [if_neg (by simp [ho]), ih, hb, ho]; simp
        · simp only [Bool.not_eq_true] at ho
          rw [if_pos (by simp [ho]), hb, ho]; simp
      · obtain ⟨h1, h2⟩ := decode_high s pos hp (by omega)
        have hb : byteOk (s[pos]'hp) = false := oneS_big (by omega)
        rw [if_pos (by rw [oneS_big h1]; rfl), hb]; simp
    · rw [if_neg hp]
      have : s.data.toList.drop pos = [] := List.drop_eq_nil_of_le (by rw [Array.length_toList]; have : s.data.size = s.size := rfl; omega)
      rw [this]; simp
theorem mayS_eq (s : ByteArray) : mayS s = (!decide (s = ⟨#[]⟩) && decide ((s.size : Int) ≤ 16) && !decide (0 ≤ Lib.idxFunc (fun r => !oneS r) true s)) := by
  have h := idxFrom_ok s s.size 0 (by omega)
  rw [List.drop_zero] at h
  have hl : s.data.toList.length = s.size := by rw [Array.length_toList]; rfl
  unfold mayS mayL
  rw [hl]
  have e1 : s.data.toList.isEmpty = decide (s = ⟨#[]⟩) := by
    rw [Bool.eq_iff_iff, decide_eq_true_eq, List.isEmpty_iff]
    constructor
    · intro e; exact ba_ext (by simpa using e)
    · rintro rfl; rfl
  have e2 : decide (s.size ≤ 16) = decide ((s.size : Int) ≤ 16) := by rw [decide_eq_decide]; omega
  have e3 : s.data.toList.all byteOk = !decide (0 ≤ Lib.idxFunc (fun r => !oneS r) true s) := by
    unfold Lib.idxFunc
    cases e : s.data.toList.all byteOk with
    | false => rw [decide_eq_true (h.2 e)]; rfl
    | true => rw [decide_eq_false (fun q => by rw [h.1 q] at e; cases e)]; rfl
  rw [e1, e2, e3]
end
end Go.Lift
namespace Go.Lift
noncomputable section
open Go Go.RowKit
set_option linter.unusedSectionVars false
set_option linter.unusedSimpArgs false
set_option linter.unusedVariables false
def stepB (kept : List ByteArray) (p : ByteArray) : Option (List ByteArray) :=
  if p = ⟨#[]⟩ ∨ p = ⟨#[46]⟩ then some kept else if p ≠ ⟨#[46, 46]⟩ then some (kept ++ [p]) else if kept = [] then none else some kept.dropLast
def foldB : List ByteArray → List ByteArray → Option (List ByteArray)
  | [], kept => some kept
  | p :: ps, kept => (stepB kept p).bind (foldB ps)
def joinB (xs : List ByteArray) : ByteArray := ⟨(Lib.join (xs.map (·.data.toList)) [47]).toArray⟩
def cleanS (s : ByteArray) : ByteArray × Int :=
  if mayS s = false ∨ s.data.toList.head? = some 47 then (⟨#[]⟩, 200) else
  match foldB ((splitL 47 s.data.toList).map toBA) [] with
  | some (k :: ks) => (joinB (k :: ks), 0)
  | _ => (⟨#[]⟩, 200)
theorem foldB_drop {ps : List ByteArray} {i : Nat} {p : ByteArray} (h : ps[i]? = some p) (kept : List ByteArray) : foldB (ps.drop i) kept = (stepB kept p).bind (foldB (ps.drop (i + 1))) := by
  have hlt := (List.getElem?_eq_some_iff.1 h).1
  have e := (List.getElem?_eq_some_iff.1 h).2
  rw [List.drop_eq_getElem_cons hlt, e]; rfl
theorem splitL_count (c : UInt8) : ∀ l : List UInt8, (splitL c l).length ≤ l.length + 1
  | [] => by simp [splitL]
  | b :: l => by
    have := splitL_count c l
    simp only [splitL]
    split
    · simp; omega
    · split
      · simp
      · rename_i p r h; rw [h] at this; simp at this ⊢; omega
theorem closedL_s (xs : List ByteArray) : closedL (xs.map AV.s) = true := by
  rw [closedL_all]; simp [closed]
def KeptIs (T : TypeId) (x : AV) (h : Store) (kept : List ByteArray) : Prop :=
  (x = .sl 1 true [] ∧ kept = [] ∧ h = ⟨0, []⟩) ∨ ∃ junk : List ByteArray, x = .own 0 0 kept.length ∧ h = ⟨1, [(0, some ⟨T, 1, (kept ++ junk).map AV.s⟩)]⟩
end
end Go.Lift
namespace Go.Lift
noncomputable section
open Go Go.RowKit
set_option linter.unusedSectionVars false
set_option linter.unusedSimpArgs false
set_option linter.unusedVariables false
theorem add_one (h : Store) (e k : Nat) (els : List AV) (hc : closedL els = true) : h.add [⟨e, k, els⟩] = ⟨h.next + 1, (h.next, some ⟨e, k, els⟩) :: h.objs⟩ := by
  have : Obj.ren (· + h.next) ⟨e, k, els⟩ = ⟨e, k, els⟩ := by simp only [Obj.ren, renEls, hc, if_true]
  simp only [Store.add, addObjs, List.length_singleton, this]
theorem ren_own (n id off len : Nat) : (AV.own id off len).ren (· + n) = .own (id + n) off len := rfl
section
variable {P : Program} {W : World} {T : Tab} {n : Nat} {ops : Array Oper} {d : Tmp} {op : Op} {ty : TypeId} {pos : String} {af : Array Edge} {r : List Oper} {env : Env} {h : Store} {Q : Env → Store → Prop}
theorem AOps.sr {g : FuncId} {vs : List AV} {e k len : Nat} {els : List AV} (hc : callee T (ev env) ⟨some d, op, ty, pos, af, none⟩ = some (g, vs)) (hcl : closedL vs = true) (hp : PureAt P W g vs (.own 0 0 len) [⟨e, k, els⟩]) (he : closedL els = true) (hd : d < n)
    (kk : AOps P W T n ops r ((d, .own h.next 0 len) :: env) ⟨h.next + 1, (h.next, some ⟨e, k, els⟩) :: h.objs⟩ Q) : AOps P W T n ops (⟨some d, op, ty, pos, af, none⟩ :: r) env h Q :=
  AOps.sc hc hcl hp hd (by rw [add_one _ _ _ _ he, ren_own, Nat.zero_add]; exact kk)
theorem AOps.sfr {g : FuncId} {vs ss : List AV} {e k len : Nat} {els : List AV} (hc : callee T (ev env) ⟨some d, op, ty, pos, af, none⟩ = some (g, vs)) (hs : mapC (snapC [] h 8) vs = some ss) (hp : PureAt P W g ss (.own 0 0 len) [⟨e, k, els⟩]) (he : closedL els = true)
    (hF : els.all (fun y => y.cells.all flat) = true) (hd : d < n)
    (kk : AOps P W T n ops r ((d, .own h.next 0 len) :: env) ⟨h.next + 1, (h.next, some ⟨e, k, els⟩) :: h.objs⟩ Q) : AOps P W T n ops (⟨some d, op, ty, pos, af, none⟩ :: r) env h Q :=
  AOps.sf hc hs hp rfl (by simpa using hF) hd (by rw [add_one _ _ _ _ he, ren_own, Nat.zero_add]; exact kk)
end
theorem finV_own_s {keep : List Nat} {h : Store} {d id off len e : Nat} {xs : List ByteArray} (hk : posOf keep id = none) (hn : keep.contains id = false) (hg : h.get id = some ⟨e, 1, xs.map .s⟩) (hl : off + len ≤ xs.length) (hL : len ≤ LIM) :
    finV keep h (d + 1) (.own id off len) = some (.sl 1 false (((xs.drop off).take len).map .s)) := by
  simp only [finV, hk, snapC, hn, hg]
  have : ((xs.map AV.s).drop off).take len = ((xs.drop off).take len).map AV.s := by rw [← List.map_drop, ← List.map_take]
  rw [if_neg (by simp), if_pos ⟨by rw [List.length_map]; exact hl, hL⟩, this]
  simp only [mapC, closedL_s, if_true, Option.map_some]
theorem snapC_own_s {h : Store} {d id off len e : Nat} {xs : List ByteArray} (hg : h.get id = some ⟨e, 1, xs.map .s⟩) (hl : off + len ≤ xs.length) (hL : len ≤ LIM) :
    snapC [] h (d + 1) (.own id off len) = some (.sl 1 false (((xs.drop off).take len).map .s)) := by
  simp only [snapC, hg]
  have : ((xs.map AV.s).drop off).take len = ((xs.drop off).take len).map AV.s := by rw [← List.map_drop, ← List.map_take]
  rw [if_neg (by simp), if_pos ⟨by rw [List.length_map]; exact hl, hL⟩, this]
  simp only [mapC, closedL_s, if_true, Option.map_some]
theorem finO_s {keep : List Nat} {h : Store} {d e k : Nat} {xs : List ByteArray} : finO keep h d ⟨e, k, xs.map .s⟩ = some ⟨e, k, xs.map .s⟩ := by
  simp only [finO, mapC, closedL_s, if_true, Option.map_some]
theorem fitsO_s {keep : List Nat} {h h' : Store} {d id q e k : Nat} {xs : List ByteArray} (hg : h.get id = some ⟨e, k, xs.map .s⟩) (hg' : h'.get q = some ⟨e, k, xs.map .s⟩) : (h.get id).bind (finO keep h d) = h'.get q := by
  rw [hg, hg']; exact finO_s
theorem joinTail_len : ∀ (r : List (List UInt8)), (∀ x ∈ r, x.length ≤ 16) → (Lib.joinTail [47] r).length ≤ 17 * r.length
  | [], _ => by simp [Lib.joinTail]
  | x :: r, h => by
    have ih := joinTail_len r fun y hy => h y (by simp [hy])
    have hx := h x (by simp)
    simp only [Lib.joinTail, List.map_cons, List.flatten_cons, List.length_append, List.length_cons] at ih ⊢
    simp only [List.length_nil]
    omega
theorem join_len (xs : List (List UInt8)) (h : ∀ x ∈ xs, x.length ≤ 16) : (Lib.join xs [47]).length ≤ 17 * xs.length := by
  cases xs with
  | nil => simp [Lib.join_nil]
  | cons x r =>
    rw [Lib.join_cons]
    have := joinTail_len r fun y hy => h y (by simp [hy])
    have := h x (by simp)
    simp only [List.length_append, List.length_cons]
    omega
theorem snap_join {h : Store} {e n : Nat} {xs : List ByteArray} {sep : ByteArray} (hg : h.get 0 = some ⟨e, 1, xs.map .s⟩) (hl : n ≤ xs.length) (hL : n ≤ LIM) :
    mapC (snapC [] h 8) [.own 0 0 n, .s sep] = some [.sl 1 false ((xs.take n).map .s), .s sep] := by
  have h1 := snapC_own_s (d := 7) (off := 0) hg (by omega) hL
  rw [List.drop_zero] at h1
  simp only [mapC, closedL, closed, Bool.false_and, Bool.false_eq_true, if_false, mapO, h1]
  rfl
theorem wrap_pred {n : Nat} (h : 0 < n) (hn : n ≤ 281474976710656) : IntKind.i64.wrap ((n : Int) - 1) = ((n - 1 : Nat) : Int) := by
  rw [wrap_i64 (by omega) (by omega)]; omega
end
end Go.Lift
namespace Go.Lift
noncomputable section
open Go Go.RowKit
set_option linter.unusedSectionVars false
set_option linter.unusedSimpArgs false
set_option linter.unusedVariables false
def isS (s : ByteArray) : Bool := decide ((cleanS s).2 = 0) && decide ((cleanS s).1 = s)
theorem closed_strs (s : Strs) : closed s.av = true := rfl
theorem closed_pool (p : PoolD) : closed p.av = true := rfl
theorem closed_graph (g : GraphD) : closed g.av = true := rfl
def idxS {α : Type} (p : α → Bool) (xs : List α) : Int := match xs.findIdx? p with
  | some i => (i : Int)
  | none => -1
theorem idxS_at {α : Type} {p : α → Bool} {xs : List α} {i : Nat} {x : α} (hx : xs[i]? = some x) (hp : (xs.take i).all (fun x => !p x) = true) (h : p x = true) : idxS p xs = i := by
  obtain ⟨hlt, rfl⟩ := List.getElem?_eq_some_iff.1 hx
  have : xs.findIdx? p = some i := by
    rw [List.findIdx?_eq_some_iff_getElem]
    refine ⟨hlt, h, fun j hj => ?_⟩
    have := List.all_eq_true.1 hp xs[j] (by
      rw [List.mem_take_iff_getElem]
      exact ⟨j, by omega, rfl⟩)
    simpa using this
  unfold idxS; rw [this]
theorem idxS_none {α : Type} {p : α → Bool} {xs : List α} (hp : xs.all (fun x => !p x) = true) : idxS p xs = -1 := by
  have : xs.findIdx? p = none := by
    rw [List.findIdx?_eq_none_iff]
    intro x hx
    simpa using List.all_eq_true.1 hp x hx
  unfold idxS; rw [this]
end
end Go.Lift
namespace Go.Lift
noncomputable section
open Go Go.RowKit
set_option linter.unusedSectionVars false
set_option linter.unusedSimpArgs false
set_option linter.unusedVariables false
def GraphD.pt (g : GraphD) : AV := .pt [.sl 7 g.enl (g.edges.map EdgeD.av), .sl 2 g.pnl (g.pools.map PoolD.av), g.defaults.av]
def poolAt (g : GraphD) (name : ByteArray) : Int := idxS (fun p => decide (p.name = name)) g.pools
end
end Go.Lift
namespace Go.Lift
noncomputable section
open Go Go.RowKit
set_option linter.unusedSectionVars false
set_option linter.unusedSimpArgs false
set_option linter.unusedVariables false
def plainB (b : UInt8) : Bool := decide (32 ≤ b.toNat) && decide (b.toNat ≤ 126)
def plainS (s : ByteArray) (most : Int) : Bool := s.data.toList.all plainB && decide ((s.size : Int) ≤ most)
def commandS (s : ByteArray) : Bool := !decide (s = ⟨#[]⟩) && plainS s 256
def allS (ss : Strs) : Bool := ss.xs.all isS && decide ((ss.xs.length : Int) ≤ 8)
def edgeS (e : EdgeD) : Bool := [e.outs, e.ins, e.implicit, e.order].all allS && (decide ((e.outs.xs.length : Int) > 0) && commandS e.command && (decide (e.pool = ⟨#[]⟩) || mayS e.pool))
def allIdx {α : Type} (f : Nat → α → Bool) : Nat → List α → Bool
  | _, [] => true
  | i, x :: xs => f i x && allIdx f (i + 1) xs
theorem allIdx_drop {α : Type} {f : Nat → α → Bool} {xs : List α} {i : Nat} {x : α} (h : xs[i]? = some x) : allIdx f i (xs.drop i) = (f i x && allIdx f (i + 1) (xs.drop (i + 1))) := by
  have hlt := (List.getElem?_eq_some_iff.1 h).1
  have e := (List.getElem?_eq_some_iff.1 h).2
  rw [List.drop_eq_getElem_cons hlt, e]; rfl
def poolOk (g : GraphD) (k : Nat) (p : PoolD) : Bool := mayS p.name && !decide (p.depth < 1) && !decide (p.depth > 8) && decide (poolAt g p.name = k)
def poolsS (g : GraphD) : Bool := allIdx (poolOk g) 0 g.pools && decide ((g.pools.length : Int) ≤ 4)
def edgeIn (g : GraphD) (e : EdgeD) : Bool := edgeS e && (decide (e.pool = ⟨#[]⟩) || !decide (poolAt g e.pool < 0))
def mayG (g : GraphD) : Bool := g.edges.all (edgeIn g) && (decide ((g.edges.length : Int) ≤ 16) && poolsS g && allS g.defaults)
theorem data_get {s : ByteArray} {i : Nat} (h : i < s.size) : ∃ b, s.data[i]? = some b ∧ s.data.toList[i]? = some b := by
  have h' : i < s.data.size := h
  exact ⟨s.data[i], Array.getElem?_eq_getElem h', by simp [h']⟩
theorem data_len (s : ByteArray) : s.data.toList.length = s.size := by rw [Array.length_toList]; rfl
theorem closed_gpt (g : GraphD) : closed g.pt = true := rfl
def EdgeD.pt (e : EdgeD) : AV := .pt [e.outs.av, e.ins.av, e.implicit.av, e.order.av, .s e.command, .b e.deps, .s e.pool]
theorem closed_ept (e : EdgeD) : closed e.pt = true := rfl
theorem closedL_strs (L : List Strs) : closedL (L.map Strs.av) = true := by
  rw [closedL_all]; simp [closed, closed_strs]
theorem finV_own_strs {keep : List Nat} {h : Store} {d id off len e : Nat} {xs : List Strs} (hk : posOf keep id = none) (hn : keep.contains id = false) (hg : h.get id = some ⟨e, 1, xs.map Strs.av⟩) (hl : off + len ≤ xs.length) (hL : len ≤ LIM) :
    finV keep h (d + 1) (.own id off len) = some (.sl 1 false (((xs.drop off).take len).map Strs.av)) := by
  simp only [finV, hk, snapC, hn, hg]
  have : ((xs.map Strs.av).drop off).take len = ((xs.drop off).take len).map Strs.av := by rw [← List.map_drop, ← List.map_take]
  rw [if_neg (by simp), if_pos ⟨by rw [List.length_map]; exact hl, hL⟩, this]
  simp only [mapC, closedL_strs, if_true, Option.map_some]
end
end Go.Lift
namespace Go.Lift
noncomputable section
open Go Go.RowKit
set_option linter.unusedSectionVars false
set_option linter.unusedSimpArgs false
set_option linter.unusedVariables false
theorem finO_c {keep : List Nat} {h : Store} {d : Nat} {ob : Obj} (hc : closedL ob.els = true) : finO keep h d ob = some ob := by
  simp only [finO, mapC, hc, if_true, Option.map_some]
theorem fitsO_c {keep : List Nat} {h h' : Store} {d id q : Nat} {ob : Obj} (hg : h.get id = some ob) (hg' : h'.get q = some ob) (hc : closedL ob.els = true) : (h.get id).bind (finO keep h d) = h'.get q := by
  rw [hg, hg']; exact finO_c hc
theorem snapC_g {h : Store} {d id e : Nat} {g : GraphD} (hg : h.get id = some ⟨e, 3, [g.av]⟩) : snapC [] h (d + 1) (.loc id 0 0) = some g.pt := by
  simp only [snapC, hg]
  rfl
theorem snap_g {h : Store} {id e : Nat} {g : GraphD} (hg : h.get id = some ⟨e, 3, [g.av]⟩) : mapC (snapC [] h 8) [.loc id 0 0] = some [g.pt] := by
  simp only [mapC, closedL, closed, Bool.false_and, Bool.false_eq_true, if_false, mapO, snapC_g hg]
theorem snap_gs {h : Store} {id e : Nat} {g : GraphD} {s : ByteArray} (hg : h.get id = some ⟨e, 3, [g.av]⟩) : mapC (snapC [] h 8) [.loc id 0 0, .s s] = some [g.pt, .s s] := by
  simp only [mapC, closedL, closed, Bool.false_and, Bool.false_eq_true, if_false, mapO, snapC_g hg]
  rfl
end
end Go.Lift
namespace Go.Lift
noncomputable section
open Go Go.RowKit
set_option linter.unusedSectionVars false
set_option linter.unusedSimpArgs false
set_option linter.unusedVariables false
def rowR (xs : List ByteArray) : AV := if xs = [] then .sl 1 true [] else .own 0 0 xs.length
def rowS (T : TypeId) (xs : List ByteArray) : List Obj := if xs = [] then [] else [⟨T, 1, xs.map .s⟩]
def RowIs (T : TypeId) (x : AV) (h : Store) (kept : List ByteArray) : Prop :=
  (x = .sl 1 true [] ∧ kept = [] ∧ h = ⟨0, []⟩) ∨ (kept ≠ [] ∧ x = .own 0 0 kept.length ∧ h = ⟨1, [(0, some ⟨T, 1, kept.map AV.s⟩)]⟩)
theorem rowR_nil : rowR [] = .sl 1 true [] := rfl
theorem rowS_nil (T : TypeId) : rowS T [] = [] := rfl
theorem rowR_own {xs : List ByteArray} (h : xs ≠ []) : rowR xs = .own 0 0 xs.length := if_neg h
theorem rowS_own {T : TypeId} {xs : List ByteArray} (h : xs ≠ []) : rowS T xs = [⟨T, 1, xs.map .s⟩] := if_neg h
def outsOf (es : List EdgeD) : List ByteArray := es.flatMap fun e => e.outs.xs
theorem outsOf_take {es : List EdgeD} {i : Nat} {e : EdgeD} (h : es[i]? = some e) : outsOf (es.take (i + 1)) = outsOf (es.take i) ++ e.outs.xs := by
  unfold outsOf
  rw [List.take_add_one, h]
  simp
theorem outsOf_len {es : List EdgeD} (i : Nat) : (outsOf (es.take i)).length ≤ (outsOf es).length := by
  conv => rhs; rw [← List.take_append_drop i es]
  unfold outsOf
  rw [List.flatMap_append, List.length_append]; omega
theorem get_S0_one (ob : Obj) : (S0 [ob]).get 0 = some ob := by rw [Store.get_S0]; rfl
end
end Go.Lift
namespace Go.Lift
noncomputable section
open Go Go.RowKit
set_option linter.unusedSectionVars false
set_option linter.unusedSimpArgs false
set_option linter.unusedVariables false
theorem step_grow {w0 w : World} {μ : Mu} {h : Store} (s : Sim w0 μ w h) (os : Array Go.Obj) : Step w0 μ w h μ (Sort.grow w os) h := by
  have hold : ∀ g, g < w.heap.size → (Sort.grow w os).heap[g]? = w.heap[g]? := fun g hg => by
    show (w.heap ++ os)[g]? = _
    rw [Array.getElem?_append_left hg]
  have hsz : w.heap.size ≤ (Sort.grow w os).heap.size := by
    show _ ≤ (w.heap ++ os).size
    rw [Array.size_append]; omega
  have e : Ext w μ (Sort.grow w os) μ := Ext.of (fun g hg _ => hold g hg) (fun _ _ h => Or.inl h) (fun g hg => Or.inl hg)
  refine ⟨⟨⟨s.below.os, s.below.tape, s.below.output, Nat.le_trans s.below.size hsz, fun k hk => ?_⟩, fun id t ht => ?_, s.inj, s.live, s.ylt, fun id o t ho ht => ?_⟩, e, Nat.le_refl _, fun id p q => absurd p q, rfl⟩
  · rw [hold k (by have := s.below.size; omega)]; exact s.below.block k hk
  · have := s.lt id t ht; exact ⟨this.1, by omega⟩
  · exact (s.blk id o t ho ht).mono e (hold _ (s.lt id t ht).2)
theorem cells_strs_get {xs : List ByteArray} {j : Nat} {x : AV} (h : (xs.map AV.s)[j]? = some x) : ∃ b, xs[j]? = some b ∧ x = .s b := by
  rw [List.getElem?_map] at h
  obtain ⟨b, hb, rfl⟩ := Option.map_eq_some_iff.1 h
  exact ⟨b, hb, rfl⟩
theorem step_put {w0 w : World} {μ : Mu} {h : Store} (s : Sim w0 μ w h) {id : Nat} {T : TypeId} {xs : List ByteArray} (hg : h.get id = some ⟨T, 1, xs.map .s⟩) (hne : xs ≠ []) {v : Value} (hv : VR w μ (.own id 0 xs.length) v) :
    ∃ b c, v = .slice (some ⟨b, 0, none⟩) xs.length c ∧ xs.length ≤ c ∧ c ≤ maxLen ∧ b < w.heap.size ∧ Sort.Holds Go.Proofs.encStr w b 0 (xs.map (·.data.toList)).toArray ∧ (∀ x ∈ xs, x.size ≤ LIM) ∧
      (∃ sl, μ id = some (some sl) ∧ sl.g = b ∧ sl.cap = c ∧ sl.k = 1) ∧
      ∀ (ys : List (List UInt8)) (k : Nat), ys.length = xs.length → (∀ y ∈ ys, y.length ≤ LIM) →
        Step w0 μ w h μ (Sort.putRow Go.Proofs.encStr (Sort.ahead w k) b 0 ys.toArray) (h.put id (some ⟨T, 1, ys.map (fun y => AV.s (toBA y))⟩)) := by
  have hpos : 0 < xs.length := List.length_pos_iff.2 hne
  have hm : μ id ≠ none := by intro e; simp only [VR, e] at hv
  cases hmm : μ id with
  | none => exact absurd hmm hm
  | some t => cases t with
    | none => exact absurd hmm (s.live id _ hg)
    | some sl =>
      have B := s.blk id _ sl hg hmm
      simp only [VR, hmm] at hv
      obtain ⟨a, c, rfl, h2, h3, h4, h5⟩ := hv
      have ha := h5 (by omega)
      have hk1 : sl.k = 1 := B.k
      rw [Nat.zero_mul] at ha
      obtain ⟨cs, c1, c2, c3⟩ := B.blk
      simp only [Nat.mul_one] at c2 c3
      have hget : ∀ (j : Nat) (x : ByteArray), xs[j]? = some x → cs[j]? = some (Value.string x) ∧ x.size ≤ LIM := by
        intro j x hx
        obtain ⟨q1, q2⟩ := c3 j (.s x) (by rw [List.getElem?_map, hx]; rfl)
        obtain ⟨u, u1, u2, _⟩ := q2 0 (.s x) rfl
        simp only [VR, CR] at u2
        rw [Nat.add_zero] at u1
        rw [u1, u2.1]; exact ⟨rfl, u2.2⟩
      have hlt := s.lt id sl hmm
      refine ⟨sl.g, c, by rw [ha], h2, by have := B.cap; omega, hlt.2, fun j hj => ?_, fun x hx => ?_, ⟨sl, rfl, rfl, by omega, hk1⟩, fun ys k hy hyl => ?_⟩
      · simp only [List.size_toArray, List.length_map] at hj
        obtain ⟨x, hx⟩ : ∃ x, xs[j]? = some x := ⟨xs[j], List.getElem?_eq_getElem hj⟩
        have hc := (hget j x hx).1
        have hd : (xs.map (·.data.toList)).toArray[j]! = x.data.toList := by
          rw [getElem!_pos _ _ (by simpa using hj)]
          have := (List.getElem?_eq_some_iff.1 hx).2
          simp [this]
        refine ⟨?_, ?_⟩
        · simp only [World.cell?, c1, Option.isSome_none, Bool.false_eq_true, if_false, Nat.zero_add, hc, hd]
        · simp only [World.frozen?, c1]; simp
      · obtain ⟨j, hj⟩ := List.getElem?_of_mem hx
        exact (hget j x hj).2
      · have hcs : xs.length ≤ cs.size := by have := B.len; simp only [List.length_map] at this; omega
        let cs' := Sort.putCells Go.Proofs.encStr 0 ys.toArray cs
        have hsz : cs'.size = cs.size := by simp [cs', Sort.putCells]
        have hb : (Sort.putRow Go.Proofs.encStr (Sort.ahead w k) sl.g 0 ys.toArray).heap[sl.g]? = some (.cells cs' T (0, 0)) := by
          show (w.heap.modify sl.g _)[sl.g]? = _
          rw [Array.getElem?_modify, if_pos rfl, c1]; rfl
        have ht : Turned w (Sort.putRow Go.Proofs.encStr (Sort.ahead w k) sl.g 0 ys.toArray) sl.g :=
          ⟨rfl, rfl, rfl, by simp [Sort.putRow, Sort.mapBlock, Sort.ahead], fun q hq => by
            show (w.heap.modify sl.g _)[q]? = _
            rw [Array.getElem?_modify, if_neg (fun e => hq e.symm)]⟩
        refine step_write s hg hmm ht rfl rfl (by simp only [List.length_map, hy]; have := B.len; simpa using this) hb (by rw [hsz, c2, Nat.mul_one]) fun j x hx => ?_
        rw [List.getElem?_map] at hx
        obtain ⟨y, hy', rfl⟩ := Option.map_eq_some_iff.1 hx
        have hj : j < ys.length := (List.getElem?_eq_some_iff.1 hy').1
        have hyj := (List.getElem?_eq_some_iff.1 hy').2
        refine ⟨rfl, fun i z hz => ?_⟩
        cases i with
        | succ i => simp [AV.cells] at hz
        | zero =>
          simp [AV.cells] at hz
          subst hz
          refine ⟨Go.Proofs.encStr y, ?_, ?_, rfl⟩
          · simp only [Nat.mul_one, Nat.add_zero]
            show (Array.mapIdx _ cs)[j]? = _
            rw [Array.getElem?_mapIdx]
            have : cs[j]? = some cs[j] := Array.getElem?_eq_getElem (by omega)
            rw [this]
            simp only [Option.map_some, Nat.zero_le, true_and, Nat.zero_add, List.size_toArray, hj, if_true, Nat.sub_zero]
            rw [getElem!_pos _ _ (by simpa using hj)]
            simp [hyj]
          · simp only [VR, CR]
            refine ⟨rfl, ?_⟩
            have := hyl y (List.mem_of_getElem? hy')
            show y.toArray.size ≤ LIM
            simpa using this
end
end Go.Lift
namespace Go.Lift
noncomputable section
open Go Go.RowKit
set_option linter.unusedSectionVars false
set_option linter.unusedSimpArgs false
set_option linter.unusedVariables false
def hasDup : List (List UInt8) → Bool
  | [] => false
  | x :: xs => xs.contains x || hasDup xs
theorem hasDup_iff : ∀ xs : List (List UInt8), hasDup xs = true ↔ ¬ xs.Nodup
  | [] => by simp [hasDup]
  | x :: xs => by
    simp only [hasDup, Bool.or_eq_true, List.contains_iff_mem, List.nodup_cons, hasDup_iff xs]
    by_cases h : x ∈ xs
    · simp [h]
    · simp [h]
theorem compact_le (zs : List (List UInt8)) : (Lib.compact zs).length ≤ zs.length := by
  unfold Lib.compact Lib.compactUpTo
  rw [List.length_map]
  exact Nat.le_trans (List.length_filter_le _ _) (by simp)
theorem compact_mem (zs : List (List UInt8)) : ∀ y ∈ Lib.compact zs, y ∈ zs := by
  intro y hy
  unfold Lib.compact Lib.compactUpTo at hy
  obtain ⟨j, hj, rfl⟩ := List.mem_map.1 hy
  have hlt : j < zs.length := List.mem_range.1 (List.mem_filter.1 hj).1
  rw [getElem!_pos _ _ (by simpa using hlt)]
  simp
theorem compact_lt (zs : List (List UInt8)) : (Lib.compact zs).length < zs.length ↔ ∃ j, 0 < j ∧ ∃ h : j < zs.length, zs[j] = zs[j - 1] := by
  unfold Lib.compact Lib.compactUpTo
  rw [List.length_map]
  conv => lhs; rhs; rw [← List.length_range (n := zs.length)]
  rw [List.length_filter_lt_length_iff_exists]
  constructor
  · rintro ⟨j, hj, hk⟩
    have hlt := List.mem_range.1 hj
    unfold Lib.keeps at hk
    simp only [decide_eq_true_eq, not_or, Decidable.not_not] at hk
    obtain ⟨h0, h1⟩ := hk
    refine ⟨j, by omega, hlt, ?_⟩
    rw [getElem!_pos _ _ (by simpa using hlt), getElem!_pos _ _ (by simp; omega)] at h1
    simpa using h1
  · rintro ⟨j, h0, hlt, h1⟩
    refine ⟨j, List.mem_range.2 hlt, ?_⟩
    unfold Lib.keeps
    simp only [decide_eq_true_eq, not_or, Decidable.not_not]
    refine ⟨by omega, ?_⟩
    rw [getElem!_pos _ _ (by simpa using hlt), getElem!_pos _ _ (by simp; omega)]
    simpa using h1
def sortL (zs : List (List UInt8)) : List (List UInt8) := zs.mergeSort fun x y => decide (x ≤ y)
theorem sort_dup (zs : List (List UInt8)) : decide ((Lib.compact (sortL zs)).length < zs.length) = hasDup zs := by
  have hp : (sortL zs).Perm zs := List.mergeSort_perm _ _
  have hs : (sortL zs).Pairwise fun a b => a ≤ b := by
    have := List.pairwise_mergeSort (le := fun x y : List UInt8 => decide (x ≤ y)) (fun a b c h1 h2 => by
      simp only [decide_eq_true_eq] at h1 h2 ⊢; exact List.le_trans h1 h2) (fun a b => by
      simp only [Bool.or_eq_true, decide_eq_true_eq]; exact List.le_total a b) zs
    unfold sortL
    simpa using this
  have hl : (sortL zs).length = zs.length := hp.length_eq
  rw [Bool.eq_iff_iff, decide_eq_true_eq, hasDup_iff, ← hp.nodup_iff, ← hl, compact_lt]
  generalize sortL zs = ys at hs
  rw [List.pairwise_iff_getElem] at hs
  rw [List.nodup_iff_pairwise_ne, List.pairwise_iff_getElem]
  constructor
  · rintro ⟨j, h0, hlt, he⟩ hn
    exact hn (j - 1) j (by omega) hlt (by omega) he.symm
  · intro hn
    simp only [Classical.not_forall, Decidable.not_not] at hn
    obtain ⟨i, j, hi, hj, hij, he⟩ := hn
    refine ⟨j, by omega, hj, ?_⟩
    have hle := hs (j - 1) j (by omega) hj (by omega)
    rcases Nat.lt_or_ge i (j - 1) with h | h
    · have h1 := hs i (j - 1) hi (by omega) h
      rw [he] at h1
      exact List.le_antisymm h1 hle
    · have : j - 1 = i := by omega
      simp only [this]; exact he.symm
def checkS (g : GraphD) : Int := if mayG g = false then 900 else if hasDup ((outsOf g.edges).map fun x => x.data.toList) then 901 else 0
theorem outs_le : ∀ es : List EdgeD, (∀ e ∈ es, e.outs.xs.length ≤ 8) → (outsOf es).length ≤ 8 * es.length
  | [], _ => by simp [outsOf]
  | e :: es, h => by
    have h1 := h e (by simp)
    have ih := outs_le es fun x hx => h x (by simp [hx])
    unfold outsOf at ih ⊢
    simp only [List.flatMap_cons, List.length_append, List.length_cons]; omega
theorem mayG_outs {g : GraphD} (h : mayG g = true) : (outsOf g.edges).length ≤ 128 := by
  unfold mayG at h
  simp only [Bool.and_eq_true, decide_eq_true_eq] at h
  obtain ⟨h1, ⟨h2, _⟩, _⟩ := h
  have := outs_le g.edges fun e he => by
    have := List.all_eq_true.1 h1 e he
    unfold edgeIn edgeS at this
    simp only [Bool.and_eq_true, List.all_cons] at this
    have h3 := this.1.1.1
    unfold allS at h3
    simp only [Bool.and_eq_true, decide_eq_true_eq] at h3
    omega
  omega
theorem map_toBA_data (zs : List (List UInt8)) : (zs.map toBA).map (fun x : ByteArray => x.data.toList) = zs := by
  rw [List.map_map]
  conv => rhs; rw [← List.map_id zs]
  exact List.map_congr_left fun x _ => toBA_data x
theorem snap_row {h : Store} {id e n : Nat} {xs : List ByteArray} (hg : h.get id = some ⟨e, 1, xs.map .s⟩) (hl : n = xs.length) (hL : n ≤ LIM) :
    mapC (snapC [] h 8) [.own id 0 n] = some [.sl 1 false (xs.map .s)] := by
  have h1 := snapC_own_s (d := 7) (off := 0) hg (by omega) hL
  rw [List.drop_zero, hl, List.take_length] at h1
  rw [hl]
  simp only [mapC, closedL, closed, Bool.false_and, Bool.false_eq_true, if_false, mapO, h1]
theorem sortL_len (zs : List (List UInt8)) : (sortL zs).length = zs.length := (List.mergeSort_perm _ _).length_eq
end
end Go.Lift
namespace Go.Lift
noncomputable section
open Go Go.RowKit
set_option linter.unusedSectionVars false
set_option linter.unusedSimpArgs false
set_option linter.unusedVariables false
def smallS (n : Int) : Bool := decide (97 ≤ n) && decide (n ≤ 122) || decide (48 ≤ n) && decide (n ≤ 57)
theorem byteOk_eq (b : UInt8) : byteOk b = (smallS b.toNat || decide ((b.toNat : Int) = 46) || decide ((b.toNat : Int) = 95) || decide ((b.toNat : Int) = 45) || decide ((b.toNat : Int) = 47)) := by
  have hb : b.toNat < 256 := b.toNat_lt
  unfold byteOk oneS varS smallS
  generalize b.toNat = n at hb
  rw [Bool.eq_iff_iff]
  simp only [Bool.and_eq_true, Bool.or_eq_true, decide_eq_true_eq, beq_iff_eq]
  omega
theorem mayS_ref (s : ByteArray) : mayS s = (s.data.toList.all byteOk && (decide ((s.size : Int) ≥ 1) && decide ((s.size : Int) ≤ 16))) := by
  unfold mayS mayL
  rw [data_len]
  have e1 : (!s.data.toList.isEmpty) = decide ((s.size : Int) ≥ 1) := by
    rw [Bool.eq_iff_iff, decide_eq_true_eq, Bool.not_eq_true', ← data_len]
    cases s.data.toList with
    | nil => simp
    | cons x l => simp; omega
  have e2 : decide (s.size ≤ 16) = decide ((s.size : Int) ≤ 16) := by rw [decide_eq_decide]; omega
  rw [e1, e2]
  cases s.data.toList.all byteOk <;> simp
end
end Go.Lift
namespace Go.Lift
noncomputable section
open Go Go.RowKit
set_option linter.unusedSectionVars false
set_option linter.unusedSimpArgs false
set_option linter.unusedVariables false
end
end Go.Lift
namespace Go.Lift
noncomputable section
open Go Go.RowKit
set_option linter.unusedSectionVars false
def bs (l : List UInt8) : ByteArray := ⟨l.toArray⟩
end
end Go.Lift
namespace Go.Lift
noncomputable section
open Go Go.RowKit
set_option linter.unusedSectionVars false
set_option linter.unusedSimpArgs false
set_option linter.unusedVariables false
section
variable {P : Program} {W : World} {T : Tab} {n : Nat} {ops : Array Oper} {d : Tmp} {op : Op} {ty : TypeId} {pos : String} {af : Array Edge} {r : List Oper} {env : Env} {h : Store} {Q : Env → Store → Prop}
end
end
end Go.Lift
namespace Go.Lift
noncomputable section
open Go Go.RowKit
set_option linter.unusedSectionVars false
end
end Go.Lift
namespace Go.Lift
noncomputable section
open Go Go.RowKit
set_option linter.unusedSectionVars false
end
end Go.Lift
namespace Go.Lift
noncomputable section
open Go Go.RowKit
set_option linter.unusedSectionVars false
end
end Go.Lift
namespace Go.Lift
noncomputable section
open Go Go.RowKit
set_option linter.unusedSimpArgs false
set_option linter.unusedVariables false
set_option linter.unusedSectionVars false
def resOf (T : Tab) (env : Env) (h : Store) : ResultVar → Option AV
  | .tmp t => some (env.get t)
  | .cell a t => match look T t with
    | some i => (memAt h (env.get a)).bind (partOf i.desc.agg i.size)
    | none => none
def resRun (T : Tab) (env : Env) (h : Store) (rs : List ResultVar) : Option AV := match mapO (resOf T env h) rs with
  | some [x] => some x
  | some xs => some (.tup xs)
  | none => none
section
variable {P : Program} {T : Tab} (hT : tabOk P T = true) {n : Nat} {B : Base} {w0 w : World} {μ : Mu} {env : Env} {h : Store} {a : Act}
include hT
theorem resOf_ok (R : Rel n B w0 μ env h a w) {r : ResultVar} {x : AV} (hr : resOf T env h r = some x) :
    ∃ v, ((match r with | .tmp t => pure (a.tmps.getD t undef) | .cell p t => do loadVar t (← asAddr (a.tmps.getD p undef)) : Sem Value)).run P w = .ok v w ∧ VR w μ x v := by
  cases r with
  | tmp t => simp only [resOf, Option.some.injEq] at hr; subst hr; exact ⟨_, rfl, R.env t⟩
  | cell p t =>
    simp only [resOf] at hr
    split at hr
    · rename_i i hi
      obtain ⟨cs, hm, hp⟩ := Option.bind_eq_some_iff.1 hr
      obtain ⟨u, hu, hvu⟩ := load_ok hT R.sim hi hm hp (R.env p)
      obtain ⟨ad, ha, _⟩ := mem_ok hT R.sim hm (R.env p)
      refine ⟨u, ?_, hvu⟩
      rw [ha] at hu
      simp only [Instr.loadAt, Instr.sureAddr] at hu
      simp only [Sem.run_bind, ha, asAddr, Result.andThen_ok] at hu ⊢
      exact hu
    · cases hr
theorem resRun_ok (R : Rel n B w0 μ env h a w) {fn : Func} {x : AV} (hr : resRun T env h fn.results.toList = some x) :
    ∃ v, (results fn a.tmps).run P w = .ok v w ∧ VR w μ x v := by
  have key : ∀ (rs : List ResultVar) (xs : List AV), mapO (resOf T env h) rs = some xs → ∃ vs, (rs.mapM (fun r => (match r with | .tmp t => pure (a.tmps.getD t undef) | .cell p t => do loadVar t (← asAddr (a.tmps.getD p undef)) : Sem Value))).run P w = .ok vs w ∧ VRs w μ xs vs := by
    intro rs
    induction rs with
    | nil => intro xs h; simp [mapO] at h; subst h; exact ⟨[], by simp, by simp [VRs]⟩
    | cons r rs ih =>
      intro xs h
      simp only [mapO] at h
      split at h
      · rename_i y ys h1 h2
        cases h
        obtain ⟨v, e1, e2⟩ := resOf_ok hT R h1
        obtain ⟨vs, e3, e4⟩ := ih _ h2
        refine ⟨v :: vs, ?_, by simp only [VRs]; exact ⟨v, vs, rfl, e2, e4⟩⟩
        simp only [List.mapM_cons, Sem.run_bind, e1, e3, Result.andThen_ok, Sem.run_pure]
      · cases h
  unfold resRun at hr
  have hfn : fn.results = (fn.results.toList).toArray := by simp
  have fin : ∀ (xs : List AV) (vs : List Value), VRs w μ xs vs → (match (some xs : Option (List AV)) with
      | some [x] => some x
      | some xs => some (AV.tup xs)
      | none => none) = some x → VR w μ x (if h : vs.toArray.size = 1 then vs.toArray[0] else .tuple vs.toArray) := by
    intro xs vs hv hx
    cases xs with
    | nil => simp only [VRs] at hv; subst hv; cases hx; simp [VR, VRs]
    | cons y ys =>
      simp only [VRs] at hv
      obtain ⟨v, r, rfl, h1, h2⟩ := hv
      cases ys with
      | nil => simp only [VRs] at h2; subst h2; cases hx; simpa using h1
      | cons z zs =>
        cases hx
        simp only [VRs] at h2
        obtain ⟨v2, r2, rfl, h3, h4⟩ := h2
        simp only [VR]
        refine ⟨_, by simp; rfl, ?_⟩
        simp only [VRs]
        exact ⟨_, _, rfl, h1, _, _, rfl, h3, h4⟩
  cases e : mapO (resOf T env h) fn.results.toList with
  | none => rw [e] at hr; cases hr
  | some xs =>
    rw [e] at hr
    obtain ⟨vs, h1, h2⟩ := key _ _ e
    refine ⟨if h : vs.toArray.size = 1 then vs.toArray[0] else .tuple vs.toArray, ?_, fin xs vs h2 hr⟩
    unfold results
    rw [hfn]
    simp only [List.mapM_toArray, Sem.run_bind, map_eq_pure_bind, Sem.run_pure]
    erw [h1]
    simp only [Result.andThen_ok, Sem.run_pure]
end
def FinR (T : Tab) (rs : List ResultVar) (keep : List Nat) (r : AV) (S : List Obj) : Post := fun e env h =>
  (e = .normal ∨ e = .ret) ∧ keep.Nodup ∧ S.length = keep.length ∧ FitsObjs keep h (S0 S) 0 keep ∧ ∃ r0, resRun T env h rs = some r0 ∧ finV keep h 9 r0 = some r
theorem pure_of_run {P : Program} {W : World} {T : Tab} (hT : tabOk P T = true) {f : FuncId} {fn : Func} {c : Code} (hf : P.funcs[f]? = some fn) (hb : fn.body = some c) (he : ∀ (vs : Array Value) (w : World), (callFunc f vs).run P w = .ok (.enter f vs) w)
    {args : List AV} (hn : args.length ≤ fn.ntmps) {r : AV} {S : List Obj}
    (k : Awp P W fn.ntmps 0 c (argEnv 0 args) ⟨0, []⟩ (fun e env h => ∃ keep, FinR T fn.results.toList keep r S e env h)) (hM : f < 1000000 := by decide) : PureAt P W f args r S := .plain hM he <| fun w Y vs hG hY hvs => by
    have hvr := VRs_of_CRs _ _ hvs
    have hlen := VRs_length hvr
    refine calls_of_wp hf hb ?_
    have R : Rel fn.ntmps ⟨W, w, mu0 Y, 0⟩ w (mu0 Y) (argEnv 0 args) ⟨0, []⟩ { tmps := vs.toArray ++ Array.replicate (fn.ntmps - vs.toArray.size) undef, defers := [] } w := {
      glob := hG
      snc := ⟨Ext.refl _ _, rfl, fun _ h => by simp at h, fun _ _ => rfl⟩
      low := Nat.zero_le _
      sim := {
        below := Below.refl _ _
        lt := by intro _ _ h; cases h
        inj := by intro _ _ _ _ h; cases h
        live := by intro _ _ _ h; cases h
        ylt := hY
        blk := by intro _ _ _ _ h; cases h }
      env := start_env hvr _
      sz := by simp [hlen]; omega
      dfr := rfl
      fresh := fun _ _ => rfl }
    refine wp_mono (k _ w (mu0 Y) _ w rfl rfl R) ?_
    rintro e a' w' ⟨env', h', μ', ⟨keep, he, hnd, hS, hF, r0, hr0, hfv⟩, R'⟩
    obtain ⟨v, hrun, hv0⟩ := resRun_ok hT R' hr0
    have hv := finV_ok R'.sim keep 9 _ _ _ hfv hv0
    have R2 := rel_fin R' (keep := keep) (env' := []) (h' := S0 S) ⟨hnd, hS, hF, trivial⟩ (fun i hi => by simp at hi)
    have hpost : a'.defers = [] ∧ ∃ v, (results fn a'.tmps).run P w' = .ok v w' ∧ ∃ v' μ'', (Ending.returned v) = .returned v' ∧ μ''.Y = Y ∧ VR w' μ'' r v' ∧ Sim w μ'' w' (S0 S) ∧ (∀ id, S.length ≤ id → μ'' id = none) :=
      ⟨R'.dfr, _, hrun, _, μ'.fin keep, rfl, R'.snc.y, hv, R2.sim, R2.fresh⟩
    rcases he with rfl | rfl
    · exact hpost
    · exact hpost
end
end Go.Lift
namespace Go.Lift
noncomputable section
open Go Go.ChangeShapes Go.WideShapes Go.RowKit
set_option linter.unusedVariables false
set_option linter.unusedSimpArgs false
set_option linter.unusedSectionVars false
theorem keptBut_below {W W' : World} (h : Below W.heap.size W W') (may : MemPlace → Prop) : W.keptBut W' may := h.frame may
theorem frozen_below {W W' : World} (h : Below W.heap.size W W') (a : Addr) (ha : a.block < W.heap.size) : W'.frozen? a = W.frozen? a := by
  unfold World.frozen?; rw [h.block _ ha]
section
variable {H : Type} {enc : TypeId × Value → H} {P : Program}
theorem post_of_below {f : Func} {s : ChangeSpec} {apart fresh handsOn again : Bool} {W W' : World} {args : Array Value} {v : Value} {ds gs : List (DataW H)} {before pa pv : List MemPlace}
    (hW : DataW.Whole enc P f.params.toList s.vars apart W args.toList ds gs before)
    (hres : ∀ (b : Nat) (sp : Nat → Bool) (hd : Bool), DataW.TrodAll enc P W' b sp hd f.resultTypes.toList (v.resultList f.resultTypes.size) (s.fn H (ds ++ gs)).results [])
    (hargs : ∀ sp : Nat → Bool, (∀ p ∈ before, sp p.block = true) → DataW.TrodAll enc P W' 0 sp true f.params.toList args.toList (s.fn H (ds ++ gs)).args pa)
    (hvars : ∀ sp : Nat → Bool, (∀ p ∈ before, sp p.block = true) → DataW.TrodVars enc P W' sp s.vars (s.fn H (ds ++ gs)).vars pv)
    (hps : before = pa ++ pv) (hb : Below W.heap.size W W')
    (hok : ∀ (j : Nat) (t : TypeId) (r : Value), f.resultTypes[j]? = some t → (v.resultList f.resultTypes.size)[j]? = some r → Value.okWide P W' .any 0 t r) :
    s.post enc P f apart fresh handsOn again W args v W' := by
  have hold : ∀ p ∈ before, (fun b => decide (b < W.heap.size)) p.block = true := fun p hp => by simpa using hW.lt p hp
  have hlt := hW.lt
  refine ⟨ds, gs, before, [], pa, pv, hW, hres _ _ _, hargs _ hold, hvars _ hold, World.keptBut_mono (fun p hp => ⟨hp, ?_⟩) (keptBut_below hb (· ∈ before)), fun _ => ?_⟩
  · rw [hps, List.mem_append] at hp
    exact Or.inr hp
  · obtain ⟨_, _, _, _, _, hz, hn⟩ := hW
    refine ⟨hok, _, _, ([] ++ pa) ++ pv, ⟨[] ++ pa, pv, trodAll_append (hargs _ (fun _ _ => rfl)) (hres _ _ _), hvars _ (fun _ _ => rfl), rfl, ?_, ?_⟩, ?_⟩
    · intro b off hp
      have hp' : MemPlace.cell b off ∈ before := by rw [hps]; simpa using hp
      rw [frozen_below hb _ (hlt _ hp')]
      exact hz b off hp'
    · intro ha
      have := hn ha
      rw [hps] at this
      simpa using this
    · intro p hp _
      rw [hps]
      simpa using hp
theorem trodAll_stays (hl : laidOutB P = true) {W W' : World} : ∀ {ts : List TypeId} {vs : List Value} {ds : List (DataW H)} {ps : List MemPlace}, (∀ t ∈ ts, P.readableRec t = true ∧ t < P.types.size) → DataW.TrodAll enc P W 0 (fun _ => true) true ts vs ds ps →
    Below W.heap.size W W' → (∀ p ∈ ps, p.block < W.heap.size) → ∀ sp : Nat → Bool, (∀ p ∈ ps, sp p.block = true) → DataW.TrodAll enc P W' 0 sp true ts vs ds ps
  | [], vs, ds, ps, ht, h, hb, hlt, sp, hs => by
    obtain ⟨rfl, rfl, rfl⟩ := trodAll_nil h
    exact trodAll_mk0
  | t :: ts, vs, ds, ps, ht, h, hb, hlt, sp, hs => by
    obtain ⟨v, vs', d, ds', p, q, rfl, rfl, rfl, h1, h2⟩ := trodAll_cons h
    have k1 := WideElems.Trod_stays hl (ht t (by simp)).1 (ht t (by simp)).2 h1 (fun x hx => hb.same (hlt x (by simp [hx]))) (sp' := sp) (fun x hx => hs x (by simp [hx]))
    exact ⟨p, q, k1, trodAll_stays hl (fun t' h' => ht t' (by simp [h'])) h2 hb (fun x hx => hlt x (by simp [hx])) sp (fun x hx => hs x (by simp [hx])), rfl⟩
theorem law_contract {fn : Func} {f : FuncId} {spec : ChangeSpec} {apart fresh handsOn again : Bool} {tb : TypeId} (hl : laidOutB P = true) (hp : (fn.params.toList.all fun t => P.readableRec t && decide (t < P.types.size)) = true) (hr : fn.resultTypes = #[tb]) (hb : P.underlying tb = some .bool)
    (hv : spec.vars = []) {W : World} {args : Array Value} {ds gs : List (DataW H)} {before : List MemPlace} (hspec : spec.fn H (ds ++ []) = { results := [.lit (.bool true)], args := ds })
    (hW : DataW.Whole enc P fn.params.toList spec.vars apart W args.toList ds gs before)
    (walk : Calls P f args W fun e w' => e = .returned (.bool true) ∧ Below W.heap.size W w') :
    Calls P f args W fun e W' => ∃ v, e = .returned v ∧ spec.post enc P fn apart fresh handsOn again W args v W' := by
  refine walk.mono fun e W' ⟨he, hg⟩ => ?_
  subst he
  have hlt := hW.lt
  have hW' := hW
  obtain ⟨p, q, hA, hV, rfl, hfz, hnd⟩ := hW
  rw [hv] at hV
  obtain ⟨rfl, rfl⟩ := trodVars_none hV
  have hts : ∀ t ∈ fn.params.toList, P.readableRec t = true ∧ t < P.types.size := by
    intro t ht
    have := List.all_eq_true.1 hp t ht
    simpa using this
  refine ⟨_, rfl, post_of_below (pa := p) (pv := []) hW' ?_ ?_ ?_ rfl hg ?_⟩
  · intro b sp hd
    rw [hspec, hr]
    exact trodAll_cons_mk (shut_bool hb true) trodAll_mk0
  · intro sp hs
    rw [hspec]
    exact trodAll_stays hl hts hA hg (fun x hx => hlt x (by simp [hx])) sp (fun x hx => hs x (by simp [hx]))
  · intro sp hs
    rw [hspec, hv]
    rfl
  · exact ok_one hr rfl (okWide_bool_mk hb _)
end
theorem law_calls {P : Program} {W : World} {f : FuncId} {args : List AV} (k : PureAt P W f args (.b true) []) {vs : List Value} (hvs : CRs W (mu0 fun _ => False) args vs) (hM : f < 1000000 := by decide) : Calls P f vs.toArray W fun e w' => e = .returned (.bool true) ∧ Below W.heap.size W w' :=
  (k.callsP hM W (fun _ => False) vs (Glob.refl W) (fun _ h => h.elim) hvs).mono fun e w' ⟨v, μ', e1, _, hv, hs, _⟩ => by
    simp only [VR, CR] at hv
    subst hv
    exact ⟨e1, hs.below⟩
end
end Go.Lift
namespace Go.Lift
noncomputable section
open Go Go.RowKit
set_option linter.unusedSimpArgs false
set_option linter.unusedVariables false
set_option linter.unusedSectionVars false
def WeakC (x y : AV) : Prop := ∀ (w : World) (μ : Mu) (v : Value), CR w μ x v → CR w μ y v
def WeakL : List AV → List AV → Prop
  | [], [] => True
  | x :: xs, y :: ys => WeakC x y ∧ WeakL xs ys
  | _, _ => False
theorem WeakC.refl (x : AV) : WeakC x x := fun _ _ _ h => h
theorem WeakL.refl : ∀ xs : List AV, WeakL xs xs
  | [] => trivial
  | x :: xs => ⟨WeakC.refl x, WeakL.refl xs⟩
theorem WeakC.nil (k : Nat) : WeakC (.sl k true []) (.sl k false []) := fun w μ v h => by
  simp only [CR] at h ⊢
  rcases h with h | ⟨h, _⟩
  · exact Or.inl h
  · cases h
theorem WeakL.crs {w : World} {μ : Mu} : ∀ {xs ys : List AV} {vs : List Value}, WeakL xs ys → CRs w μ xs vs → CRs w μ ys vs
  | [], [], vs, _, h => h
  | x :: xs, y :: ys, vs, k, h => by
    simp only [CRs] at h ⊢
    obtain ⟨v, r, e, h1, h2⟩ := h
    exact ⟨v, r, e, k.1 w μ v h1, WeakL.crs k.2 h2⟩
theorem WeakC.st {xs ys : List AV} (h : WeakL xs ys) : WeakC (.st xs) (.st ys) := fun w μ v k => by
  simp only [CR] at k ⊢
  obtain ⟨cs, e, k⟩ := k
  exact ⟨cs, e, h.crs k⟩
theorem WeakC.tup {xs ys : List AV} (h : WeakL xs ys) : WeakC (.tup xs) (.tup ys) := fun w μ v k => by
  simp only [CR] at k ⊢
  obtain ⟨cs, e, k⟩ := k
  exact ⟨cs, e, h.crs k⟩
theorem PureAt.wk {P : Program} {W : World} {f : FuncId} {xs ys : List AV} {r : AV} {S : List Obj} (k : PureAt P W f ys r S) (h : WeakL xs ys) : PureAt P W f xs r S where
  enters := k.enters
  calls := fun w Y vs hG hY hvs => k.calls w Y vs hG hY (h.crs hvs)
def EntD (d : Nat) (keep : List Nat) (h : Store) (x y : AV) : Prop := ∃ z, finV keep h d x = some z ∧ (z = y ∨ (closed z = true ∧ WeakC z y))
abbrev Ent (keep : List Nat) (h : Store) (x y : AV) : Prop := EntD 9 keep h x y
theorem Ent.c {d : Nat} {keep : List Nat} {h : Store} {x y : AV} (e : x = y) (hc : closed y = true) : EntD (d + 1) keep h x y := by subst e; exact ⟨x, finV_closed hc, Or.inl rfl⟩
theorem Ent.f {d : Nat} {keep : List Nat} {h : Store} {x y : AV} (e : finV keep h (d + 1) x = some y) : EntD (d + 1) keep h x y := ⟨y, e, Or.inl rfl⟩
theorem Ent.w {d : Nat} {keep : List Nat} {h : Store} {x y : AV} (hc : closed x = true) (hw : WeakC x y) : EntD (d + 1) keep h x y := ⟨x, finV_closed hc, Or.inr ⟨hc, hw⟩⟩
theorem Ent.cast {d : Nat} {keep : List Nat} {h : Store} {x y x' y' : AV} (ex : x = x') (ey : y' = y) (k : EntD d keep h x' y') : EntD d keep h x y := by subst ex; subst ey; exact k
def EntDs (d : Nat) (keep : List Nat) (h : Store) : List AV → List AV → Prop
  | [], [] => True
  | x :: xs, y :: ys => EntD d keep h x y ∧ EntDs d keep h xs ys
  | _, _ => False
theorem entDs_ok {d : Nat} {keep : List Nat} {h : Store} : ∀ {xs ys : List AV}, EntDs (d + 1) keep h xs ys → closedL ys = true → ∃ zs, mapO (finV keep h (d + 1)) xs = some zs ∧ (closedL xs = true → zs = xs) ∧ closedL zs = true ∧ WeakL zs ys
  | [], [], _, _ => ⟨[], rfl, fun _ => rfl, rfl, trivial⟩
  | [], _ :: _, k, _ => k.elim
  | _ :: _, [], k, _ => k.elim
  | x :: xs, y :: ys, k, hc => by
    obtain ⟨⟨z, e1, e2⟩, k2⟩ := k
    simp only [closedL, Bool.and_eq_true] at hc
    obtain ⟨zs, e3, e4, e5, e6⟩ := entDs_ok k2 hc.2
    refine ⟨z :: zs, by simp only [mapO, e1, e3], fun hx => ?_, ?_, ?_, e6⟩
    · simp only [closedL, Bool.and_eq_true] at hx
      rw [finV_closed hx.1] at e1
      cases e1
      rw [e4 hx.2]
    · rcases e2 with rfl | ⟨c1, _⟩
      · simp only [closedL, hc.1, e5, Bool.and_self]
      · simp only [closedL, c1, e5, Bool.and_self]
    · rcases e2 with rfl | ⟨_, w1⟩
      · exact WeakC.refl _
      · exact w1
theorem Ent.tup {d : Nat} {keep : List Nat} {h : Store} {xs ys : List AV} (k : EntDs (d + 1) keep h xs ys) (hc : closedL ys = true) : EntD (d + 2) keep h (.tup xs) (.tup ys) := by
  obtain ⟨zs, e1, e2, e3, e4⟩ := entDs_ok k hc
  refine ⟨.tup zs, ?_, Or.inr ⟨e3, WeakC.tup e4⟩⟩
  simp only [finV]
  unfold mapC
  split
  · rename_i hx; rw [e2 hx]; rfl
  · rw [e1]; rfl
theorem Ent.st {d : Nat} {keep : List Nat} {h : Store} {xs ys : List AV} (k : EntDs (d + 1) keep h xs ys) (hc : closedL ys = true) : EntD (d + 2) keep h (.st xs) (.st ys) := by
  obtain ⟨zs, e1, e2, e3, e4⟩ := entDs_ok k hc
  refine ⟨.st zs, ?_, Or.inr ⟨e3, WeakC.st e4⟩⟩
  simp only [finV]
  unfold mapC
  split
  · rename_i hx; rw [e2 hx]; rfl
  · rw [e1]; rfl
def EntE (keep : List Nat) (h : Store) (env : Env) : Env → Prop
  | [] => True
  | (t, x) :: r => Ent keep h (env.get t) x ∧ EntE keep h env r
theorem EntE.nil {keep : List Nat} {h : Store} {env : Env} : EntE keep h env [] := trivial
theorem EntE.cons {keep : List Nat} {h : Store} {env : Env} {t : Nat} {x : AV} {r : Env} (a : Ent keep h (env.get t) x) (b : EntE keep h env r) : EntE keep h env ((t, x) :: r) := ⟨a, b⟩
def WeakEls : List AV → List AV → Prop
  | _, [] => True
  | x :: xs, y :: ys => (closedL x.cells = true ∧ WeakL x.cells y.cells) ∧ WeakEls xs ys
  | [], _ :: _ => False
theorem WeakEls.get : ∀ {xs ys : List AV} (_ : WeakEls xs ys), ys.length ≤ xs.length ∧ ∀ (j : Nat) (y : AV), ys[j]? = some y → ∃ x, xs[j]? = some x ∧ closedL x.cells = true ∧ WeakL x.cells y.cells
  | _, [], _ => ⟨Nat.zero_le _, fun j y hy => by simp at hy⟩
  | [], _ :: _, k => k.elim
  | x :: xs, y :: ys, k => by
    obtain ⟨h1, h2⟩ := WeakEls.get k.2
    refine ⟨by simp [h1], fun j z hz => ?_⟩
    cases j with
    | zero => simp at hz; subst hz; exact ⟨x, rfl, k.1⟩
    | succ j => simp at hz; obtain ⟨q, q1, q2⟩ := h2 j z hz; exact ⟨q, by simpa using q1, q2⟩
theorem WeakL.len : ∀ {xs ys : List AV}, WeakL xs ys → xs.length = ys.length
  | [], [], _ => rfl
  | _ :: _, _ :: _, k => by simp [WeakL.len k.2]
def ObjE (keep : List Nat) (h h' : Store) (id q : Nat) : Prop := (h.get id).bind (finO keep h 9) = h'.get q ∨
  ∃ o o1 o', h.get id = some o ∧ finO keep h 9 o = some o1 ∧ h'.get q = some o' ∧ o1.e = o'.e ∧ o1.k = o'.k ∧ WeakEls o1.els o'.els
def FitsObjsW (keep : List Nat) (h h' : Store) : Nat → List Nat → Prop
  | _, [] => True
  | p, id :: r => ObjE keep h h' id p ∧ FitsObjsW keep h h' (p + 1) r
theorem FitsObjsW_get {keep : List Nat} {h h' : Store} : ∀ {l : List Nat} {q : Nat}, FitsObjsW keep h h' q l → ∀ p id, l[p]? = some id → ObjE keep h h' id (q + p)
  | [], q, _, p, id, hp => by simp at hp
  | i :: r, q, k, p, id, hp => by
    simp only [FitsObjsW] at k
    cases p with
    | zero => simp at hp; subst hp; exact k.1
    | succ p =>
      simp at hp
      have := FitsObjsW_get k.2 p id hp
      rwa [show q + 1 + p = q + (p + 1) by omega] at this
theorem weak_blk {w : World} {μ : Mu} {o o' : Obj} {sl : Slot} (he : o.e = o'.e) (hk : o.k = o'.k) (hw : WeakEls o.els o'.els) (B : BlkOk w μ o sl) : BlkOk w μ o' sl := by
  obtain ⟨h1, h2⟩ := hw.get
  obtain ⟨cs, c1, c2, c3⟩ := B.blk
  refine ⟨B.k.trans hk, by rw [← hk]; exact B.pos, Nat.le_trans h1 B.len, B.cap, cs, by rw [← he]; exact c1, by rw [← hk]; exact c2, fun j y hy => ?_⟩
  obtain ⟨x, x1, x2, x3⟩ := h2 j y hy
  obtain ⟨q1, q2⟩ := c3 j x x1
  refine ⟨by rw [← x3.len, q1, hk], fun i z hz => ?_⟩
  have hi : i < x.cells.length := by rw [x3.len]; exact (List.getElem?_eq_some_iff.1 hz).1
  have hx := List.getElem?_eq_getElem hi
  obtain ⟨u, u1, u2, u3⟩ := q2 i _ hx
  refine ⟨u, by rw [← hk]; exact u1, ?_, u3⟩
  have key : ∀ {xs ys : List AV}, closedL xs = true → WeakL xs ys → ∀ (i : Nat) (a b : AV), xs[i]? = some a → ys[i]? = some b → closed a = true ∧ WeakC a b := by
    intro xs
    induction xs with
    | nil => intro ys _ _ i a b ha; simp at ha
    | cons a0 xs ih =>
      intro ys hc hw i a b ha hb
      cases ys with
      | nil => exact hw.elim
      | cons b0 ys =>
        simp only [closedL, Bool.and_eq_true] at hc
        cases i with
        | zero => simp at ha hb; subst ha; subst hb; exact ⟨hc.1, hw.1⟩
        | succ i => simp at ha hb; exact ih hc.2 hw.2 i a b ha hb
  obtain ⟨e1, e2⟩ := key x2 x3 i _ _ hx hz
  exact VR_of_CR _ _ (e2 _ _ _ (CR_of_closed _ _ e1 u2))
theorem FitsObjs.nil {keep : List Nat} {h h' : Store} {p : Nat} : FitsObjsW keep h h' p [] := trivial
theorem FitsObjs.cons {keep : List Nat} {h h' : Store} {p id : Nat} {r : List Nat} (a : (h.get id).bind (finO keep h 9) = h'.get p) (b : FitsObjsW keep h h' (p + 1) r) : FitsObjsW keep h h' p (id :: r) := ⟨Or.inl a, b⟩
theorem FitsObjs.consW {keep : List Nat} {h h' : Store} {p id : Nat} {r : List Nat} (a : ObjE keep h h' id p) (b : FitsObjsW keep h h' (p + 1) r) : FitsObjsW keep h h' p (id :: r) := ⟨a, b⟩
theorem AOps.done {P : Program} {W : World} {T : Tab} {n : Nat} {ops : Array Oper} {env : Env} {h : Store} {Q : Env → Store → Prop} (k : Q env h) : AOps P W T n ops [] env h Q := k
theorem AOpsD.fin {P : Program} {W : World} {T : Tab} {n m i : Nat} {ops : Array Oper} {env : Env} {h : Store} {Q : Env → Store → Prop} (k : Q env h) : AOpsD P W T n ops m i [] env h Q := k
structure FitsW (keep : List Nat) (env : Env) (h : Store) (env' : Env) (h' : Store) : Prop where
  nodup : keep.Nodup
  next : h'.next = keep.length
  objs : FitsObjsW keep h h' 0 keep
  vars : EntE keep h env env'
theorem EntE_get {keep : List Nat} {h : Store} {env : Env} : ∀ {env' : Env}, EntE keep h env env' → ∀ t, env'.get t = .und ∨ Ent keep h (env.get t) (env'.get t)
  | [], _, t => Or.inl rfl
  | (t', x) :: r, k, t => by
    simp only [EntE] at k
    rw [get_cons]
    by_cases ht : t = t'
    · subst ht; right; rw [if_pos rfl]; exact k.1
    · rw [if_neg ht]; exact EntE_get k.2 t
theorem ent_ok {w0 w : World} {μ : Mu} {h : Store} (s : Sim w0 μ w h) {keep : List Nat} {x y : AV} (e : Ent keep h x y) {v : Value} (hv : VR w μ x v) : VR w (μ.fin keep) y v := by
  obtain ⟨z, e1, e2⟩ := e
  have h1 := finV_ok s keep 9 _ _ _ e1 hv
  rcases e2 with rfl | ⟨hc, hw⟩
  · exact h1
  · exact VR_of_CR _ _ (hw _ _ _ (CR_of_closed _ _ hc h1))
theorem rel_finW {n : Nat} {B : Base} {w0 w : World} {μ : Mu} {env env' : Env} {h h' : Store} {a : Act} (R : Rel n B w0 μ env h a w) {keep : List Nat} (F : FitsW keep env h env' h')
    (hN : ∀ i, i < B.N → keep[i]? = some i) : Rel n B w0 (μ.fin keep) env' h' a w where
  glob := R.glob
  snc := {
    ext := ⟨fun x u hr => ext_less (fin_keeps μ keep).less _ _ (R.snc.ext.rd x u hr), fun id t ht => by
      have : id < B.N := by
        rcases Nat.lt_or_ge id B.N with q | q
        · exact q
        · rw [R.snc.top id q] at ht; cases ht
      have e : (μ.fin keep) id = μ id := by dsimp only [Mu.fin]; rw [hN id this]; rfl
      rw [e]; exact R.snc.ext.mu id t ht, R.snc.ext.bl, fun g q => R.snc.ext.mt g ((fin_keeps μ keep).less g q)⟩
    y := R.snc.y
    dom := fun id hi h0 => by
      have e : (μ.fin keep) id = μ id := by dsimp only [Mu.fin]; rw [hN id hi]; rfl
      rw [e]; exact R.snc.dom id hi h0
    top := R.snc.top }
  low := by
    rw [F.next]
    cases e : B.N with
    | zero => omega
    | succ k => have := (List.getElem?_eq_some_iff.1 (hN k (by omega))).1; omega
  sim := {
    below := R.sim.below
    lt := fun p t ht => by
      obtain ⟨id, h1, h2⟩ := Option.bind_eq_some_iff.1 ht
      exact R.sim.lt id t h2
    inj := fun p p' t t' ht ht' e => by
      obtain ⟨id, h1, h2⟩ := Option.bind_eq_some_iff.1 ht
      obtain ⟨id', h1', h2'⟩ := Option.bind_eq_some_iff.1 ht'
      have := R.sim.inj id id' t t' h2 h2' e
      subst this
      exact nodup_get F.nodup h1 h1'
    live := fun p o ho hp => by
      obtain ⟨id, h1, h2⟩ := Option.bind_eq_some_iff.1 hp
      have := FitsObjsW_get F.objs p id h1
      rw [Nat.zero_add] at this
      rcases this with this | ⟨o0, o1, o2, e1, _⟩
      · rw [ho] at this
        obtain ⟨o', h3, _⟩ := Option.bind_eq_some_iff.1 this
        exact R.sim.live id o' h3 h2
      · exact R.sim.live id o0 e1 h2
    ylt := R.sim.ylt
    blk := fun p o t ho hp => by
      obtain ⟨id, h1, h2⟩ := Option.bind_eq_some_iff.1 hp
      have := FitsObjsW_get F.objs p id h1
      rw [Nat.zero_add] at this
      rcases this with this | ⟨o0, o1, o2, e1, e2, e3, e4, e5, e6⟩
      · rw [ho] at this
        obtain ⟨o', h3, h4⟩ := Option.bind_eq_some_iff.1 this
        exact finO_ok R.sim keep h4 (R.sim.blk id o' t h3 h2)
      · rw [ho] at e3; cases e3
        exact weak_blk e4 e5 e6 (finO_ok R.sim keep e2 (R.sim.blk id o0 t e1 h2)) }
  env := fun t => by
    rcases EntE_get F.vars t with e | e
    · rw [e]; simp only [VR]
    · exact ent_ok R.sim e (R.env t)
  sz := R.sz
  dfr := R.dfr
  fresh := fun p hp => by
    dsimp only [Mu.fin]
    rw [List.getElem?_eq_none (by rw [F.next] at hp; exact hp)]; rfl
def NoGoto (Q : Post) : Post
  | .goto _, _, _ => False
  | e, env, h => Q e env h
theorem Awp.scopeN {P : Program} {W : World} {n N : Nat} {c : Code} {env : Env} {h : Store} {Q : Post} (k : Awp P W n N c env h (NoGoto Q)) : Awp P W n N (.scope c) env h Q :=
  Awp.scope (k.mono fun e env h q => by
    cases e with
    | goto l => exact q.elim
    | _ => exact ⟨fun l => by simp, q⟩)
theorem Awp.fitsW {P : Program} {W : World} {n N : Nat} {Q : Post} {c : Code} {env : Env} {h : Store} (keep : List Nat) {env' : Env} {h' : Store} (F : FitsW keep env h env' h') (hN : ∀ i, i < N → keep[i]? = some i) (k : Awp P W n N c env' h' Q) : Awp P W n N c env h Q :=
  fun B w0 μ a w hW hB R => k B w0 _ a w hW hB (rel_finW R (by exact F) (by rw [hB]; exact hN))
def CutP (N : Nat) (E : Env) (H : Store) (Q : Post) : Post
  | .normal, env, h => ∃ keep, FitsW keep env h E H ∧ ∀ i, i < N → keep[i]? = some i
  | e, env, h => Q e env h
theorem Awp.cut {P : Program} {W : World} {n N : Nat} {env : Env} {h : Store} {Q : Post} {x y : Code} (E : Env) (H : Store)
    (kx : Awp P W n N x env h (CutP N E H Q)) (ky : Awp P W n N y E H Q) : Awp P W n N (.seq x y) env h Q := by
  have key : Awp P W n N x env h (fun e env1 h1 => (e = .normal ∧ env1 = E ∧ h1 = H) ∨ (e ≠ .normal ∧ Q e env1 h1)) := fun B w0 μ a w hW hB R => wp_mono (kx B w0 μ a w hW hB R) fun e a' w' hh => by
    obtain ⟨env', h', μ', q, r⟩ := hh
    cases e with
    | normal =>
      obtain ⟨keep, F, hN⟩ := q
      exact ⟨E, H, μ'.fin keep, Or.inl ⟨rfl, rfl, rfl⟩, rel_finW r F (by rw [hB]; exact hN)⟩
    | _ => exact ⟨env', h', μ', Or.inr ⟨by simp, q⟩, r⟩
  refine Awp.seq (key.mono fun e env' h' q => ?_)
  rcases q with ⟨rfl, rfl, rfl⟩ | ⟨hne, q⟩
  · exact ky
  · cases e <;> first | exact q | exact absurd rfl hne
def LoopP (N : Nat) {σ : Type} (E : σ → Env) (H : σ → Store) (Inv : σ → Prop) (m : σ → Nat) (k : Nat) (Q : Post) : Post
  | .normal, env, h => ∃ s', m s' < k ∧ Inv s' ∧ ∃ keep, FitsW keep env h (E s') (H s') ∧ ∀ i, i < N → keep[i]? = some i
  | e, env, h => Q e env h
theorem Awp.loopT {P : Program} {W : World} {n N : Nat} {env : Env} {h : Store} {Q : Post} {c : Code} {σ : Type} (E : σ → Env) (H : σ → Store) (Inv : σ → Prop) (m : σ → Nat) (s0 : σ)
    (h0 : ∃ keep, FitsW keep env h (E s0) (H s0) ∧ ∀ i, i < N → keep[i]? = some i) (i0 : Inv s0)
    (round : ∀ s, Inv s → Awp P W n N c (E s) (H s) (LoopP N E H Inv m (m s) Q)) : Awp P W n N (.loop c) env h Q :=
  fun B w0 μ a w hW hB R => by
    obtain ⟨keep, F, hN⟩ := h0
    refine wp_loop_k (fun k a w => ∃ s μ, m s = k ∧ Inv s ∧ Rel n B w0 μ (E s) (H s) a w) (k0 := m s0) ⟨s0, _, rfl, i0, rel_finW R F (by rw [hB]; exact hN)⟩ fun k a w ⟨s, μ, hk, hI, R⟩ =>
      wp_mono (round s hI B w0 μ a w hW hB R) fun e a' w' hh => ?_
    obtain ⟨env', h', μ', q, r⟩ := hh
    cases e with
    | normal =>
      obtain ⟨s', hm, hI', keep, F, hN⟩ := q
      exact ⟨m s', by omega, s', _, rfl, hI', rel_finW r F (by rw [hB]; exact hN)⟩
    | _ => exact ⟨env', h', μ', q, r⟩
def FinC (ts : List Nat) (r : AV) : Post := fun e env h => (e = .normal ∨ e = .ret) ∧ Ent [] h (resAV ts env) r
theorem pure_of_bodyC {P : Program} {W : World} {f : FuncId} {fn : Func} {c : Code} (hf : P.funcs[f]? = some fn) (hb : fn.body = some c) (he : ∀ (vs : Array Value) (w : World), (callFunc f vs).run P w = .ok (.enter f vs) w)
    {ts : List Nat} (hr : resTmps fn.results.toList = some ts) {args : List AV} (hn : args.length ≤ fn.ntmps) {r : AV}
    (k : Awp P W fn.ntmps 0 c (argEnv 0 args) ⟨0, []⟩ (FinC ts r)) (hM : f < 1000000 := by decide) : PureAt P W f args r [] := .plain hM he <| fun w Y vs hG hY hvs => by
    have hvr := VRs_of_CRs _ _ hvs
    have hlen := VRs_length hvr
    refine calls_of_wp hf hb ?_
    have R : Rel fn.ntmps ⟨W, w, mu0 Y, 0⟩ w (mu0 Y) (argEnv 0 args) ⟨0, []⟩ { tmps := vs.toArray ++ Array.replicate (fn.ntmps - vs.toArray.size) undef, defers := [] } w := {
      glob := hG
      snc := ⟨Ext.refl _ _, rfl, fun _ h => by simp at h, fun _ _ => rfl⟩
      low := Nat.zero_le _
      sim := {
        below := Below.refl _ _
        lt := by intro _ _ h; cases h
        inj := by intro _ _ _ _ h; cases h
        live := by intro _ _ _ h; cases h
        ylt := hY
        blk := by intro _ _ _ _ h; cases h }
      env := start_env hvr _
      sz := by simp [hlen]; omega
      dfr := rfl
      fresh := fun _ _ => rfl }
    refine wp_mono (k _ w (mu0 Y) _ w rfl rfl R) ?_
    rintro e a' w' ⟨env', h', μ', ⟨he, hE⟩, R'⟩
    have hv := ent_ok R'.sim hE (resAV_ok R'.env ts)
    have R2 := rel_fin R' (keep := []) (env' := []) (h' := S0 []) ⟨List.nodup_nil, rfl, trivial, trivial⟩ (fun i hi => by simp at hi)
    have hrun := results_run (P := P) hr a'.tmps w'
    have hpost : a'.defers = [] ∧ ∃ v, (results fn a'.tmps).run P w' = .ok v w' ∧ ∃ v' μ'', (Ending.returned v) = .returned v' ∧ μ''.Y = Y ∧ VR w' μ'' r v' ∧ Sim w μ'' w' (S0 []) ∧ (∀ id, ([] : List Obj).length ≤ id → μ'' id = none) :=
      ⟨R'.dfr, _, hrun, _, μ'.fin [], rfl, R'.snc.y, hv, R2.sim, R2.fresh⟩
    rcases he with rfl | rfl
    · exact hpost
    · exact hpost
end
end Go.Lift
namespace Go.Lift
noncomputable section
open Go Go.RowKit
set_option linter.unusedSimpArgs false
set_option linter.unusedVariables false
set_option linter.unusedSectionVars false
def slA {α : Type} (k : Nat) (A : α → AV) (xs : List α) : AV := .sl k false (xs.map A)
def ptA {α : Type} (A : α → AV) (x : α) : AV := .pt (A x).cells
def accV {α : Type} (p k : Nat) (A : α → AV) (xs : List α) : AV := match xs with
  | [] => .sl k true []
  | x :: r => .own p 0 (r.length + 1)
def accO {α : Type} (e k : Nat) (A : α → AV) (xs : List α) : Option Obj := match xs with
  | [] => none
  | x :: r => some ⟨e, k, (x :: r).map A⟩
section
variable {T : Tab} {ρ : Opnd} {h : Store} {dst : Option Tmp} {ty : TypeId} {pos : String} {af : Array Edge} {gd : Option (Nat × Bool)} {α : Type} {A : α → AV}
theorem g_addN {t yt : TypeId} {x y : Operand} {i m : Nat} (ex : ρ (kOf T t) x = some (.i .i64 (i : Int))) (ey : ρ (kOf T t) y = some (.i .i64 (m : Int))) (hb : i + m ≤ 9223372036854775807) :
    qop T ρ h ⟨dst, .binOp .add t x y yt, ty, pos, af, gd⟩ = some (.i .i64 ((i + m : Nat) : Int)) := by
  simp only [qop, ex, ey, pbin, pint, if_true]
  rw [wrap_i64 (by omega) (by omega)]; rfl
theorem g_subN {t yt : TypeId} {x y : Operand} {i m : Nat} (ex : ρ (kOf T t) x = some (.i .i64 (i : Int))) (ey : ρ (kOf T t) y = some (.i .i64 (m : Int))) (hle : m ≤ i) (hb : i ≤ 9223372036854775807) :
    qop T ρ h ⟨dst, .binOp .sub t x y yt, ty, pos, af, gd⟩ = some (.i .i64 ((i - m : Nat) : Int)) := by
  simp only [qop, ex, ey, pbin, pint, if_true]
  rw [wrap_i64 (by omega) (by omega)]
  congr 2; omega
theorem g_len {x : Operand} {t e : TypeId} {k : Nat} {nl : Bool} {xs : List α} (ex : ρ 0 x = some (.sl k nl (xs.map A))) (et : descOf T t = .slice e) :
    qop T ρ h ⟨dst, .call ⟨.builtin .len, #[x], #[t]⟩, ty, pos, af, gd⟩ = some (.i .i64 (xs.length : Int)) := by
  simp only [qop, qcall, ex, et, List.length_map]
theorem g_lenAcc {x : Operand} {t e : TypeId} {p k : Nat} {xs : List α} (ex : ρ 0 x = some (accV p k A xs)) (et : descOf T t = .slice e) (hg : xs ≠ [] → (h.get p).isSome = true) :
    qop T ρ h ⟨dst, .call ⟨.builtin .len, #[x], #[t]⟩, ty, pos, af, gd⟩ = some (.i .i64 (xs.length : Int)) := by
  cases xs with
  | nil => simp only [accV] at ex; simp only [qop, qcall, ex, et, List.length_nil]
  | cons x r => simp only [accV] at ex; simp only [qop, qcall, ex, et, List.length_cons, hg (by simp), if_true]
theorem map_get {xs : List α} {i : Nat} {y : α} (hy : xs[i]? = some y) : (xs.map A)[i]? = some (A y) := by rw [List.getElem?_map, hy]; rfl
theorem g_idx {x ix : Operand} {t e : TypeId} {k : Nat} {nl : Bool} {kk : IntKind} {xs : List α} {i : Nat} {y : α} (et : elemT T t = some e) (ex : ρ 0 x = some (.sl k nl (xs.map A))) (ei : ρ 0 ix = some (.i kk (i : Int))) (hk : k = sizeT T e ∧ k ≠ 0) (hy : xs[i]? = some y) :
    qop T ρ h ⟨dst, .indexAddr t x ix, ty, pos, af, gd⟩ = some (.pt (A y).cells) := by
  simp only [qop, et, ex, ei, Int.toNat_natCast, map_get hy]
  rw [if_pos ⟨hk.1, hk.2, by omega⟩]
theorem g_idxI {x ix : Operand} {t e : TypeId} {k : Nat} {nl : Bool} {kk : IntKind} {xs : List α} {n : Int} {y : α} (et : elemT T t = some e) (ex : ρ 0 x = some (.sl k nl (xs.map A))) (ei : ρ 0 ix = some (.i kk n)) (hk : k = sizeT T e ∧ k ≠ 0) (hn : 0 ≤ n) (hy : xs[n.toNat]? = some y) :
    qop T ρ h ⟨dst, .indexAddr t x ix, ty, pos, af, gd⟩ = some (.pt (A y).cells) := by
  simp only [qop, et, ex, ei, map_get hy]
  rw [if_pos ⟨hk.1, hk.2, hn⟩]
theorem g_oidx {x ix : Operand} {t e : TypeId} {id len : Nat} {kk : IntKind} {i : Nat} {ob : Obj} (et : elemT T t = some e) (ex : ρ 0 x = some (.own id 0 len)) (ei : ρ 0 ix = some (.i kk (i : Int))) (hg : h.get id = some ob) (hk : ob.k = sizeT T e) (hl : i < len) :
    qop T ρ h ⟨dst, .indexAddr t x ix, ty, pos, af, gd⟩ = some (.loc id i 0) := by
  simp only [qop, et, ex, ei, hg, Int.toNat_natCast, Nat.zero_add]
  rw [if_pos ⟨hk, by omega, by omega⟩]
theorem g_oidxI {x ix : Operand} {t e : TypeId} {id len : Nat} {kk : IntKind} {n : Int} {ob : Obj} (et : elemT T t = some e) (ex : ρ 0 x = some (.own id 0 len)) (ei : ρ 0 ix = some (.i kk n)) (hg : h.get id = some ob) (hk : ob.k = sizeT T e) (h0 : 0 ≤ n) (hl : n < len) :
    qop T ρ h ⟨dst, .indexAddr t x ix, ty, pos, af, gd⟩ = some (.loc id n.toNat 0) := by
  simp only [qop, et, ex, ei, hg, Nat.zero_add]
  rw [if_pos ⟨hk, h0, hl⟩]
theorem g_oload {x : Operand} {t e k : Nat} {i : TI} {id j : Nat} {xs : List α} {y : α} {r : AV} (et : look T t = some i) (ex : ρ 0 x = some (.loc id j 0)) (hg : h.get id = some ⟨e, k, xs.map A⟩) (hy : xs[j]? = some y) (hp : partOf i.desc.agg i.size (A y).cells = some r) :
    qop T ρ h ⟨dst, .load t x, ty, pos, af, gd⟩ = some r := by
  simp only [qop, et, ex, Option.bind_some, memAt, hg, map_get hy, List.drop_zero, hp]
theorem g_str {x ix : Operand} {t : TypeId} {kk : IntKind} {s : ByteArray} {i : Nat} {b : UInt8} (et : descOf T t = .str) (ex : ρ 0 x = some (.s s)) (ei : ρ 0 ix = some (.i kk (i : Int))) (hy : s.data[i]? = some b) :
    qop T ρ h ⟨dst, .index t x ix, ty, pos, af, gd⟩ = some (.i .u8 (b.toNat : Int)) := by
  simp only [qop, et, ex, ei, Int.toNat_natCast, hy]
  rw [if_pos (by omega)]
theorem g_sadd {t yt : TypeId} {x y : Operand} {a b : ByteArray} (ex : ρ (kOf T t) x = some (.s a)) (ey : ρ (kOf T t) y = some (.s b)) (hb : a.size + b.size ≤ LIM) :
    qop T ρ h ⟨dst, .binOp .add t x y yt, ty, pos, af, gd⟩ = some (.s (a ++ b)) := by
  simp only [qop, ex, ey, pbin, pstr, hb, if_true]
theorem bnd_nat {n m : Nat} (hn : n ≤ m) : bnd (n : Int) m = some n := by
  unfold bnd; rw [if_pos ⟨by omega, by omega⟩]; simp
theorem g_sub {x : Operand} {t : TypeId} {lo hi : Option Operand} {s : ByteArray} {l g : Option Int} {a b : Nat} (ex : ρ 0 x = some (.s s)) (et : descOf T t = .str) (el : bdOf ρ lo = some l) (eg : bdOf ρ hi = some g)
    (ha : l.getD 0 = (a : Int)) (hb : g.getD s.size = (b : Int)) (h1 : a ≤ b) (h2 : b ≤ s.size) :
    qop T ρ h ⟨dst, .slice t x lo hi none, ty, pos, af, gd⟩ = some (.s (s.extract a b)) := by
  simp only [qop, Option.isSome_none, Bool.false_eq_true, if_false, ex, el, eg, et, if_true, cutAV, ha, hb, bnd_nat h2, Option.bind_some, bnd_nat h1, Option.map_some]
theorem g_cutL {x : Operand} {t e : TypeId} {lo hi : Option Operand} {k : Nat} {nl : Bool} {xs : List α} {l g : Option Int} {a b : Nat} (ex : ρ 0 x = some (.sl k nl (xs.map A))) (et : elemT T t = some e) (hk : k = sizeT T e ∧ k ≠ 0) (el : bdOf ρ lo = some l) (eg : bdOf ρ hi = some g)
    (ha : l.getD 0 = (a : Int)) (hb : g.getD ((xs.length : Nat) : Int) = (b : Int)) (h1 : a ≤ b) (h2 : b ≤ xs.length) :
    qop T ρ h ⟨dst, .slice t x lo hi none, ty, pos, af, gd⟩ = some (.sl k nl (((xs.take b).drop a).map A)) := by
  simp only [qop, Option.isSome_none, Bool.false_eq_true, if_false, ex, el, eg, et]
  rw [if_pos hk]
  simp only [cutAV, List.length_map, ha, hb, bnd_nat h2, Option.bind_some, bnd_nat h1, Option.map_some, List.map_drop, List.map_take]
theorem g_app {s x : Operand} {t e : TypeId} {i : TI} {p : Nat} {xs ys : List α} {X : AV} (et : elemT T t = some e) (ei : look T e = some i) (es : ρ (kOf T t) s = some (accV p i.size A xs)) (hx : ρ (kOf T t) x = some X) (hX : elsOf h X = some (i.size, ys.map A)) (hy : ys ≠ [])
    (h0 : (i.size ≠ 0 ∧ i.zero.cells.length = i.size)) (hg : h.get p = accO e i.size A xs) (hp : xs = [] → h.put p none = h) (hb : (xs.length + ys.length) * i.bytes ≤ 140737488355328) (hl : xs.length + ys.length ≤ LIM) :
    eop T ρ h ⟨dst, .call ⟨.builtin .append, #[s, x], #[t, t]⟩, ty, pos, af, gd⟩ = some (.own h.next 0 ((xs ++ ys).length), (h.put p none).new ⟨e, i.size, (xs ++ ys).map A⟩) := by
  cases ys with
  | nil => exact absurd rfl hy
  | cons y ys =>
    cases xs with
    | nil =>
      simp only [accV] at es
      simp only [eop, ne_eq, not_true, if_false, et, ei, es, hx, Option.bind_some, hX]
      simp only [List.length_nil, Nat.zero_add, List.length_cons] at hb hl
      rw [if_pos ⟨trivial, h0.1, h0.2, by simpa using hb, by simpa using hl⟩, hp rfl]
      simp
    | cons z zs =>
      simp only [accV] at es
      simp only [accO] at hg
      simp only [eop, ne_eq, not_true, if_false, et, ei, es, hx, Option.bind_some, hX, hg]
      simp only [List.length_cons] at hb hl
      rw [if_pos ⟨trivial, h0.1, trivial, trivial, by simp, h0.2, by simpa using hb, by simpa using hl⟩]
      have e1 : List.take (zs.length + 1) ((z :: zs).map A) ++ (y :: ys).map A = (z :: zs ++ y :: ys).map A := by
        rw [List.take_of_length_le (by simp), List.map_append]
      rw [e1]
      have e2 : zs.length + 1 + (List.map A (y :: ys)).length = (z :: zs ++ y :: ys).length := by simp; omega
      rw [e2]
theorem g_appR {s x : Operand} {t e : TypeId} {i : TI} {p len : Nat} {xs ys : List α} {X : AV} (et : elemT T t = some e) (ei : look T e = some i) (es : ρ (kOf T t) s = some (.own p 0 len)) (hx : ρ (kOf T t) x = some X) (hX : elsOf h X = some (i.size, ys.map A))
    (h0 : (i.size ≠ 0 ∧ i.zero.cells.length = i.size)) (hg : h.get p = some ⟨e, i.size, xs.map A⟩) (hlen : len = xs.length) (hb : (xs.length + ys.length) * i.bytes ≤ 140737488355328) (hl : xs.length + ys.length ≤ LIM) :
    eop T ρ h ⟨dst, .call ⟨.builtin .append, #[s, x], #[t, t]⟩, ty, pos, af, gd⟩ = some (.own h.next 0 ((xs ++ ys).length), (h.put p none).new ⟨e, i.size, (xs ++ ys).map A⟩) := by
  subst hlen
  simp only [eop, ne_eq, not_true, if_false, et, ei, es, hx, Option.bind_some, hX, hg]
  rw [if_pos ⟨trivial, h0.1, trivial, trivial, by simp, h0.2, by simpa using hb, by simpa using hl⟩]
  simp [List.take_of_length_le]
theorem g_set {a v : Operand} {t e k : Nat} {i : TI} {id j : Nat} {xs : List α} {y : α} (et : look T t = some i) (ea : ρ 0 a = some (.loc id j 0)) (ev : ρ (kOf T t) v = some (A y)) (hg : h.get id = some ⟨e, k, xs.map A⟩) (hj : j < xs.length)
    (hc : ∀ z : α, (A z).cells.length = i.size) (hin : cellsIn h (A y) = true) (hf : ∀ z : α, fitAV (A z) (A y) = true) (hw : ∀ z : α, (A z).withCells (A y).cells = A y) :
    eop T ρ h ⟨dst, .store t a v, ty, pos, af, gd⟩ = some (.und, h.put id (some ⟨e, k, (xs.set j y).map A⟩)) := by
  have hx : xs[j]? = some xs[j] := List.getElem?_eq_getElem hj
  simp only [eop, et, ea, ev, hg, map_get hx]
  rw [if_pos ⟨hc y, by rw [hc]; omega, hin, hf _⟩]
  simp only [List.take_zero, List.nil_append, Nat.zero_add]
  rw [List.drop_of_length_le (by rw [hc]; exact Nat.le_refl _), List.append_nil, hw, List.map_set]
theorem g_make {l c : Operand} {t e : TypeId} {i : TI} {z : α} {n : Nat} (et : elemT T t = some e) (ei : look T e = some i) (el : ρ 0 l = some (.i .i64 (n : Int))) (ec : ρ 0 c = some (.i .i64 (n : Int))) (h0 : (i.size ≠ 0 ∧ i.zero.cells.length = i.size)) (hz : i.zero = A z) (hb : n * i.bytes ≤ 140737488355328) (hl : n ≤ 140737488355328) :
    nop T ρ h ⟨dst, .makeSlice t l c, ty, pos, af, gd⟩ = some (.own h.next 0 n, h.new ⟨e, i.size, (List.replicate n z).map A⟩) := by
  simp only [nop, et, ei, el, ec]
  rw [if_pos ⟨h0.2, h0.1, by omega, by omega, by omega, by omega⟩]
  simp [List.map_replicate, hz]
end
theorem closedL_map {α : Type} {A : α → AV} (hA : ∀ x, closed (A x) = true) (xs : List α) : closedL (xs.map A) = true := by
  rw [closedL_all]; simp [hA]
theorem ent_row {d : Nat} {α : Type} {A : α → AV} (hA : ∀ x, closed (A x) = true) {keep : List Nat} {h : Store} {id e k len : Nat} {xs : List α} (hk : posOf keep id = none) (hn : keep.contains id = false) (hg : h.get id = some ⟨e, k, xs.map A⟩) (hlen : len = xs.length) (hL : len ≤ LIM) :
    EntD (d + 1) keep h (.own id 0 len) (slA k A xs) := Ent.f (by
  subst hlen
  simp only [finV, hk, snapC, hn, hg, Bool.false_eq_true, if_false, List.length_map, Nat.zero_add, Nat.le_refl, hL, and_self, if_true, List.drop_zero]
  rw [List.take_of_length_le (by simp)]
  simp only [mapC, closedL_map hA, if_true, Option.map_some]; rfl)
theorem ent_acc {d : Nat} {α : Type} {A : α → AV} (hA : ∀ x, closed (A x) = true) {keep : List Nat} {h : Store} {id e k : Nat} {xs : List α} (hk : posOf keep id = none) (hn : keep.contains id = false) (hg : h.get id = accO e k A xs) (hL : xs.length ≤ LIM) :
    EntD (d + 1) keep h (accV id k A xs) (slA k A xs) := by
  cases xs with
  | nil => exact Ent.w rfl (WeakC.nil k)
  | cons x r => exact ent_row hA hk hn hg rfl hL
theorem ent_keep {α : Type} {A : α → AV} {keep : List Nat} {h : Store} {id k p len : Nat} {xs : List α} (hp : posOf keep id = some p) (hx : xs ≠ []) (hlen : len = xs.length) : Ent keep h (.own id 0 len) (accV p k A xs) := by
  cases xs with
  | nil => exact absurd rfl hx
  | cons x r => subst hlen; exact Ent.f (by simp only [finV, hp, accV, List.length_cons])
theorem ent_keepA {α : Type} {A : α → AV} {keep : List Nat} {h : Store} {id k p : Nat} {xs : List α} (hp : posOf keep id = some p) : Ent keep h (accV id k A xs) (accV p k A xs) := by
  cases xs with
  | nil => exact Ent.c rfl rfl
  | cons x r => exact Ent.f (by simp only [finV, hp, accV])
theorem obj_acc {α : Type} {A : α → AV} (hA : ∀ x, closed (A x) = true) {keep : List Nat} {h h' : Store} {id q e k d : Nat} {xs : List α} (hg : h.get id = accO e k A xs) (hg' : h'.get q = accO e k A xs) : (h.get id).bind (finO keep h d) = h'.get q := by
  rw [hg, hg']
  cases xs with
  | nil => rfl
  | cons x r => exact finO_c (closedL_map hA (x :: r))
theorem obj_row {α : Type} {A : α → AV} (hA : ∀ x, closed (A x) = true) {keep : List Nat} {h h' : Store} {id q e k d : Nat} {xs : List α} (hg : h.get id = some ⟨e, k, xs.map A⟩) (hg' : h'.get q = some ⟨e, k, xs.map A⟩) : (h.get id).bind (finO keep h d) = h'.get q := by
  rw [hg, hg']; exact finO_c (closedL_map hA xs)
theorem obj_acc' {α : Type} {A : α → AV} (hA : ∀ x, closed (A x) = true) {keep : List Nat} {h h' : Store} {id q e k d : Nat} {xs : List α} (hx : xs ≠ []) (hg : h.get id = some ⟨e, k, xs.map A⟩) (hg' : h'.get q = accO e k A xs) : (h.get id).bind (finO keep h d) = h'.get q := by
  cases xs with
  | nil => exact absurd rfl hx
  | cons x r => exact obj_row hA hg hg'
def SnapL (h : Store) : List AV → List AV → Prop
  | [], [] => True
  | x :: xs, y :: ys => snapC [] h 8 x = some y ∧ SnapL h xs ys
  | _, _ => False
theorem snapC_c {no : List Nat} {h : Store} {d : Nat} {x : AV} (hc : closed x = true) : snapC no h (d + 1) x = some x := by
  cases x with
  | own _ _ _ => simp [closed] at hc
  | loc _ _ _ => simp [closed] at hc
  | st fs => simp only [closed] at hc; simp only [snapC, mapC, hc, if_true, Option.map_some]
  | tup fs => simp only [closed] at hc; simp only [snapC, mapC, hc, if_true, Option.map_some]
  | fn f fs => simp only [closed] at hc; simp only [snapC, mapC, hc, if_true, Option.map_some]
  | _ => rfl
theorem SnapL.ok {h : Store} {xs ys : List AV} (k : SnapL h xs ys) : mapC (snapC [] h 8) xs = some ys := by
  have key : ∀ {xs ys : List AV}, SnapL h xs ys → mapO (snapC [] h 8) xs = some ys ∧ (closedL xs = true → xs = ys) := by
    intro xs
    induction xs with
    | nil => intro ys k; cases ys with
      | nil => exact ⟨rfl, fun _ => rfl⟩
      | cons y ys => exact k.elim
    | cons x xs ih => intro ys k; cases ys with
      | nil => exact k.elim
      | cons y ys =>
        obtain ⟨h1, h2⟩ := ih k.2
        refine ⟨by simp only [mapO, k.1, h1], fun hc => ?_⟩
        simp only [closedL, Bool.and_eq_true] at hc
        have := k.1
        rw [snapC_c hc.1] at this
        cases this
        rw [h2 hc.2]
  obtain ⟨h1, h2⟩ := key k
  unfold mapC
  split
  · rename_i hc; rw [h2 hc]
  · exact h1
theorem obj_nils {α : Type} {B : α → AV} {keep : List Nat} {h h' : Store} {id q e k n : Nat} (hg : h.get id = some ⟨e, 1, (List.replicate n ([] : List α)).map (fun _ => AV.sl k true [])⟩) (hg' : h'.get q = some ⟨e, 1, (List.replicate n ([] : List α)).map (slA k B)⟩) : ObjE keep h h' id q := by
  refine Or.inr ⟨_, _, _, hg, finO_c (closedL_map (fun _ => rfl) _), hg', rfl, rfl, ?_⟩
  simp only [List.map_replicate]
  clear hg hg'
  induction n with
  | zero => trivial
  | succ n ih => exact ⟨⟨rfl, WeakC.nil k, trivial⟩, ih⟩
end
end Go.Lift
namespace Go.Lift
noncomputable section
open Go Go.RowKit
set_option linter.unusedSimpArgs false
set_option linter.unusedVariables false
set_option linter.unusedSectionVars false
inductive Lp (α β : Type) where
  | ret (a : α)
  | brk (b : β)
theorem drop_at {α : Type} {xs : List α} {i : Nat} {x : α} (h : xs[i]? = some x) : xs.drop i = x :: xs.drop (i + 1) := by
  have hlt := (List.getElem?_eq_some_iff.1 h).1
  have e := (List.getElem?_eq_some_iff.1 h).2
  rw [List.drop_eq_getElem_cons hlt, e]
theorem bytes_le {s : ByteArray} {i : Nat} (h : s.size ≤ i) : s.data.toList.length ≤ i := by rw [data_len]; exact h
theorem getD_some {α : Type} [Inhabited α] {xs : List α} {i : Nat} (h : i < xs.length) : xs[i]? = some (xs.getD i default) := by
  rw [List.getD_eq_getElem?_getD, List.getElem?_eq_getElem h]; rfl
theorem byteD_some {s : ByteArray} {i : Nat} (h : i < s.size) : s.data[i]? = some (s.data.getD i 0) := by
  have h' : i < s.data.size := h
  rw [Array.getD_eq_getD_getElem?, Array.getElem?_eq_getElem h']; rfl
theorem acc_some {α : Type} {e k : Nat} {A : α → AV} {xs : List α} (h : xs ≠ []) {o : Option Obj} (ho : o = accO e k A xs) : o.isSome = true := by
  cases xs with
  | nil => exact absurd rfl h
  | cons x r => rw [ho]; rfl
def accW {α : Type} (p k : Nat) (A : α → AV) (b : Bool) (xs : List α) : AV := match b with
  | false => .sl k true []
  | true => .own p 0 xs.length
def accWO {α : Type} (e k : Nat) (A : α → AV) (b : Bool) (xs : List α) : Option Obj := match b with
  | false => none
  | true => some ⟨e, k, xs.map A⟩
theorem ent_keepO {d : Nat} {keep : List Nat} {h : Store} {id p len len' : Nat} (hp : posOf keep id = some p) (hlen : len = len') : EntD (d + 1) keep h (.own id 0 len) (.own p 0 len') := by
  subst hlen; exact Ent.f (by simp only [finV, hp])
theorem obj_pre {α : Type} {A : α → AV} (hA : ∀ x, closed (A x) = true) (hc : ∀ x, closedL (A x).cells = true) {keep : List Nat} {h h' : Store} {id q e k : Nat} {xs ys : List α} (hp : ∃ r, xs = ys ++ r) (hg : h.get id = some ⟨e, k, xs.map A⟩) (hg' : h'.get q = some ⟨e, k, ys.map A⟩) : ObjE keep h h' id q := by
  obtain ⟨r, rfl⟩ := hp
  refine Or.inr ⟨_, _, _, hg, finO_c (closedL_map hA _), hg', rfl, rfl, ?_⟩
  clear hg hg'
  induction ys with
  | nil => cases r <;> trivial
  | cons y ys ih => exact ⟨⟨hc y, WeakL.refl _⟩, ih⟩
theorem take_pre {α : Type} (xs : List α) (n : Nat) : ∃ r, xs = xs.take n ++ r := ⟨xs.drop n, (List.take_append_drop n xs).symm⟩
theorem g_cutO {T : Tab} {ρ : Opnd} {h : Store} {dst : Option Tmp} {ty : TypeId} {pos : String} {af : Array Edge} {gd : Option (Nat × Bool)} {x : Operand} {t e : TypeId} {lo hi : Option Operand} {id len : Nat} {ob : Obj} {l g : Option Int} {b : Nat} (ex : ρ 0 x = some (.own id 0 len)) (hg : h.get id = some ob) (et : elemT T t = some e) (hk : ob.k = sizeT T e) (el : bdOf ρ lo = some l) (eg : bdOf ρ hi = some g)
    (ha : l.getD 0 = 0) (hb : g.getD (len : Int) = (b : Int)) (h2 : b ≤ ob.els.length) :
    qop T ρ h ⟨dst, .slice t x lo hi none, ty, pos, af, gd⟩ = some (.own id 0 b) := by
  simp only [qop, Option.isSome_none, Bool.false_eq_true, if_false, ex, el, eg, hg, et]
  rw [if_pos hk]
  simp only [cutAV, hg, ha, hb, Nat.sub_zero, bnd_nat h2, Option.bind_some]
  have := bnd_nat (n := 0) (m := b) (Nat.zero_le _)
  simp only [Int.natCast_zero] at this
  rw [this]; rfl
theorem boxO {e k : Nat} {keep : List Nat} {h h' : Store} {i q id len p len' : Nat} (hg : h.get i = some ⟨e, k, [.own id 0 len]⟩) (hp : posOf keep id = some p) (hl : len = len') (hg' : h'.get q = some ⟨e, k, [.own p 0 len']⟩) : (h.get i).bind (finO keep h 9) = h'.get q := by
  subst hl
  rw [hg, hg']
  simp only [Option.bind_some, finO, mapC, closedL, closed, Bool.false_and, Bool.false_eq_true, if_false, mapO, finV, hp, Option.map_some]
theorem boxA {α : Type} {A : α → AV} {e k ek : Nat} {keep : List Nat} {h h' : Store} {i q id len p : Nat} {xs : List α} (hx : xs ≠ []) (hg : h.get i = some ⟨e, k, [.own id 0 len]⟩) (hp : posOf keep id = some p) (hl : len = xs.length) (hg' : h'.get q = some ⟨e, k, [accV p ek A xs]⟩) : (h.get i).bind (finO keep h 9) = h'.get q := by
  cases xs with
  | nil => exact absurd rfl hx
  | cons x r => exact boxO hg hp hl hg'
theorem boxAA {α : Type} {A : α → AV} {e k ek : Nat} {keep : List Nat} {h h' : Store} {i q id p : Nat} {xs : List α} (hg : h.get i = some ⟨e, k, [accV id ek A xs]⟩) (hp : posOf keep id = some p) (hg' : h'.get q = some ⟨e, k, [accV p ek A xs]⟩) : (h.get i).bind (finO keep h 9) = h'.get q := by
  cases xs with
  | nil => rw [hg, hg']; rfl
  | cons x r => exact boxO hg hp rfl hg'
def szsum : List ByteArray → Nat → Nat
  | [], _ => 0
  | x :: r, k => x.size + k + szsum r k
def SnapW (h : Store) : List AV → List AV → Prop
  | [], [] => True
  | x :: xs, y :: ys => (∃ z, snapC [] h 8 x = some z ∧ WeakC z y) ∧ SnapW h xs ys
  | _, _ => False
theorem SnapW.ok {h : Store} : ∀ {xs ys : List AV}, SnapW h xs ys → ∃ zs, SnapL h xs zs ∧ WeakL zs ys
  | [], [], _ => ⟨[], trivial, trivial⟩
  | [], _ :: _, k => k.elim
  | _ :: _, [], k => k.elim
  | x :: xs, y :: ys, k => by
    obtain ⟨⟨z, e1, e2⟩, k2⟩ := k
    obtain ⟨zs, e3, e4⟩ := SnapW.ok k2
    exact ⟨z :: zs, ⟨e1, e3⟩, e2, e4⟩
theorem SnapW.e {h : Store} {x y : AV} (e : snapC [] h 8 x = some y) : ∃ z, snapC [] h 8 x = some z ∧ WeakC z y := ⟨y, e, WeakC.refl y⟩
section
variable {P : Program} {W : World} {T : Tab} {n m i : Nat} {ops : Array Oper} {d : Tmp} {op : Op} {ty : TypeId} {pos : String} {af : Array Edge} {r : List Oper} {env : Env} {h : Store} {Q : Env → Store → Prop}
theorem AOps.sfw {g : FuncId} {vs ss : List AV} {r0 : AV} (hc : callee T (ev env) ⟨some d, op, ty, pos, af, none⟩ = some (g, vs)) (hs : SnapW h vs ss) (hp : PureAt P W g ss r0 [])
    (hf : flat r0 = true) (hr : closed r0 = true) (hd : d < n)
    (k : AOps P W T n ops r ((d, r0) :: env) h Q) : AOps P W T n ops (⟨some d, op, ty, pos, af, none⟩ :: r) env h Q := by
  obtain ⟨zs, h1, h2⟩ := hs.ok
  exact AOps.sf0 hc h1.ok (hp.wk h2) hf hr hd k
theorem AOpsD.sfw {g : FuncId} {vs ss : List AV} {r0 : AV} (hc : callee T (ev env) ⟨some d, op, ty, pos, af, none⟩ = some (g, vs)) (hs : SnapW h vs ss) (hp : PureAt P W g ss r0 [])
    (hf : flat r0 = true) (hr : closed r0 = true) (hd : d < n)
    (k : AOpsD P W T n ops m (i + 1) r ((d, r0) :: env) h Q) : AOpsD P W T n ops m i (⟨some d, op, ty, pos, af, none⟩ :: r) env h Q := by
  obtain ⟨zs, h1, h2⟩ := hs.ok
  exact AOpsD.sf0 hc h1.ok (hp.wk h2) hf hr hd k
end
theorem szsum_len (xs : List ByteArray) : xs.length ≤ szsum xs 1 := by
  induction xs with
  | nil => exact Nat.le_refl _
  | cons x xs ih => simp only [szsum, List.length_cons]; omega
theorem lim_slA {α : Type} {k : Nat} {A : α → AV} {xs : List α} (h : lim (slA k A xs)) : xs.length ≤ 281474976710656 := by
  unfold slA at h
  simp only [lim, List.length_map] at h
  exact h.1
theorem lim_s {s : ByteArray} (h : lim (.s s)) : s.size ≤ 281474976710656 := by
  simp only [lim] at h
  exact h
end
end Go.Lift
namespace Go.Lift
noncomputable section
open Go Go.RowKit
set_option linter.unusedSimpArgs false
set_option linter.unusedVariables false
set_option linter.unusedSectionVars false
section
variable {T : Tab} {ρ : Opnd} {h : Store} {dst : Option Tmp} {ty : TypeId} {pos : String} {af : Array Edge} {gd : Option (Nat × Bool)} {α : Type} {A : α → AV}
theorem g_app0 {s x : Operand} {t e : TypeId} {i : TI} {k : Nat} {ys : List α} {X : AV} (et : elemT T t = some e) (ei : look T e = some i) (es : ρ (kOf T t) s = some (.sl k true [])) (hx : ρ (kOf T t) x = some X) (hX : elsOf h X = some (i.size, ys.map A)) (hy : ys = [])
    (h0 : (i.size ≠ 0 ∧ i.zero.cells.length = i.size)) :
    eop T ρ h ⟨dst, .call ⟨.builtin .append, #[s, x], #[t, t]⟩, ty, pos, af, gd⟩ = some (.sl i.size true [], h) := by
  subst hy
  simp only [eop, ne_eq, not_true, if_false, et, ei, es, hx, Option.bind_some, hX, List.map_nil]
  rw [if_pos ⟨trivial, h0.1, h0.2, by simp, by simp⟩]
theorem g_app1 {s x : Operand} {t e : TypeId} {i : TI} {k : Nat} {ys : List α} {X : AV} (et : elemT T t = some e) (ei : look T e = some i) (es : ρ (kOf T t) s = some (.sl k true [])) (hx : ρ (kOf T t) x = some X) (hX : elsOf h X = some (i.size, ys.map A)) (hy : ys ≠ [])
    (h0 : (i.size ≠ 0 ∧ i.zero.cells.length = i.size)) (hb : ys.length * i.bytes ≤ 140737488355328) (hl : ys.length ≤ LIM) :
    eop T ρ h ⟨dst, .call ⟨.builtin .append, #[s, x], #[t, t]⟩, ty, pos, af, gd⟩ = some (.own h.next 0 ys.length, h.new ⟨e, i.size, ys.map A⟩) := by
  cases ys with
  | nil => exact absurd rfl hy
  | cons y ys =>
    simp only [eop, ne_eq, not_true, if_false, et, ei, es, hx, Option.bind_some, hX]
    rw [if_pos ⟨trivial, h0.1, h0.2, by simpa using hb, by simpa using hl⟩]
    simp
theorem g_appZ {s x : Operand} {t t' e : TypeId} {i : TI} {z : α} {n k : Nat} {kn kk : IntKind} (htt : t ≠ t') (et : elemT T t = some e) (ed : descOf T t' = .int kn) (ei : look T e = some i) (es : ρ (kOf T t) s = some (.sl k true [])) (hx : ρ 0 x = some (.i kk (n : Int)))
    (hn : 0 < n) (h0 : (i.size ≠ 0 ∧ i.zero.cells.length = i.size)) (hz : i.zero = A z) (hb : n * i.bytes ≤ 140737488355328) (hl : n ≤ LIM) :
    eop T ρ h ⟨dst, .call ⟨.builtin .append, #[s, x], #[t, t']⟩, ty, pos, af, gd⟩ = some (.own h.next 0 n, h.new ⟨e, i.size, (List.replicate n z).map A⟩) := by
  simp only [eop, if_pos htt, et, ed, es, hx, ei]
  rw [if_pos ⟨by omega, by omega, by omega, h0.1, h0.2⟩]
  simp [List.map_replicate, hz]
theorem g_subI {t yt : TypeId} {x y : Operand} {a b : Int} (ex : ρ (kOf T t) x = some (.i .i64 a)) (ey : ρ (kOf T t) y = some (.i .i64 b)) (h1 : -9223372036854775808 ≤ a - b) (h2 : a - b < 9223372036854775808) :
    qop T ρ h ⟨dst, .binOp .sub t x y yt, ty, pos, af, gd⟩ = some (.i .i64 (a - b)) := by
  simp only [qop, ex, ey, pbin, pint, if_true]
  rw [wrap_i64 h1 h2]
theorem g_loadC {a : Operand} {t id j : Nat} {i : TI} {ob : Obj} {x : AV} (et : look T t = some i) (ha : ρ 0 a = some (.loc id j 0)) (hg : h.get id = some ob) (hx : ob.els[j]? = some x) (hc : x.cells = [x]) (hi : i.desc.agg = false) :
    qop T ρ h ⟨dst, .load t a, ty, pos, af, gd⟩ = some x := by
  simp only [qop, et, ha, Option.bind_some, memAt, hg, hx, hc, hi, List.drop_zero]
  rfl
theorem g_setC {a v : Operand} {t id j e k : Nat} {i : TI} {els : List AV} {x y : AV} (et : look T t = some i) (ea : ρ 0 a = some (.loc id j 0)) (ev : ρ (kOf T t) v = some y) (hg : h.get id = some ⟨e, k, els⟩) (hx : els[j]? = some x) (cx : x.cells = [x] ∧ (∀ y, x.withCells [y] = y) ∧ ∀ y, (∀ fs, y ≠ .st fs) → fitAV x y = true) (cy : y.cells = [y]) (ny : ∀ fs, y ≠ .st fs) (hs : i.size = 1) (hin : cellsIn h y = true) :
    eop T ρ h ⟨dst, .store t a v, ty, pos, af, gd⟩ = some (.und, h.put id (some ⟨e, k, els.set j y⟩)) := by
  simp only [eop, et, ea, ev, hg, hx]
  rw [if_pos ⟨by rw [cy, hs]; rfl, by rw [cx.1, hs]; exact Nat.le_refl _, hin, cx.2.2 y ny⟩]
  rw [cx.1, cy, hs]
  show some (AV.und, h.put id (some ⟨e, k, els.set j (x.withCells ([] ++ [y] ++ []))⟩)) = _
  rw [List.nil_append, List.append_nil, cx.2.1]
end
theorem AOps.scR {P : Program} {W : World} {T : Tab} {n : Nat} {ops : Array Oper} {d : Tmp} {op : Op} {ty : TypeId} {pos : String} {af : Array Edge} {r : List Oper} {env : Env} {h : Store} {Q : Env → Store → Prop} {α : Type} {A : α → AV}
    {g : FuncId} {vs : List AV} {e k len : Nat} {xs : List α} (hc : callee T (ev env) ⟨some d, op, ty, pos, af, none⟩ = some (g, vs)) (hcl : closedL vs = true) (hp : PureAt P W g vs (.own 0 0 len) [⟨e, k, xs.map A⟩])
    (hA : ∀ x : α, closed (A x) = true) (hd : d < n)
    (q : AOps P W T n ops r ((d, .own h.next 0 len) :: env) (h.new ⟨e, k, xs.map A⟩) Q) : AOps P W T n ops (⟨some d, op, ty, pos, af, none⟩ :: r) env h Q := by
  refine AOps.sc hc hcl hp hd ?_
  have e1 : (AV.own 0 0 len).ren (· + h.next) = .own h.next 0 len := by simp [AV.ren]
  have e2 : h.add [⟨e, k, xs.map A⟩] = h.new ⟨e, k, xs.map A⟩ := by
    simp only [Store.add, addObjs, Store.new, Obj.ren, List.length_cons, List.length_nil, Nat.zero_add]
    rw [show renEls (· + h.next) (xs.map A) = xs.map A from by simp only [renEls, closedL_map hA, if_true]]
  rw [e1, e2]; exact q
theorem AOpsD.sfR {P : Program} {W : World} {T : Tab} {n m j : Nat} {ops : Array Oper} {d : Tmp} {op : Op} {ty : TypeId} {pos : String} {af : Array Edge} {r : List Oper} {env : Env} {h : Store} {Q : Env → Store → Prop} {α : Type} {A : α → AV}
    {g : FuncId} {vs ss : List AV} {e k len : Nat} {xs : List α} (hc : callee T (ev env) ⟨some d, op, ty, pos, af, none⟩ = some (g, vs)) (hs : SnapW h vs ss) (hp : PureAt P W g ss (.own 0 0 len) [⟨e, k, xs.map A⟩])
    (hA : ∀ x : α, closed (A x) = true) (hF : ∀ x : α, (A x).cells.all flat = true) (hd : d < n)
    (q : AOpsD P W T n ops m (j + 1) r ((d, .own h.next 0 len) :: env) (h.new ⟨e, k, xs.map A⟩) Q) : AOpsD P W T n ops m j (⟨some d, op, ty, pos, af, none⟩ :: r) env h Q := by
  obtain ⟨zs, h1, h2⟩ := hs.ok
  refine AOpsD.sf hc h1.ok (hp.wk h2) rfl ?_ hd ?_
  · simp only [List.all_cons, List.all_nil, Bool.and_true, List.all_map, List.all_eq_true, Function.comp]
    intro x _; simpa using hF x
  · have e1 : (AV.own 0 0 len).ren (· + h.next) = .own h.next 0 len := by simp [AV.ren]
    have e2 : h.add [⟨e, k, xs.map A⟩] = h.new ⟨e, k, xs.map A⟩ := by
      simp only [Store.add, addObjs, Store.new, Obj.ren, List.length_cons, List.length_nil, Nat.zero_add]
      rw [show renEls (· + h.next) (xs.map A) = xs.map A from by simp only [renEls, closedL_map hA, if_true]]
    rw [e1, e2]; exact q
def FinO (ts : List Nat) (len e k : Nat) (els : List AV) : Post := fun x env h => (x = .normal ∨ x = .ret) ∧ ∃ id, resAV ts env = .own id 0 len ∧ h.get id = some ⟨e, k, els⟩
theorem pure_of_bodyR {P : Program} {W : World} {f : FuncId} {fn : Func} {c : Code} (hf : P.funcs[f]? = some fn) (hb : fn.body = some c) (he : ∀ (vs : Array Value) (w : World), (callFunc f vs).run P w = .ok (.enter f vs) w)
    {ts : List Nat} (hr : resTmps fn.results.toList = some ts) {args : List AV} (hn : args.length ≤ fn.ntmps) {len e k : Nat} {α : Type} {A : α → AV} {xs : List α} (hA : ∀ x, closed (A x) = true)
    (q : Awp P W fn.ntmps 0 c (argEnv 0 args) ⟨0, []⟩ (FinO ts len e k (xs.map A))) (hM : f < 1000000 := by decide) : PureAt P W f args (.own 0 0 len) [⟨e, k, xs.map A⟩] := by
  refine pure_of_body hf hb he hr hn (q.mono fun x env h hh => ?_) hM
  obtain ⟨h1, id, h2, h3⟩ := hh
  refine ⟨[id], h1, by simp, rfl, ⟨obj_row hA h3 (by rw [Store.get_S0]; rfl), trivial⟩, ?_⟩
  rw [h2]
  show (match posOf [id] id with | some p => _ | none => _) = _
  have : posOf [id] id = some 0 := by simp [posOf]
  rw [this]
theorem WeakC.fn {f : FuncId} {xs ys : List AV} (h : WeakL xs ys) : WeakC (.fn f xs) (.fn f ys) := fun w μ v k => by
  simp only [CR] at k ⊢
  obtain ⟨cs, e, k⟩ := k
  exact ⟨cs, e, h.crs k⟩
theorem WeakL.cells {w : World} {μ : Mu} : ∀ {xs ys : List AV} {a : Addr}, WeakL xs ys → CRcells w μ xs a → CRcells w μ ys a
  | [], [], a, _, h => h
  | x :: xs, y :: ys, a, k, h => by
    simp only [CRcells] at h ⊢
    obtain ⟨⟨u, h1, h2⟩, h3⟩ := h
    exact ⟨⟨u, h1, k.1 w μ u h2⟩, WeakL.cells k.2 h3⟩
theorem WeakC.pt {xs ys : List AV} (h : WeakL xs ys) : WeakC (.pt xs) (.pt ys) := fun w μ v k => by
  simp only [CR] at k ⊢
  obtain ⟨a, e, k⟩ := k
  exact ⟨a, e, h.cells k⟩
def Cell (x : AV) : Prop := x.cells = [x] ∧ (∀ y, x.withCells [y] = y) ∧ ∀ y, (∀ fs, y ≠ .st fs) → fitAV x y = true
theorem Cell.sl {k : Nat} {nl : Bool} {xs : List AV} : Cell (.sl k nl xs) := ⟨rfl, fun _ => rfl, fun y h => by cases y <;> first | rfl | exact absurd rfl (h _)⟩
theorem Cell.own {a b c : Nat} : Cell (.own a b c) := ⟨rfl, fun _ => rfl, fun y h => by cases y <;> first | rfl | exact absurd rfl (h _)⟩
theorem Cell.acc {α : Type} {p k : Nat} {A : α → AV} {xs : List α} : Cell (accV p k A xs) := by cases xs <;> first | exact Cell.sl | exact Cell.own
theorem acc_cells {α : Type} {p k : Nat} {A : α → AV} {xs : List α} : (accV p k A xs).cells = [accV p k A xs] := by cases xs <;> rfl
end
end Go.Lift
namespace Go.Lift
noncomputable section
open Go Go.RowKit
set_option linter.unusedSimpArgs false
set_option linter.unusedVariables false
set_option linter.unusedSectionVars false
structure BulkOk {H : Type} (bk : DataW H → Nat) : Prop where
  str : ∀ bs, bk (.lit (.string bs)) = bs.length + 1
  one : ∀ d, 1 ≤ bk d
  sl : ∀ e s, (e.map bk).sum + 1 ≤ bk (.slice e s)
  agg : ∀ ps, (ps.map bk).sum + 1 ≤ bk (.agg ps)
structure Rdg {H : Type} (enc : TypeId × Value → H) (P : Program) (w : World) (spare : Nat → Bool) (held : Bool) (bk : DataW H → Nat) (μ : Mu) (t : TypeId) {α : Type} (A : α → AV) (sz : α → Nat) : Prop where
  rd : ∀ (fuel : Nat) (cs : List Value) (x : DataW H × List MemPlace), DataW.trod enc P w 0 spare held fuel t cs = some x → bk x.1 ≤ 1048576 → ∃ a : α, CRs w μ (A a).cells cs ∧ (∀ u ∈ cs, u.oneCell' = true) ∧ sz a ≤ bk x.1
section
variable {H : Type} {enc : TypeId × Value → H} {P : Program} {w : World} {spare : Nat → Bool} {held : Bool} {bk : DataW H → Nat} {μ : Mu}
theorem Rdg.int {t : TypeId} {k : IntKind} (hb : BulkOk bk) (ht : P.underlying t = some (.int k)) : Rdg enc P w spare held bk μ t (AV.i k) (fun _ => 1) where
  rd fuel cs x h hbd := by
    obtain ⟨n, rfl, rfl, _⟩ := DataW.trod_int ht h
    exact ⟨n, by simp [AV.cells, CRs, CR], by simp [Value.oneCell'], hb.one _⟩
theorem Rdg.bool {t : TypeId} (hb : BulkOk bk) (ht : P.underlying t = some .bool) : Rdg enc P w spare held bk μ t AV.b (fun _ => 1) where
  rd fuel cs x h hbd := by
    obtain ⟨n, rfl, rfl⟩ := DataW.trod_bool ht h
    exact ⟨n, by simp [AV.cells, CRs, CR], by simp [Value.oneCell'], hb.one _⟩
theorem Rdg.str {t : TypeId} (hb : BulkOk bk) (ht : P.underlying t = some .string) : Rdg enc P w spare held bk μ t AV.s (fun s => s.size + 1) where
  rd fuel cs x h hbd := by
    obtain ⟨s, rfl, rfl, hs⟩ := DataW.trod_string ht h
    refine ⟨s, ?_, by simp [Value.oneCell'], ?_⟩
    · simp only [AV.cells, CRs, CR]
      exact ⟨_, _, rfl, ⟨rfl, by rw [hb.str, data_len] at hbd; unfold LIM; omega⟩, rfl⟩
    · rw [hb.str, data_len]; exact Nat.le_refl _
theorem CRs_app : ∀ {xs ys : List AV} {vs us : List Value}, CRs w μ xs vs → CRs w μ ys us → CRs w μ (xs ++ ys) (vs ++ us)
  | [], ys, vs, us, h, k => by simp only [CRs] at h; subst h; simpa using k
  | x :: xs, ys, vs, us, h, k => by
    simp only [CRs] at h
    obtain ⟨v, r, rfl, h1, h2⟩ := h
    simp only [List.cons_append, CRs]
    exact ⟨v, r ++ us, rfl, h1, CRs_app h2 k⟩
theorem CRcells_rd (hμ : ∀ g, ¬ μ.mut g) : ∀ {xs : List AV} {cs : List Value} {a : Addr}, CRs w μ xs cs → (∀ u ∈ cs, u.oneCell' = true) → (∀ i, i < cs.length → w.cell? (a.add i) = cs[i]?) → CRcells w μ xs a
  | [], _, a, _, _, _ => by simp only [CRcells]
  | x :: xs, cs, a, h, ho, hc => by
    simp only [CRs] at h
    obtain ⟨v, r, rfl, h1, h2⟩ := h
    simp only [CRcells]
    refine ⟨⟨v, ⟨?_, hμ _, ho v (by simp)⟩, h1⟩, CRcells_rd hμ h2 (fun u hu => ho u (by simp [hu])) fun i hi => ?_⟩
    · have := hc 0 (by simp); rw [add_zero] at this; simpa using this
    · have := hc (i + 1) (by simp; omega)
      rw [add_add, Nat.add_comm 1 i]; simpa using this
theorem cells_get {a : Addr} {n : Nat} {cs : List Value} (h : w.cells? 0 a n = some cs) : cs.length = n ∧ ∀ i, i < cs.length → w.cell? (a.add i) = cs[i]? := by
  unfold World.cells? at h
  rw [if_pos (Nat.zero_le _)] at h
  have hl := mapM_some_length h
  simp only [List.length_range] at hl
  refine ⟨hl, fun i hi => ?_⟩
  exact mapM_some_get h i i (by rw [List.getElem?_range (by omega)])
def szL {α : Type} (sz : α → Nat) (xs : List α) : Nat := (xs.map sz).sum + 1
theorem Rdg.slice {t e : TypeId} {α : Type} {A : α → AV} {sz : α → Nat} {k : Nat} (hb : BulkOk bk) (hμ : ∀ g, ¬ μ.mut g) (ht : P.underlying t = some (.slice e)) (hk : P.cellsOf e = k)
    (hA : ∀ a, (∃ fs, A a = .st fs ∧ fs.length = k) ∨ ((∀ fs, A a ≠ .st fs) ∧ (A a).cells = [A a] ∧ k = 1)) (he : Rdg enc P w spare held bk μ e A sz) : Rdg enc P w spare held bk μ t (slA k A) (szL sz) where
  rd fuel cs x h hbd := by
    rcases DataW.trod_slice ht h with ⟨rfl, rfl⟩ | ⟨a, len, cap, elems, rest, n, _, rfl, rfl, _, hl, hm, hlen, hel, _, _⟩
    · exact ⟨[], by simp only [slA, AV.cells, CRs, CR]; exact ⟨_, _, rfl, Or.inl ⟨rfl, rfl⟩, rfl⟩, by simp [Value.oneCell'], hb.one _⟩
    · have key : ∀ (l : List (DataW H × List MemPlace)) (i : Nat), (∀ j, j < l.length → elems[i + j]? = l[j]?) → i + l.length = len → ((l.map (·.1)).map bk).sum ≤ 1048576 → ∃ qs : List α, CRrows w μ k (qs.map A) (a.add (i * k)) ∧ qs.length = l.length ∧ (qs.map sz).sum ≤ ((l.map (·.1)).map bk).sum := by
        intro l
        induction l with
        | nil => intro i _ _ _; exact ⟨[], by simp only [List.map_nil, CRrows], rfl, by simp⟩
        | cons y l ih =>
          intro i hi hil hsum
          simp only [List.length_cons] at hil
          simp only [List.map_cons, List.sum_cons] at hsum
          obtain ⟨qs, h1, h2, h3⟩ := ih (i + 1) (fun j hj => by
            have := hi (j + 1) (by simp; omega)
            rw [show i + 1 + j = i + (j + 1) by omega]; simpa using this) (by omega) (by omega)
          have h0 := hel i (by omega)
          have e0 := hi 0 (by simp)
          rw [Nat.add_zero] at e0
          rw [e0] at h0
          simp only [List.getElem?_cons_zero, Option.bind_eq_some_iff] at h0
          obtain ⟨cs', c1, c2⟩ := h0
          rw [hk] at c1
          obtain ⟨g1, g2⟩ := cells_get c1
          obtain ⟨b, b1, b2, b3⟩ := he.rd n cs' y c2 (by omega)
          refine ⟨b :: qs, ?_, by simp [h2], by simp only [List.map_cons, List.sum_cons]; omega⟩
          have hcc := CRcells_rd hμ b1 b2 g2
          have hrest : CRrows w μ k (qs.map A) ((a.add (i * k)).add k) := by
            rw [add_add]; rw [show i * k + k = (i + 1) * k by rw [Nat.add_mul, Nat.one_mul]]; exact h1
          simp only [List.map_cons]
          rcases hA b with ⟨fs, q1, q2⟩ | ⟨q0, q1, q2⟩
          · rw [q1] at hcc ⊢
            simp only [CRrows]
            exact ⟨⟨q2, hcc⟩, hrest⟩
          · rw [q1] at hcc
            simp only [CRcells] at hcc
            generalize A b = z at *
            cases z <;> first | exact absurd rfl (q0 _) | (simp only [CRrows]; exact ⟨⟨q2, hcc.1⟩, hrest⟩)
      have hsl := hb.sl (elems.map (·.1)) (rest.map (·.1))
      have hbd' : bk (.slice (elems.map (·.1)) (rest.map (·.1))) ≤ 1048576 := hbd
      have hle : ∀ l : List (DataW H), l.length ≤ (l.map bk).sum := by
        intro l; induction l with
        | nil => simp
        | cons y l ih => have := hb.one y; simp only [List.length_cons, List.map_cons, List.sum_cons]; omega
      have hll := hle (elems.map (·.1))
      rw [List.length_map] at hll
      obtain ⟨qs, h1, h2, h3⟩ := key elems 0 (fun j _ => by rw [Nat.zero_add]) (by omega) (by omega)
      refine ⟨qs, ?_, by simp [Value.oneCell'], ?_⟩
      · simp only [slA, AV.cells, CRs, CR]
        refine ⟨_, _, rfl, Or.inr ⟨trivial, a, cap, ?_, ?_, ?_, ?_⟩, rfl⟩
        · rw [List.length_map, h2, hlen]
        · rw [List.length_map, h2, hlen]; exact hl
        · rw [List.length_map, h2, hlen]; unfold LIM; omega
        · have := h1; rw [Nat.zero_mul, add_zero] at this; exact this
      · have := hb.sl (elems.map (·.1)) (rest.map (·.1))
        show szL sz qs ≤ bk (.slice (elems.map (·.1)) (rest.map (·.1)))
        unfold szL; omega
def fsOf (P : Program) (t : TypeId) : Array Field := match P.underlying t with
  | some (.struct fs) => fs
  | _ => #[]
def fld (P : Program) (t : TypeId) (i : Nat) : Option (Nat × TypeId × Nat) := (fsOf P t)[i]?.map fun f => (f.offset, f.type, P.cellsOf f.type)
theorem struct_rd {t : TypeId} {fuel : Nat} {cs : List Value} {x : DataW H × List MemPlace} (ht : P.underlying t = some (.struct (fsOf P t))) (h : DataW.trod enc P w 0 spare held fuel t cs = some x) :
    ∃ (xs : List (DataW H × List MemPlace)) (n : Nat), x.1 = .agg (xs.map (·.1)) ∧ cs.length = P.cellsOf t ∧ xs.length = (fsOf P t).size ∧ ∀ i o ty k, fld P t i = some (o, ty, k) → ∃ y, xs[i]? = some y ∧ DataW.trod enc P w 0 spare held n ty ((cs.drop o).take k) = some y := by
  obtain ⟨xs, n, _, e, h1, h2, h3⟩ := DataW.trod_struct ht h
  subst e
  refine ⟨xs, n, rfl, h1, h2, fun i o ty k hf => ?_⟩
  unfold fld at hf
  obtain ⟨f, f1, f2⟩ := Option.map_eq_some_iff.1 hf
  cases f2
  have hi : i < xs.length := by rw [h2]; exact (Array.getElem?_eq_some_iff.1 f1).1
  exact ⟨xs[i], List.getElem?_eq_getElem hi, by rw [h3 i f f1]; exact List.getElem?_eq_getElem hi⟩
theorem CRs_step {xs ys : List AV} {cs : List Value} {n k : Nat} (h : CRs w μ xs (cs.take n)) (h' : CRs w μ ys ((cs.drop n).take k)) : CRs w μ (xs ++ ys) (cs.take (n + k)) := by
  rw [List.take_add]; exact CRs_app h h'
theorem one_step {cs : List Value} {n k : Nat} (h : ∀ u ∈ cs.take n, u.oneCell' = true) (h' : ∀ u ∈ (cs.drop n).take k, u.oneCell' = true) : ∀ u ∈ cs.take (n + k), u.oneCell' = true := by
  rw [List.take_add]; intro u hu
  rcases List.mem_append.1 hu with hu | hu
  · exact h u hu
  · exact h' u hu
end
end
end Go.Lift
namespace Go.Lift
noncomputable section
open Go Go.RowKit Go.WideShapes
set_option linter.unusedSimpArgs false
set_option linter.unusedVariables false
set_option linter.unusedSectionVars false
section
variable {H : Type} {enc : TypeId × Value → H} {P : Program} {w : World} {spare : Nat → Bool} {held : Bool} {bk : DataW H → Nat} {μ : Mu} {r : Reach} {base : Nat} {t : TypeId} {v : Value} {d : DataW H} {ps : List MemPlace} {α : Type} {A : α → AV} {sz : α → Nat}
theorem arg_struct {fs : Array Field} (R : Rdg enc P w spare held bk μ t A sz) (ht : P.underlying t = some (.struct fs)) (hA : ∀ a, ∃ fs', A a = .st fs') (hval : Value.okWide P w r base t v) (hd : DataW.Trod enc P w 0 spare held t v d ps) (hb : bk d ≤ 1048576) : ∃ a, CR w μ (A a) v ∧ sz a ≤ bk d := by
  obtain ⟨cs, rfl, _⟩ := okWide_struct ht hval
  obtain ⟨fuel, hf⟩ := hd
  obtain ⟨a, h1, _, h3⟩ := R.rd fuel _ _ hf hb
  obtain ⟨fs', e⟩ := hA a
  refine ⟨a, ?_, h3⟩
  rw [e] at h1 ⊢
  simp only [CR]
  exact ⟨cs, rfl, h1⟩
end
end
end Go.Lift
namespace Go.Lift
noncomputable section
open Go Go.RowKit
set_option linter.unusedSimpArgs false
set_option linter.unusedVariables false
set_option linter.unusedSectionVars false
def Over (n N : Nat) (env : Env) (h : Store) (env1 : Env) (h1 : Store) : Prop :=
  ∀ (B : Base) (w0 : World) (μ : Mu) (a : Act) (w : World), B.N = N → Rel n B w0 μ env h a w → ∃ μ1, Rel n B w0 μ1 env1 h1 a w
theorem Over.fits {n N : Nat} {env : Env} {h : Store} (keep : List Nat) {env1 : Env} {h1 : Store} (F : FitsW keep env h env1 h1) (hN : ∀ i, i < N → keep[i]? = some i) : Over n N env h env1 h1 :=
  fun B w0 μ a w hB R => ⟨μ.fin keep, rel_finW R F (by rw [hB]; exact hN)⟩
theorem seg_ordered {P : Program} {W : World} {T : Tab} (hT : tabOk P T = true) {n : Nat} {ops : Array Oper} {Q : Exit → Act → World → Prop} (l2 : List Nat) :
    ∀ (l : List Nat) {os : List Oper} {env : Env} {h : Store} {R : Env → Store → Prop}, l.map (fun i => ops[i]?) = os.map some → AOps P W T n ops os env h R →
      ∀ {B : Base} (_ : B.W = W) {w0 : World} {μ : Mu} {a : Act} {w : World}, Rel n B w0 μ env h a w → (∀ env' h' μ' a' w', R env' h' → Rel n B w0 μ' env' h' a' w' → wpOps P ops Q l2 a' w') → wpOps P ops Q (l ++ l2) a w
  | [], os, env, h, R, hl, k, B, hB, w0, μ, a, w, rel, hQ => by
    have : os = [] := by cases os <;> simp at hl; rfl
    subst this
    exact hQ env h μ a w k rel
  | i :: l, os, env, h, R, hl, k, B, hB, w0, μ, a, w, rel, hQ => by
    cases os with
    | nil => simp at hl
    | cons o os =>
      simp only [List.map_cons, List.cons.injEq] at hl
      obtain ⟨ho, hl⟩ := hl
      simp only [List.cons_append, wpOps, ho]
      simp only [AOps] at k
      split at k
      · rename_i hw
        obtain ⟨hd, x, h', he, k⟩ := k
        rw [if_pos (wanted_ok hw (fun j want d _ _ => rel.env d))]
        exact Or.inl (eff_wp hT he hB rel hd fun a' w' μ' rel' => seg_ordered hT l2 l hl k hB rel' hQ)
      · rename_i hw
        obtain ⟨hd, k⟩ := k
        rw [if_neg (by rw [wanted_ok hw (fun j want d _ _ => rel.env d)]; simp)]
        exact seg_ordered hT l2 l hl k hB (rel_put hT rel (Grow.refl rel.sim).step (dst_lt hd) (by simp only [VR, VRs]; exact ⟨#[], rfl, rfl⟩)) hQ
      · exact k.elim
def ROps (P : Program) (W : World) (n N : Nat) (ops : Array Oper) (j : Nat) (env : Env) (h : Store) (R : Env → Store → Prop) : Prop :=
  ∀ (B : Base) (w0 : World) (μ : Mu) (a : Act) (w : World) (Q : Exit → Act → World → Prop), B.W = W → B.N = N → Rel n B w0 μ env h a w →
    (∀ env' h' μ' a' w', R env' h' → Rel n B w0 μ' env' h' a' w' → Q .normal a' w') → wpOps P ops Q (List.range' j (ops.size - j)) a w
section
variable {P : Program} {W : World} {T : Tab} {n N : Nat} {ops : Array Oper} {m j : Nat} {env : Env} {h : Store} {R : Env → Store → Prop}
theorem ROps.fin (hj : j = ops.size) (k : R env h) : ROps P W n N ops j env h R := fun B w0 μ a w Q hW hN rel hQ => by
  subst hj; rw [Nat.sub_self]; exact hQ _ _ _ _ _ k rel
theorem ROps.over {env1 : Env} {h1 : Store} (o : Over n N env h env1 h1) (k : ROps P W n N ops j env1 h1 R) : ROps P W n N ops j env h R := fun B w0 μ a w Q hW hN rel hQ =>
  let ⟨μ1, r⟩ := o B w0 μ a w hN rel
  k B w0 μ1 a w Q hW hN r hQ
theorem ROps.run (hT : tabOk P T = true) (c : Nat) (hc : j + c ≤ ops.size) (k : AOps P W T n ops ((ops.toList.drop j).take c) env h (fun e s => ROps P W n N ops (j + c) e s R)) : ROps P W n N ops j env h R := fun B w0 μ a w Q hW hN rel hQ => by
  have e : List.range' j (ops.size - j) = List.range' j c ++ List.range' (j + c) (ops.size - (j + c)) := by
    rw [show ops.size - j = c + (ops.size - (j + c)) by omega, ← List.range'_append]; simp
  rw [e]
  refine seg_ordered hT _ _ ?_ k hW rel fun env' h' μ' a' w' q r => q B w0 μ' a' w' Q hW hN r hQ
  apply List.ext_getElem?
  intro i
  simp only [List.getElem?_map]
  by_cases hi : i < c
  · have hlt : j + i < ops.size := by omega
    rw [List.getElem?_range' hi, List.getElem?_take_of_lt hi, List.getElem?_drop]
    simp [hlt]
  · rw [List.getElem?_eq_none (by simp; omega), List.getElem?_eq_none (by simp; omega)]; rfl
end
theorem Awp.regionR {P : Program} {W : World} {n N : Nat} {env : Env} {h : Store} {Q : Post} {id : Nat} {ops : Array Oper} (k : ROps P W n N ops 0 env h (Q .normal)) : Awp P W n N (.region id ops false) env h Q :=
  fun B w0 μ a w hW hB R => wp_region (by
    have := k B w0 μ a w (fun e a' w' => ∃ env' h' μ', Q e env' h' ∧ Rel n B w0 μ' env' h' a' w') hW hB R fun env' h' μ' a' w' q r => ⟨env', h', μ', q, r⟩
    rwa [Nat.sub_zero, ← List.range_eq_range'] at this)
end
end Go.Lift
namespace Go.Lift
noncomputable section
open Go Go.RowKit
set_option linter.unusedSimpArgs false
set_option linter.unusedVariables false
set_option linter.unusedSectionVars false
def WeakEl (x y : AV) : Prop := (∃ fs gs, x = .st fs ∧ y = .st gs ∧ WeakL fs gs) ∨ ((∀ fs, x ≠ .st fs) ∧ (∀ fs, y ≠ .st fs) ∧ WeakC x y)
def WeakRow : List AV → List AV → Prop
  | [], [] => True
  | x :: xs, y :: ys => WeakEl x y ∧ WeakRow xs ys
  | _, _ => False
theorem WeakRow.len : ∀ {xs ys : List AV}, WeakRow xs ys → xs.length = ys.length
  | [], [], _ => rfl
  | _ :: _, _ :: _, k => by simp [WeakRow.len k.2]
  | [], _ :: _, k => k.elim
  | _ :: _, [], k => k.elim
theorem WeakRow.rows {w : World} {μ : Mu} {k : Nat} : ∀ {xs ys : List AV} {a : Addr}, WeakRow xs ys → CRrows w μ k xs a → CRrows w μ k ys a
  | [], [], a, _, h => h
  | [], _ :: _, a, q, _ => q.elim
  | _ :: _, [], a, q, _ => q.elim
  | x :: xs, y :: ys, a, q, h => by
    rcases q.1 with ⟨fs, gs, rfl, rfl, h1⟩ | ⟨h1, h2, h3⟩
    · simp only [CRrows] at h ⊢
      exact ⟨⟨by rw [← h1.len]; exact h.1.1, h1.cells h.1.2⟩, q.2.rows h.2⟩
    · have e1 : (k = 1 ∧ ∃ u, Rd w μ a u ∧ CR w μ x u) ∧ CRrows w μ k xs (a.add k) := by
        cases x <;> first | exact absurd rfl (h1 _) | (simp only [CRrows] at h; exact h)
      have e2 : (k = 1 ∧ ∃ u, Rd w μ a u ∧ CR w μ y u) ∧ CRrows w μ k ys (a.add k) := by
        obtain ⟨⟨k1, u, u1, u2⟩, e⟩ := e1
        exact ⟨⟨k1, u, u1, h3 w μ u u2⟩, q.2.rows e⟩
      cases y <;> first | exact absurd rfl (h2 _) | (simp only [CRrows]; exact e2)
theorem WeakC.sl {k : Nat} {xs ys : List AV} (h : WeakRow xs ys) : WeakC (.sl k false xs) (.sl k false ys) := fun w μ v q => by
  simp only [CR] at q ⊢
  rcases q with ⟨e, q⟩ | ⟨_, a, c, e1, e2, e3, e4⟩
  · subst e
    cases ys with
    | nil => exact Or.inl ⟨rfl, q⟩
    | cons y ys => exact h.elim
  · exact Or.inr ⟨trivial, a, c, by rw [← h.len]; exact e1, by rw [← h.len]; exact e2, by rw [← h.len]; exact e3, h.rows e4⟩
def EntK (no : List Nat) (h : Store) (d : Nat) (x y : AV) : Prop := ∃ z, snapC no h d x = some z ∧ closed z = true ∧ WeakC z y
def EntKs (no : List Nat) (h : Store) (d : Nat) : List AV → List AV → Prop
  | [], [] => True
  | x :: xs, y :: ys => EntK no h d x y ∧ EntKs no h d xs ys
  | _, _ => False
def EntKE (no : List Nat) (h : Store) (d : Nat) (x y : AV) : Prop := ∃ z, snapC no h d x = some z ∧ WeakEl z y
def EntKEs (no : List Nat) (h : Store) (d : Nat) : List AV → List AV → Prop
  | [], [] => True
  | x :: xs, y :: ys => EntKE no h d x y ∧ EntKEs no h d xs ys
  | _, _ => False
section
variable {no : List Nat} {h : Store} {d : Nat}
theorem EntKs.ok : ∀ {xs ys : List AV}, EntKs no h (d + 1) xs ys → ∃ zs, mapO (snapC no h (d + 1)) xs = some zs ∧ closedL zs = true ∧ WeakL zs ys ∧ (closedL xs = true → zs = xs)
  | [], [], _ => ⟨[], rfl, rfl, trivial, fun _ => rfl⟩
  | [], _ :: _, k => k.elim
  | _ :: _, [], k => k.elim
  | x :: xs, y :: ys, k => by
    obtain ⟨⟨z, e1, e2, e3⟩, k2⟩ := k
    obtain ⟨zs, f1, f2, f3, f4⟩ := EntKs.ok k2
    refine ⟨z :: zs, by simp only [mapO, e1, f1], by simp only [closedL, e2, f2, Bool.and_self], ⟨e3, f3⟩, fun hc => ?_⟩
    simp only [closedL, Bool.and_eq_true] at hc
    have := e1.symm.trans (snapC_c (no := no) (h := h) (d := d) hc.1)
    rw [Option.some.inj this, f4 hc.2]
theorem EntKs.mapC {xs ys : List AV} (k : EntKs no h (d + 1) xs ys) : ∃ zs, mapC (snapC no h (d + 1)) xs = some zs ∧ closedL zs = true ∧ WeakL zs ys := by
  obtain ⟨zs, e1, e2, e3, e4⟩ := k.ok
  refine ⟨zs, ?_, e2, e3⟩
  unfold Go.Lift.mapC
  by_cases hc : closedL xs = true
  · rw [if_pos hc, e4 hc]
  · rw [if_neg hc, e1]
theorem EntKEs.mapC {xs ys : List AV} (k : EntKEs no h (d + 1) xs ys) : ∃ zs, mapC (snapC no h (d + 1)) xs = some zs ∧ WeakRow zs ys := by
  have key : ∀ {xs ys : List AV}, EntKEs no h (d + 1) xs ys → ∃ zs, mapO (snapC no h (d + 1)) xs = some zs ∧ WeakRow zs ys ∧ (closedL xs = true → zs = xs) := by
    intro xs
    induction xs with
    | nil => intro ys k; cases ys with
      | nil => exact ⟨[], rfl, trivial, fun _ => rfl⟩
      | cons y ys => exact k.elim
    | cons x xs ih =>
      intro ys k
      cases ys with
      | nil => exact k.elim
      | cons y ys =>
        obtain ⟨⟨z, e1, e3⟩, k2⟩ := k
        obtain ⟨zs, f1, f3, f4⟩ := ih k2
        refine ⟨z :: zs, by simp only [mapO, e1, f1], ⟨e3, f3⟩, fun hc => ?_⟩
        simp only [closedL, Bool.and_eq_true] at hc
        have := e1.symm.trans (snapC_c (no := no) (h := h) (d := d) hc.1)
        rw [Option.some.inj this, f4 hc.2]
  obtain ⟨zs, e1, e3, e4⟩ := key k
  refine ⟨zs, ?_, e3⟩
  unfold Go.Lift.mapC
  by_cases hc : closedL xs = true
  · rw [if_pos hc, e4 hc]
  · rw [if_neg hc, e1]
theorem EntK.c {x y : AV} (hc : closed x = true) (hw : WeakC x y) : EntK no h (d + 1) x y := ⟨x, snapC_c hc, hc, hw⟩
theorem EntK.cr {x : AV} (hc : closed x = true) : EntK no h (d + 1) x x := ⟨x, snapC_c hc, hc, WeakC.refl x⟩
theorem EntK.row {α : Type} {A : α → AV} (hA : ∀ x, closed (A x) = true) {id e k len : Nat} {xs : List α} (hn : no.contains id = false) (hg : h.get id = some ⟨e, k, xs.map A⟩) (hlen : len = xs.length) (hL : len ≤ LIM) : EntK no h (d + 1) (.own id 0 len) (slA k A xs) := by
  refine ⟨slA k A xs, ?_, rfl, WeakC.refl _⟩
  subst hlen
  simp only [snapC, hn, hg, Bool.false_eq_true, if_false, List.length_map, Nat.zero_add, Nat.le_refl, hL, and_self, if_true, List.drop_zero]
  rw [List.take_of_length_le (by simp)]
  simp only [Go.Lift.mapC, closedL_map hA, if_true, Option.map_some]; rfl
theorem EntK.acc {α : Type} {A : α → AV} (hA : ∀ x, closed (A x) = true) {id e k : Nat} {xs : List α} (hn : no.contains id = false) (hg : h.get id = accO e k A xs) (hL : xs.length ≤ LIM) : EntK no h (d + 1) (accV id k A xs) (slA k A xs) := by
  cases xs with
  | nil => exact EntK.c rfl (WeakC.nil k)
  | cons x r => exact EntK.row hA hn hg rfl hL
theorem EntK.st {xs ys : List AV} (k : EntKs no h (d + 1) xs ys) : EntK no h (d + 2) (.st xs) (.st ys) := by
  obtain ⟨zs, e1, e2, e3⟩ := k.mapC
  exact ⟨.st zs, by simp only [snapC, e1, Option.map_some], by simp only [closed]; exact e2, WeakC.st e3⟩
theorem EntK.fn {f : FuncId} {xs ys : List AV} (k : EntKs no h (d + 1) xs ys) : EntK no h (d + 2) (.fn f xs) (.fn f ys) := by
  obtain ⟨zs, e1, e2, e3⟩ := k.mapC
  exact ⟨.fn f zs, by simp only [snapC, e1, Option.map_some], by simp only [closed]; exact e2, WeakC.fn e3⟩
theorem EntK.loc {id j o : Nat} {ob : Obj} {x : AV} {ys : List AV} (hn : no.contains id = false) (hg : h.get id = some ob) (hx : ob.els[j]? = some x) (k : EntKs no h (d + 1) (x.cells.drop o) ys) : EntK no h (d + 2) (.loc id j o) (.pt ys) := by
  obtain ⟨zs, e1, e2, e3⟩ := k.mapC
  exact ⟨.pt zs, by simp only [snapC, hn, hg, hx, e1, Option.map_some, Bool.false_eq_true, if_false], rfl, WeakC.pt e3⟩
theorem EntK.loc1 {id j : Nat} {ob : Obj} {x y : AV} (hn : no.contains id = false) (hg : h.get id = some ob) (hx : ob.els[j]? = some x) (hc : x.cells = [x]) (k : EntK no h (d + 1) x y) : EntK no h (d + 2) (.loc id j 0) (.pt [y]) :=
  EntK.loc hn hg hx (by rw [hc]; exact ⟨k, trivial⟩)
theorem EntKE.st {xs ys : List AV} (k : EntKs no h (d + 1) xs ys) : EntKE no h (d + 2) (.st xs) (.st ys) := by
  obtain ⟨zs, e1, e2, e3⟩ := k.mapC
  exact ⟨.st zs, by simp only [snapC, e1, Option.map_some], Or.inl ⟨_, _, rfl, rfl, e3⟩⟩
theorem EntKs.nil : EntKs no h d [] [] := trivial
theorem EntKs.cons {x y : AV} {xs ys : List AV} (a : EntK no h d x y) (b : EntKs no h d xs ys) : EntKs no h d (x :: xs) (y :: ys) := ⟨a, b⟩
theorem EntKEs.nil : EntKEs no h d [] [] := trivial
theorem EntKEs.cons {x y : AV} {xs ys : List AV} (a : EntKE no h d x y) (b : EntKEs no h d xs ys) : EntKEs no h d (x :: xs) (y :: ys) := ⟨a, b⟩
theorem EntK.w {x y : AV} (k : EntK [] h 8 x y) : ∃ z, snapC [] h 8 x = some z ∧ WeakC z y := let ⟨z, e, _, w⟩ := k; ⟨z, e, w⟩
theorem EntK.own {id e k len : Nat} {els ys : List AV} (hn : no.contains id = false) (hg : h.get id = some ⟨e, k, els⟩) (hlen : len = els.length) (hL : len ≤ LIM) (q : EntKEs no h (d + 1) els ys) : EntK no h (d + 2) (.own id 0 len) (.sl k false ys) := by
  obtain ⟨zs, e1, e2⟩ := q.mapC
  refine ⟨.sl k false zs, ?_, rfl, WeakC.sl e2⟩
  subst hlen
  simp only [snapC, hn, hg, Bool.false_eq_true, if_false, Nat.zero_add, Nat.le_refl, hL, and_self, if_true, List.drop_zero]
  rw [List.take_of_length_le (Nat.le_refl _), e1]; rfl
theorem EntK.cast {x y x' y' : AV} (ex : x = x') (ey : y' = y) (k : EntK no h d x' y') : EntK no h d x y := by subst ex; subst ey; exact k
end
def notKept (keep : List Nat) : AV → Bool
  | .own id _ _ => (posOf keep id).isNone
  | .loc id _ _ => (posOf keep id).isNone
  | _ => false
theorem EntD.kk {d : Nat} {keep : List Nat} {h : Store} {x y x' y' : AV} (ex : x = x') (ey : y' = y) (hp : notKept keep x' = true) (k : EntK keep h (d + 1) x' y') : EntD (d + 1) keep h x y := by
  subst ex; subst ey
  obtain ⟨z, e1, e2, e3⟩ := k
  have key : ∀ o : Option Nat, o.isNone = true → o = none := by intro o; cases o <;> simp
  cases x <;> first | (cases hp; done) | exact ⟨z, by simp only [notKept] at hp; simp only [finV, key _ hp]; exact e1, Or.inr ⟨e2, e3⟩⟩
def WeakV (x y : AV) : Prop := ∀ (w : World) (μ : Mu) (v : Value), VR w μ x v → VR w μ y v
theorem WeakV.refl (x : AV) : WeakV x x := fun _ _ _ h => h
theorem WeakV.und (x : AV) : WeakV x .und := fun _ _ _ _ => by simp only [VR]
def WeakVs : List AV → List AV → Prop
  | [], [] => True
  | x :: xs, y :: ys => WeakV x y ∧ WeakVs xs ys
  | _, _ => False
theorem WeakVs.vrs {w : World} {μ : Mu} : ∀ {xs ys : List AV} {vs : List Value}, WeakVs xs ys → VRs w μ xs vs → VRs w μ ys vs
  | [], [], vs, _, h => h
  | [], _ :: _, _, k, _ => k.elim
  | _ :: _, [], _, k, _ => k.elim
  | x :: xs, y :: ys, vs, k, h => by
    simp only [VRs] at h ⊢
    obtain ⟨v, r, e, h1, h2⟩ := h
    exact ⟨v, r, e, k.1 w μ v h1, WeakVs.vrs k.2 h2⟩
theorem WeakV.tup {xs ys : List AV} (k : WeakVs xs ys) : WeakV (.tup xs) (.tup ys) := fun w μ v h => by
  simp only [VR] at h ⊢
  obtain ⟨cs, e, h⟩ := h
  exact ⟨cs, e, k.vrs h⟩
theorem PureAt.res {P : Program} {W : World} {f : FuncId} {xs : List AV} {r r' : AV} {S : List Obj} (k : PureAt P W f xs r S) (h : WeakV r r') : PureAt P W f xs r' S where
  enters := k.enters
  calls := fun w Y vs hG hY hvs => (k.calls w Y vs hG hY hvs).mono fun e w' ⟨v, μ', h1, h2, h3, h4⟩ => ⟨v, μ', h1, h2, h w' μ' v h3, h4⟩
theorem AOps.scD {P : Program} {W : World} {T : Tab} {n : Nat} {ops : Array Oper} {d : Tmp} {op : Op} {ty : TypeId} {pos : String} {af : Array Edge} {r : List Oper} {env : Env} {h h' : Store} {Q : Env → Store → Prop} {x : AV}
    {g : FuncId} {vs : List AV} {r0 : AV} {S : List Obj} (hc : callee T (ev env) ⟨some d, op, ty, pos, af, none⟩ = some (g, vs)) (hcl : closedL vs = true) (hp : PureAt P W g vs r0 S) (hx : r0.ren (· + h.next) = x) (hh : h.add S = h') (hd : d < n)
    (k : AOps P W T n ops r ((d, x) :: env) h' Q) : AOps P W T n ops (⟨some d, op, ty, pos, af, none⟩ :: r) env h Q := AOps.sc hc hcl hp hd (by rw [hx, hh]; exact k)
end
end Go.Lift
namespace Go.Lift
noncomputable section
open Go Go.RowKit
set_option linter.unusedVariables false
theorem ba_size (a : Array UInt8) : (⟨a⟩ : ByteArray).size = a.size := rfl
theorem bstr_size (ns : List Int) : (bytesStr ns).size = ns.length := by unfold bytesStr; rw [bytesStr_size]; simp
theorem kr {α : Sort _} {a b : α} (h : a = b := by kernel_rfl) : a = b := h
theorem le {a b : Nat} (h : a ≤ b := by exact Nat.le_of_ble_eq_true rfl) : a ≤ b := h
theorem lt {a b : Nat} (h : a < b := by exact Nat.le_of_ble_eq_true rfl) : a < b := h
theorem sd {p : Prop} (h : p := by first | omega | (unfold LIM; omega) | (simp only [List.length_append, List.length_cons, List.length_nil, List.length_set, List.length_replicate, ByteArray.size_append, List.length_take, List.length_drop, ba_size, bstr_size, List.size_toArray, LIM]; omega) | (simp [LIM]; done) | (simp [LIM]; omega) | decide +kernel) : p := h
theorem sdd {p : Prop} (h : p := by (try dsimp only) <;> (first | omega | (unfold LIM; omega) | (simp only [List.length_append, List.length_cons, List.length_nil, List.length_set, List.length_replicate, ByteArray.size_append, List.length_take, List.length_drop, ba_size, bstr_size, List.size_toArray, LIM]; omega) | (simp [LIM]; done) | (simp [LIM]; omega) | decide +kernel)) : p := h
theorem od {p : Prop} (h : p := by (try dsimp only); omega) : p := h
theorem sbt : (∀ {α : Type}, ([] : List α).length = 0) ∧ (((0 : Nat) : Int) = 0) ∧ (∀ {α : Type} (a : α), (a = a) = True) ∧ (∀ h : Decidable True, @decide True h = true) ∧ (∀ {α : Type} (xs : List α), [] ++ xs = xs) ∧ (∀ {α : Type} (n : Nat), ([] : List α).take n = []) ∧ (∀ {α : Type} (a b : α), cond true a b = a) ∧ (∀ {α : Type} (a b : α), cond false a b = b) ∧ (∀ b : Bool, (true && b) = b) ∧ (∀ b : Bool, (false && b) = false) ∧ (∀ b : Bool, (true || b) = true) ∧ (∀ b : Bool, (false || b) = b) ∧ ((!true) = false) ∧ ((!false) = true) :=
  ⟨rfl, rfl, fun a => eq_self a, fun h => by cases h with | isTrue q => rfl | isFalse q => exact absurd trivial q, fun _ => rfl, fun n => by simp, fun _ _ => rfl, fun _ _ => rfl, fun b => Bool.true_and b, fun b => Bool.false_and b, fun b => Bool.true_or b, fun b => Bool.false_or b, rfl, rfl⟩
end
end Go.Lift
namespace Go.Lift
noncomputable section
open Go Go.RowKit
set_option linter.unusedSimpArgs false
set_option linter.unusedVariables false
def FinM (T : Tab) (rs : List ResultVar) (r : AV) : Post := fun e env h => (e = .normal ∨ e = .ret) ∧ ∃ r0, resRun T env h rs = some r0 ∧ Ent [] h r0 r
theorem pure_of_bodyM {P : Program} {W : World} {T : Tab} (hT : tabOk P T = true) {f : FuncId} {fn : Func} {c : Code} (hf : P.funcs[f]? = some fn) (hb : fn.body = some c) (he : ∀ (vs : Array Value) (w : World), (callFunc f vs).run P w = .ok (.enter f vs) w)
    {args : List AV} (hn : args.length ≤ fn.ntmps) {r : AV}
    (k : Awp P W fn.ntmps 0 c (argEnv 0 args) ⟨0, []⟩ (FinM T fn.results.toList r)) (hM : f < 1000000 := by decide) : PureAt P W f args r [] := .plain hM he <| fun w Y vs hG hY hvs => by
    have hvr := VRs_of_CRs _ _ hvs
    have hlen := VRs_length hvr
    refine calls_of_wp hf hb ?_
    have R : Rel fn.ntmps ⟨W, w, mu0 Y, 0⟩ w (mu0 Y) (argEnv 0 args) ⟨0, []⟩ { tmps := vs.toArray ++ Array.replicate (fn.ntmps - vs.toArray.size) undef, defers := [] } w := {
      glob := hG
      snc := ⟨Ext.refl _ _, rfl, fun _ h => by simp at h, fun _ _ => rfl⟩
      low := Nat.zero_le _
      sim := {
        below := Below.refl _ _
        lt := by intro _ _ h; cases h
        inj := by intro _ _ _ _ h; cases h
        live := by intro _ _ _ h; cases h
        ylt := hY
        blk := by intro _ _ _ _ h; cases h }
      env := start_env hvr _
      sz := by simp [hlen]; omega
      dfr := rfl
      fresh := fun _ _ => rfl }
    refine wp_mono (k _ w (mu0 Y) _ w rfl rfl R) ?_
    rintro e a' w' ⟨env', h', μ', ⟨he, r0, hr0, hE⟩, R'⟩
    obtain ⟨v, hrun, hv0⟩ := resRun_ok hT R' hr0
    have hv := ent_ok R'.sim hE hv0
    have R2 := rel_fin R' (keep := []) (env' := []) (h' := S0 []) ⟨List.nodup_nil, rfl, trivial, trivial⟩ (fun i hi => by simp at hi)
    have hpost : a'.defers = [] ∧ ∃ v, (results fn a'.tmps).run P w' = .ok v w' ∧ ∃ v' μ'', (Ending.returned v) = .returned v' ∧ μ''.Y = Y ∧ VR w' μ'' r v' ∧ Sim w μ'' w' (S0 []) ∧ (∀ id, ([] : List Obj).length ≤ id → μ'' id = none) :=
      ⟨R'.dfr, _, hrun, _, μ'.fin [], rfl, R'.snc.y, hv, R2.sim, R2.fresh⟩
    rcases he with rfl | rfl
    · exact hpost
    · exact hpost
theorem g_shr {T : Tab} {ρ : Opnd} {h : Store} {dst : Option Tmp} {ty : TypeId} {pos : String} {af : Array Edge} {gd : Option (Nat × Bool)} {t yt : TypeId} {x y : Operand} {k k' : IntKind} {a : Int} {n : Nat} (ex : ρ (kOf T t) x = some (.i k a)) (ey : ρ (kOf T t) y = some (.i k' (n : Int))) :
    qop T ρ h ⟨dst, .binOp .shr t x y yt, ty, pos, af, gd⟩ = some (.i k (a.fdiv (2 ^ (min n k.bits)))) := by
  simp only [qop, ex, ey, pbin, pint]
  rw [if_neg (by omega), Int.toNat_natCast]
section
variable {keep : List Nat} {h h' : Store} {d : Nat}
end
end
end Go.Lift
namespace Go.Lift
noncomputable section
open Go Go.RowKit
set_option linter.unusedSimpArgs false
set_option linter.unusedVariables false
set_option linter.unusedSectionVars false
end
end Go.Lift
namespace Go.Lift
noncomputable section
open Go Go.RowKit
set_option linter.unusedSimpArgs false
set_option linter.unusedVariables false
set_option linter.unusedSectionVars false
theorem WeakC.ptK {xs ys : List AV} (n : Nat) (h : xs.take n = ys) : WeakC (.pt xs) (.pt ys) := fun w μ v k => by
  simp only [CR] at k ⊢
  obtain ⟨a, e, k⟩ := k
  exact ⟨a, e, h ▸ CRcells_take k n⟩
end
end Go.Lift
namespace Go.Lift
noncomputable section
open Go Go.RowKit
set_option linter.unusedSimpArgs false
set_option linter.unusedVariables false
set_option linter.unusedSectionVars false
def closedE (env : Env) : Bool := env.all fun p => closed p.2
theorem closedE_get : ∀ {env : Env}, closedE env = true → ∀ t, closed (env.get t) = true
  | [], _, t => rfl
  | (t', x) :: r, h, t => by
    simp only [closedE, List.all_cons, Bool.and_eq_true] at h
    rw [get_cons]
    by_cases ht : t = t'
    · rw [if_pos ht]; exact h.1
    · rw [if_neg ht]; exact closedE_get (env := r) h.2 t
structure CF (n : Nat) (W w0 : World) (Y : Nat → Prop) (env : Env) (a : Act) (w : World) : Prop where
  glob : Glob W w
  below : Below w0.heap.size w0 w
  env : ∀ t, CR w (mu0 Y) (env.get t) (a.tmps.getD t undef)
  sz : a.tmps.size = n
  dfr : a.defers = []
  ylt : ∀ g, Y g → g < w0.heap.size
def CQ (Q : Exit → Env → Prop) : Post := fun e env h => ∃ keep env' h', FitsW keep env h env' h' ∧ h'.next = 0 ∧ closedE env' = true ∧ Q e env'
section
variable {P : Program} {W w0 w : World} {n : Nat} {Y : Nat → Prop} {env : Env} {a : Act}
theorem CF.rel (F : CF n W w0 Y env a w) : Rel n ⟨w, w, mu0 Y, 0⟩ w (mu0 Y) env ⟨0, []⟩ a w where
  glob := Glob.refl w
  snc := ⟨Ext.refl _ _, rfl, fun _ h => by simp at h, fun _ _ => rfl⟩
  low := Nat.le_refl _
  sim := {
    below := Below.refl _ _
    lt := by intro _ _ h; cases h
    inj := by intro _ _ _ _ h; cases h
    live := by intro _ _ _ h; cases h
    ylt := fun g hg => Nat.lt_of_lt_of_le (F.ylt g hg) F.below.size
    blk := by intro _ _ _ _ h; cases h }
  env := fun t => VR_of_CR _ _ (F.env t)
  sz := F.sz
  dfr := F.dfr
  fresh := fun _ _ => rfl
theorem CF.of_rel (F : CF n W w0 Y env a w) {env' : Env} {h' : Store} {μ' : Mu} {a' : Act} {w' : World} (hn : h'.next = 0) (hc : closedE env' = true) (R : Rel n ⟨w, w, mu0 Y, 0⟩ w μ' env' h' a' w') : CF n W w0 Y env' a' w' ∧ Below w.heap.size w w' := by
  refine ⟨⟨F.glob.mono R.sim.below, F.below.trans (R.sim.below.mono F.below.size), fun t => ?_, R.sz, R.dfr, F.ylt⟩, R.sim.below⟩
  refine CR_less (fun x u hr => ⟨hr.1, fun q => hr.2.1 ?_, hr.2.2⟩) _ _ (CR_of_closed _ _ (closedE_get hc t) (R.env t))
  rcases q with q | ⟨_, _, q, _⟩
  · left; rw [R.snc.y]; exact q
  · cases q
theorem CF.run {c : Code} {Q : Exit → Env → Prop} (F : CF n W w0 Y env a w) (k : Awp P w n 0 c env ⟨0, []⟩ (CQ Q)) :
    c.wp P (fun e a' w' => ∃ env', Q e env' ∧ CF n W w0 Y env' a' w' ∧ Below w.heap.size w w') a w :=
  wp_mono (k ⟨w, w, mu0 Y, 0⟩ w (mu0 Y) a w rfl rfl F.rel) fun e a' w' ⟨env1, h1, μ', ⟨keep, env', h', hf, hn, hc, q⟩, R⟩ =>
    ⟨env', q, F.of_rel hn hc (rel_finW R hf (fun i hi => by simp at hi))⟩
end
theorem region_then {P : Program} {W : World} {T : Tab} (hT : tabOk P T = true) {n : Nat} {ops : Array Oper} {Q : Exit → Act → World → Prop} (l2 : List Nat) :
    ∀ (l : List Nat) {os : List Oper} {env : Env} {h : Store} {R : Env → Store → Prop}, l.map (fun i => ops[i]?) = os.map some → AOps P W T n ops os env h R →
      ∀ {B : Base} (_ : B.W = W) {w0 : World} {μ : Mu} {a : Act} {w : World}, Rel n B w0 μ env h a w → (∀ env' h' μ' a' w', R env' h' → Rel n B w0 μ' env' h' a' w' → wpOps P ops Q l2 a' w') → wpOps P ops Q (l ++ l2) a w
  | [], os, env, h, R, hl, k, B, hB, w0, μ, a, w, rel, hQ => by
    have : os = [] := by cases os <;> simp at hl; rfl
    subst this
    exact hQ env h μ a w k rel
  | i :: l, os, env, h, R, hl, k, B, hB, w0, μ, a, w, rel, hQ => by
    cases os with
    | nil => simp at hl
    | cons o os =>
      simp only [List.map_cons, List.cons.injEq] at hl
      obtain ⟨ho, hl⟩ := hl
      simp only [List.cons_append, wpOps, ho]
      simp only [AOps] at k
      split at k
      · rename_i hw
        obtain ⟨hd, x, h', he, k⟩ := k
        rw [if_pos (wanted_ok hw (fun j want d _ _ => rel.env d))]
        exact Or.inl (eff_wp hT he hB rel hd fun a' w' μ' rel' => region_then hT l2 l hl k hB rel' hQ)
      · rename_i hw
        obtain ⟨hd, k⟩ := k
        rw [if_neg (by rw [wanted_ok hw (fun j want d _ _ => rel.env d)]; simp)]
        have hdd : ∀ t, o.dst = some t → t < n := by
          intro t ht
          unfold dstOk at hd
          rw [ht] at hd
          simpa using hd
        exact region_then hT l2 l hl k hB (rel_put hT rel (Grow.refl rel.sim).step hdd (by simp only [VR, VRs]; exact ⟨#[], rfl, rfl⟩)) hQ
      · exact k.elim
theorem region_first {P : Program} {W : World} {T : Tab} (hT : tabOk P T = true) {n : Nat} {ops : Array Oper} {Q : Exit → Act → World → Prop} (m : Nat) (l2 : List Nat) (hm : m ≤ ops.size) {env : Env} {h : Store} {R : Env → Store → Prop} (k : AOps P W T n ops (ops.toList.take m) env h R)
    {B : Base} (hB : B.W = W) {w0 : World} {μ : Mu} {a : Act} {w : World} (rel : Rel n B w0 μ env h a w) (hQ : ∀ env' h' μ' a' w', R env' h' → Rel n B w0 μ' env' h' a' w' → wpOps P ops Q l2 a' w') : wpOps P ops Q (List.range m ++ l2) a w :=
  region_then hT l2 (List.range m) (os := ops.toList.take m) (by
    apply List.ext_getElem?
    intro i
    simp only [List.getElem?_map, List.getElem?_take]
    rcases Nat.lt_or_ge i m with q | q
    · rw [List.getElem?_range q, if_pos q]
      simp [show i < ops.size by omega]
    · rw [List.getElem?_eq_none (by simpa using q), if_neg (by omega)]; rfl) k hB rel hQ
def EsOk (es : Array MapEntry) (ks : List Int) : Prop := es.toList.map (fun e => (e.key, e.val)) = ks.map fun k => (Value.int .i64 k, Value.bool true)
theorem findNow_ok (k : Int) : ∀ (es : List MapEntry) (ks : List Int) (i : Nat), es.map (fun e => (e.key, e.val)) = ks.map (fun k => (Value.int .i64 k, Value.bool true)) →
    (ks.any (fun t => decide (t = k)) = false → Instr.findNow (.int .i64) (.int .i64 k) es i = some none) ∧
    (ks.any (fun t => decide (t = k)) = true → ∃ j, Instr.findNow (.int .i64) (.int .i64 k) es i = some (some (j, .bool true)))
  | [], ks, i, h => by
    cases ks with
    | nil => exact ⟨fun _ => rfl, fun q => by simp at q⟩
    | cons t r => simp at h
  | e :: es, ks, i, h => by
    cases ks with
    | nil => simp at h
    | cons t r =>
      simp only [List.map_cons, List.cons.injEq, Prod.mk.injEq] at h
      obtain ⟨⟨h1, h2⟩, h3⟩ := h
      obtain ⟨a, b⟩ := findNow_ok k es r (i + 1) h3
      simp only [Instr.findNow, h1, Instr.sameNow, if_true, List.any_cons, h2]
      by_cases hk : k = t
      · subst hk
        simp
      · have hk' : ¬ t = k := fun q => hk q.symm
        have e1 : (k == t) = false := by simpa using hk
        rw [e1, decide_eq_false hk', Bool.false_or]
        exact ⟨a, b⟩
section
variable {P : Program} {mt kt vt : TypeId} (hm : P.underlying mt = some (.map kt vt)) (hk : P.underlying kt = some (.int .i64)) (hv : P.underlying vt = some .bool)
  (hz : ∀ w, (zeroValue vt).run P w = .ok (.bool false) w)
include hm hk hz
theorem run_lookup_int {w : World} {r : Nat} {es : Array MapEntry} {clock : Nat} {ks : List Int} (hr : w.heap[r]? = some (.map es clock)) (he : EsOk es ks) (k : Int) :
    (Instr.lookup mt (.map (some r)) (.int .i64 k) false).run P w = .ok (.bool (ks.any fun t => decide (t = k))) w := by
  obtain ⟨a, b⟩ := findNow_ok k es.toList ks 0 he
  have hck : (Instr.checkKey es.isEmpty 10000 kt (.int .i64 k)).run P w = .ok () w := MapKept.run_checkKey (k := .int .i64 k) (n := 9999) hk (show IntKind.i64 = IntKind.i64 from rfl) _
  cases h : ks.any fun t => decide (t = k) with
  | false =>
    have hf : (Instr.findKey kt (.int .i64 k) es.toList).run P w = .ok none w := by
      simp [Instr.findKey, run_underlying hk, a h]
    simp only [Instr.lookup, Sem.run_bind, run_underlying hm, Result.andThen_ok, MapKept.run_getObj_map hr, Sem.run_pure, hck, hf, hz]
    simp
  | true =>
    obtain ⟨j, hj⟩ := b h
    have hf : (Instr.findKey kt (.int .i64 k) es.toList).run P w = .ok (some (j, .bool true)) w := by
      simp [Instr.findKey, run_underlying hk, hj]
    simp only [Instr.lookup, Sem.run_bind, run_underlying hm, Result.andThen_ok, MapKept.run_getObj_map hr, Sem.run_pure, hck, hf]
    simp
theorem lookup_ok {W : World} {r : Nat} {es : Array MapEntry} {clock : Nat} {ks : List Int} (hr : W.heap[r]? = some (.map es clock)) (he : EsOk es ks) {env : Env} {x y : Tmp} {key : Int}
    (ex : env.get x = .raw (.map (some r))) (ey : env.get y = .i .i64 key) {d : Tmp} {ty : TypeId} {pos : String} {af : Array Edge} :
    ∀ (w : World) (μ : Mu) (c : Operand → Value), Glob W w → (∀ z ∈ (Op.lookup mt (.tmp x) (.tmp y) false).operands, ∀ q u, ev env q z = some u → VR w μ u (c z)) →
      ∃ z, (execOp c ⟨some d, .lookup mt (.tmp x) (.tmp y) false, ty, pos, af, none⟩).run P w = .ok (.value z) w ∧ VR w μ (.b (ks.any fun t => decide (t = key))) z := by
  intro w μ c hG hx
  have hlt : r < W.heap.size := by
    rcases Nat.lt_or_ge r W.heap.size with q | q
    · exact q
    · rw [Array.getElem?_eq_none q] at hr; cases hr
  have h1 := hx (.tmp x) (by simp [Op.operands]) 0 _ rfl
  have h2 := hx (.tmp y) (by simp [Op.operands]) 0 _ rfl
  rw [ex] at h1; rw [ey] at h2
  simp only [VR, CR] at h1 h2
  have hr' : w.heap[r]? = some (.map es clock) := by rw [hG.block r hlt]; exact hr
  refine ⟨.bool (ks.any fun t => decide (t = key)), ?_, by simp only [VR, CR]⟩
  unfold execOp
  exact run_v (by rw [h1, h2]; exact run_lookup_int hm hk hz hr' he key)
omit hz in
theorem run_mapUpdate_new {w : World} {r : Nat} {es : Array MapEntry} {clock : Nat} {ks : List Int} (hr : w.heap[r]? = some (.map es clock)) (he : EsOk es ks) {k : Int} (hn : ks.any (fun t => decide (t = k)) = false) :
    (Instr.mapUpdate mt (.map (some r)) (.int .i64 k) (.bool true)).run P w = .ok () { w with heap := w.heap.setIfInBounds r (.map (es.push ⟨.int .i64 k, .bool true, clock⟩) (clock + 1)) } := by
  obtain ⟨a, b⟩ := findNow_ok k es.toList ks 0 he
  have hck : (Instr.checkKey false 10000 kt (.int .i64 k)).run P w = .ok () w := MapKept.run_checkKey (k := .int .i64 k) (n := 9999) hk (show IntKind.i64 = IntKind.i64 from rfl) _
  have hf : (Instr.findKey kt (.int .i64 k) es.toList).run P w = .ok none w := by
    simp [Instr.findKey, run_underlying hk, a hn]
  simp only [Instr.mapUpdate, Sem.run_bind, run_underlying hm, Result.andThen_ok, MapKept.run_getObj_map hr, Sem.run_pure, hck, hf]
  exact MapKept.run_setObj_map _ hr
end
theorem EsOk.push {es : Array MapEntry} {ks : List Int} (h : EsOk es ks) (k : Int) (c : Nat) : EsOk (es.push ⟨.int .i64 k, .bool true, c⟩) (ks ++ [k]) := by
  unfold EsOk at h ⊢
  simp [h]
theorem EsOk.nil : EsOk #[] [] := rfl
theorem CF.turn {n : Nat} {W w0 w : World} {Y : Nat → Prop} {env : Env} {a : Act} (F : CF n W w0 Y env a w) {r : Nat} {es es' : Array MapEntry} {clock c' : Nat} (hr : w.heap[r]? = some (.map es clock)) (h0 : w0.heap.size ≤ r) (hW : W.heap.size ≤ r) :
    CF n W w0 Y env a { w with heap := w.heap.setIfInBounds r (.map es' c') } ∧ ({ w with heap := w.heap.setIfInBounds r (.map es' c') } : World).heap[r]? = some (.map es' c') := by
  have hlt : r < w.heap.size := by
    rcases Nat.lt_or_ge r w.heap.size with q | q
    · exact q
    · rw [Array.getElem?_eq_none q] at hr; cases hr
  have hb : ∀ g, g ≠ r → ({ w with heap := w.heap.setIfInBounds r (.map es' c') } : World).heap[g]? = w.heap[g]? := by
    intro g hg
    simp only [Array.getElem?_setIfInBounds]
    rw [if_neg (fun q => hg q.symm)]
  have e : ∀ x u, Rd w (mu0 Y) x u → Rd { w with heap := w.heap.setIfInBounds r (.map es' c') } (mu0 Y) x u := by
    refine fun x u hu => ⟨?_, hu.2.1, hu.2.2⟩
    have hne : x.block ≠ r := by
      intro q
      have h1 := hu.1
      unfold World.cell? at h1
      rw [q, hr] at h1
      simp at h1
    rw [cell_of_blk (hb _ hne)]; exact hu.1
  refine ⟨⟨⟨?_, fun k hk => ?_⟩, ⟨F.below.os, F.below.tape, F.below.output, ?_, fun k hk => ?_⟩, fun t => CR_mono0 e _ _ (F.env t), F.sz, F.dfr, F.ylt⟩, ?_⟩
  · simp only [Array.size_setIfInBounds]; exact F.glob.size
  · rw [hb k (by omega)]; exact F.glob.block k hk
  · simp only [Array.size_setIfInBounds]; exact F.below.size
  · rw [hb k (by omega)]; exact F.below.block k hk
  · simp only [Array.getElem?_setIfInBounds]; simp [hlt]
theorem CF.made {n : Nat} {W w0 w : World} {Y : Nat → Prop} {env : Env} {a : Act} (F : CF n W w0 Y env a w) (o : Go.Obj) : CF n W w0 Y env a (w.alloc o) where
  glob := ⟨by have := F.glob.size; simp; omega, fun k hk => by rw [heap_push_old _ _ _ (Nat.lt_of_lt_of_le hk F.glob.size)]; exact F.glob.block k hk⟩
  below := F.below.alloc F.below.size o
  env := fun t => CR_mono (Ext.of (fun g hg _ => heap_push_old _ _ _ hg) (fun _ _ h => Or.inl h) (fun g h => Or.inl h)) _ _ (F.env t)
  sz := F.sz
  dfr := F.dfr
  ylt := F.ylt
theorem Glob.cell {W w : World} (g : Glob W w) {a : Addr} {u : Value} (h : W.cell? a = some u) : w.cell? a = some u := by
  rw [cell_of_blk (g.block _ (cell_lt h))]; exact h
theorem wpOps_one {P : Program} {ops : Array Oper} {Q : Exit → Act → World → Prop} {i : Nat} {rest : List Nat} {a : Act} {w : World} {o : Oper} (ho : ops[i]? = some o) (hg : o.guard = none) {v : Value} {w' : World}
    (hr : (execOp a.eval o).run P w = .ok (.value v) w') (k : wpOps P ops Q rest (a.put o.dst v) w') : wpOps P ops Q (i :: rest) a w := by
  simp only [wpOps, ho]
  rw [if_pos (by unfold Region.wanted; rw [hg])]
  refine Or.inl ?_
  unfold Oper.wp
  rw [hr]; exact k
theorem CF.put {n : Nat} {W w0 w : World} {Y : Nat → Prop} {env : Env} {a : Act} (F : CF n W w0 Y env a w) {t : Tmp} (ht : t < n) {x : AV} {v : Value} (hv : CR w (mu0 Y) x v) : CF n W w0 Y ((t, x) :: env) (a.put (some t) v) w where
  glob := F.glob
  below := F.below
  env := fun t' => by
    have hs := F.sz
    have e1 : (a.put (some t) v).tmps.getD t' undef = if t = t' then v else a.tmps.getD t' undef := by
      simp only [Act.put, Array.getD_eq_getD_getElem?, Array.getElem?_setIfInBounds]
      by_cases h : t = t'
      · subst h; simp [hs, ht]
      · rw [if_neg h, if_neg (by simpa using h)]
    rw [e1, get_cons]
    by_cases h : t' = t
    · subst h; rw [if_pos rfl, if_pos rfl]; exact hv
    · rw [if_neg h, if_neg (fun q => h q.symm)]; exact F.env t'
  sz := by simp only [Act.put, Array.size_setIfInBounds]; exact F.sz
  dfr := F.dfr
  ylt := F.ylt
theorem CF.start {P : Program} {n : Nat} {W w : World} {Y : Nat → Prop} (hG : Glob W w) (hY : ∀ g, Y g → g < w.heap.size) {args : List AV} {vs : List Value} (hc : closedL args = true) (h : CRs w (mu0 Y) args vs) (hn : args.length ≤ n) :
    CF n W w Y (argEnv 0 args) { tmps := vs.toArray ++ Array.replicate (n - vs.toArray.size) undef, defers := [] } w where
  glob := hG
  below := Below.refl _ _
  env := fun t => by
    have hl := CRs_length h
    refine CR_of_closed _ _ ?_ (start_env (VRs_of_CRs _ _ h) _ t)
    rw [argEnv_get]
    split
    · cases e : args[t - 0]? with
      | none => rfl
      | some x => rw [closedL_all] at hc; exact List.all_eq_true.1 hc x (List.mem_of_getElem? e)
    · rfl
  sz := by have hl := CRs_length h; simp [hl]; omega
  dfr := rfl
  ylt := hY
theorem CF.done {P : Program} {n : Nat} {W w0 w : World} {Y : Nat → Prop} {env : Env} {a : Act} (F : CF n W w0 Y env a w) {fn : Func} {t : Nat} (hr : resTmps fn.results.toList = some [t]) {r : AV} (hc : closed r = true) (he : env.get t = r) :
    a.defers = [] ∧ ∃ v, (results fn a.tmps).run P w = .ok v w ∧ ∃ v' μ', (Ending.returned v) = .returned v' ∧ μ'.Y = Y ∧ VR w μ' r v' ∧ Sim w0 μ' w (S0 []) ∧ (∀ id, ([] : List Obj).length ≤ id → μ' id = none) := by
  refine ⟨F.dfr, _, results_run (P := P) hr a.tmps w, _, mu0 Y, rfl, rfl, ?_, ?_, fun _ _ => rfl⟩
  · have := F.env t
    rw [he] at this
    exact VR_of_CR _ _ this
  · exact {
      below := F.below
      lt := by intro _ _ h; cases h
      inj := by intro _ _ _ _ h; cases h
      live := by intro _ _ _ h; cases h
      ylt := F.ylt
      blk := by intro _ _ _ _ h; cases h }
theorem wpOps_unit {P : Program} {ops : Array Oper} {Q : Exit → Act → World → Prop} {i : Nat} {rest : List Nat} {a : Act} {w : World} {o : Oper} (ho : ops[i]? = some o) (hg : o.guard = none) {w' : World}
    (hr : (execOp a.eval o).run P w = .ok .skip w') (k : wpOps P ops Q rest (a.put o.dst undef) w') : wpOps P ops Q (i :: rest) a w := by
  simp only [wpOps, ho]
  rw [if_pos (by unfold Region.wanted; rw [hg])]
  refine Or.inl ?_
  unfold Oper.wp
  rw [hr]; exact k
theorem run_uu {P : Program} {m : Sem Unit} {w w' : World} (h : m.run P w = .ok () w') : (do m; pure .skip : Sem Next).run P w = .ok .skip w' := by
  simp [h]
theorem CF.bool {n : Nat} {W w0 w : World} {Y : Nat → Prop} {env : Env} {a : Act} (F : CF n W w0 Y env a w) {t : Nat} {b : Bool} (h : env.get t = .b b) : a.eval (.tmp t) = .bool b := by
  have := F.env t
  rw [h] at this; simp only [CR] at this; exact this
theorem CF.raw {n : Nat} {W w0 w : World} {Y : Nat → Prop} {env : Env} {a : Act} (F : CF n W w0 Y env a w) {t : Nat} {u : Value} (h : env.get t = .raw u) : a.eval (.tmp t) = u := by
  have := F.env t
  rw [h] at this; simp only [CR] at this; exact this
theorem CF.int {n : Nat} {W w0 w : World} {Y : Nat → Prop} {env : Env} {a : Act} (F : CF n W w0 Y env a w) {t : Nat} {k : IntKind} {z : Int} (h : env.get t = .i k z) : a.eval (.tmp t) = .int k z := by
  have := F.env t
  rw [h] at this; simp only [CR] at this; exact this
theorem CF.len {n : Nat} {W w0 w : World} {Y : Nat → Prop} {env : Env} {a : Act} (F : CF n W w0 Y env a w) {t : Nat} {k : Nat} {α : Type} {A : α → AV} {xs : List α} (h : env.get t = slA k A xs) : xs.length ≤ 281474976710656 := by
  have := F.env t
  rw [h] at this
  simp only [slA, CR] at this
  rcases this with ⟨q, _⟩ | ⟨_, _, _, _, _, q, _⟩
  · have : xs = [] := by simpa using q
    rw [this]; simp
  · simpa [LIM] using q
theorem Below.blk {w w' : World} (h : Below w.heap.size w w') {r : Nat} {o : Go.Obj} (hr : w.heap[r]? = some o) : w'.heap[r]? = some o := by
  have hlt : r < w.heap.size := by
    rcases Nat.lt_or_ge r w.heap.size with q | q
    · exact q
    · rw [Array.getElem?_eq_none q] at hr; cases hr
  rw [h.block r hlt]; exact hr
end
end Go.Lift
namespace Go.Lift
noncomputable section
open Go Go.RowKit
set_option linter.unusedSimpArgs false
set_option linter.unusedVariables false
set_option linter.unusedSectionVars false
section
variable {P : Program} {W : World} {T : Tab} {n : Nat} {ops : Array Oper} {d : Tmp} {op : Op} {ty : TypeId} {pos : String} {af : Array Edge} {gd : Nat × Bool} {r : List Oper} {env : Env} {h h' : Store} {Q : Env → Store → Prop} {m i : Nat}
theorem Aq (x : AV) (k : AOps P W T n ops r ((d, x) :: env) h Q) (e : qop T (ev env) h ⟨some d, op, ty, pos, af, none⟩ = some x := by kernel_rfl) (hd : d < n := by exact Nat.le_of_ble_eq_true rfl) : AOps P W T n ops (⟨some d, op, ty, pos, af, none⟩ :: r) env h Q := AOps.sq e hd k
theorem Ap (x : AV) (e : qop T (ev env) h ⟨some d, op, ty, pos, af, none⟩ = some x) (k : AOps P W T n ops r ((d, x) :: env) h Q) (hd : d < n := by exact Nat.le_of_ble_eq_true rfl) : AOps P W T n ops (⟨some d, op, ty, pos, af, none⟩ :: r) env h Q := AOps.sq e hd k
theorem Dq (x : AV) (k : AOpsD P W T n ops m (i + 1) r ((d, x) :: env) h Q) (e : qop T (ev env) h ⟨some d, op, ty, pos, af, none⟩ = some x := by kernel_rfl) (hd : d < n := by exact Nat.le_of_ble_eq_true rfl) : AOpsD P W T n ops m i (⟨some d, op, ty, pos, af, none⟩ :: r) env h Q := AOpsD.sq e hd k
theorem Dp (x : AV) (e : qop T (ev env) h ⟨some d, op, ty, pos, af, none⟩ = some x) (k : AOpsD P W T n ops m (i + 1) r ((d, x) :: env) h Q) (hd : d < n := by exact Nat.le_of_ble_eq_true rfl) : AOpsD P W T n ops m i (⟨some d, op, ty, pos, af, none⟩ :: r) env h Q := AOpsD.sq e hd k
theorem An (k : AOps P W T n ops r ((d, .tup []) :: env) h Q) (e : wantA ops env ⟨some d, op, ty, pos, af, some gd⟩ = some false := by kernel_rfl) (hd : d < n := by exact Nat.le_of_ble_eq_true rfl) : AOps P W T n ops (⟨some d, op, ty, pos, af, some gd⟩ :: r) env h Q := by
  simp only [AOps, e]; exact ⟨by simpa [dstOk] using hd, k⟩
theorem Dn (k : AOpsD P W T n ops m (i + 1) r ((d, .tup []) :: env) h Q) (e : wantA ops env ⟨some d, op, ty, pos, af, some gd⟩ = some false := by kernel_rfl) (hd : d < n := by exact Nat.le_of_ble_eq_true rfl) : AOpsD P W T n ops m i (⟨some d, op, ty, pos, af, some gd⟩ :: r) env h Q := by
  simp only [AOpsD, e]; exact ⟨by simpa [dstOk] using hd, k⟩
theorem Gy {j : Nat} {want t : Bool} {o : Oper} {t' : Tmp} (hj : ops[j]? = some o) (ho : o.dst = some t') (k1 : AOps P W T n ops (⟨some d, op, ty, pos, af, none⟩ :: r) env h Q) (ht : env.get t' = .b t := by first | rfl | fail) (e : t = want := by first | rfl | (simp [*]; done) | fail) : AOps P W T n ops (⟨some d, op, ty, pos, af, some (j, want)⟩ :: r) env h Q := AOps.sgy hj ho ht e k1
theorem Gn {j : Nat} {want t : Bool} {o : Oper} {t' : Tmp} (hj : ops[j]? = some o) (ho : o.dst = some t') (hd : d < n) (k2 : AOps P W T n ops r ((d, .tup []) :: env) h Q) (ht : env.get t' = .b t := by first | rfl | fail) (e : t = !want := by first | rfl | (simp [*]; done) | fail) : AOps P W T n ops (⟨some d, op, ty, pos, af, some (j, want)⟩ :: r) env h Q := AOps.sgn hj ho ht e hd k2
theorem Gu {j : Nat} {want : Bool} {o : Oper} {t' : Tmp} (hj : ops[j]? = some o) (ho : o.dst = some t') (hd : d < n) (k2 : AOps P W T n ops r ((d, .tup []) :: env) h Q) (ht : env.get t' = .tup [] := by first | rfl | fail) : AOps P W T n ops (⟨some d, op, ty, pos, af, some (j, want)⟩ :: r) env h Q := AOps.sgu hj ho ht hd k2
theorem want_yes {j : Nat} {want : Bool} {o : Oper} (hg : o.guard = some (j, want)) (e : wantA ops env o = some true) : ∃ o' t', ops[j]? = some o' ∧ o'.dst = some t' ∧ env.get t' = .b want := by
  unfold wantA at e
  rw [hg] at e
  dsimp only at e
  cases hj : ops[j]? with
  | none => rw [hj] at e; cases e
  | some o' =>
    rw [hj] at e
    simp only [Option.bind_some] at e
    cases ho : o'.dst with
    | none => rw [ho] at e; cases e
    | some t' =>
      rw [ho] at e
      dsimp only at e
      refine ⟨o', t', rfl, ho, ?_⟩
      split at e
      · rename_i t ht
        rw [ht]
        cases t <;> cases want <;> first | rfl | cases e
      · cases e
      · cases e
theorem Ay (k : AOps P W T n ops (⟨some d, op, ty, pos, af, none⟩ :: r) env h Q) (e : wantA ops env ⟨some d, op, ty, pos, af, some gd⟩ = some true := by kernel_rfl) : AOps P W T n ops (⟨some d, op, ty, pos, af, some gd⟩ :: r) env h Q := by
  obtain ⟨j, want⟩ := gd
  obtain ⟨o', t', h1, h2, h3⟩ := want_yes rfl e
  exact AOps.sgy h1 h2 h3 rfl k
theorem Dy (k : AOpsD P W T n ops m i (⟨some d, op, ty, pos, af, none⟩ :: r) env h Q) (e : wantA ops env ⟨some d, op, ty, pos, af, some gd⟩ = some true := by kernel_rfl) : AOpsD P W T n ops m i (⟨some d, op, ty, pos, af, some gd⟩ :: r) env h Q := by
  obtain ⟨j, want⟩ := gd
  obtain ⟨o', t', h1, h2, h3⟩ := want_yes rfl e
  exact AOpsD.sgy h1 h2 h3 rfl k
theorem Nn (x : AV) (ob : Obj) (k : AOps P W T n ops r ((d, x) :: env) (h.new ob) Q) (e : nop T (ev env) h ⟨some d, op, ty, pos, af, none⟩ = some (x, h.new ob) := by kernel_rfl) (hd : d < n := by exact Nat.le_of_ble_eq_true rfl) : AOps P W T n ops (⟨some d, op, ty, pos, af, none⟩ :: r) env h Q := AOps.sn e hd k
theorem Nb (x : AV) (k : AOps P W T n ops r ((d, x) :: env) h Q) (e : nop T (ev env) h ⟨some d, op, ty, pos, af, none⟩ = some (x, h) := by kernel_rfl) (hd : d < n := by exact Nat.le_of_ble_eq_true rfl) : AOps P W T n ops (⟨some d, op, ty, pos, af, none⟩ :: r) env h Q := AOps.sn e hd k
theorem Sp (id : Nat) (ob : Obj) (k : AOps P W T n ops r env (h.put id (some ob)) Q) (e : eop T (ev env) h ⟨none, op, ty, pos, af, none⟩ = some (.und, h.put id (some ob)) := by kernel_rfl) : AOps P W T n ops (⟨none, op, ty, pos, af, none⟩ :: r) env h Q := AOps.st e k
theorem Sc {g : FuncId} {r0 : AV} {S : List Obj} (x : AV) (hp : PureAt P W g [] r0 S) (k : AOps P W T n ops r ((d, x) :: env) (h.add S) Q) (hc : callee T (ev env) ⟨some d, op, ty, pos, af, none⟩ = some (g, []) := by kernel_rfl) (hx : r0.ren (· + h.next) = x := by kernel_rfl) (hd : d < n := by exact Nat.le_of_ble_eq_true rfl) : AOps P W T n ops (⟨some d, op, ty, pos, af, none⟩ :: r) env h Q := AOps.scD hc rfl hp hx rfl hd k
end
section
variable {P : Program} {W : World} {n N : Nat} {env : Env} {h : Store} {Q : Post}
theorem Ad {T : Tab} {ops : Array Oper} {Q : Env → Store → Prop} (k : Q env h) : AOps P W T n ops [] env h Q := AOps.done k
theorem Sq {x y : Code} (k : Awp P W n N x env h (Post.then (fun env' h' => Awp P W n N y env' h' Q) Q)) : Awp P W n N (.seq x y) env h Q := Awp.seq k
theorem Rt (k : Q .ret env h) : Awp P W n N .ret env h Q := Awp.ret k
theorem Ct {c : Operand} {x y : Code} (k : Awp P W n N x env h Q) (hc : ev env 0 c = some (.b true) := by kernel_rfl) : Awp P W n N (.cond c x y) env h Q := Awp.cond hc k
theorem Cf {c : Operand} {x y : Code} (k : Awp P W n N y env h Q) (hc : ev env 0 c = some (.b false) := by kernel_rfl) : Awp P W n N (.cond c x y) env h Q := Awp.cond hc k
end
theorem nde {p : Prop} [Decidable p] (h : (!decide p) = false) : p := by simpa using h
theorem ndt {p : Prop} [Decidable p] (h : (!decide p) = true) : ¬ p := by simpa using h
theorem Ec {d : Nat} {keep : List Nat} {h : Store} {x y : AV} (e : x = y := by kernel_rfl) (hc : closed y = true := by kernel_rfl) : EntD (d + 1) keep h x y := Ent.c e hc
theorem Ee {keep : List Nat} {h : Store} {env : Env} {t : Nat} {x : AV} {r : Env} (b : EntE keep h env r) (e : env.get t = x := by kernel_rfl) (hc : closed x = true := by kernel_rfl) : EntE keep h env ((t, x) :: r) := EntE.cons (Ent.c e hc) b
abbrev Ai (n : Nat) : AV := .i .i64 (n : Int)
theorem PureAt.freeze {P : Program} {W : World} {f : FuncId} {args : List AV} {r r' : AV} {S : List Obj} (k : PureAt P W f args r S) (e : Ent [] (S0 S) r r') : PureAt P W f args r' [] where
  enters := k.enters
  calls := fun w Y vs hG hY hvs => by
    refine (k.calls w Y vs hG hY hvs).mono ?_
    rintro e' w' ⟨v, μ', rfl, hy, hv, hs, hf⟩
    refine ⟨v, μ'.fin [], rfl, hy, ent_ok hs e hv, ?_, fun id _ => rfl⟩
    exact {
      below := hs.below
      lt := by intro _ _ h; cases h
      inj := by intro _ _ _ _ h; cases h
      live := by intro _ _ _ h; cases h
      ylt := hs.ylt
      blk := by intro _ _ _ _ h; cases h }
end
end Go.Lift
namespace Go.Lift
noncomputable section
open Go Go.RowKit
set_option linter.unusedSimpArgs false
set_option linter.unusedVariables false
set_option linter.unusedSectionVars false
def plain1 : AV → Bool
  | .b _ => true
  | .i _ _ => true
  | .s _ => true
  | .und => true
  | _ => false
def plainO : AV → Bool
  | .st fs => fs.all plain1
  | x => plain1 x
theorem plain1_vr {w w' : World} {μ μ' : Mu} {x : AV} {v : Value} (hx : plain1 x = true) (k : VR w μ x v) : VR w' μ' x v := by
  cases x <;> first | (simp [plain1] at hx; done) | (simp only [VR]; done) | (simp only [VR, CR] at k ⊢; exact k)
theorem plainO_cells {x y : AV} {i : Nat} (hx : plainO x = true) (hy : x.cells[i]? = some y) : plain1 y = true := by
  cases x with
  | st fs =>
    have hm : y ∈ fs := List.mem_of_getElem? (by simpa only [AV.cells] using hy)
    simp only [plainO, List.all_eq_true] at hx
    exact hx y hm
  | _ =>
    simp only [AV.cells] at hy
    have : y ∈ [_] := List.mem_of_getElem? hy
    rw [List.mem_singleton] at this; subst this
    simpa only [plainO] using hx
section
variable {keep : List Nat} {h h' : Store} {d : Nat}
end
theorem Awp.drawnL {P : Program} {W : World} {T : Tab} {n N : Nat} {env : Env} {h : Store} {Q : Post} (hT : tabOk P T = true) (hm : P.follows .mixedOrders = true) {id : Nat} {ops : Array Oper} (m : Nat) (l : List Nat)
    (hpo : puOk ops m (fun j => l.contains j) = true) (hl : (l.all fun j => Nat.blt j m) = true) (hr : regOkP ops m (fun j => l.contains j) = true) (hmn : m ≤ ops.size) (k : AOpsD P W T n ops m 0 ops.toList env h (Q .normal)) : Awp P W n N (.region id ops true) env h Q :=
  fun B w0 μ a w hW hB R => region_drawnP hT hm hpo (fun j hj => by
    have := List.all_eq_true.1 hl j (by simpa using hj)
    exact Nat.le_of_ble_eq_true this) hr hmn k hW R fun env' h' μ' a' w' q r => ⟨env', h', μ', q, r⟩
end
end Go.Lift
namespace Go.Lift
noncomputable section
open Go Go.RowKit
set_option linter.unusedSimpArgs false
set_option linter.unusedVariables false
set_option linter.unusedSectionVars false
theorem CRs_append {w : World} {μ : Mu} : ∀ {xs ys : List AV} {us : List Value}, CRs w μ (xs ++ ys) us → ∃ a b, us = a ++ b ∧ CRs w μ xs a ∧ CRs w μ ys b
  | [], ys, us, h => ⟨[], us, rfl, by simp only [CRs], h⟩
  | x :: xs, ys, us, h => by
    simp only [List.cons_append, CRs] at h
    obtain ⟨v, r, rfl, h1, h2⟩ := h
    obtain ⟨a, b, rfl, h3, h4⟩ := CRs_append h2
    exact ⟨v :: a, b, rfl, by simp only [CRs]; exact ⟨v, a, rfl, h1, h3⟩, h4⟩
theorem CRs_join {w : World} {μ : Mu} : ∀ {xs ys : List AV} {a b : List Value}, CRs w μ xs a → CRs w μ ys b → CRs w μ (xs ++ ys) (a ++ b)
  | [], ys, a, b, h, k => by simp only [CRs] at h; subst h; exact k
  | x :: xs, ys, a, b, h, k => by
    simp only [CRs] at h
    obtain ⟨v, r, rfl, h1, h2⟩ := h
    simp only [List.cons_append, CRs]
    exact ⟨v, r ++ b, rfl, h1, CRs_join h2 k⟩
theorem PureAt.bound {P : Program} {W : World} {f g : FuncId} {bs ys : List AV} {r : AV} {S : List Obj} (k : PureAt P W f (bs ++ ys) r S) (hM : f < 1000000) (hb : bs ≠ []) (hg' : boundN f bs = g) : PureAt P W g (ys ++ bs) r S := by
  have hg : g = f + 1000000 * bs.length := by rw [← hg', boundN_eq]
  have h0 : 0 < bs.length := List.length_pos_iff.2 hb
  have e1 : g % 1000000 = f := by
    have : ∀ (f n : Nat), f < 1000000 → (f + 1000000 * n) % 1000000 = f := by intro f n h; omega
    rw [hg]; exact this f _ hM
  have e2 : g / 1000000 = bs.length := by
    have : ∀ (f n : Nat), f < 1000000 → (f + 1000000 * n) / 1000000 = n := by intro f n h; omega
    rw [hg]; exact this f _ hM
  have e3 : ¬ g < 1000000 := by
    have : ∀ (f n : Nat), 0 < n → ¬ f + 1000000 * n < 1000000 := by intro f n h; omega
    rw [hg]; exact this f _ h0
  refine ⟨by rw [e1]; exact k.entersP hM, ?_⟩
  rw [e1]
  intro w Y vs hG hY hvs
  obtain ⟨a, b, rfl, h1, h2⟩ := CRs_append hvs
  have hl : b.length = bs.length := CRs_length h2
  have : unrot g (a ++ b) = (b ++ a).toArray := by
    unfold unrot
    rw [if_neg e3, e2]
    have : (a ++ b).length - bs.length = a.length := by rw [List.length_append, hl]; omega
    rw [this, List.drop_left, List.take_left]
  rw [this]
  exact k.callsP hM w Y (b ++ a) hG hY (CRs_join h2 h1)
theorem EntK.wk {no : List Nat} {h : Store} {d : Nat} {x y y' : AV} (k : EntK no h d x y) (q : WeakC y y') : EntK no h d x y' := by
  obtain ⟨z, e1, e2, e3⟩ := k
  exact ⟨z, e1, e2, fun w μ v hv => q w μ v (e3 w μ v hv)⟩
end
end Go.Lift
namespace Go.Lift
noncomputable section
open Go Go.RowKit
set_option linter.unusedSimpArgs false
set_option linter.unusedVariables false
set_option linter.unusedSectionVars false
def Thru (F : Fence) : Prop := F = Fence.wide ∨ ∃ l, F = Fence.wide.inRound l
theorem Thru.fn {F : Fence} (h : Thru F) (f : FuncId) : F.fn f := by rcases h with rfl | ⟨l, rfl⟩ <;> exact trivial
theorem Thru.depth {F : Fence} (h : Thru F) (k : Nat) : F.depth.isSome = true → 1 ≤ k := by rcases h with rfl | ⟨l, rfl⟩ <;> exact fun q => by cases q
theorem oper_in {F : Fence} (hF : Thru F) {m : Nat} {P : Program} {o : Oper} {a : Act} {w : World} {K : Act → World → Prop} {Q : Exit → Act → World → Prop} (hd : ∀ c, o.op ≠ .defer c) (h : o.wp P a w K Q) : o.wpIn F m P a w K Q := by
  refine ⟨fun f _ => hF.fn f, ?_⟩
  rw [Oper.semAt_eq _ _ _ hd]
  unfold Oper.wp at h
  generalize (execOp a.eval o).run P w = r at h ⊢
  cases r with
  | halt hh w' => cases hh <;> first | exact h | exact h.elim
  | ok n w' =>
    cases n with
    | value v => exact h
    | skip => exact h
    | defer d => exact h
    | enter f args =>
      refine ⟨hF.depth _, ?_⟩
      have h2 : CallsIn Fence.wide (m - 1) P f args w' _ := callsIn_wide.2 h
      have h3 := CallsIn.mono h2 (R' := fun
        | .returned v, w'' => K (a.put o.dst v) w''
        | .panicked chain, w'' => Q (.panic chain) a w''
        | .outgrown, _ => LetsOut Q) (fun e w'' q => by cases e <;> exact q)
      rcases hF with rfl | ⟨l, rfl⟩
      · exact h3
      · exact CallsIn.inRound l h3
    | row row args =>
      refine ⟨hF.depth _, ?_⟩
      rcases hF with rfl | ⟨l, rfl⟩
      · exact fun c cs _ => let ⟨v, w'', r, s⟩ := h c cs; ⟨v, w'', r, stepsIn_wide.2 s⟩
      · exact fun c cs _ => let ⟨v, w'', r, s⟩ := h c cs; ⟨v, w'', r, stepsIn_wide.2 s⟩
    | _ => exact False.elim h
def noDefer (o : Oper) : Bool := match o.op with
  | .defer _ => false
  | _ => true
theorem noDefer_ok {o : Oper} (h : noDefer o = true) : ∀ c, o.op ≠ .defer c := by
  intro c e; unfold noDefer at h; rw [e] at h; cases h
section
variable {F : Fence} {m : Nat} {P : Program} {W : World} {T : Tab} {n N : Nat} {ops : Array Oper}
theorem region_in (hF : Thru F) (hT : tabOk P T = true) {Q : Exit → Act → World → Prop} (hnd : ops.toList.all noDefer = true) :
    ∀ (l : List Nat) {l' : List Nat} {os : List Oper} {env : Env} {h : Store} {R : Env → Store → Prop}, l.map (fun i => ops[i]?) = os.map some → AOps P W T n ops os env h R →
      ∀ {B : Base} (_ : B.W = W) {w0 : World} {μ : Mu} {a : Act} {w : World}, Rel n B w0 μ env h a w → (∀ env' h' μ' a' w', R env' h' → Rel n B w0 μ' env' h' a' w' → wpOpsIn F m P ops Q l' a' w') → wpOpsIn F m P ops Q (l ++ l') a w
  | [], l', os, env, h, R, hl, k, B, hB, w0, μ, a, w, rel, hQ => by
    have : os = [] := by cases os <;> simp at hl; rfl
    subst this
    exact hQ env h μ a w k rel
  | i :: l, l', os, env, h, R, hl, k, B, hB, w0, μ, a, w, rel, hQ => by
    cases os with
    | nil => simp at hl
    | cons o os =>
      simp only [List.map_cons, List.cons.injEq] at hl
      obtain ⟨ho, hl⟩ := hl
      have hdf : ∀ c, o.op ≠ .defer c := noDefer_ok (List.all_eq_true.1 hnd o (by
        obtain ⟨hi, e⟩ := Array.getElem?_eq_some_iff.1 ho
        rw [← e]; simp))
      simp only [List.cons_append, wpOpsIn, ho]
      simp only [AOps] at k
      split at k
      · rename_i hw
        obtain ⟨hd, x, h', he, k⟩ := k
        rw [if_pos (wanted_ok hw (fun j want d _ _ => rel.env d))]
        exact oper_in hF hdf (eff_wp hT he hB rel hd fun a' w' μ' rel' => region_in hF hT hnd l hl k hB rel' hQ)
      · rename_i hw
        obtain ⟨hd, k⟩ := k
        rw [if_neg (by rw [wanted_ok hw (fun j want d _ _ => rel.env d)]; simp)]
        have hdd : ∀ t, o.dst = some t → t < n := by
          intro t ht
          unfold dstOk at hd
          rw [ht] at hd
          simpa using hd
        exact ⟨fun f _ => hF.fn f, region_in hF hT hnd l hl k hB (rel_put hT rel (Grow.refl rel.sim).step hdd (by simp only [VR, VRs]; exact ⟨#[], rfl, rfl⟩)) hQ⟩
      · exact k.elim
def AwpI (F : Fence) (m : Nat) (P : Program) (W : World) (n N : Nat) (c : Code) (env : Env) (h : Store) (Q : Post) : Prop :=
  ∀ (B : Base) (w0 : World) (μ : Mu) (a : Act) (w : World), B.W = W → B.N = N → Rel n B w0 μ env h a w →
    c.wpIn F m P (fun e a' w' => ∃ env' h' μ', Q e env' h' ∧ Rel n B w0 μ' env' h' a' w') a w
variable {env : Env} {h : Store} {Q : Post}
theorem AwpI.seq {x y : Code} (k : AwpI F m P W n N x env h (Post.then (fun env' h' => AwpI F m P W n N y env' h' Q) Q)) : AwpI F m P W n N (.seq x y) env h Q :=
  fun B w0 μ a w hW hB R => wpIn_seq (wpIn_mono (k B w0 μ a w hW hB R) fun e a' w' hh => by
    obtain ⟨env', h', μ', q, r⟩ := hh
    cases e <;> first | exact q B w0 μ' a' w' hW hB r | exact ⟨env', h', μ', q, r⟩)
theorem AwpI.region (hF : Thru F) (hT : tabOk P T = true) {id : Nat} (hnd : ops.toList.all noDefer = true) (k : AOps P W T n ops ops.toList env h (Q .normal)) : AwpI F m P W n N (.region id ops false) env h Q :=
  fun B w0 μ a w hW hB R => wpIn_region (by
    have := region_in (m := m) (Q := fun e a' w' => ∃ env' h' μ', Q e env' h' ∧ Rel n B w0 μ' env' h' a' w') hF hT hnd (List.range ops.size) (l' := []) (os := ops.toList) (by
      apply List.ext_getElem?
      intro i
      simp only [List.getElem?_map, List.getElem?_range]
      rcases Nat.lt_or_ge i ops.size with q | q
      · rw [List.getElem?_range q]; simp [q]
      · rw [List.getElem?_eq_none (by simpa using q), Array.getElem?_toList, Array.getElem?_eq_none q]; rfl) k hW R fun env' h' μ' a' w' q r => ⟨env', h', μ', q, r⟩
    simpa using this)
end
def QOps (T : Tab) (n : Nat) (h : Store) : List Oper → Env → (Env → Prop) → Prop
  | [], env, Q => Q env
  | o :: r, env, Q => o.guard = none ∧ dstOk n o = true ∧ ∃ x, qop T (ev env) h o = some x ∧ QOps T n h r (env.put o.dst x) Q
theorem QOps.q {T : Tab} {n : Nat} {h : Store} {d : Tmp} {op : Op} {ty : TypeId} {pos : String} {af : Array Edge} {r : List Oper} {env : Env} {Q : Env → Prop} (x : AV) (k : QOps T n h r ((d, x) :: env) Q)
    (e : qop T (ev env) h ⟨some d, op, ty, pos, af, none⟩ = some x := by kernel_rfl) (hd : d < n := by exact Nat.le_of_ble_eq_true rfl) : QOps T n h (⟨some d, op, ty, pos, af, none⟩ :: r) env Q :=
  ⟨rfl, by simpa [dstOk] using hd, x, e, k⟩
theorem QOps.p {T : Tab} {n : Nat} {h : Store} {d : Tmp} {op : Op} {ty : TypeId} {pos : String} {af : Array Edge} {r : List Oper} {env : Env} {Q : Env → Prop} (x : AV)
    (e : qop T (ev env) h ⟨some d, op, ty, pos, af, none⟩ = some x) (k : QOps T n h r ((d, x) :: env) Q) (hd : d < n := by exact Nat.le_of_ble_eq_true rfl) : QOps T n h (⟨some d, op, ty, pos, af, none⟩ :: r) env Q :=
  ⟨rfl, by simpa [dstOk] using hd, x, e, k⟩
theorem QOps.done {T : Tab} {n : Nat} {h : Store} {env : Env} {Q : Env → Prop} (k : Q env) : QOps T n h [] env Q := k
theorem region_q {F : Fence} {m : Nat} {P : Program} {T : Tab} {n : Nat} {ops : Array Oper} {h : Store} (hF : Thru F) (hT : tabOk P T = true) {Q : Exit → Act → World → Prop} (hnd : ops.toList.all noDefer = true) :
    ∀ (l : List Nat) {l' : List Nat} {os : List Oper} {env : Env} {R : Env → Prop}, l.map (fun i => ops[i]?) = os.map some → QOps T n h os env R →
      ∀ {B : Base} {w0 : World} {μ : Mu} {a : Act} {w : World}, Rel n B w0 μ env h a w → (∀ env' a', R env' → Rel n B w0 μ env' h a' w → wpOpsIn F m P ops Q l' a' w) → wpOpsIn F m P ops Q (l ++ l') a w
  | [], l', os, env, R, hl, k, B, w0, μ, a, w, rel, hQ => by
    have : os = [] := by cases os <;> simp at hl; rfl
    subst this
    exact hQ env a k rel
  | i :: l, l', os, env, R, hl, k, B, w0, μ, a, w, rel, hQ => by
    cases os with
    | nil => simp at hl
    | cons o os =>
      simp only [List.map_cons, List.cons.injEq] at hl
      obtain ⟨ho, hl⟩ := hl
      have hdf : ∀ c, o.op ≠ .defer c := noDefer_ok (List.all_eq_true.1 hnd o (by
        obtain ⟨hi, e⟩ := Array.getElem?_eq_some_iff.1 ho
        rw [← e]; simp))
      obtain ⟨hg, hd, x, he, k⟩ := k
      simp only [List.cons_append, wpOpsIn, ho]
      rw [if_pos (by simp only [Region.wanted, hg])]
      have hdd : ∀ t, o.dst = some t → t < n := by
        intro t ht
        unfold dstOk at hd
        rw [ht] at hd
        simpa using hd
      obtain ⟨v, h1, h2⟩ := qop_quiet hT he w0 μ w a.eval rel.sim (fun x _ k y hy => ev_ok (fun t _ => rel.env t) hy)
      refine oper_in hF hdf ?_
      unfold Oper.wp
      rw [h1]
      exact region_q hF hT hnd l hl k (rel_put hT rel (Grow.refl rel.sim).step hdd h2) hQ
theorem region_qq {F : Fence} {m : Nat} {P : Program} {T : Tab} {n : Nat} {ops : Array Oper} {h : Store} {id : Nat} (hF : Thru F) (hT : tabOk P T = true) {Q : Exit → Act → World → Prop} (hnd : ops.toList.all noDefer = true) {env : Env} {R : Env → Prop}
    (k : QOps T n h ops.toList env R) {B : Base} {w0 : World} {μ : Mu} {a : Act} {w : World} (rel : Rel n B w0 μ env h a w) (hQ : ∀ env' a', R env' → Rel n B w0 μ env' h a' w → Q .normal a' w) : (Code.region id ops false).wpIn F m P Q a w :=
  wpIn_region (by
    have := region_q (m := m) (Q := Q) hF hT hnd (List.range ops.size) (l' := []) (os := ops.toList) (by
      apply List.ext_getElem?
      intro i
      simp only [List.getElem?_map, List.getElem?_range]
      rcases Nat.lt_or_ge i ops.size with q | q
      · rw [List.getElem?_range q]; simp [q]
      · rw [List.getElem?_eq_none (by simpa using q), Array.getElem?_toList, Array.getElem?_eq_none q]; rfl) k rel hQ
    simpa using this)
theorem rel_start {n : Nat} {W w : World} {Y : Nat → Prop} {env : Env} {a : Act} (hG : Glob W w) (hY : ∀ g, Y g → g < w.heap.size) (he : ∀ t, VR w (mu0 Y) (env.get t) (a.tmps.getD t undef)) (hs : a.tmps.size = n) (hd : a.defers = []) :
    Rel n ⟨W, w, mu0 Y, 0⟩ w (mu0 Y) env ⟨0, []⟩ a w where
  glob := hG
  snc := ⟨Ext.refl _ _, rfl, fun _ h => by simp at h, fun _ _ => rfl⟩
  low := Nat.zero_le _
  sim := {
    below := Below.refl _ _
    lt := by intro _ _ h; cases h
    inj := by intro _ _ _ _ h; cases h
    live := by intro _ _ _ h; cases h
    ylt := hY
    blk := by intro _ _ _ _ h; cases h }
  env := he
  sz := hs
  dfr := hd
  fresh := fun _ _ => rfl
def KpOf (n₀ : Nat) (w1 : World) (μ1 : Mu) (A B : World) : Prop := Below n₀ A B ∧ ∀ g, g < w1.heap.size → ¬ μ1.mut g → B.heap[g]? = A.heap[g]?
theorem KpOf.trans {n₀ : Nat} {w1 : World} {μ1 : Mu} {A B C : World} (h : KpOf n₀ w1 μ1 A B) (k : KpOf n₀ w1 μ1 B C) : KpOf n₀ w1 μ1 A C :=
  ⟨h.1.trans k.1, fun g hg hm => (k.2 g hg hm).trans (h.2 g hg hm)⟩
theorem KpOf.put {n₀ : Nat} {w1 : World} {μ1 : Mu} (hn : n₀ ≤ w1.heap.size) (W : World) (l : Nat) (o o' : Go.Obj) (hl : w1.heap.size ≤ l) (h : W.heap[l]? = some o) (h1 : o.isCells = false) (h2 : o.isWalk = false) : KpOf n₀ w1 μ1 W (W.putObj l o') :=
  ⟨belowK_b hn W l o o' hl h h1 h2, fun g hg _ => World.putObj_heap_other (by omega)⟩
def Yb (w1 : World) (μ1 : Mu) (W : World) : Nat → Prop := fun g => (μ1.mut g ∨ w1.heap.size ≤ g) ∧ g < W.heap.size
def SameAs (w1 : World) (μ1 : Mu) (W : World) : Prop := w1.heap.size ≤ W.heap.size ∧ ∀ g, g < w1.heap.size → ¬ μ1.mut g → W.heap[g]? = w1.heap[g]?
theorem SameAs.rd {w1 W : World} {μ1 : Mu} (h : SameAs w1 μ1 W) (a : Addr) (u : Value) (k : Rd w1 μ1 a u) : Rd W (mu0 (Yb w1 μ1 W)) a u := by
  obtain ⟨h1, h2, h3⟩ := k
  have hl := cell_lt h1
  refine ⟨by rw [cell_of_blk (h.2 _ hl h2)]; exact h1, ?_, h3⟩
  rintro (⟨q | q, _⟩ | ⟨_, _, q, _⟩)
  · exact h2 q
  · omega
  · cases q
theorem SameAs.step {w1 W W' : World} {μ1 : Mu} (h : SameAs w1 μ1 W) {n₀ : Nat} (k : KpOf n₀ w1 μ1 W W') : SameAs w1 μ1 W' :=
  ⟨Nat.le_trans h.1 k.1.size, fun g hg hm => (k.2 g hg hm).trans (h.2 g hg hm)⟩
theorem SameAs.below {w1 W : World} {μ1 : Mu} (h : Below w1.heap.size w1 W) : SameAs w1 μ1 W := ⟨h.size, fun g hg _ => h.block g hg⟩
theorem rd_later {w1 W W' : World} {μ1 : Mu} {n₀ : Nat} (k : KpOf n₀ w1 μ1 W W') (a : Addr) (u : Value) (h : Rd W (mu0 (Yb w1 μ1 W)) a u) : Rd W' (mu0 (Yb w1 μ1 W')) a u := by
  obtain ⟨h1, h2, h3⟩ := h
  have hl := cell_lt h1
  have hg : a.block < w1.heap.size ∧ ¬ μ1.mut a.block := by
    refine ⟨?_, fun q => h2 (Or.inl ⟨Or.inl q, hl⟩)⟩
    rcases Nat.lt_or_ge a.block w1.heap.size with q | q
    · exact q
    · exact absurd (Or.inl ⟨Or.inr q, hl⟩) h2
  refine ⟨by rw [cell_of_blk (k.2 _ hg.1 hg.2)]; exact h1, ?_, h3⟩
  rintro (⟨q | q, _⟩ | ⟨_, _, q, _⟩)
  · exact hg.2 q
  · omega
  · cases q
theorem closed_get : ∀ {env : Env}, (env.all fun p => closed p.2) = true → ∀ t, closed (env.get t) = true
  | [], _, t => rfl
  | (q, x) :: r, h, t => by
    simp only [List.all_cons, Bool.and_eq_true] at h
    have ih := closed_get (env := r) h.2 t
    unfold Env.get at ih ⊢
    rw [look_cons]
    split
    · exact h.1
    · exact ih
theorem env_later {n : Nat} {w1 W W' : World} {μ1 : Mu} {n₀ : Nat} {B : Base} {w0 : World} {h : Store} {env : Env} {a : Act} (k : KpOf n₀ w1 μ1 W W') (R : Rel n B w0 (mu0 (Yb w1 μ1 W)) env h a W) (hc : (env.all fun p => closed p.2) = true) (t : Nat) :
    VR W' (mu0 (Yb w1 μ1 W')) (env.get t) (a.tmps.getD t undef) :=
  VR_of_CR _ _ (CR_mono0 (rd_later k) _ _ (CR_of_closed _ _ (closed_get hc t) (R.env t)))
def EnvSub (env : Env) : Env → Prop
  | [] => True
  | (t, x) :: r => env.get t = x ∧ EnvSub env r
theorem EnvSub.vr {w : World} {μ : Mu} {env : Env} {f : Nat → Value} (k : ∀ t, VR w μ (env.get t) (f t)) : ∀ {env' : Env}, EnvSub env env' → ∀ t, VR w μ (env'.get t) (f t)
  | [], _, t => by show VR w μ .und _; simp only [VR]
  | (q, x) :: r, h, t => by
    have ih := EnvSub.vr k (env' := r) h.2 t
    unfold Env.get at ih ⊢
    rw [look_cons]
    split
    · rename_i e; rw [e]; have := k q; rw [h.1] at this; exact this
    · exact ih
theorem Rel.sub {n : Nat} {B : Base} {w0 w : World} {μ : Mu} {env env' : Env} {h : Store} {a : Act} (R : Rel n B w0 μ env h a w) (k : EnvSub env env') : Rel n B w0 μ env' h a w :=
  ⟨R.glob, R.snc, R.low, R.sim, EnvSub.vr R.env k, R.sz, R.dfr, R.fresh⟩
theorem wpOpsIn_cons {F : Fence} {m : Nat} {P : Program} {ops : Array Oper} {Q : Exit → Act → World → Prop} {i : Nat} {rest : List Nat} {o : Oper} {a : Act} {w : World} (ho : ops[i]? = some o) (hg : o.guard = none)
    (k : o.wpIn F m P a w (wpOpsIn F m P ops Q rest) Q) : wpOpsIn F m P ops Q (i :: rest) a w := by
  simp only [wpOpsIn, ho]
  rw [if_pos (by simp only [Region.wanted, hg])]
  exact k
theorem wpIn_yield {F : Fence} {m : Nat} {P : Program} {o : Oper} {a : Act} {w : World} {K : Act → World → Prop} {Q : Exit → Act → World → Prop} {l f : Nat} {tm : Array Value} {asg bd : Code} {R : Ending → World → Prop} (hF : Thru F) (hd : noDefer o = true)
    (hrun : (execOp a.eval o).run P w = .ok (.round l f tm asg bd) w) (k : RoundIn F (m - 1) P l f tm asg bd w R) (hK : ∀ e w', R e w' → ∃ v, e = .returned v ∧ K (a.put o.dst v) w') : o.wpIn F m P a w K Q :=
  ⟨fun f _ => hF.fn f, by
    rw [Oper.semAt_eq _ _ _ (noDefer_ok hd), hrun]
    exact ⟨hF.depth _, k.mono fun e w' r => by obtain ⟨v, rfl, q⟩ := hK e w' r; exact q⟩⟩
def GoodR (out : ByteArray) (v : Value) : Prop := ∃ t y, v = .agg #[.string out, .int .i64 t, y] ∧ out.size ≤ LIM ∧ ((∃ s, y = .string s) ∨ ∃ p n c, y = .slice p n c)
def back (n j : Nat) : List Nat := (List.range j).map (fun i => n - 1 - i)
theorem back_succ (n j : Nat) : back n (j + 1) = back n j ++ [n - 1 - j] := by simp [back, List.range_succ]
end
end Go.Lift
namespace Go.Lift
noncomputable section
open Go Go.RowKit
set_option linter.unusedSimpArgs false
set_option linter.unusedVariables false
set_option linter.unusedSectionVars false
def plainH (h : Store) : Prop := ∀ id o, h.get id = some o → o.els.all plainO = true
theorem Sim.keep {w0 W W' : World} {μ : Mu} {h : Store} (s : Sim w0 μ W h) (hp : plainH h) (hb : Below w0.heap.size W W') (hk : ∀ id sl, μ id = some (some sl) → W'.heap[sl.g]? = W.heap[sl.g]?) : Sim w0 μ W' h where
  below := s.below.trans hb
  lt := fun id sl e => ⟨(s.lt id sl e).1, Nat.lt_of_lt_of_le (s.lt id sl e).2 hb.size⟩
  inj := s.inj
  live := s.live
  ylt := s.ylt
  blk := fun id o sl ho e => by
    have B := s.blk id o sl ho e
    obtain ⟨cs, h1, h2, h3⟩ := B.blk
    refine ⟨B.k, B.pos, B.len, B.cap, cs, by rw [hk id sl e]; exact h1, h2, fun j x hx => ?_⟩
    obtain ⟨q1, q2⟩ := h3 j x hx
    refine ⟨q1, fun i y hy => ?_⟩
    obtain ⟨u, u1, u2, u3⟩ := q2 i y hy
    exact ⟨u, u1, plain1_vr (plainO_cells (List.all_eq_true.1 (hp id o ho) x (List.mem_of_getElem? hx)) hy) u2, u3⟩
theorem Sim.grown {w0 W W' : World} {μ : Mu} {h : Store} {row : Option Nat} (s : Sim w0 μ W h) (hp : plainH h) (hlive : ∀ id sl, μ id = some (some sl) → ∃ o, h.get id = some o) (hg : W.grownBy W' row)
    (hr : ∀ r, row = some r → w0.heap.size ≤ r ∧ ∃ o : Go.Obj, W.heap[r]? = some o ∧ o.isCells = false) : Sim w0 μ W' h :=
  s.keep hp ((Below.refl _ W).grown hg s.below.size (fun k e => (hr k e).1)) fun id sl e => hg.block _ (s.lt id sl e).2 (fun q => by
    obtain ⟨o, ho⟩ := hlive id sl e
    obtain ⟨cs, h1, _⟩ := (s.blk id o sl ho e).blk
    obtain ⟨_, o', h2, h3⟩ := hr _ q.symm
    rw [h1] at h2; cases h2; cases h3)
theorem SameAs.grown {w1 W W' : World} {μ1 : Mu} {row : Option Nat} (S : SameAs w1 μ1 W) (hg : W.grownBy W' row) (hr : ∀ r, row = some r → w1.heap.size ≤ r) : SameAs w1 μ1 W' :=
  ⟨Nat.le_trans S.1 hg.size, fun g hl hm => (hg.block g (Nat.lt_of_lt_of_le hl S.1) (fun q => by have := hr g q.symm; omega)).trans (S.2 g hl hm)⟩
theorem size_later {w0 W W3 : World} {μ μ3 : Mu} {h h3 : Store} (e : Ext W μ W3 μ3) (s : Sim w0 μ W h) (s3 : Sim w0 μ3 W3 h3) (hlive : ∀ id sl, μ id = some (some sl) → μ3 id = some (some sl)) : W.heap.size ≤ W3.heap.size := by
  rcases Nat.lt_or_ge W3.heap.size W.heap.size with q | q
  · exfalso
    by_cases hm : μ.mut W3.heap.size
    · rcases hm with y | ⟨id, sl, e1, e2⟩
      · have := s.ylt _ y; have := s3.below.size; omega
      · have := (s3.lt id sl (hlive id sl e1)).2; omega
    · have := e.bl _ q hm
      rw [Array.getElem?_eq_none (Nat.le_refl _), Array.getElem?_eq_getElem q] at this; cases this
  · exact q
theorem mu_eq {n : Nat} {V W2 w0 W3 : World} {μ1 μ3 : Mu} {env : Env} {h3 : Store} {a : Act} (R : Rel n ⟨V, W2, μ1, 2⟩ w0 μ3 env h3 a W3) (hn : h3.next = 2) (hl : ∀ id, id < 2 → ∃ o, h3.get id = some o) : μ3 = μ1 := by
  have hf : μ3.f = μ1.f := by
    funext id
    rcases Nat.lt_or_ge id 2 with q | q
    · cases e : μ1 id with
      | none => exact R.snc.dom id q e
      | some s =>
        rcases R.snc.ext.mu id s e with k | k
        · exact k
        · obtain ⟨o, ho⟩ := hl id q
          exact absurd k (R.sim.live id o ho)
    · exact (R.fresh id (by rw [hn]; exact q)).trans (R.snc.top id q).symm
  have hy : μ3.Y = μ1.Y := R.snc.y
  cases μ3; cases μ1; simp only at hf hy; rw [hf, hy]
theorem store_in {F : Fence} {m : Nat} {P : Program} {T : Tab} (hF : Thru F) (hT : tabOk P T = true) {o : Oper} {env : Env} {h h' : Store} {x : AV} (e : eop T (ev env) h o = some (x, h')) (hnd : noDefer o = true) (hd : o.dst = none)
    {w0 W : World} {μ : Mu} {a : Act} (s : Sim w0 μ W h) (hf : ∀ id, h.next ≤ id → μ id = none) (henv : ∀ t, VR W μ (env.get t) (a.tmps.getD t undef)) {K : Act → World → Prop} {Q : Exit → Act → World → Prop}
    (hK : ∀ w' μ', Step w0 μ W h μ' w' h' → K a w') : o.wpIn F m P a W K Q := by
  refine oper_in hF (noDefer_ok hnd) ?_
  obtain ⟨v, w', μ', h1, h2, h3⟩ := eop_ok hT e w0 μ W a.eval s hf (fun x _ k y hy => ev_ok (fun t _ => henv t) hy)
  unfold Oper.wp
  rcases h1 with h1 | ⟨h1, rfl⟩
  · rw [h1]; show K (a.put o.dst v) w'; rw [hd]; exact hK _ _ h3
  · rw [h1]; show K (a.put o.dst undef) w'; rw [hd]; exact hK _ _ h3
theorem leave_in {F : Fence} {n m : Nat} {P : Program} {T : Tab} (hT : tabOk P T = true) {fn : Func} {w0 W3 : World} {μ1 : Mu} {h3 : Store} {D : Nat} {tmps : Array Value} {R : Ending → World → Prop} {env : Env} {x : AV}
    (hK : W3.heap[D]? = some (.deferred (some []))) (hs : Sim w0 μ1 W3 h3) (hp : plainH h3) (hlive : ∀ id sl, μ1 id = some (some sl) → ∃ o, h3.get id = some o) (hf : ∀ id, h3.next ≤ id → μ1 id = none) (hD : w0.heap.size ≤ D)
    (henv : ∀ W t, VR W μ1 (env.get t) (tmps.getD t undef)) (hsz : tmps.size = m) (hres : resRun T env h3 fn.results.toList = some x) (hR : ∀ v W4, VR W4 μ1 x v → Below w0.heap.size w0 W4 → R (.returned v) W4) :
    LeavesInM F n P fn tmps R [{ target := .collected D, args := #[] }] .returning W3 := by
  refine ⟨by simp, .inl ⟨D, _, rfl, run_takeDeferred hK, ?_⟩⟩
  have hs4 : Sim w0 μ1 (W3.putObj D (.deferred none)) h3 := hs.grown hp hlive (grownBy_putObj' _ _ _) (fun r e => by cases e; exact ⟨hD, _, hK, rfl⟩)
  have R4 : Rel m ⟨w0, W3.putObj D (.deferred none), μ1, h3.next⟩ w0 μ1 env h3 { tmps := tmps, defers := [] } (W3.putObj D (.deferred none)) :=
    ⟨Glob.refl _, ⟨Ext.refl _ _, rfl, fun _ _ h => h, hf⟩, Nat.le_refl _, hs4, henv _, hsz, rfl, hf⟩
  obtain ⟨v, e1, e2⟩ := resRun_ok hT R4 hres
  exact ⟨v, e1, hR v _ e2 hs4.below⟩
def two (a b : Obj) : Store := ⟨2, [(1, some b), (0, some a)]⟩
theorem two_live (a b : Obj) : ∀ id, id < 2 → ∃ o, (two a b).get id = some o
  | 0, _ => ⟨a, rfl⟩
  | 1, _ => ⟨b, rfl⟩
theorem two_get {a b o : Obj} {id : Nat} (h : (two a b).get id = some o) : o = a ∨ o = b := by
  have := Store.get_lt h
  match id, this with
  | 0, _ => exact Or.inl (by cases h; rfl)
  | 1, _ => exact Or.inr (by cases h; rfl)
theorem two_plain {a b : Obj} (ha : a.els.all plainO = true) (hb : b.els.all plainO = true) : plainH (two a b) := fun id o h => by
  rcases two_get h with rfl | rfl <;> assumption
theorem two_own {a b : Obj} {μ : Mu} (hf : ∀ id, 2 ≤ id → μ id = none) : ∀ id sl, μ id = some (some sl) → ∃ o, (two a b).get id = some o := fun id sl e => by
  rcases Nat.lt_or_ge id 2 with q | q
  · exact two_live a b id q
  · rw [hf id q] at e; cases e
theorem read_new {w0 W : World} {μ : Mu} {h : Store} (s : Sim w0 μ W h) {id : Nat} {e k : Nat} {fs : List AV} {v : Value} (ho : h.get id = some ⟨e, k, [.st fs]⟩) (hv : VR W μ (.loc id 0 0) v) (out : ByteArray) (r : List AV) (hfs : fs = .s out :: r) (hr : r.length = 2) :
    ∃ p, v = .pointer (some p) ∧ w0.heap.size ≤ p.block ∧ CRcells W (mu0 fun _ => False) [.s out, .und, .und] p := by
  simp only [VR] at hv
  cases e1 : μ id with
  | none => rw [e1] at hv; exact hv.elim
  | some x =>
    cases x with
    | none => exact absurd e1 (s.live id _ ho)
    | some sl =>
      rw [e1] at hv
      simp only at hv
      have B := s.blk id _ sl ho e1
      obtain ⟨cs, h1, h2, h3⟩ := B.blk
      obtain ⟨q1, q2⟩ := h3 0 (.st fs) rfl
      refine ⟨_, hv, (s.lt id sl e1).1, ?_⟩
      have cell : ∀ i y, fs[i]? = some y → ∃ u, Rd W (mu0 fun _ => False) (Addr.add ⟨sl.g, 0 * sl.k + 0, none⟩ i) u ∧ VR W μ y u := by
        intro i y hy
        obtain ⟨u, u1, u2, u3⟩ := q2 i y hy
        refine ⟨u, ⟨?_, ?_, u3⟩, u2⟩
        · rw [add_plain]
          simp only [World.cell?, h1]
          simpa using u1
        · rintro (q | ⟨_, _, q, _⟩)
          · exact q
          · cases q
      subst hfs
      match r, hr with
      | [y1, y2], _ =>
        obtain ⟨u0, c0, d0⟩ := cell 0 (.s out) rfl
        obtain ⟨u1, c1, _⟩ := cell 1 y1 rfl
        obtain ⟨u2, c2, _⟩ := cell 2 y2 rfl
        simp only [VR] at d0
        simp only [CRcells]
        refine ⟨⟨u0, by simpa [Addr.add] using c0, d0⟩, ⟨u1, c1, by simp only [CR]⟩, ⟨u2, by rw [add_add]; exact c2, by simp only [CR]⟩, trivial⟩
end
end Go.Lift
