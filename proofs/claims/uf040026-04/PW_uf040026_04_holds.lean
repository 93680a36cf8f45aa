import PyProof.Rows.All
import PyProof.CompFree
import PyProof.Cells
import PyProof.DictWalks
import PyProof.WalksMore
import PyProof.RangeFor
import PyProof.Rules3
import PyProof.AutoIntOps
import PyProof.PureInt
import PyProof.NoPylong
import PyProof.ListOps
import PyProof.ListIndex
import PyProof.ListMulRoad
import PyProof.LetGo
import PyProof.SliceList
import PyProof.SliceMore
import PyProof.TupleOps
import PyProof.DictStraight
import PyProof.RulesRaise
import PyProof.CallType
import PyProof.ConsumeWalk
import PyProof.SumWalk
import PyProof.ListCopy
import PyProof.ListRange
import PyProof.IsiPairs
import PyProof.IsiHeapPairs
import PyProof.WalkInts
import PyProof.DictTruth
import PyProof.Rows.RuleN_abs
import PyProof.Conv_int_bool
import PyProof.NeKinds
import PyProof.EqKinds
import KE.KEqDict
import KE.KDictList
import PyProof.ForAppend
import OpenK.KLine
import OpenK.KLaw
import PyProof.Dict
import PyProof.DictRoads
import PyProof.EqAt
import PyProof.DictValues
import PyProof.FactsAll.dict_0
import PyProof.FactsAll.dict_4
import PyProof.Rows.SortShell
import PyProof.Rows.SortWalk
import PyProof.Rows.DictMade
import KE.KDictOf
import KE.KDictSum
import Wide.Txt2
import PyProof.AttrMissHeap
import Wide.BridgeG
import Wide.Well
import Wide.OfPy
import PySem.Challenge.RW_uf040026_04
set_option Elab.async false
set_option tactic.hygienic false
set_option linter.unusedVariables false
set_option linter.unusedSimpArgs false
section
set_option maxRecDepth 10000
namespace Inn
theorem exL_e {α : Sort _} {p : α → Prop} {a' : α} : (∃ a, a' = a ∧ p a) = p a' := propext exists_eq_left'
theorem nzl_e {n : Nat} : (0 ≤ n) = True := eq_true (Nat.zero_le n)
open PySem
inductive AV where
  | none
  | bool (b : Bool)
  | int (i : Int)
  | tup (vs : List AV)
  | rng (lo hi : Int)
  | vals (i : Nat)
  | ref (i : Nat)
inductive AO where
  | list (vs : List AV)
  | dict (kvs : List (Int × AV))
abbrev Store := List AO
abbrev AEnv := Str → Option AV
noncomputable def upd (ρ : AEnv) (x : Str) (v : AV) : AEnv := fun y => if y = x then some v else ρ y
noncomputable def HK (h h' : Heap) : Prop := ∀ b o, h.get? b = some o → h'.get? b = some o
theorem HK.refl (h : Heap) : HK h h := fun _ _ e => e
theorem HK.trans {a b c : Heap} (x : HK a b) (y : HK b c) : HK a c := fun p o e => y p o (x p o e)
theorem HK.push (h : Heap) (o : Obj) : HK h (h.push o) := fun _ _ e => Heap.get?_push_of_some o e
abbrev tupObj (items : List Value) : Obj := { cls := .type "tuple", data := .seq items.toArray }
mutual
inductive VR (h : Heap) (α : Nat → Addr) (n : Nat) : AV → Value → Prop
  | none : VR h α n .none .none
  | bool (b : Bool) : VR h α n (.bool b) (.bool b)
  | int (i : Int) (t : Tok) : VR h α n (.int i) (.int i t)
  | tup {vs : List AV} {a : Addr} {items : List Value} : h.get? a = some (tupObj items) → VRs h α n vs items → VR h α n (.tup vs) (.ref a)
  | rng {lo hi : Int} {a : Addr} {t u v : Tok} : IsRange h a lo hi 1 t u v → VR h α n (.rng lo hi) (.ref a)
  | vals {i : Nat} {a : Addr} : i < n → h.IsValuesView a (α i) → VR h α n (.vals i) (.ref a)
  | ref {i : Nat} : i < n → VR h α n (.ref i) (.ref (α i))
inductive VRs (h : Heap) (α : Nat → Addr) (n : Nat) : List AV → List Value → Prop
  | nil : VRs h α n [] []
  | cons {v : AV} {x : Value} {vs : List AV} {xs : List Value} : VR h α n v x → VRs h α n vs xs → VRs h α n (v :: vs) (x :: xs)
end
noncomputable def Fixed (o : Obj) : Prop := (∃ vs, o.data = .fields vs) ∨ (o.cls = .type "tuple" ∧ ∃ xs n, o.data = .seq xs n)
noncomputable def Vis (o : Obj) : Prop := (o.cls = .type "tuple" ∧ ∃ xs n, o.data = .seq xs n) ∨ ((o.cls = .type "range" ∨ o.cls = .type "dict_values") ∧ ∃ vs, o.data = .fields vs)
theorem Vis.fixed {o : Obj} (h : Vis o) : Fixed o := h.elim .inr (fun h => .inl h.2)
noncomputable def FK (h h' : Heap) : Prop := ∀ b o, h.get? b = some o → Fixed o → h'.get? b = some o
theorem FK.refl (h : Heap) : FK h h := fun _ _ e _ => e
theorem FK.trans {a b c : Heap} (x : FK a b) (y : FK b c) : FK a c := fun p o e f => y p o (x p o e f) f
theorem HK.fk {h h' : Heap} (x : HK h h') : FK h h' := fun b o e _ => x b o e
noncomputable def VK (h h' : Heap) : Prop := ∀ b o, h.get? b = some o → Vis o → h'.get? b = some o
theorem VK.refl (h : Heap) : VK h h := fun _ _ e _ => e
theorem VK.trans {a b c : Heap} (x : VK a b) (y : VK b c) : VK a c := fun p o e f => y p o (x p o e f) f
theorem FK.vk {h h' : Heap} (x : FK h h') : VK h h' := fun b o e v => x b o e v.fixed
theorem HK.vk {h h' : Heap} (x : HK h h') : VK h h' := x.fk.vk
structure Up (h : Heap) (α : Nat → Addr) (n : Nat) (h' : Heap) (α' : Nat → Addr) (n' : Nat) : Prop where
  le : n ≤ n'
  agree : ∀ i, i < n → α' i = α i
  vk : VK h h'
theorem Up.refl (h : Heap) (α : Nat → Addr) (n : Nat) : Up h α n h α n := ⟨Nat.le_refl _, fun _ _ => rfl, VK.refl _⟩
theorem Up.trans {h h' h'' α α' α'' n n' n''} (x : Up h α n h' α' n') (y : Up h' α' n' h'' α'' n'') : Up h α n h'' α'' n'' :=
  ⟨Nat.le_trans x.le y.le, fun i hi => (y.agree i (Nat.lt_of_lt_of_le hi x.le)).trans (x.agree i hi), x.vk.trans y.vk⟩
theorem Up.view {h h' α α' n n'} (u : Up h α n h' α' n') {i : Nat} {a : Addr} (hi : i < n) (e : h.IsValuesView a (α i)) : h'.IsValuesView a (α' i) := by
  rw [u.agree _ hi]
  exact e.elim fun o e => ⟨o, u.vk _ _ e.1 (.inr ⟨.inr e.2.1, _, e.2.2⟩), e.2⟩
theorem VRs.nil_inv {h α n xs} (r : VRs h α n [] xs) : xs = [] := by cases r; rfl
theorem VRs.cons_inv {h α n v vs xs} (r : VRs h α n (v :: vs) xs) : ∃ x ys, xs = x :: ys ∧ VR h α n v x ∧ VRs h α n vs ys := by cases r with | cons a r => exact ⟨_, _, rfl, a, r⟩
theorem VR.up {h h' α α' n n'} (u : Up h α n h' α' n') {v : AV} {x : Value} (r : VR h α n v x) : VR h' α' n' v x :=
  VR.rec (motive_1 := fun v x _ => VR h' α' n' v x) (motive_2 := fun vs xs _ => VRs h' α' n' vs xs) .none .bool .int (fun e _ r => .tup (u.vk _ _ e (.inl ⟨rfl, _, _, rfl⟩)) r)
    (fun e => .rng (u.vk _ _ e (.inr ⟨.inl rfl, _, rfl⟩))) (fun hi e => .vals (Nat.lt_of_lt_of_le hi u.le) (u.view hi e)) (fun hi => u.agree _ hi ▸ .ref (Nat.lt_of_lt_of_le hi u.le)) .nil (fun _ _ a b => .cons a b) r
theorem VRs.up {h h' α α' n n'} (u : Up h α n h' α' n') {vs : List AV} {xs : List Value} (r : VRs h α n vs xs) : VRs h' α' n' vs xs := by
  induction vs generalizing xs with
  | nil => cases r.nil_inv; exact .nil
  | cons v vs ih => obtain ⟨x, ys, rfl, a, r⟩ := r.cons_inv; exact .cons (a.up u) (ih r)
theorem VRs.length {h α n} {vs : List AV} {xs : List Value} (r : VRs h α n vs xs) : vs.length = xs.length := by
  induction vs generalizing xs with
  | nil => cases r.nil_inv; rfl
  | cons v vs ih => obtain ⟨x, ys, rfl, a, r⟩ := r.cons_inv; exact congrArg Nat.succ (ih r)
theorem VRs.get {h α n} {vs : List AV} {xs : List Value} (r : VRs h α n vs xs) (i : Nat) (v) (e : vs[i]? = some v) : ∃ x, xs[i]? = some x ∧ VR h α n v x := by
  induction vs generalizing xs i with
  | nil => cases e
  | cons u vs ih =>
    obtain ⟨x, ys, rfl, a, r⟩ := r.cons_inv
    cases i with
    | zero => cases e; exact ⟨_, rfl, a⟩
    | succ i => exact ih r i e
theorem VRs.append {h α n} {vs : List AV} {xs : List Value} {ws ys} (r : VRs h α n vs xs) (q : VRs h α n ws ys) : VRs h α n (vs ++ ws) (xs ++ ys) := by
  induction vs generalizing xs with
  | nil => cases r.nil_inv; exact q
  | cons v vs ih => obtain ⟨x, ys, rfl, a, r⟩ := r.cons_inv; exact .cons a (ih r)
theorem VRs.take {h α n} {vs : List AV} {xs : List Value} (k : Nat) (r : VRs h α n vs xs) : VRs h α n (vs.take k) (xs.take k) := by
  induction vs generalizing xs k with
  | nil => cases r.nil_inv; rw [List.take_nil, List.take_nil]; exact .nil
  | cons v vs ih =>
    obtain ⟨x, ys, rfl, a, r⟩ := r.cons_inv
    cases k with
    | zero => exact .nil
    | succ k => exact .cons a (ih k r)
inductive KR (h : Heap) (α : Nat → Addr) (n : Nat) : List (Int × AV) → List (Int × Value) → Prop
  | nil : KR h α n [] []
  | cons {k : Int} {v : AV} {x : Value} {vs xs} : VR h α n v x → KR h α n vs xs → KR h α n ((k, v) :: vs) ((k, x) :: xs)
theorem KR.up {h h' α α' n n'} (u : Up h α n h' α' n') {vs xs} (r : KR h α n vs xs) : KR h' α' n' vs xs := by
  induction r with
  | nil => exact .nil
  | cons a _ ih => exact .cons (a.up u) ih
variable (prog : Program) (w : World)
inductive OR (h : Heap) (α : Nat → Addr) (n : Nat) : AO → Addr → Prop
  | list {vs : List AV} {a : Addr} {items : List Value} {ep : Nat} : h.get? a = some { cls := .type "list", data := .seq items.toArray ep } → VRs h α n vs items → items.length ≤ 1000000 → OR h α n (.list vs) a
  | dict {kvs : List (Int × AV)} {a : Addr} {xs : List (Int × Value)} : h.DictOf (intKind prog w) a xs → KR h α n kvs xs → a ≠ sysModules → xs.length ≤ 1000000 → OR h α n (.dict kvs) a
variable {prog w}
theorem OR.up {h h' α α' n n'} (u : Up h α n h' α' n') {o : AO} {a : Addr} (k : ∀ ob, h.get? a = some ob → h'.get? a = some ob) (r : OR prog w h α n o a) : OR prog w h' α' n' o a := by
  cases r with
  | list e r hl => exact .list (k _ e) (r.up u) hl
  | dict e r ha hl =>
    refine .dict ?_ (r.up u) ha hl
    obtain ⟨ob, es, ep, ho, r⟩ := e
    exact ⟨ob, es, ep, k _ ho, r⟩
theorem fx_seq {ob : Obj} {xs n} (hd : ob.data = .seq xs n) (hc : ob.cls = .type "list") : ¬ Fixed ob ∧ (∀ v, ob.data ≠ .cell v) :=
  ⟨fun f => f.elim (fun ⟨_, e⟩ => by rw [hd] at e; injection e) (fun ⟨e, _⟩ => by rw [hc] at e; injection e with e; exact absurd e (by decide)), fun _ e => by rw [hd] at e; injection e⟩
theorem OR.some {h α n} {o : AO} {a : Addr} (r : OR prog w h α n o a) : ∃ ob, h.get? a = some ob ∧ ¬ Fixed ob ∧ (∀ v, ob.data ≠ .cell v) := by
  cases r with
  | list e r => exact ⟨_, e, fx_seq rfl rfl⟩
  | dict e r =>
    obtain ⟨ob, es, ep, ho, hx, hd, _⟩ := e
    refine ⟨ob, ho, fun f => ?_, fun _ e => by rw [hd] at e; injection e⟩
    rcases f with ⟨_, f⟩ | ⟨_, _, _, f⟩ <;> (rw [hd] at f; injection f)
structure Grow (prog : Program) (w : World) (h : Heap) (α : Nat → Addr) (σ : Store) (h' : Heap) (α' : Nat → Addr) (σ' : Store) : Prop where
  keep : HK h h'
  pre : ∃ τ, σ' = σ ++ τ
  agree : ∀ i, i < σ.length → α' i = α i
  objs : ∀ i o, σ.length ≤ i → σ'[i]? = some o → OR prog w h' α' σ'.length o (α' i)
  fresh : ∀ i, σ.length ≤ i → i < σ'.length → h.get? (α' i) = none
  inj : ∀ i j, σ.length ≤ i → i < σ'.length → σ.length ≤ j → j < σ'.length → α' i = α' j → i = j
theorem Grow.len {h α σ h' α' σ'} (g : Grow prog w h α σ h' α' σ') : σ.length ≤ σ'.length := by
  obtain ⟨τ, rfl⟩ := g.pre; simp
theorem Grow.up {h α σ h' α' σ'} (g : Grow prog w h α σ h' α' σ') : Up h α σ.length h' α' σ'.length := ⟨g.len, g.agree, g.keep.vk⟩
theorem Grow.refl (h : Heap) (α : Nat → Addr) (σ : Store) : Grow prog w h α σ h α σ :=
  ⟨HK.refl _, ⟨[], by simp⟩, fun _ _ => rfl, fun i o hi e => (by rw [List.getElem?_eq_none hi] at e; cases e), fun i hi hj => absurd hi (by omega), fun i j hi hj => absurd hi (by omega)⟩
theorem Grow.same {h h' : Heap} (k : HK h h') (α : Nat → Addr) (σ : Store) : Grow prog w h α σ h' α σ :=
  ⟨k, ⟨[], by simp⟩, fun _ _ => rfl, fun i o hi e => (by rw [List.getElem?_eq_none hi] at e; cases e), fun i hi hj => absurd hi (by omega), fun i j hi hj => absurd hi (by omega)⟩
theorem Grow.trans {h α σ h' α' σ' h'' α'' σ''} (x : Grow prog w h α σ h' α' σ') (y : Grow prog w h' α' σ' h'' α'' σ'') : Grow prog w h α σ h'' α'' σ'' := by
  have lx := x.len
  have ly := y.len
  have live : ∀ i, σ.length ≤ i → i < σ'.length → ∃ ob, h'.get? (α' i) = some ob := fun i h1 h2 => by
    obtain ⟨ob, ho, _⟩ := (x.objs i σ'[i] h1 (by simp [h2])).some
    exact ⟨ob, ho⟩
  refine ⟨x.keep.trans y.keep, ?_, fun i hi => (y.agree i (Nat.lt_of_lt_of_le hi lx)).trans (x.agree i hi), fun i o hi e => ?_, fun i hi hj => ?_, fun i j hi hi' hj hj' e => ?_⟩
  · obtain ⟨τ, rfl⟩ := x.pre; obtain ⟨τ', rfl⟩ := y.pre; exact ⟨τ ++ τ', by simp⟩
  · by_cases hlt : i < σ'.length
    · have e' : σ'[i]? = some o := by
        obtain ⟨τ', rfl⟩ := y.pre
        rwa [List.getElem?_append_left hlt] at e
      rw [y.agree i hlt]
      exact (x.objs i o hi e').up y.up (fun ob ho => y.keep _ _ ho)
    · exact y.objs i o (by omega) e
  · by_cases hlt : i < σ'.length
    · rw [y.agree i hlt]; exact x.fresh i hi hlt
    · have := y.fresh i (by omega) hj
      cases q : h.get? (α'' i) with
      | none => rfl
      | some ob => rw [x.keep _ _ q] at this; cases this
  · by_cases h1 : i < σ'.length <;> by_cases h2 : j < σ'.length
    · rw [y.agree i h1, y.agree j h2] at e; exact x.inj i j hi h1 hj h2 e
    · obtain ⟨ob, ho⟩ := live i hi h1
      rw [y.agree i h1] at e
      have := y.fresh j (by omega) hj'
      rw [← e, ho] at this; cases this
    · obtain ⟨ob, ho⟩ := live j hj h2
      rw [y.agree j h2] at e
      have := y.fresh i (by omega) hi'
      rw [e, ho] at this; cases this
    · exact y.inj i j (by omega) hi' (by omega) hj' e
theorem Grow.one {h h' : Heap} {α : Nat → Addr} {σ : Store} {o : AO} {a : Addr} (k : HK h h') (hn : h.get? a = none)
    (r : OR prog w h' (fun i => if i = σ.length then a else α i) (σ.length + 1) o a) : Grow prog w h α σ h' (fun i => if i = σ.length then a else α i) (σ ++ [o]) := by
  refine ⟨k, ⟨[o], rfl⟩, fun i hi => by simp [Nat.ne_of_lt hi], fun i o' hi e => ?_, fun i hi hj => ?_, fun i j hi hi' hj hj' e => ?_⟩
  · simp only [List.length_append, List.length_cons, List.length_nil, Nat.zero_add]
    have hlt : i < (σ ++ [o]).length := (List.getElem?_eq_some_iff.mp e).1
    simp at hlt
    have : i = σ.length := by omega
    subst this
    simp at e; subst e
    simpa using r
  · simp at hj
    have : i = σ.length := by omega
    subst this; simpa using hn
  · simp at hi' hj'
    omega
theorem Grow.forget {h α σ h' α' σ'} (x : Grow prog w h α σ h' α' σ') : Grow prog w h α σ h' α σ := Grow.same x.keep α σ
structure Cx where
  A : Around
  env : Env
  h₀ : Heap
  n₀ : Nat
structure R (prog : Program) (w : World) (c : Cx) (α : Nat → Addr) (ρ : AEnv) (σ : Store) (h : Heap) : Prop where
  keep : HK c.h₀ h
  env : ∃ (m cm : Str → Option Value), h.Ns c.env.locals m ∧ (∀ x a, c.env.cells.lookup x = some a → h.IsCell a (cm x)) ∧
    (∀ x v, ρ x = some v → c.env.kindOf x = some .local → ∃ y, m x = some y ∧ VR h α σ.length v y) ∧
    (∀ x v, ρ x = some v → (c.env.kindOf x = some .cell ∨ c.env.kindOf x = some .free) → ∃ y, cm x = some y ∧ VR h α σ.length v y)
  dot : ρ ".0" = none
  objs : ∀ i o, σ[i]? = some o → OR prog w h α σ.length o (α i)
  inj : ∀ i j, i < σ.length → j < σ.length → α i = α j → i = j
  own : ∀ i, c.n₀ ≤ i → i < σ.length → c.h₀.get? (α i) = none
  apart : ∀ i, i < σ.length → α i ≠ c.env.locals
theorem R.live {c α ρ σ h} (r : R prog w c α ρ σ h) (i : Nat) (hi : i < σ.length) : ∃ ob, h.get? (α i) = some ob := by
  obtain ⟨ob, ho, _⟩ := (r.objs i σ[i] (by simp [hi])).some
  exact ⟨ob, ho⟩
theorem R.grow {c α ρ σ h α' σ' h'} (r : R prog w c α ρ σ h) (g : Grow prog w h α σ h' α' σ') : R prog w c α' ρ σ' h' := by
  have hl := g.len
  obtain ⟨m, cm, e1, e2, e3, e4⟩ := r.env
  refine ⟨r.keep.trans g.keep, ⟨m, cm, e1.keeps g.keep, fun x a hx => (e2 x a hx).keeps g.keep, fun x v hx hk => ?_, fun x v hx hk => ?_⟩, r.dot, fun i o e => ?_, fun i j hi hj e => ?_, fun i hi hj => ?_, fun i hi => ?_⟩
  · obtain ⟨y, hy, hv⟩ := e3 x v hx hk; exact ⟨y, hy, hv.up g.up⟩
  · obtain ⟨y, hy, hv⟩ := e4 x v hx hk; exact ⟨y, hy, hv.up g.up⟩
  · by_cases hlt : i < σ.length
    · have e' : σ[i]? = some o := by
        obtain ⟨τ', rfl⟩ := g.pre
        rwa [List.getElem?_append_left hlt] at e
      rw [g.agree i hlt]
      exact (r.objs i o e').up g.up (fun ob ho => g.keep _ _ ho)
    · exact g.objs i o (by omega) e
  · by_cases h1 : i < σ.length <;> by_cases h2 : j < σ.length
    · rw [g.agree i h1, g.agree j h2] at e; exact r.inj i j h1 h2 e
    · obtain ⟨ob, ho⟩ := r.live i h1
      rw [g.agree i h1] at e
      have := g.fresh j (by omega) hj
      rw [← e, ho] at this; cases this
    · obtain ⟨ob, ho⟩ := r.live j h2
      rw [g.agree j h2] at e
      have := g.fresh i (by omega) hi
      rw [e, ho] at this; cases this
    · exact g.inj i j (by omega) hi (by omega) hj e
  · by_cases hlt : i < σ.length
    · rw [g.agree i hlt]; exact r.own i hi hlt
    · have := g.fresh i (by omega) hj
      cases q : c.h₀.get? (α' i) with
      | none => rfl
      | some ob => rw [r.keep _ _ q] at this; cases this
  · by_cases hlt : i < σ.length
    · rw [g.agree i hlt]; exact r.apart i hlt
    · intro e
      have := g.fresh i (by omega) hi
      obtain ⟨ob, _, _, ho, _⟩ := e1
      rw [e, ho] at this; cases this
end Inn
end
section
set_option maxRecDepth 10000
set_option linter.unusedVariables false
namespace Inn
open PySem
variable {prog : Program} {w : World}
abbrev AM (β : Type) := AEnv → Store → Option (β × Store)
noncomputable def SimG {β γ : Type} (P : Heap → (Nat → Addr) → Nat → β → γ → Prop) (prog : Program) (w : World) (c : Cx) (t : Sem γ) (m : AM β) : Prop :=
  ∀ (ρ : AEnv) (σ : Store) (v : β) (σ' : Store) (α : Nat → Addr) (s : Shared) (Q : γ → Shared → Prop) (E : Value → Shared → Prop), m ρ σ = some (v, σ') → R prog w c α ρ σ s.heap →
    (∀ x α' h' tk', Grow prog w s.heap α σ h' α' σ' → P h' α' σ'.length v x → Q x { s with heap := h', toks := tk' }) → wpAny (model prog w) c.A t Q E s
abbrev BR (_ : Heap) (_ : Nat → Addr) (_ : Nat) (a b : Bool) : Prop := a = b
abbrev Sim := SimG VR
abbrev SimB := SimG BR
abbrev SimL := SimG VRs
theorem wpAny_gen {M : Model} {A : Around} {β : Type} {m : Sem β} {Q : β → Shared → Prop} {E s} (h : ∀ X : β → Shared → Prop, (∀ a s', Q a s' → X a s') → wpAny M A m X E s) : wpAny M A m Q E s := h Q fun _ _ h => h
abbrev KA {β γ : Type} (P : Heap → (Nat → Addr) → Nat → β → γ → Prop) (prog : Program) (w : World) (s : Shared) (α : Nat → Addr) (σ : Store) (Q : γ → Shared → Prop) (v : β) (σ' : Store) : Prop :=
  ∀ x α' h' tk', Grow prog w s.heap α σ h' α' σ' → P h' α' σ'.length v x → Q x { s with heap := h', toks := tk' }
theorem tr2 {β γ : Type} {P : Heap → (Nat → Addr) → Nat → β → γ → Prop} {s α σ Q} {v v' : β} {σ' σ1 : Store} (h : some (v', σ1) = some (v, σ')) (q : KA P prog w s α σ Q v σ') : KA P prog w s α σ Q v' σ1 := by cases h; exact q
noncomputable def abind {β γ : Type} (m : AM β) (k : β → AM γ) : AM γ := fun ρ σ => (m ρ σ).bind fun p => k p.1 ρ p.2
noncomputable def apure {β : Type} (v : β) : AM β := fun _ σ => some (v, σ)
theorem ite_some {p : Prop} {_ : Decidable p} {β : Type} {o : Option β} {r} (h : (if p then o else none) = some r) : p ∧ o = some r := by
  by_cases hp : p
  · rw [if_pos hp] at h; exact ⟨hp, h⟩
  · rw [if_neg hp] at h; cases h
theorem nos {β : Type _} {r : β} {C : Prop} (h : none = some r) : C := by cases h
theorem abind_some {β γ : Type} {m : AM β} {k : β → AM γ} {ρ σ r} (h : abind m k ρ σ = some r) : ∃ v σ1, m ρ σ = some (v, σ1) ∧ k v ρ σ1 = some r := by
  unfold abind at h
  cases e : m ρ σ with
  | none => rw [e] at h; cases h
  | some p => rw [e] at h; exact ⟨p.1, p.2, rfl, h⟩
section
variable {c : Cx}
noncomputable def aInt (i : Int) : AM AV := apure (.int i)
theorem sim_int {i k pos} : Sim prog w c (eval (.Constant (.int i) k pos) c.env) (aInt i) := by
  intro ρ σ v σ' α s Q E hm r q
  (first | replace q := tr2 hm q | cases hm)
  exact wpAny_Constant_int (q _ α s.heap _ (Grow.refl ..) (.int _ _))
noncomputable def aBool (b : Bool) : AM AV := apure (.bool b)
theorem sim_bool {b k pos} : Sim prog w c (eval (.Constant (.bool b) k pos) c.env) (aBool b) := by
  intro ρ σ v σ' α s Q E hm r q
  (first | replace q := tr2 hm q | cases hm)
  exact wpAny_Constant_bool (q _ α s.heap s.toks (Grow.refl ..) (.bool _))
noncomputable def aNone : AM AV := apure .none
theorem sim_none {k pos} : Sim prog w c (eval (.Constant .none k pos) c.env) aNone := by
  intro ρ σ v σ' α s Q E hm r q
  (first | replace q := tr2 hm q | cases hm)
  exact wpAny_Constant_none (q _ α s.heap s.toks (Grow.refl ..) .none)
noncomputable def aName (x : Str) : AM AV := fun ρ σ => (ρ x).map fun v => (v, σ)
theorem aName_some {x : Str} {ρ σ v σ'} (h : aName x ρ σ = some (v, σ')) : ρ x = some v ∧ σ' = σ := by
  unfold aName at h
  cases e : ρ x with
  | none => rw [e] at h; cases h
  | some p => rw [e] at h; cases h; exact ⟨rfl, rfl⟩
theorem sim_local {x : Str} {pos} (hk : c.env.scope.kind = .function) (hl : c.env.kindOf x = some .local) (hd : (x == ("__debug__" : Str)) = false) :
    Sim prog w c (eval (.Name x pos) c.env) (aName x) := by
  intro ρ σ v σ' α s Q E hm r q
  obtain ⟨hx, rfl⟩ := aName_some hm
  obtain ⟨m, cm, e1, e2, e3, e4⟩ := r.env
  obtain ⟨y, hy, hv⟩ := e3 x v hx hl
  exact wpAny_Name (wpAny_loadName_local hk hl e1 hy (q _ α s.heap s.toks (Grow.refl ..) hv)) hd
theorem sim_cell {x : Str} {pos} (hk : c.env.scope.kind = .function) (hl : c.env.kindOf x = some .cell) (hc : (c.env.cells.lookup x).isSome = true) (hd : (x == ("__debug__" : Str)) = false) :
    Sim prog w c (eval (.Name x pos) c.env) (aName x) := by
  intro ρ σ v σ' α s Q E hm r q
  obtain ⟨hx, rfl⟩ := aName_some hm
  obtain ⟨m, cm, e1, e2, e3, e4⟩ := r.env
  obtain ⟨y, hy, hv⟩ := e4 x v hx (.inl hl)
  obtain ⟨a, ha⟩ := Option.isSome_iff_exists.mp hc
  exact wpAny_Name (wpAny_loadName_cell hk hl ha (hy ▸ e2 x a ha) (q _ α s.heap s.toks (Grow.refl ..) hv)) hd
theorem sim_free {x : Str} {pos} (hk : c.env.scope.kind = .function) (hl : c.env.kindOf x = some .free) (hc : (c.env.cells.lookup x).isSome = true) (hd : (x == ("__debug__" : Str)) = false) (hn : (x == ("__classdict__" : Str)) = false) :
    Sim prog w c (eval (.Name x pos) c.env) (aName x) := by
  intro ρ σ v σ' α s Q E hm r q
  obtain ⟨hx, rfl⟩ := aName_some hm
  obtain ⟨m, cm, e1, e2, e3, e4⟩ := r.env
  obtain ⟨y, hy, hv⟩ := e4 x v hx (.inr hl)
  obtain ⟨a, ha⟩ := Option.isSome_iff_exists.mp hc
  exact wpAny_Name (wpAny_loadName_free hk hl ha (hy ▸ e2 x a ha) (q _ α s.heap s.toks (Grow.refl ..) hv) hn) hd
noncomputable def Op2 (prog : Program) (w : World) (c : Cx) (t : Value → Value → Sem Value) (f : AV → AV → Store → Option (AV × Store)) : Prop :=
  ∀ (a b : AV) (x y : Value) (α : Nat → Addr) (ρ : AEnv) (σ : Store) (v : AV) (σ' : Store) (s : Shared) (Q : Value → Shared → Prop) (E : Value → Shared → Prop), f a b σ = some (v, σ') → R prog w c α ρ σ s.heap →
    VR s.heap α σ.length a x → VR s.heap α σ.length b y →
    (∀ z α' h' tk', Grow prog w s.heap α σ h' α' σ' → VR h' α' σ'.length v z → Q z { s with heap := h', toks := tk' }) → wpAny (model prog w) c.A (t x y) Q E s
noncomputable def aBin (f : AV → AV → Store → Option (AV × Store)) (a b : AM AV) : AM AV := abind a fun x => abind b fun y => fun _ σ => f x y σ
theorem sim_BinOp {l r : Expr} {op : Operator} {pos : Pos} {ml mr : AM AV} {f} (ho : Op2 prog w c (binaryOp op) f) (hl : Sim prog w c (eval l c.env) ml) (hr : Sim prog w c (eval r c.env) mr) :
    Sim prog w c (eval (.BinOp l op r pos) c.env) (aBin f ml mr) := by
  intro ρ σ v σ' α s Q E hm R₀ q
  obtain ⟨a, σ1, h1, hm⟩ := abind_some hm
  obtain ⟨b, σ2, h2, hm⟩ := abind_some hm
  refine wpAny_BinOp (hl _ _ _ _ _ _ _ _ h1 R₀ fun x α1 hh1 tk1 g1 v1 => ?_)
  refine hr _ _ _ _ _ { s with heap := hh1, toks := tk1 } _ _ h2 (R₀.grow g1) fun y α2 hh2 tk2 g2 v2 => ?_
  exact ho _ _ _ _ _ _ _ _ _ { s with heap := hh2, toks := tk2 } _ _ hm ((R₀.grow g1).grow g2) (v1.up g2.up) v2 fun z α3 hh3 tk3 g3 v3 => q z α3 hh3 tk3 ((g1.trans g2).trans g3) v3
noncomputable def ii {β : Type} (f : Int → Int → Option β) : AV → AV → Option β
  | .int a, .int b => f a b
  | _, _ => none
theorem ii_inv {β : Type} {f : Int → Int → Option β} {a b : AV} {r : β} (h : ii f a b = some r) : ∃ i j, a = .int i ∧ b = .int j ∧ f i j = some r := by
  unfold ii at h
  split at h
  · exact ⟨_, _, rfl, rfl, h⟩
  · (first | exact nos h | cases h)
theorem VR.inv_ref {h α n i x} (r : VR h α n (.ref i) x) : i < n ∧ x = .ref (α i) := by cases r with | ref hi => exact ⟨hi, rfl⟩
theorem VR.inv_int {h α n i x} (r : VR h α n (.int i) x) : ∃ t, x = .int i t := by cases r with | int _ t => exact ⟨t, rfl⟩
theorem VR.inv_bool {h α n b x} (r : VR h α n (.bool b) x) : x = .bool b := by cases r; rfl
theorem VR.inv_none {h α n x} (r : VR h α n .none x) : x = .none := by cases r; rfl
theorem VR.inv_tup {h α n vs x} (r : VR h α n (.tup vs) x) : ∃ a items, x = .ref a ∧ h.get? a = some (tupObj items) ∧ VRs h α n vs items := by cases r with | tup e r => exact ⟨_, _, rfl, e, r⟩
noncomputable def opSub (a b : AV) (σ : Store) : Option (AV × Store) := ii (fun a b => some (.int (a - b), σ)) a b
theorem op_sub : Op2 prog w c (binaryOp .Sub) opSub := by
  intro a b x y α ρ σ v σ' s Q E hf r ha hb q
  replace hf := ii_inv hf
  obtain ⟨i, j, rfl, rfl, hf⟩ := hf
  obtain ⟨t, rfl⟩ := ha.inv_int
  obtain ⟨u, rfl⟩ := hb.inv_int
  (first | replace q := tr2 hf q | cases hf)
  exact AutoIntOps.sub_0 (q _ α s.heap _ (Grow.refl ..) (.int _ _))
noncomputable def opMod (a b : AV) (σ : Store) : Option (AV × Store) := ii (fun a b => if b = 0 then none else some (.int (a.fmod b), σ)) a b
theorem op_mod : Op2 prog w c (binaryOp .Mod) opMod := by
  intro a b x y α ρ σ v σ' s Q E hf r ha hb q
  replace hf := ii_inv hf
  obtain ⟨i, j, rfl, rfl, hf⟩ := hf
  obtain ⟨t, rfl⟩ := ha.inv_int
  obtain ⟨u, rfl⟩ := hb.inv_int
  split at hf
  · (first | exact nos hf | cases hf)
  · rename_i hb
    (first | replace q := tr2 hf q | cases hf)
    exact AutoIntOps.mod_1 (by simpa using hb) (q _ α s.heap _ (Grow.refl ..) (.int _ _))
noncomputable def opDiv (a b : AV) (σ : Store) : Option (AV × Store) := ii (fun a b => if 0 < b ∧ b < 1000000000 then some (.int (a.fdiv b), σ) else none) a b
theorem op_div : Op2 prog w c (binaryOp .FloorDiv) opDiv := by
  intro a b x y α ρ σ v σ' s Q E hf r ha hb q
  replace hf := ii_inv hf
  obtain ⟨i, j, rfl, rfl, hf⟩ := hf
  obtain ⟨t, rfl⟩ := ha.inv_int
  obtain ⟨u, rfl⟩ := hb.inv_int
  split at hf
  · rename_i hb
    (first | replace q := tr2 hf q | cases hf)
    exact AutoIntOps.floordiv_1 (by simp; omega) (by rw [PyProof.noPylong_small (by omega)]; simp) (q _ α s.heap _ (Grow.refl ..) (.int _ _))
  · (first | exact nos hf | cases hf)
noncomputable def opPow (a b : AV) (σ : Store) : Option (AV × Store) := ii (fun a b => if a = 10 ∧ 0 < b ∧ b < 1000 then some (.int (a ^ b.toNat), σ) else none) a b
theorem op_pow : Op2 prog w c (binaryOp .Pow) opPow := by
  intro a b x y α ρ σ v σ' s Q E hf r ha hb q
  replace hf := ii_inv hf
  obtain ⟨i, j, rfl, rfl, hf⟩ := hf
  obtain ⟨t, rfl⟩ := ha.inv_int
  obtain ⟨u, rfl⟩ := hb.inv_int
  split at hf
  · rename_i hb
    (first | replace q := tr2 hf q | cases hf)
    obtain ⟨rfl, h1, h2⟩ := hb
    refine AutoIntOps.pow_4 (by omega) (by simp; omega) (by decide) (by decide) ?_ (q _ α s.heap _ (Grow.refl ..) (.int _ _))
    have e : Builtin.Int.intBits 10 = 4 := by decide +kernel
    rw [e]
    unfold Builtin.Int.intTooBig
    simp only [decide_eq_true_eq]
    simp [bitsLine]
    omega
  · (first | exact nos hf | cases hf)
abbrev smallI (a : Int) : Prop := -(2 ^ 64) < a ∧ a < 2 ^ 64
noncomputable def opMul : AV → AV → Store → Option (AV × Store)
  | .int a, .int b, σ => if smallI a ∨ smallI b then some (.int (a * b), σ) else none
  | .ref i, .int b, σ => match σ[i]? with
    | some (.list vs) => if 0 ≤ b ∧ (vs.length : Int) * b ≤ 1000000 ∧ b < 1000000 then some (.ref σ.length, σ ++ [.list (List.replicate b.toNat vs).flatten]) else none
    | _ => none
  | _, _, _ => none
noncomputable def opAdd : AV → AV → Store → Option (AV × Store)
  | .int a, .int b, σ => some (.int (a + b), σ)
  | .ref i, .ref j, σ => match σ[i]?, σ[j]? with
    | some (.list vs), some (.list ws) => if vs.length + ws.length ≤ 1000000 then some (.ref σ.length, σ ++ [.list (vs ++ ws)]) else none
    | _, _ => none
  | _, _, _ => none
theorem le_sizeLine {n : Nat} (h : n ≤ 1000000) : n ≤ sizeLine := Nat.le_trans h (by decide)
theorem grow_list {ρ : AEnv} {σ : Store} {α : Nat → Addr} {h h' : Heap} {vs : List AV} {items : List Value} {a : Addr} {ep : Nat} (r : R prog w c α ρ σ h) (k : HK h h') (hn : h.get? a = none)
    (ho : h'.get? a = some { cls := .type "list", data := .seq items.toArray ep }) (hv : VRs h α σ.length vs items) (hl : items.length ≤ 1000000) :
    ∃ α', Grow prog w h α σ h' α' (σ ++ [.list vs]) ∧ VR h' α' (σ ++ [AO.list vs]).length (.ref σ.length) (.ref a) := by
  have u : Up h α σ.length h' (fun i => if i = σ.length then a else α i) (σ.length + 1) := ⟨Nat.le_succ _, fun i hi => by simp [Nat.ne_of_lt hi], k.vk⟩
  refine ⟨_, Grow.one k hn (.list ho (hv.up u) hl), ?_⟩
  have := VR.ref (h := h') (α := fun i => if i = σ.length then a else α i) (n := (σ ++ [AO.list vs]).length) (i := σ.length) (by simp)
  simpa using this
theorem get?_size_none (h : Heap) : h.get? h.objs.size = none := by
  cases e : h.get? h.objs.size with
  | none => rfl
  | some o => exact absurd (Heap.lt_size e) (Nat.lt_irrefl _)
theorem R.list {ρ : AEnv} {σ : Store} {α : Nat → Addr} {h : Heap} {i : Nat} {vs : List AV} (r : R prog w c α ρ σ h) (e : σ[i]? = some (.list vs)) :
    ∃ items ep, h.get? (α i) = some { cls := .type "list", data := .seq (items : List Value).toArray ep } ∧ VRs h α σ.length vs items ∧ items.length ≤ 1000000 := by
  cases r.objs i _ e with
  | list a b c => exact ⟨_, _, a, b, c⟩
theorem add_inv {i j : Nat} {σ : Store} {r} (h : opAdd (.ref i) (.ref j) σ = some r) : ∃ vs ws, σ[i]? = some (.list vs) ∧ σ[j]? = some (.list ws) ∧ vs.length + ws.length ≤ 1000000 ∧ some (.ref σ.length, σ ++ [.list (vs ++ ws)]) = some r := by
  replace h : (match σ[i]?, σ[j]? with
    | some (.list vs), some (.list ws) => if vs.length + ws.length ≤ 1000000 then some (.ref σ.length, σ ++ [.list (vs ++ ws)]) else none
    | _, _ => none) = some r := h
  split at h
  · exact ⟨_, _, ‹_›, ‹_›, ite_some h⟩
  · exact nos h
set_option tactic.hygienic true in
theorem op_add : Op2 prog w c (binaryOp .Add) opAdd := by
  intro a b x y α ρ σ v σ' s Q E hf r ha hb q
  cases a with
  | int i =>
    cases b with
    | int j =>
      obtain ⟨t, rfl⟩ := ha.inv_int
      obtain ⟨u, rfl⟩ := hb.inv_int
      exact AutoIntOps.add_0 (tr2 hf q _ α s.heap _ (Grow.refl ..) (.int _ _))
    | _ => exact nos hf
  | ref i =>
    cases b with
    | ref j =>
      obtain ⟨vs, ws, e1, e2, hlen, hf⟩ := add_inv hf
      obtain ⟨_, rfl⟩ := ha.inv_ref
      obtain ⟨_, rfl⟩ := hb.inv_ref
      obtain ⟨is, n1, g1, v1, l1⟩ := r.list e1
      obtain ⟨js, n2, g2, v2, l2⟩ := r.list e2
      have hl : (is ++ js).length ≤ 1000000 := by rw [List.length_append, ← v1.length, ← v2.length]; exact hlen
      refine P.add_list g1 g2 ?_ (by simp only [List.size_toArray]; rw [List.length_append] at hl; exact le_sizeLine hl)
      obtain ⟨α', g, v⟩ := grow_list (a := s.heap.objs.size) (ep := 0) (items := is ++ js) r (HK.push s.heap { cls := .type "list", data := .seq (is.toArray ++ js.toArray) }) (get?_size_none _) (by rw [Heap.get?_push_size _ rfl]; simp) (v1.append v2) hl
      exact tr2 hf q _ α' _ s.toks g v
    | _ => exact nos hf
  | _ => exact nos hf
end
end Inn
end
section
set_option maxRecDepth 10000
set_option linter.unusedVariables false
namespace Inn
open PySem
variable {prog : Program} {w : World}
section
variable {c : Cx}
theorem foldl_app (items : List Value) : ∀ (k : Nat) (acc : Array Value), List.foldl (fun x1 x2 => x1 ++ x2) acc (List.replicate k items.toArray) = (acc.toList ++ (List.replicate k items).flatten).toArray
  | 0, acc => by simp
  | k + 1, acc => by
    rw [List.replicate_succ, List.foldl_cons, foldl_app items k]
    simp [List.replicate_succ]
theorem VRs.rep {h α n} {vs : List AV} {xs : List Value} (r : VRs h α n vs xs) : ∀ k : Nat, VRs h α n (List.replicate k vs).flatten (List.replicate k xs).flatten
  | 0 => by simpa using VRs.nil
  | k + 1 => by simpa [List.replicate_succ] using r.append (r.rep k)
theorem length_rep {β : Type} (vs : List β) (k : Nat) : (List.replicate k vs).flatten.length = k * vs.length := by
  induction k with
  | zero => simp
  | succ k ih => simp [List.replicate_succ, ih, Nat.succ_mul]; omega
theorem mul_fitsI {a b : Int} (h : smallI a ∨ smallI b) : IntMulOk a b :=
  h.elim (fun h => IntMulOk.of_left (intBits_le_64 h.1 h.2)) (fun h => IntMulOk.of_right (intBits_le_64 h.1 h.2))
theorem list_mul {A : Around} {E : Value → Shared → Prop} {s : Shared} {l : Addr} {items : Array Value} {k : Nat} {x : Int} {u : Tok} {Q : Value → Shared → Prop}
    (hl : s.heap.get? l = some { cls := .type "list", dict := none, data := .seq items k, slots := #[] })
    (hlo : -(2 ^ 63 : Int) ≤ x) (hhi : x < 2 ^ 63) (hsz : items.size * x.toNat ≤ 2 ^ 24)
    (h : Q (.ref s.heap.objs.size) { s with heap := s.heap.push { cls := .type "list", data := .seq (List.foldl (fun x1 x2 => x1 ++ x2) #[] (List.replicate (if items.isEmpty = true then 0 else x.toNat) items)) } }) :
    wpAny (model prog w) A (binaryOp .Mult (.ref l) (.int x u)) Q E s :=
  wpAny_binaryOp_repeat_ref (T := "list") (U := "int") (by decide) ⟨_, hl, rfl⟩ (fun s' => typeIs_int s' x u) noFill_list_mul F.fills_int_mul F.slot_int_rmul repeat_list F.slot_int_index.lookup
    (call_meets F.slot_int_rmul (typeIs_int s x u) F.entry_int_rmul (F.args_int_rmul_2 _ _) (int___rmul___int_list x u l items k)
      ⟨hl, rfl, ⟨_, hl, rfl⟩, call_meets F.slot_list_mul ⟨_, hl, rfl⟩ F.entry_list_mul (F.args_list_mul_2 _ _)
        (AutoListH.list___mul___list_int_3 l items k x u (by simp [Builtin.List.listFitsIndex]; omega) (by omega) (by simp [Builtin.List.listTooLong, sizeLine]; omega))
        ⟨hl, h⟩⟩)
theorem mul_inv {i : Nat} {b : Int} {σ : Store} {r} (h : opMul (.ref i) (.int b) σ = some r) : ∃ vs, σ[i]? = some (.list vs) ∧ (0 ≤ b ∧ (vs.length : Int) * b ≤ 1000000 ∧ b < 1000000) ∧ some (.ref σ.length, σ ++ [.list (List.replicate b.toNat vs).flatten]) = some r := by
  unfold opMul at h
  dsimp only at h
  cases e : σ[i]? with
  | none => rw [e] at h; exact nos h
  | some o =>
    rw [e] at h
    cases o with
    | list vs => exact ⟨vs, rfl, ite_some h⟩
    | dict _ => exact nos h
set_option tactic.hygienic true in
theorem op_mul : Op2 prog w c (binaryOp .Mult) opMul := by
  intro a b x y α ρ σ v σ' s Q E hf r ha hb q
  cases b with
  | int b =>
    cases a with
    | int a =>
      obtain ⟨t, rfl⟩ := ha.inv_int
      obtain ⟨u, rfl⟩ := hb.inv_int
      obtain ⟨hs, hf⟩ := ite_some hf
      exact AutoIntOps.mul_0 (tr2 hf q _ α s.heap _ (Grow.refl ..) (.int _ _)) (mul_fitsI hs)
    | ref i =>
      obtain ⟨vs, e1, hlen, hf⟩ := mul_inv hf
      obtain ⟨hi, rfl⟩ := ha.inv_ref
      obtain ⟨t, rfl⟩ := hb.inv_int
      obtain ⟨is, n1, g1, v1, l1⟩ := r.list e1
      have hle : is.length * b.toNat ≤ 1000000 := by
        rw [v1.length] at hlen
        have h1 := hlen.2.1
        have e : ((is.length * b.toNat : Nat) : Int) = (is.length : Int) * b := by rw [Int.natCast_mul, Int.toNat_of_nonneg hlen.1]
        omega
      refine list_mul g1 (by omega) (by omega) (by simp; omega) ?_
      have e2 : List.foldl (fun x1 x2 => x1 ++ x2) #[] (List.replicate (if is.toArray.isEmpty = true then 0 else b.toNat) is.toArray) = (List.replicate b.toNat is).flatten.toArray := by
        rw [foldl_app]
        cases is with
        | nil => simp
        | cons x xs => simp
      obtain ⟨α', g, v⟩ := grow_list (a := s.heap.objs.size) (ep := 0) (vs := (List.replicate b.toNat vs).flatten) (items := (List.replicate b.toNat is).flatten) r (HK.push s.heap { cls := .type "list", data := .seq (List.replicate b.toNat is).flatten.toArray }) (get?_size_none _) (by rw [Heap.get?_push_size _ rfl]) (v1.rep b.toNat) (by rw [length_rep, Nat.mul_comm]; exact hle)
      rw [e2]
      exact tr2 hf q _ α' _ s.toks g v
    | _ => exact nos hf
  | _ => cases a <;> exact nos hf
noncomputable def Cmp2 (prog : Program) (w : World) (c : Cx) (t : Value → Value → Sem Value) (f : AV → AV → Store → Option Bool) : Prop :=
  ∀ (a b : AV) (x y : Value) (α : Nat → Addr) (ρ : AEnv) (σ : Store) (v : Bool) (s : Shared) (Q : Value → Shared → Prop) (E : Value → Shared → Prop), f a b σ = some v → R prog w c α ρ σ s.heap →
    VR s.heap α σ.length a x → VR s.heap α σ.length b y →
    (∀ tk', Q (.bool v) { s with toks := tk' }) → wpAny (model prog w) c.A (t x y) Q E s
noncomputable def aCmp (f : AV → AV → Store → Option Bool) (a b : AM AV) : AM AV := abind a fun x => abind b fun y => fun _ σ => (f x y σ).map fun r => (.bool r, σ)
noncomputable def bCmp (f : AV → AV → Store → Option Bool) (a b : AM AV) : AM Bool := abind a fun x => abind b fun y => fun _ σ => (f x y σ).map fun r => (r, σ)
theorem map_some' {β γ : Type} {o : Option β} {f : β → γ} {r : γ} (h : o.map f = some r) : ∃ v, o = some v ∧ f v = r := by
  cases o with
  | none => (first | exact nos h | cases h)
  | some v => exact ⟨v, rfl, by simpa using h⟩
theorem sim_Cmp1 {l r : Expr} {op : CmpOp} {pos : Pos} {ml mr : AM AV} {f} (ho : Cmp2 prog w c (compareOp op) f) (hm' : behindInMarks op r = false) (hl : Sim prog w c (eval l c.env) ml) (hr : Sim prog w c (eval r c.env) mr) :
    Sim prog w c (eval (.Compare l [op] [r] pos) c.env) (aCmp f ml mr) := by
  intro ρ σ v σ' α s Q E hm R₀ q
  obtain ⟨a, σ1, h1, hm⟩ := abind_some hm
  obtain ⟨b, σ2, h2, hm⟩ := abind_some hm
  obtain ⟨o, h3, hm⟩ := map_some' hm
  (first | replace q := tr2 hm q | cases hm)
  refine wpAny_Compare1 (hl _ _ _ _ _ _ _ _ h1 R₀ fun x α1 hh1 tk1 g1 v1 => ?_) hm'
  refine hr _ _ _ _ _ { s with heap := hh1, toks := tk1 } _ _ h2 (R₀.grow g1) fun y α2 hh2 tk2 g2 v2 => ?_
  exact ho _ _ _ _ _ _ _ _ { s with heap := hh2, toks := tk2 } _ _ h3 ((R₀.grow g1).grow g2) (v1.up g2.up) v2 fun tk3 => q _ α2 hh2 tk3 (g1.trans g2) (.bool _)
theorem simB_Cmp1 {l r : Expr} {op : CmpOp} {pos : Pos} {ml mr : AM AV} {f} {whole} (ho : Cmp2 prog w c (compareOp op) f) (hm' : behindInMarks op r = false) (hl : Sim prog w c (eval l c.env) ml) (hr : Sim prog w c (eval r c.env) mr) :
    SimB prog w c (isTrue (.Compare l [op] [r] pos) c.env whole) (bCmp f ml mr) := by
  intro ρ σ v σ' α s Q E hm R₀ q
  obtain ⟨a, σ1, h1, hm⟩ := abind_some hm
  obtain ⟨b, σ2, h2, hm⟩ := abind_some hm
  obtain ⟨o, h3, hm⟩ := map_some' hm
  (first | replace q := tr2 hm q | cases hm)
  refine wpAny_isTrue_Compare1 (hl _ _ _ _ _ _ _ _ h1 R₀ fun x α1 hh1 tk1 g1 v1 => ?_) hm'
  refine hr _ _ _ _ _ { s with heap := hh1, toks := tk1 } _ _ h2 (R₀.grow g1) fun y α2 hh2 tk2 g2 v2 => ?_
  exact ho _ _ _ _ _ _ _ _ { s with heap := hh2, toks := tk2 } _ _ h3 ((R₀.grow g1).grow g2) (v1.up g2.up) v2 fun tk3 => wpAny_truthy_bool (q _ α2 hh2 tk3 (g1.trans g2) rfl)
noncomputable def aCmp2 (f g : AV → AV → Store → Option Bool) (a b d : AM AV) : AM AV :=
  abind a fun x => abind b fun y => fun ρ σ => (f x y σ).bind fun t => if t then (abind d fun z => fun _ σ => (g y z σ).map fun r => (.bool r, σ)) ρ σ else some (.bool false, σ)
noncomputable def bCmp2 (f g : AV → AV → Store → Option Bool) (a b d : AM AV) : AM Bool :=
  abind a fun x => abind b fun y => fun ρ σ => (f x y σ).bind fun t => if t then (abind d fun z => fun _ σ => (g y z σ).map fun r => (r, σ)) ρ σ else some (false, σ)
theorem bind_some' {β γ : Type} {o : Option β} {f : β → Option γ} {r : γ} (h : o.bind f = some r) : ∃ v, o = some v ∧ f v = some r := by
  cases o with
  | none => (first | exact nos h | cases h)
  | some v => exact ⟨v, rfl, by simpa using h⟩
theorem release_any {M : Model} {A : Around} {E : Value → Shared → Prop} {s : Shared} {vs keep : List Value} {Q : Unit → Shared → Prop} (h : Q () s) : wpAny M A (release vs keep) Q E s := fun Γ p _ => by rw [Sem.wp_release]; exact h
theorem operate_any {M : Model} {A : Around} {E : Value → Shared → Prop} {s : Shared} {vs : List Value} {m : Sem Value} {Q : Value → Shared → Prop} (h : wpAny M A m Q E s) : wpAny M A (operate vs m) Q E s := fun Γ p hΓ => by rw [Sem.wp_operate]; exact h Γ p hΓ
theorem marked2 {o1 o2 : CmpOp} {r1 r2 : Expr} {t1 t2 : Sem Value} (m1 : behindInMarks o1 r1 = false) (m2 : behindInMarks o2 r2 = false) : markedEach [o1, o2] [r1, r2] [t1, t2] = [t1, t2] := by
  show [t1, markedBehindIn o2 r2 t2] = [t1, t2]
  rw [markedBehindIn_of_false m2]
theorem wpAny_Compare2 {M : Model} {A : Around} {E : Value → Shared → Prop} {s : Shared} {env : Env} {l r1 r2 : Expr} {o1 o2 : CmpOp} {pos : Pos} {Q : Value → Shared → Prop} (m1 : behindInMarks o1 r1 = false) (m2 : behindInMarks o2 r2 = false)
    (h : wpAny M A (eval l env) (fun a s₁ => wpAny M A (eval r1 env) (fun b s₂ => wpAny M A (compareOp o1 a b) (fun d s₃ => wpAny M A (truthy d) (fun t s₄ => if t then wpAny M A (eval r2 env) (fun e s₅ => wpAny M A (compareOp o2 b e) Q E s₅) E s₄ else Q d s₄) E s₃) E s₂) E s₁) E s) :
    wpAny M A (eval (.Compare l [o1, o2] [r1, r2] pos) env) Q E s := by
  show wpAny M A (do compareChain pos (← eval l env) [o1, o2] (markedEach [o1, o2] [r1, r2] [eval r1 env, eval r2 env])) Q E s
  rw [marked2 m1 m2]
  refine wpAny_bind (wpAny_mono h (fun a s₁ h₁ => ?_) fun _ _ e => e)
  refine wpAny_bind (wpAny_holding (wpAny_mono h₁ (fun b s₂ h₂ => wpAny_bind (wpAny_standAt ?_)) fun _ _ e => e))
  refine wpAny_bind (wpAny_holding (wpAny_mono h₂ (fun d s₃ h₃ => wpAny_bind (release_any ?_)) fun _ _ e => e))
  refine wpAny_bind (wpAny_holding (wpAny_mono h₃ (fun t s₄ h₄ => ?_) fun _ _ e => e))
  cases t with
  | false => exact wpAny_pure h₄
  | true =>
    simp only [if_true] at h₄ ⊢
    exact wpAny_bind (wpAny_holding (wpAny_mono h₄ (fun e s₅ h₅ => wpAny_bind (wpAny_standAt (operate_any h₅))) fun _ _ e => e))
theorem wpAny_isTrue_Compare2 {M : Model} {A : Around} {E : Value → Shared → Prop} {s : Shared} {env : Env} {l r1 r2 : Expr} {o1 o2 : CmpOp} {pos : Pos} {whole : Sem Value} {Q : Bool → Shared → Prop} (m1 : behindInMarks o1 r1 = false) (m2 : behindInMarks o2 r2 = false)
    (h : wpAny M A (eval l env) (fun a s₁ => wpAny M A (eval r1 env) (fun b s₂ => wpAny M A (compareOp o1 a b) (fun d s₃ => wpAny M A (truthy d) (fun t s₄ => if t then wpAny M A (eval r2 env) (fun e s₅ => wpAny M A (compareOp o2 b e) (fun z s₆ => wpAny M A (truthy z) Q E s₆) E s₅) E s₄ else Q false s₄) E s₃) E s₂) E s₁) E s) :
    wpAny M A (isTrue (.Compare l [o1, o2] [r1, r2] pos) env whole) Q E s := by
  show wpAny M A (do testChain pos (← eval l env) [o1, o2] (markedEach [o1, o2] [r1, r2] [eval r1 env, eval r2 env])) Q E s
  rw [marked2 m1 m2]
  refine wpAny_bind (wpAny_mono h (fun a s₁ h₁ => ?_) fun _ _ e => e)
  refine wpAny_bind (wpAny_holding (wpAny_mono h₁ (fun b s₂ h₂ => wpAny_bind (wpAny_standAt ?_)) fun _ _ e => e))
  refine wpAny_bind (wpAny_holding (wpAny_mono h₂ (fun d s₃ h₃ => wpAny_bind (release_any ?_)) fun _ _ e => e))
  refine wpAny_bind (wpAny_holding (wpAny_mono h₃ (fun t s₄ h₄ => ?_) fun _ _ e => e))
  cases t with
  | false => exact wpAny_pure h₄
  | true =>
    simp only [if_true] at h₄ ⊢
    exact wpAny_bind (wpAny_holding (wpAny_mono h₄ (fun e s₅ h₅ => wpAny_bind (wpAny_standAt (wpAny_bind (operate_any (wpAny_mono h₅ (fun z s₆ h₆ => wpAny_holding h₆) fun _ _ e => e))))) fun _ _ e => e))
theorem sim_Cmp2 {l r1 r2 : Expr} {o1 o2 : CmpOp} {pos : Pos} {ml m1 m2 : AM AV} {f g} (ho1 : Cmp2 prog w c (compareOp o1) f) (ho2 : Cmp2 prog w c (compareOp o2) g) (e1 : behindInMarks o1 r1 = false) (e2 : behindInMarks o2 r2 = false)
    (hl : Sim prog w c (eval l c.env) ml) (h1 : Sim prog w c (eval r1 c.env) m1) (h2 : Sim prog w c (eval r2 c.env) m2) :
    Sim prog w c (eval (.Compare l [o1, o2] [r1, r2] pos) c.env) (aCmp2 f g ml m1 m2) := by
  intro ρ σ v σ' α s Q E hm R₀ q
  obtain ⟨a, σ1, q1, hm⟩ := abind_some hm
  obtain ⟨b, σ2, q2, hm⟩ := abind_some hm
  obtain ⟨t, q3, hm⟩ := bind_some' hm
  refine wpAny_Compare2 e1 e2 (hl _ _ _ _ _ _ _ _ q1 R₀ fun x α1 hh1 tk1 g1 v1 => h1 _ _ _ _ _ { s with heap := hh1, toks := tk1 } _ _ q2 (R₀.grow g1) fun y α2 hh2 tk2 g2 v2 =>
    ho1 _ _ _ _ _ _ _ _ { s with heap := hh2, toks := tk2 } _ _ q3 ((R₀.grow g1).grow g2) (v1.up g2.up) v2 fun tk3 => wpAny_gen fun X hX => wpAny_truthy_bool (hX _ _ ?_))
  cases t with
  | false => exact tr2 hm q _ α2 hh2 tk3 (g1.trans g2) (.bool _)
  | true =>
    rw [if_pos rfl] at hm
    obtain ⟨d, σ3, q4, hm⟩ := abind_some hm
    obtain ⟨o, q5, hm⟩ := map_some' hm
    replace q := tr2 (congrArg some hm) q
    exact h2 _ _ _ _ _ { s with heap := hh2, toks := tk3 } _ _ q4 ((R₀.grow g1).grow g2) fun z α4 hh4 tk4 g4 v4 =>
      ho2 _ _ _ _ _ _ _ _ { s with heap := hh4, toks := tk4 } _ _ q5 (((R₀.grow g1).grow g2).grow g4) (v2.up g4.up) v4 fun tk5 => q _ α4 hh4 tk5 ((g1.trans g2).trans g4) (.bool _)
theorem simB_Cmp2 {l r1 r2 : Expr} {o1 o2 : CmpOp} {pos : Pos} {ml m1 m2 : AM AV} {f g} {whole} (ho1 : Cmp2 prog w c (compareOp o1) f) (ho2 : Cmp2 prog w c (compareOp o2) g) (e1 : behindInMarks o1 r1 = false) (e2 : behindInMarks o2 r2 = false)
    (hl : Sim prog w c (eval l c.env) ml) (h1 : Sim prog w c (eval r1 c.env) m1) (h2 : Sim prog w c (eval r2 c.env) m2) :
    SimB prog w c (isTrue (.Compare l [o1, o2] [r1, r2] pos) c.env whole) (bCmp2 f g ml m1 m2) := by
  intro ρ σ v σ' α s Q E hm R₀ q
  obtain ⟨a, σ1, q1, hm⟩ := abind_some hm
  obtain ⟨b, σ2, q2, hm⟩ := abind_some hm
  obtain ⟨t, q3, hm⟩ := bind_some' hm
  refine wpAny_isTrue_Compare2 e1 e2 (hl _ _ _ _ _ _ _ _ q1 R₀ fun x α1 hh1 tk1 g1 v1 => h1 _ _ _ _ _ { s with heap := hh1, toks := tk1 } _ _ q2 (R₀.grow g1) fun y α2 hh2 tk2 g2 v2 =>
    ho1 _ _ _ _ _ _ _ _ { s with heap := hh2, toks := tk2 } _ _ q3 ((R₀.grow g1).grow g2) (v1.up g2.up) v2 fun tk3 => wpAny_gen fun X hX => wpAny_truthy_bool (hX _ _ ?_))
  cases t with
  | false => exact tr2 hm q _ α2 hh2 tk3 (g1.trans g2) rfl
  | true =>
    rw [if_pos rfl] at hm
    obtain ⟨d, σ3, q4, hm⟩ := abind_some hm
    obtain ⟨o, q5, hm⟩ := map_some' hm
    replace q := tr2 (congrArg some hm) q
    exact h2 _ _ _ _ _ { s with heap := hh2, toks := tk3 } _ _ q4 ((R₀.grow g1).grow g2) fun z α4 hh4 tk4 g4 v4 =>
      ho2 _ _ _ _ _ _ _ _ { s with heap := hh4, toks := tk4 } _ _ q5 (((R₀.grow g1).grow g2).grow g4) (v2.up g4.up) v4 fun tk5 => wpAny_truthy_bool (q _ α4 hh4 tk5 ((g1.trans g2).trans g4) rfl)
noncomputable def cLt (a b : AV) (_ : Store) : Option Bool := ii (fun a b => some (decide (a < b))) a b
noncomputable def cLe (a b : AV) (_ : Store) : Option Bool := ii (fun a b => some (decide (a ≤ b))) a b
noncomputable def cGt (a b : AV) (_ : Store) : Option Bool := ii (fun a b => some (decide (b < a))) a b
noncomputable def cGe (a b : AV) (_ : Store) : Option Bool := ii (fun a b => some (decide (b ≤ a))) a b
theorem cmp_lt : Cmp2 prog w c (compareOp .Lt) cLt := by
  intro a b x y α ρ σ v s Q E hf r ha hb q
  replace hf := ii_inv hf
  obtain ⟨i, j, rfl, rfl, hf⟩ := hf
  obtain ⟨t, rfl⟩ := ha.inv_int
  obtain ⟨u, rfl⟩ := hb.inv_int
  (first | replace q := tr2 hf q | cases hf)
  exact P.lt_int (q s.toks)
theorem cmp_le : Cmp2 prog w c (compareOp .LtE) cLe := by
  intro a b x y α ρ σ v s Q E hf r ha hb q
  replace hf := ii_inv hf
  obtain ⟨i, j, rfl, rfl, hf⟩ := hf
  obtain ⟨t, rfl⟩ := ha.inv_int
  obtain ⟨u, rfl⟩ := hb.inv_int
  (first | replace q := tr2 hf q | cases hf)
  exact P.le_int (q s.toks)
theorem cmp_gt : Cmp2 prog w c (compareOp .Gt) cGt := by
  intro a b x y α ρ σ v s Q E hf r ha hb q
  replace hf := ii_inv hf
  obtain ⟨i, j, rfl, rfl, hf⟩ := hf
  obtain ⟨t, rfl⟩ := ha.inv_int
  obtain ⟨u, rfl⟩ := hb.inv_int
  (first | replace q := tr2 hf q | cases hf)
  exact P.gt_int (q s.toks)
theorem cmp_ge : Cmp2 prog w c (compareOp .GtE) cGe := by
  intro a b x y α ρ σ v s Q E hf r ha hb q
  replace hf := ii_inv hf
  obtain ⟨i, j, rfl, rfl, hf⟩ := hf
  obtain ⟨t, rfl⟩ := ha.inv_int
  obtain ⟨u, rfl⟩ := hb.inv_int
  (first | replace q := tr2 hf q | cases hf)
  exact P.ge_int (q s.toks)
noncomputable def isN : AV → Option Bool
  | .none => some true
  | .int _ => some false
  | .tup _ => some false
  | _ => none
noncomputable def cIs (a b : AV) (_ : Store) : Option Bool := match b with
  | .none => isN a
  | _ => none
noncomputable def cIsNot (a b : AV) (_ : Store) : Option Bool := match b with
  | .none => (isN a).map (!·)
  | _ => none
theorem isN_some {h α n a x v} (e : isN a = some v) (r : VR h α n a x) : (x == Value.none) = v := by
  unfold isN at e
  split at e
  · cases e; rw [r.inv_none]; rfl
  · cases e; obtain ⟨t, rfl⟩ := r.inv_int; exact beq_eq_false_iff_ne.mpr (by simp)
  · cases e; obtain ⟨a, is, rfl, _⟩ := r.inv_tup; exact beq_eq_false_iff_ne.mpr (by simp)
  · (first | exact nos e | cases e)
theorem cmp_is : Cmp2 prog w c (compareOp .Is) cIs := by
  intro a b x y α ρ σ v s Q E hf r ha hb q
  unfold cIs at hf
  split at hf
  · rw [hb.inv_none]
    exact is_none (by rw [isN_some hf ha]; exact q s.toks)
  · (first | exact nos hf | cases hf)
theorem cmp_isNot : Cmp2 prog w c (compareOp .IsNot) cIsNot := by
  intro a b x y α ρ σ v s Q E hf r ha hb q
  unfold cIsNot at hf
  split at hf
  · rw [hb.inv_none]
    obtain ⟨v', e, rfl⟩ := map_some' hf
    exact isNot_none (by rw [isN_some e ha]; exact q s.toks)
  · (first | exact nos hf | cases hf)
noncomputable def aTruth : AV → Option Bool
  | .bool b => some b
  | _ => none
noncomputable def bVal (m : AM AV) : AM Bool := abind m fun v => fun _ σ => (aTruth v).map fun b => (b, σ)
theorem truth_any {M : Model} {A : Around} {E : Value → Shared → Prop} {s : Shared} {h α n v x b} {Q : Bool → Shared → Prop} (r : VR h α n v x) (e : aTruth v = some b) (q : Q b s) : wpAny M A (truthy x) Q E s := by
  cases v with
  | bool b' => cases e; cases r.inv_bool; exact wpAny_truthy_bool q
  | _ => exact nos e
theorem simB_val {e : Expr} {m : AM AV} (he : ∀ whole, isTrue e c.env whole = (do let v ← whole; standAt e.pos; holding [v] (truthy v))) (h : Sim prog w c (eval e c.env) m) : SimB prog w c (isTrue e c.env (eval e c.env)) (bVal m) := by
  intro ρ σ v σ' α s Q E hm R₀ q
  obtain ⟨a, σ1, h1, hm⟩ := abind_some hm
  obtain ⟨o, h3, hm⟩ := map_some' hm
  (first | replace q := tr2 hm q | cases hm)
  exact wpAny_isTrue_value (h _ _ _ _ _ _ _ _ h1 R₀ fun x α1 hh1 tk1 g1 v1 => truth_any v1 h3 (q _ α1 hh1 tk1 g1 rfl)) (he _)
noncomputable def bNot (m : AM Bool) : AM Bool := abind m fun b => fun _ σ => some (!b, σ)
theorem simB_not {x : Expr} {pos : Pos} {whole} {m : AM Bool} (h : SimB prog w c (isTrue x c.env (eval x c.env)) m) : SimB prog w c (isTrue (.UnaryOp .Not x pos) c.env whole) (bNot m) := by
  intro ρ σ v σ' α s Q E hm R₀ q
  obtain ⟨a, σ1, h1, hm⟩ := abind_some hm
  (first | replace q := tr2 hm q | cases hm)
  exact wpAny_isTrue_Not (h _ _ _ _ _ _ _ _ h1 R₀ fun x α1 hh1 tk1 g1 v1 => by subst v1; exact q _ α1 hh1 tk1 g1 rfl)
noncomputable def bAnd : List (AM Bool) → AM Bool
  | [] => apure true
  | m :: r => abind m fun b => if b then bAnd r else apure false
noncomputable def bOr : List (AM Bool) → AM Bool
  | [] => apure false
  | m :: r => abind m fun b => if b then apure true else bOr r
noncomputable def SimOr (prog : Program) (w : World) (c : Cx) (es : List Expr) (ms : List (AM Bool)) : Prop := SimB prog w c (allTrue .Or es c.env) (bOr ms)
theorem simOr_nil : SimOr prog w c [] [] := by
  intro ρ σ v σ' α s Q E hm R₀ q
  (first | replace q := tr2 hm q | cases hm)
  exact wpAny_allTrue_Or_nil (q _ α s.heap s.toks (Grow.refl ..) rfl)
theorem simOr_cons {x : Expr} {rest m ms} (h : SimB prog w c (isTrue x c.env (eval x c.env)) m) (hr : SimOr prog w c rest ms) : SimOr prog w c (x :: rest) (m :: ms) := by
  intro ρ σ v σ' α s Q E hm R₀ q
  obtain ⟨a, σ1, h1, hm⟩ := abind_some hm
  refine wpAny_allTrue_Or_cons (h _ _ _ _ _ _ _ _ h1 R₀ fun x α1 hh1 tk1 g1 v1 => ?_)
  subst v1
  cases a with
  | true => (first | replace q := tr2 hm q | cases hm); exact q _ α1 hh1 tk1 g1 rfl
  | false => exact hr _ _ _ _ _ { s with heap := hh1, toks := tk1 } _ _ hm (R₀.grow g1) fun x α2 hh2 tk2 g2 v2 => q _ α2 hh2 tk2 (g1.trans g2) v2
theorem simB_or {es ms pos whole} (h : SimOr prog w c es ms) : SimB prog w c (isTrue (.BoolOp .Or es pos) c.env whole) (bOr ms) := by
  intro ρ σ v σ' α s Q E hm R₀ q
  exact wpAny_isTrue_BoolOp (h _ _ _ _ _ _ _ _ hm R₀ q)
noncomputable def vAnd : List (AM AV) → AM AV
  | [] => fun _ _ => none
  | [m] => m
  | m :: r => abind m fun v => fun ρ σ => (aTruth v).bind fun b => if b then vAnd r ρ σ else some (v, σ)
noncomputable def SimVAnd (prog : Program) (w : World) (c : Cx) (es : List Expr) (ms : List (AM AV)) : Prop := ∀ pos, Sim prog w c (boolOp pos .And (evalEach es c.env)) (vAnd ms)
theorem simVAnd_one {e m} (h : Sim prog w c (eval e c.env) m) : SimVAnd prog w c [e] [m] := fun _ => h
theorem simVAnd_cons {e e' es m m' ms} (h : Sim prog w c (eval e c.env) m) (hr : SimVAnd prog w c (e' :: es) (m' :: ms)) : SimVAnd prog w c (e :: e' :: es) (m :: m' :: ms) := by
  intro pos ρ σ v σ' α s Q E hm R₀ q
  obtain ⟨a, σ1, h1, hm⟩ := abind_some hm
  obtain ⟨b, h2, hm⟩ := bind_some' hm
  show wpAny _ _ (boolOp pos .And (eval e c.env :: eval e' c.env :: evalEach es c.env)) _ _ _
  refine wpAny_bind (h _ _ _ _ _ _ _ _ h1 R₀ fun x α1 hh1 tk1 g1 v1 => wpAny_bind (wpAny_standAt (wpAny_bind (wpAny_holding (truth_any v1 h2 ?_)))))
  cases b with
  | false => (first | replace q := tr2 hm q | cases hm); exact wpAny_pure (q _ α1 hh1 tk1 g1 v1)
  | true => exact hr pos _ _ _ _ _ { s with heap := hh1, toks := tk1 } _ _ hm (R₀.grow g1) fun x α2 hh2 tk2 g2 v2 => q _ α2 hh2 tk2 (g1.trans g2) v2
theorem sim_and {es ms pos} (h : SimVAnd prog w c es ms) : Sim prog w c (eval (.BoolOp .And es pos) c.env) (vAnd ms) := h pos
noncomputable def aNot (m : AM AV) : AM AV := abind m fun v => fun _ σ => (aTruth v).map fun b => (.bool (!b), σ)
theorem sim_not {x : Expr} {pos : Pos} {m : AM AV} (h : Sim prog w c (eval x c.env) m) : Sim prog w c (eval (.UnaryOp .Not x pos) c.env) (aNot m) := by
  intro ρ σ v σ' α s Q E hm R₀ q
  obtain ⟨a, σ1, h1, hm⟩ := abind_some hm
  obtain ⟨o, h3, hm⟩ := map_some' hm
  (first | replace q := tr2 hm q | cases hm)
  exact wpAny_UnaryOp (h _ _ _ _ _ _ _ _ h1 R₀ fun x α1 hh1 tk1 g1 v1 => not_value (truth_any v1 h3 (q _ α1 hh1 tk1 g1 (.bool _))))
end
end Inn
end
section
set_option maxRecDepth 10000
set_option linter.unusedVariables false
namespace Inn
open PySem
variable {prog : Program} {w : World}
section
variable {c : Cx}
noncomputable def aNeg (m : AM AV) : AM AV := abind m fun v => fun _ σ => match v with
  | .int i => some (.int (-i), σ)
  | _ => none
theorem sim_neg {x : Expr} {pos : Pos} {m : AM AV} (h : Sim prog w c (eval x c.env) m) : Sim prog w c (eval (.UnaryOp .USub x pos) c.env) (aNeg m) := by
  intro ρ σ v σ' α s Q E hm R₀ q
  obtain ⟨a, σ1, h1, hm⟩ := abind_some hm
  refine wpAny_UnaryOp (h _ _ _ _ _ _ _ _ h1 R₀ fun x α1 hh1 tk1 g1 v1 => ?_)
  cases a with
  | int i =>
    obtain ⟨t, rfl⟩ := v1.inv_int
    exact P.neg_int (tr2 hm q _ α1 hh1 _ g1 (.int _ _))
  | _ => exact nos hm
noncomputable def aArgs : List (AM AV) → AM (List AV)
  | [] => apure []
  | m :: r => abind m fun v => abind (aArgs r) fun vs => apure (v :: vs)
noncomputable def SimA (prog : Program) (w : World) (c : Cx) (es : List Expr) (ms : List (AM AV)) : Prop := ∀ pos, SimL prog w c (spliced (backTo pos (starEach es c.env))) (aArgs ms)
theorem simA_nil : SimA prog w c [] [] := by
  intro pos ρ σ v σ' α s Q E hm R₀ q
  (first | replace q := tr2 hm q | cases hm)
  exact wpAny_items_nil (q _ α s.heap s.toks (Grow.refl ..) .nil)
theorem simA_cons {e es m ms} (h : Sim prog w c (eval e c.env) m) (hr : SimA prog w c es ms) (he : starEach (e :: es) c.env = (false, eval e c.env) :: starEach es c.env := by rfl) : SimA prog w c (e :: es) (m :: ms) := by
  intro pos ρ σ v σ' α s Q E hm R₀ q
  obtain ⟨a, σ1, h1, hm⟩ := abind_some hm
  obtain ⟨b, σ2, h2, hm⟩ := abind_some hm
  (first | replace q := tr2 hm q | cases hm)
  refine wpAny_items_cons (h _ _ _ _ _ _ _ _ h1 R₀ fun x α1 hh1 tk1 g1 v1 => ?_) he
  exact hr pos _ _ _ _ _ { s with heap := hh1, toks := tk1 } _ _ h2 (R₀.grow g1) fun y α2 hh2 tk2 g2 v2 => q _ α2 hh2 tk2 (g1.trans g2) (.cons (v1.up g2.up) v2)
noncomputable def aList (ms : List (AM AV)) : AM AV := abind (aArgs ms) fun vs => fun _ σ => if vs.length ≤ 1000000 then some (.ref σ.length, σ ++ [.list vs]) else none
theorem sim_List {es pos ms} (h : SimA prog w c es ms) : Sim prog w c (eval (.List es pos) c.env) (aList ms) := by
  intro ρ σ v σ' α s Q E hm R₀ q
  obtain ⟨a, σ1, h1, hm⟩ := abind_some hm
  obtain ⟨hl, hm⟩ := ite_some hm
  replace q := tr2 hm q
  refine wpAny_List (h pos _ _ _ _ _ _ _ _ h1 R₀ fun xs α1 hh1 tk1 g1 v1 => ?_)
  have hl' : xs.length ≤ 1000000 := v1.length ▸ hl
  obtain ⟨α', g, v⟩ := grow_list (a := hh1.objs.size) (ep := 0) (R₀.grow g1) (HK.push hh1 { cls := .type "list", data := .seq xs.toArray }) (get?_size_none _) (by rw [Heap.get?_push_size _ rfl]) v1 hl'
  exact ⟨le_sizeLine hl', q _ α' _ tk1 (g1.trans g) v⟩
noncomputable def aTup (ms : List (AM AV)) : AM AV := abind (aArgs ms) fun vs => fun _ σ => if vs.length ≤ 1000000 then some (.tup vs, σ) else none
theorem sim_Tuple {es k pos ms} (h : SimA prog w c es ms) : Sim prog w c (eval (.Tuple es k pos) c.env) (aTup ms) := by
  intro ρ σ v σ' α s Q E hm R₀ q
  obtain ⟨a, σ1, h1, hm⟩ := abind_some hm
  obtain ⟨hl, hm⟩ := ite_some hm
  replace q := tr2 hm q
  refine wpAny_Tuple (h pos _ _ _ _ _ _ _ _ h1 R₀ fun xs α1 hh1 tk1 g1 v1 => ?_)
  have k : HK hh1 (hh1.push (tupObj xs)) := HK.push hh1 _
  exact ⟨le_sizeLine (v1.length ▸ hl), q _ α1 _ tk1 (g1.trans (Grow.same k α1 _)) (.tup (Heap.get?_push_size _ rfl) (v1.up ⟨Nat.le_refl _, fun _ _ => rfl, k.vk⟩))⟩
theorem wpAny_Subscript_any {A : Around} {E : Value → Shared → Prop} {s : Shared} {env : Env} {value slice : Expr} {pos : Pos} {Q : Value → Shared → Prop}
    (hs : ∀ o i, subscripted slice false o i = operate [o, i] (getItem o i))
    (h : wpAny (model prog w) A (eval value env) (fun o s₁ => wpAny (model prog w) A (eval slice env) (fun i s₂ => SubscriptOn (model prog w) A o i Q E s₂) E s₁) E s) :
    wpAny (model prog w) A (eval (.Subscript value slice pos) env) Q E s := by
  rw [eval_Subscript]
  refine wpAny_bind (wpAny_mono h (fun o s₁ h₁ => wpAny_bind (wpAny_holding (wpAny_mono h₁ (fun i s₂ h₂ => wpAny_bind (wpAny_standAt ?_)) fun _ _ x => x)))
    fun _ _ x => x)
  obtain ⟨T, id, hl, hT, hg⟩ := h₂
  refine wpAny_bind ?_
  rw [getitemInPython_of_ne hT.not_modules]
  refine wpAny_bind (wpAny_specialOf hT hl ?_)
  refine wpAny_pure ?_
  show wpAny _ _ (subscripted slice false o i >>= _) _ _ _
  rw [hs]
  exact wpAny_bind (wpAny_operating (wpAny_mono hg (fun r s₃ h₃ => wpAny_bind (wpAny_letTemporaryGo (wpAny_pure h₃))) fun _ _ x => x))
noncomputable def look (kvs : List (Int × AV)) (k : Int) : Option AV := (kvs.find? fun kv => decide (kv.1 = k)).map (·.2)
noncomputable def getI : AV → AV → Store → Option (AV × Store)
  | .ref i, .int k, σ => match σ[i]? with
    | some (.list vs) => if 0 ≤ k then (vs[k.toNat]?).map fun v => (v, σ) else none
    | some (.dict kvs) => (look kvs k).map fun v => (v, σ)
    | none => none
  | .tup vs, .int k, σ => if 0 ≤ k ∧ k < 1000000 then (vs[k.toNat]?).map fun v => (v, σ) else none
  | _, _, _ => none
theorem KR.look {h α n vs xs} (r : KR h α n vs xs) {k : Int} {v : AV} (e : look vs k = some v) : ∃ x, valueAt xs k = some x ∧ VR h α n v x := by
  induction r with
  | nil => exact nos e
  | @cons k' v' x' vs' xs' a r ih =>
    unfold Inn.look at e
    unfold valueAt at ih ⊢
    by_cases hk : k' = k
    · rw [List.find?_cons_of_pos (by exact decide_eq_true hk)] at e ⊢
      exact ⟨x', rfl, Option.some.inj e ▸ a⟩
    · rw [List.find?_cons_of_neg (by simpa using hk)] at e ⊢
      exact ih e
theorem R.dict {ρ : AEnv} {σ : Store} {α : Nat → Addr} {h : Heap} {i : Nat} {kvs : List (Int × AV)} (r : R prog w c α ρ σ h) (e : σ[i]? = some (.dict kvs)) :
    ∃ xs, h.DictOf (intKind prog w) (α i) xs ∧ KR h α σ.length kvs xs ∧ α i ≠ sysModules ∧ xs.length ≤ 1000000 := by
  cases r.objs i _ e with
  | dict a b c d => exact ⟨_, a, b, c, d⟩
theorem KR.length {h α n vs xs} (r : KR h α n vs xs) : vs.length = xs.length := by
  induction r with
  | nil => rfl
  | cons _ _ ih => exact congrArg Nat.succ ih
theorem mapOf_of_dictOf {h : Heap} {a : Addr} {kvs : List (Int × Value)} (d : h.DictOf (intKind prog w) a kvs) : h.MapOf (intKind prog w) a (valueAt kvs) := by
  obtain ⟨o, es, ep, ho, hx, hd, hk, hp, hn⟩ := d
  refine ⟨o, es, ep, ho, hx, hd, hk, fun k => ?_⟩
  rw [← hp.find k]
  cases es
  simp [findBy]
theorem get_lt {β : Type} {xs : List β} {k : Int} {v : β} (h0 : 0 ≤ k) (e : xs[k.toNat]? = some v) : k < xs.length := by
  have := (List.getElem?_eq_some_iff.mp e).1
  omega
theorem getI_inv {a b : AV} {σ : Store} {r} {C : Prop} (h : getI a b σ = some r) (k1 : ∀ i k vs v, a = .ref i → b = .int k → σ[i]? = some (.list vs) → 0 ≤ k → vs[k.toNat]? = some v → (v, σ) = r → C)
    (k2 : ∀ i k kvs v, a = .ref i → b = .int k → σ[i]? = some (.dict kvs) → look kvs k = some v → (v, σ) = r → C) (k3 : ∀ vs k v, a = .tup vs → b = .int k → (0 ≤ k ∧ k < 1000000) → vs[k.toNat]? = some v → (v, σ) = r → C) : C := by
  cases a with
  | ref i =>
    replace k1 := k1 i
    replace k2 := k2 i
    clear k3
    cases b with
    | int k =>
      unfold getI at h
      dsimp only at h
      cases e : σ[i]? with
      | none => rw [e] at h; exact nos h
      | some o =>
        rw [e] at h
        cases o with
        | list vs => obtain ⟨v, e2, h2⟩ := map_some' (ite_some h).2; exact k1 k vs v rfl rfl e (ite_some h).1 e2 h2
        | dict kvs => obtain ⟨v, e2, h2⟩ := map_some' h; exact k2 k kvs v rfl rfl e e2 h2
    | _ => exact nos h
  | tup vs =>
    cases b with
    | int k => obtain ⟨v, e2, h2⟩ := map_some' (ite_some h).2; exact k3 vs k v rfl rfl (ite_some h).1 e2 h2
    | _ => exact nos h
  | _ => exact nos h
set_option tactic.hygienic true in
theorem getI_any {ρ : AEnv} {σ σ' : Store} {α : Nat → Addr} {s : Shared} {a b v : AV} {x y : Value} {Q : Value → Shared → Prop} {E : Value → Shared → Prop} (hm : getI a b σ = some (v, σ')) (r : R prog w c α ρ σ s.heap)
    (va : VR s.heap α σ.length a x) (vb : VR s.heap α σ.length b y) (q : ∀ z tk', σ = σ' → VR s.heap α σ.length v z → Q z { s with toks := tk' }) : SubscriptOn (model prog w) c.A x y Q E s := by
  refine getI_inv hm (fun i k vs v' ea eb e1 h0 e2 hr => ?_) (fun i k kvs v' ea eb e1 e2 hr => ?_) fun vs k v' ea eb h0 e1 hr => ?_
  · obtain ⟨hi, rfl⟩ := VR.inv_ref (ea ▸ va)
    obtain ⟨t, rfl⟩ := VR.inv_int (eb ▸ vb)
    obtain ⟨is, n1, g1, v1, l1⟩ := r.list e1
    obtain ⟨z, hz, hv⟩ := v1.get _ _ e2
    have hlt := get_lt h0 hz
    exact ⟨"list", _, slot_list_getitem.lookup, ⟨_, g1, rfl⟩, wpAny_getItem_list ⟨_, g1, rfl, _, rfl⟩ h0 (by omega) (by simpa using hz) (q z s.toks (Prod.mk.inj hr).2 ((Prod.mk.inj hr).1 ▸ hv))⟩
  · obtain ⟨hi, rfl⟩ := VR.inv_ref (ea ▸ va)
    obtain ⟨t, rfl⟩ := VR.inv_int (eb ▸ vb)
    obtain ⟨xs, hd, hk, hne, hl⟩ := r.dict e1
    obtain ⟨z, hz, hv⟩ := hk.look e2
    exact ⟨"dict", _, F.slot_dict_getitem.lookup, hd.typeIs, wpAny_getItem_of (knd := intKind prog w) (k := _) (by simp [intKind, Value.isInt]) (mapOf_of_dictOf hd) hz (q z _ (Prod.mk.inj hr).2 ((Prod.mk.inj hr).1 ▸ hv))⟩
  · obtain ⟨a, is, rfl, e, r'⟩ := VR.inv_tup (ea ▸ va)
    obtain ⟨t, rfl⟩ := VR.inv_int (eb ▸ vb)
    obtain ⟨z, hz, hv⟩ := r'.get _ _ e1
    have hlt := get_lt h0.1 hz
    exact ⟨"tuple", _, F.slot_tuple_getitem.lookup, ⟨_, e, rfl⟩, P.getItem_tuple (k := Int.toNat _) e (by omega) (by omega) (seqIndex_of h0.1 (by simpa using hlt)) (by simpa using hz) (q z s.toks (Prod.mk.inj hr).2 ((Prod.mk.inj hr).1 ▸ hv))⟩
noncomputable def aSub (a b : AM AV) : AM AV := aBin getI a b
theorem sim_Sub {e i : Expr} {pos : Pos} {ma mb : AM AV} (hs : ∀ o x, subscripted i false o x = operate [o, x] (getItem o x)) (ha : Sim prog w c (eval e c.env) ma) (hb : Sim prog w c (eval i c.env) mb) :
    Sim prog w c (eval (.Subscript e i pos) c.env) (aSub ma mb) := by
  intro ρ σ v σ' α s Q E hm R₀ q
  unfold aSub aBin at hm
  obtain ⟨a, σ1, h1, hm⟩ := abind_some (m := ma) hm
  obtain ⟨b, σ2, h2, hm⟩ := abind_some (m := mb) hm
  refine wpAny_Subscript_any hs (ha _ _ _ _ _ _ _ _ h1 R₀ fun x α1 hh1 tk1 g1 v1 => ?_)
  refine hb _ _ _ _ _ { s with heap := hh1, toks := tk1 } _ _ h2 (R₀.grow g1) fun y α2 hh2 tk2 g2 v2 => ?_
  exact getI_any (s := { s with heap := hh2, toks := tk2 }) hm ((R₀.grow g1).grow g2) (v1.up g2.up) v2 fun z tk3 e hv => by subst e; exact q z α2 hh2 tk3 (g1.trans g2) hv
noncomputable def aUpto (a b : AM AV) : AM AV := aBin (fun x y σ => match x, y with
  | .ref i, .int k => (match σ[i]? with
    | some (.list vs) => if 0 ≤ k then some (.ref σ.length, σ ++ [.list (vs.take k.toNat)]) else none
    | _ => none)
  | _, _ => none) a b
set_option tactic.hygienic true in
theorem sim_upto {e i : Expr} {p pos : Pos} {ma mb : AM AV} (ha : Sim prog w c (eval e c.env) ma) (hb : Sim prog w c (eval i c.env) mb) (ht : ∀ o r, letTemporaryGo e o r = pure ()) :
    Sim prog w c (eval (.Subscript e (.Slice none (some i) none p) pos) c.env) (aUpto ma mb) := by
  intro ρ σ v σ' α s Q E hm R₀ q
  unfold aUpto aBin at hm
  obtain ⟨a, σ1, h1, hm⟩ := abind_some (m := ma) hm
  obtain ⟨b, σ2, h2, hm⟩ := abind_some (m := mb) hm
  refine wpAny_Subscript_list_slice (ha _ _ _ _ _ _ _ _ h1 R₀ fun x α1 hh1 tk1 g1 v1 => ?_) ht
  rw [evalPart_none, evalPart_some]
  refine wpAny_pure ?_
  refine hb _ _ _ _ _ { s with heap := hh1, toks := tk1 } _ _ h2 (R₀.grow g1) fun y α2 hh2 tk2 g2 v2 => ?_
  have r2 := (R₀.grow g1).grow g2
  have v1' := v1.up g2.up
  dsimp only at hm
  split at hm
  case h_2 => (first | exact nos hm | cases hm)
  rename_i i k hm0
  obtain ⟨hi, rfl⟩ := v1'.inv_ref
  obtain ⟨t, rfl⟩ := v2.inv_int
  split at hm
  · rename_i vs e1
    split at hm
    · rename_i h0
      (first | replace q := tr2 hm q | cases hm)
      obtain ⟨is, n1, g1', v1', l1⟩ := r2.list e1
      refine ⟨_, _, none, some k, rfl, ⟨_, g1', rfl, _, rfl⟩, le_sizeLine (by simpa using l1), .none, .int _ _, ?_⟩
      obtain ⟨k, rfl⟩ : ∃ j : Nat, k = j := ⟨k.toNat, by omega⟩
      rw [slicePick_upto']
      have kk : HK hh2 ((hh2.push { cls := .type "slice", data := .fields #[.none, .int k t, .none] }).push { cls := .type "list", data := .seq (is.take k).toArray }) := HK.trans (HK.push _ _) (HK.push _ _)
      have e3 : (hh2.push { cls := .type "slice", data := .fields #[.none, .int k t, .none] }).objs.size = hh2.objs.size + 1 := Heap.size_push ..
      obtain ⟨α', g, v⟩ := grow_list (a := hh2.objs.size + 1) (ep := 0) (items := is.take k) r2 kk (by
          cases e : hh2.get? (hh2.objs.size + 1) with
          | none => rfl
          | some o => exact absurd (Heap.lt_size e) (Nat.not_lt.mpr (Nat.le_succ _))) (by rw [← e3, Heap.get?_push_size _ rfl]) (v1'.take k) (by rw [List.length_take]; omega)
      exact q _ α' _ tk2 ((g1.trans g2).trans g) v
    · (first | exact nos hm | cases hm)
  · (first | exact nos hm | cases hm)
end
end Inn
end
section
set_option maxRecDepth 10000
set_option linter.unusedVariables false
namespace Inn
open PySem
variable {prog : Program} {w : World}
structure Ok (c : Cx) : Prop where
  fn : c.env.scope.kind = .function
  freshL : c.h₀.get? c.env.locals = none
  freshC : ∀ x a, c.env.cells.lookup x = some a → c.h₀.get? a = none
  apartC : ∀ x y a, c.env.cells.lookup x = some a → c.env.cells.lookup y = some a → x = y
  hand : c.A.handled = none
inductive AF where
  | next
  | ret (v : AV)
inductive FR (h : Heap) (α : Nat → Addr) (n : Nat) : AF → Flow → Prop
  | next : FR h α n .next .next
  | ret {v x} : VR h α n v x → FR h α n (.ret v) (.ret x)
abbrev AS := AEnv → Store → Option (AF × AEnv × Store)
noncomputable def SimS (prog : Program) (w : World) (c : Cx) (t : Sem Flow) (m : AS) : Prop :=
  ∀ (ρ : AEnv) (σ : Store) (f : AF) (ρ' : AEnv) (σ' : Store) (α : Nat → Addr) (s : Shared) (Q : Flow → Shared → Prop) (E : Value → Shared → Prop), m ρ σ = some (f, ρ', σ') → R prog w c α ρ σ s.heap →
    (∀ x α' h' tk', R prog w c α' ρ' σ' h' → Up s.heap α σ.length h' α' σ'.length → FK s.heap h' → FR h' α' σ'.length f x → Q x { s with heap := h', toks := tk' }) → wpAny (model prog w) c.A t Q E s
section
variable {c : Cx}
abbrev KS (prog : Program) (w : World) (c : Cx) (s₀ : Shared) (α₀ : Nat → Addr) (n₀ : Nat) (Q : Flow → Shared → Prop) (f : AF) (ρ' : AEnv) (σ' : Store) : Prop :=
  ∀ x α' h' tk', R prog w c α' ρ' σ' h' → Up s₀.heap α₀ n₀ h' α' σ'.length → FK s₀.heap h' → FR h' α' σ'.length f x → Q x { s₀ with heap := h', toks := tk' }
theorem tr3 {s₀ α₀ n₀ Q} {f f' : AF} {ρ ρ' : AEnv} {σ σ' : Store} (h : some (f', ρ', σ') = some (f, ρ, σ)) (q : KS prog w c s₀ α₀ n₀ Q f ρ σ) : KS prog w c s₀ α₀ n₀ Q f' ρ' σ' := by cases h; exact q
theorem Grow.fk {h α σ h' α' σ'} (g : Grow prog w h α σ h' α' σ') : FK h h' := g.keep.fk
noncomputable def OffK (c : Cx) (h h' : Heap) : Prop := ∀ b o, h.get? b = some o → b ≠ c.env.locals → (∀ z, c.env.cells.lookup z ≠ some b) → h'.get? b = some o
theorem R.sameBut {α ρ ρ' σ h h'} {a : Addr} (ok : Ok c) (r : R prog w c α ρ σ h) (hs : ∀ b o, b ≠ a → h.get? b = some o → h'.get? b = some o) (h0 : c.h₀.get? a = none) (ha : ∀ i, i < σ.length → α i ≠ a)
    (hfx : ∀ o, h.get? a = some o → ¬ Fixed o)
    (henv : ∃ (m cm : Str → Option Value), h'.Ns c.env.locals m ∧ (∀ x a, c.env.cells.lookup x = some a → h'.IsCell a (cm x)) ∧
      (∀ x v, ρ' x = some v → c.env.kindOf x = some .local → ∃ y, m x = some y ∧ VR h α σ.length v y) ∧
      (∀ x v, ρ' x = some v → (c.env.kindOf x = some .cell ∨ c.env.kindOf x = some .free) → ∃ y, cm x = some y ∧ VR h α σ.length v y))
    (hd : ρ' ".0" = none) : R prog w c α ρ' σ h' ∧ Up h α σ.length h' α σ.length ∧ FK h h' := by
  have fk : FK h h' := fun b o e f => hs b o (fun q => hfx o (q ▸ e) f) e
  have u : Up h α σ.length h' α σ.length := ⟨Nat.le_refl _, fun _ _ => rfl, fk.vk⟩
  refine ⟨⟨fun b o e => hs b o (fun q => by subst q; rw [h0] at e; cases e) (r.keep b o e), ?_, hd, fun i o e => ?_, r.inj, r.own, r.apart⟩, u, fk⟩
  · obtain ⟨m, cm, e1, e2, e3, e4⟩ := henv
    exact ⟨m, cm, e1, e2, fun x v hx hk => let ⟨y, hy, hv⟩ := e3 x v hx hk; ⟨y, hy, hv.up u⟩, fun x v hx hk => let ⟨y, hy, hv⟩ := e4 x v hx hk; ⟨y, hy, hv.up u⟩⟩
  · have hi : i < σ.length := (List.getElem?_eq_some_iff.mp e).1
    exact (r.objs i o e).up u fun ob ho => hs _ _ (ha i hi) ho
theorem store_local {α ρ σ} {s : Shared} {x : Str} {v : AV} {y : Value} {Q : Unit → Shared → Prop} {E} (ok : Ok c) (r : R prog w c α ρ σ s.heap) (hl : c.env.kindOf x = some .local) (hx : x ≠ ".0") (hv : VR s.heap α σ.length v y)
    (q : ∀ h' tk', R prog w c α (upd ρ x v) σ h' → Up s.heap α σ.length h' α σ.length → FK s.heap h' → (∀ b o, b ≠ c.env.locals → s.heap.get? b = some o → h'.get? b = some o) → Q () { s with heap := h', toks := tk' }) : wpAny (model prog w) c.A (storeName c.env x y) Q E s := by
  obtain ⟨m, cm, e1, e2, e3, e4⟩ := r.env
  refine wpAny_storeName_local hl e1 (fun h' hn hs => ?_) (by rw [ok.fn]; rfl)
  obtain ⟨ob, es, ep, ho, hdt, _⟩ := id e1
  have hc : ∀ z a, c.env.cells.lookup z = some a → a ≠ c.env.locals := fun z a hz q => by
    obtain ⟨o', ho', hd'⟩ := e2 z a hz
    rw [q, ho] at ho'; cases ho'; rw [hdt] at hd'; cases hd'
  have henv : ∃ (m cm : Str → Option Value), h'.Ns c.env.locals m ∧ (∀ x a, c.env.cells.lookup x = some a → h'.IsCell a (cm x)) ∧
      (∀ z v', upd ρ x v z = some v' → c.env.kindOf z = some .local → ∃ y, m z = some y ∧ VR s.heap α σ.length v' y) ∧
      (∀ z v', upd ρ x v z = some v' → (c.env.kindOf z = some .cell ∨ c.env.kindOf z = some .free) → ∃ y, cm z = some y ∧ VR s.heap α σ.length v' y) := by
    refine ⟨_, cm, hn, fun z a hz => (e2 z a hz).sameBut hs (hc z a hz), fun z v' hz hk => ?_, fun z v' hz hk => ?_⟩
    · by_cases hzx : z = x
      · subst hzx
        simp only [upd, if_true, Option.some.injEq] at hz
        subst hz
        exact ⟨y, by simp, hv⟩
      · simp only [upd, hzx, if_false] at hz ⊢
        exact e3 z v' hz hk
    · have hzx : z ≠ x := fun e => by subst e; rw [hl] at hk; simp at hk
      simp only [upd, hzx, if_false] at hz
      exact e4 z v' hz hk
  obtain ⟨r', u, fk⟩ := R.sameBut (ρ' := upd ρ x v) (a := c.env.locals) ok r (fun b o hb e => hs.extBut b o hb e) ok.freshL (fun i hi => r.apart i hi) (fun o e f => by
      rw [ho] at e; cases e
      rcases f with ⟨vs, f⟩ | ⟨_, xs, n, f⟩ <;> rw [hdt] at f <;> cases f) henv (by
      have : ¬ ((".0" : Str) = x) := fun e => hx e.symm
      simp only [upd, this, if_false]; exact r.dot)
  exact q h' _ r' u fk fun b o hb e => hs.extBut b o hb e
theorem store_cell {α ρ σ} {s : Shared} {x : Str} {v : AV} {y : Value} {Q : Unit → Shared → Prop} {E} (ok : Ok c) (r : R prog w c α ρ σ s.heap) (hl : c.env.kindOf x = some .cell) (hcx : (c.env.cells.lookup x).isSome = true) (hx : x ≠ ".0") (hv : VR s.heap α σ.length v y)
    (q : ∀ h' tk', R prog w c α (upd ρ x v) σ h' → Up s.heap α σ.length h' α σ.length → FK s.heap h' → OffK c s.heap h' → Q () { s with heap := h', toks := tk' }) : wpAny (model prog w) c.A (storeName c.env x y) Q E s := by
  obtain ⟨m, cm, e1, e2, e3, e4⟩ := r.env
  obtain ⟨a, ha⟩ := Option.isSome_iff_exists.mp hcx
  have hca := e2 x a ha
  refine wpAny_storeName_cell ok.fn hl ha hca (fun h' hc' hs => ?_)
  obtain ⟨oa, hoa, hda⟩ := id hca
  have hLa : c.env.locals ≠ a := fun e => by
    obtain ⟨ob, es, ep, ho, hdt, _⟩ := e1
    rw [e, hoa] at ho; cases ho; rw [hda] at hdt; cases hdt
  have henv : ∃ (m cm : Str → Option Value), h'.Ns c.env.locals m ∧ (∀ x a, c.env.cells.lookup x = some a → h'.IsCell a (cm x)) ∧
      (∀ z v', upd ρ x v z = some v' → c.env.kindOf z = some .local → ∃ y, m z = some y ∧ VR s.heap α σ.length v' y) ∧
      (∀ z v', upd ρ x v z = some v' → (c.env.kindOf z = some .cell ∨ c.env.kindOf z = some .free) → ∃ y, cm z = some y ∧ VR s.heap α σ.length v' y) := by
    refine ⟨m, fun z => if z = x then some y else cm z, e1.sameBut hs hLa, fun z b hz => ?_, fun z v' hz hk => ?_, fun z v' hz hk => ?_⟩
    · by_cases hzx : z = x
      · subst hzx
        rw [ha] at hz; cases hz
        simpa using hc'
      · simp only [hzx, if_false]
        exact (e2 z b hz).sameBut hs fun e => hzx (ok.apartC z x a (e ▸ hz) ha)
    · have hzx : z ≠ x := fun e => by subst e; rw [hl] at hk; simp at hk
      simp only [upd, hzx, if_false] at hz
      exact e3 z v' hz hk
    · by_cases hzx : z = x
      · subst hzx
        simp only [upd, if_true, Option.some.injEq] at hz
        subst hz
        exact ⟨y, by simp, hv⟩
      · simp only [upd, hzx, if_false] at hz ⊢
        exact e4 z v' hz hk
  obtain ⟨r', u, fk⟩ := R.sameBut (ρ' := upd ρ x v) (a := a) ok r (fun b o hb e => hs.extBut b o hb e) (ok.freshC x a ha) (fun i hi e => by
      obtain ⟨ob, ho, _, hnc⟩ := (r.objs i σ[i] (by simp [hi])).some
      rw [e, hoa] at ho; cases ho; exact hnc _ hda) (fun o e f => by
      rw [hoa] at e; cases e
      rcases f with ⟨vs, f⟩ | ⟨_, xs, n, f⟩ <;> rw [hda] at f <;> cases f) henv (by
      have : ¬ ((".0" : Str) = x) := fun e => hx e.symm
      simp only [upd, this, if_false]; exact r.dot)
  exact q h' _ r' u fk fun b o e _ hb => hs.extBut b o (fun e' => hb x (e' ▸ ha)) e
noncomputable def Storable (c : Cx) (x : Str) : Prop := x ≠ ".0" ∧ (c.env.kindOf x = some .local ∨ (c.env.kindOf x = some .cell ∧ (c.env.cells.lookup x).isSome = true))
theorem store_any {α ρ σ} {s : Shared} {x : Str} {v : AV} {y : Value} {Q : Unit → Shared → Prop} {E} (ok : Ok c) (st : Storable c x) (r : R prog w c α ρ σ s.heap) (hv : VR s.heap α σ.length v y)
    (q : ∀ h' tk', R prog w c α (upd ρ x v) σ h' → Up s.heap α σ.length h' α σ.length → FK s.heap h' → OffK c s.heap h' → Q () { s with heap := h', toks := tk' }) : wpAny (model prog w) c.A (storeName c.env x y) Q E s :=
  st.2.elim (fun h => store_local ok r h st.1 hv fun h' tk' r' u k o => q h' tk' r' u k fun b ob e hb _ => o b ob hb e) fun h => store_cell ok r h.1 h.2 st.1 hv q
noncomputable def sAssign (x : Str) (m : AM AV) : AS := fun ρ σ => (m ρ σ).bind fun p => some (.next, upd ρ x p.1, p.2)
theorem simS_Assign {x : Str} {pos' : Pos} {value : Expr} {pos : Pos} {m : AM AV} (ok : Ok c) (st : Storable c x) (hs : swapsWith value (some (.Name x pos')) pos.line c.env = pure false) (h : Sim prog w c (eval value c.env) m) :
    SimS prog w c (exec (.Assign [.Name x pos'] value pos) c.env) (sAssign x m) := by
  intro ρ σ f ρ' σ' α s Q E hm r q
  obtain ⟨⟨v, σ1⟩, h1, hm⟩ := bind_some' hm
  (first | replace q := tr2 hm q | replace q := tr3 hm q | cases hm)
  refine wpAny_Assign_Name (h _ _ _ _ _ _ _ _ h1 r fun x α1 hh1 tk1 g1 v1 => ?_) hs
  exact store_any (s := { s with heap := hh1, toks := tk1 }) ok st (r.grow g1) v1 fun h' tk' r' u fk _ => q _ α1 h' tk' r' (g1.up.trans u) (g1.fk.trans fk) .next
noncomputable def sRet (m : AM AV) : AS := fun ρ σ => (m ρ σ).bind fun p => some (.ret p.1, ρ, p.2)
theorem simS_Return {e : Expr} {pos : Pos} {m : AM AV} (h : Sim prog w c (eval e c.env) m) : SimS prog w c (exec (.Return (some e) pos) c.env) (sRet m) := by
  intro ρ σ f ρ' σ' α s Q E hm r q
  obtain ⟨⟨v, σ1⟩, h1, hm⟩ := bind_some' hm
  (first | replace q := tr2 hm q | replace q := tr3 hm q | cases hm)
  exact wpAny_Return_some (h _ _ _ _ _ _ _ _ h1 r fun x α1 hh1 tk1 g1 v1 => q _ α1 hh1 tk1 (r.grow g1) g1.up g1.fk (.ret v1))
noncomputable def sSeq (a b : AS) : AS := fun ρ σ => (a ρ σ).bind fun p => match p with
  | (.next, ρ', σ') => b ρ' σ'
  | (.ret v, ρ', σ') => some (.ret v, ρ', σ')
noncomputable def sNil : AS := fun ρ σ => some (.next, ρ, σ)
theorem simS_nil : SimS prog w c (execs [] c.env) sNil := by
  intro ρ σ f ρ' σ' α s Q E hm r q
  (first | replace q := tr2 hm q | replace q := tr3 hm q | cases hm)
  exact wpAny_execs_nil (q _ α s.heap s.toks r (Up.refl ..) (FK.refl _) .next)
theorem simS_cons {st : Stmt} {rest : List Stmt} {a b : AS} (h : SimS prog w c (exec st c.env) a) (hr : SimS prog w c (execs rest c.env) b) : SimS prog w c (execs (st :: rest) c.env) (sSeq a b) := by
  intro ρ σ f ρ' σ' α s Q E hm r q
  obtain ⟨⟨f1, ρ1, σ1⟩, h1, hm⟩ := bind_some' hm
  refine wpAny_execs_cons (h _ _ _ _ _ _ _ _ _ h1 r fun x α1 hh1 tk1 r1 u1 k1 v1 => ?_)
  cases v1 with
  | next => exact hr _ _ _ _ _ _ { s with heap := hh1, toks := tk1 } _ _ hm r1 fun x α2 hh2 tk2 r2 u2 k2 v2 => q _ α2 hh2 tk2 r2 (u1.trans u2) (k1.trans k2) v2
  | ret v => (first | replace q := tr2 hm q | replace q := tr3 hm q | cases hm); exact q _ α1 hh1 tk1 r1 u1 k1 (.ret v)
noncomputable def sIf (t : AM Bool) (a b : AS) : AS := fun ρ σ => (t ρ σ).bind fun p => if p.1 then a ρ p.2 else b ρ p.2
theorem simS_If {test : Expr} {body orelse : List Stmt} {pos : Pos} {t : AM Bool} {a b : AS} (ht : SimB prog w c (isTrue test c.env (eval test c.env)) t) (ha : SimS prog w c (execs body c.env) a) (hb : SimS prog w c (execs orelse c.env) b) :
    SimS prog w c (exec (.If test body orelse pos) c.env) (sIf t a b) := by
  intro ρ σ f ρ' σ' α s Q E hm r q
  obtain ⟨⟨v, σ1⟩, h1, hm⟩ := bind_some' hm
  refine wpAny_If (ht _ _ _ _ _ _ _ _ h1 r fun x α1 hh1 tk1 g1 v1 => ?_)
  subst v1
  cases v with
  | true => exact ha _ _ _ _ _ _ { s with heap := hh1, toks := tk1 } _ _ hm (r.grow g1) fun x α2 hh2 tk2 r2 u2 k2 v2 => q _ α2 hh2 tk2 r2 (g1.up.trans u2) (g1.fk.trans k2) v2
  | false => exact hb _ _ _ _ _ _ { s with heap := hh1, toks := tk1 } _ _ hm (r.grow g1) fun x α2 hh2 tk2 r2 u2 k2 v2 => q _ α2 hh2 tk2 r2 (g1.up.trans u2) (g1.fk.trans k2) v2
noncomputable def whileN (t : AM Bool) (b : AS) : Nat → AS
  | 0 => fun _ _ => none
  | n + 1 => fun ρ σ => (t ρ σ).bind fun p => if p.1 then (b ρ p.2).bind fun
      | (.next, ρ', σ') => whileN t b n ρ' σ'
      | (.ret v, ρ', σ') => some (.ret v, ρ', σ')
    else some (.next, ρ, p.2)
noncomputable def sWhile (t : AM Bool) (b : AS) : AS := whileN t b 1000
end
end Inn
end
section
set_option maxRecDepth 10000
set_option linter.unusedVariables false
namespace Inn
open PySem
variable {prog : Program} {w : World}
section
variable {c : Cx}
theorem whileN_inv {t : AM Bool} {b : AS} {n : Nat} {ρ : AEnv} {σ : Store} {r} (h : whileN t b n ρ σ = some r) : ∃ m v σ1, n = m + 1 ∧ t ρ σ = some (v, σ1) ∧ (if v then (b ρ σ1).bind fun
      | (.next, ρ', σ') => whileN t b m ρ' σ'
      | (.ret v, ρ', σ') => some (.ret v, ρ', σ')
    else some (.next, ρ, σ1)) = some r := by
  cases n with
  | zero => (first | exact nos h | cases h)
  | succ n => obtain ⟨⟨v, σ1⟩, h1, h⟩ := bind_some' h; exact ⟨n, v, σ1, rfl, h1, h⟩
inductive Run (prog : Program) (w : World) (c : Cx) (α₀ : Nat → Addr) (n₀ : Nat) (s₀ : Shared) (P : AEnv → Store → Heap → Prop) : Shared → Prop
  | mk (α : Nat → Addr) (ρ : AEnv) (σ : Store) (h : Heap) (tk : Nat) (p : P ρ σ h) (r : R prog w c α ρ σ h) (u : Up s₀.heap α₀ n₀ h α σ.length) (k : FK s₀.heap h) : Run prog w c α₀ n₀ s₀ P { s₀ with heap := h, toks := tk }
theorem simS_While {test : Expr} {body : List Stmt} {pos : Pos} {t : AM Bool} {b : AS} (ht : SimB prog w c (isTrue test c.env (eval test c.env)) t) (hb : SimS prog w c (execs body c.env) b) :
    SimS prog w c (exec (.While test body [] pos) c.env) (sWhile t b) := by
  intro ρ₀ σ₀ f ρ' σ' α₀ s₀ Q E hm r₀ q
  refine wpAny_While (codeAny_whileLoop (fun n s => Run prog w c α₀ σ₀.length s₀ (fun ρ σ _ => whileN t b n ρ σ = some (f, ρ', σ')) s) ?_ 1000
    (Run.mk (s₀ := s₀) α₀ ρ₀ σ₀ s₀.heap s₀.toks hm r₀ (Up.refl ..) (FK.refl _)))
  refine fun n s hI => wpAny_gen fun X hX => ?_
  induction hI with
  | mk α ρ σ h tk hm r u k =>
  obtain ⟨m, v, σ1, hn, h1, hm⟩ := whileN_inv hm
  refine ht _ _ _ _ _ { s₀ with heap := h, toks := tk } _ _ h1 r fun x α1 hh1 tk1 g1 v1 => ?_
  subst v1
  cases v with
  | false =>
    replace q := tr3 hm q
    exact hX _ _ (wpAny_execs_nil (q _ α1 hh1 tk1 (r.grow g1) (u.trans g1.up) (k.trans g1.fk) .next))
  | true =>
    obtain ⟨⟨f1, ρ1, σ2⟩, h2, hm⟩ := bind_some' hm
    refine hX _ _ (wpAny_gen fun Y hY => hb _ _ _ _ _ _ { s₀ with heap := hh1, toks := tk1 } _ _ h2 (r.grow g1) fun x α2 hh2 tk2 r2 u2 k2 v2 => ?_)
    cases v2 with
    | next => exact hY _ _ ⟨m, hn ▸ Nat.lt_succ_self _, .mk α2 ρ1 σ2 hh2 tk2 hm r2 ((u.trans g1.up).trans u2) ((k.trans g1.fk).trans k2)⟩
    | ret v =>
      replace q := tr3 hm q
      exact hY _ _ (q _ α2 hh2 tk2 r2 ((u.trans g1.up).trans u2) ((k.trans g1.fk).trans k2) (.ret v))
noncomputable def forR (x : Str) (b : AS) : List AV → AS
  | [] => sNil
  | v :: rest => fun ρ σ => (b (upd ρ x v) σ).bind fun
      | (.next, ρ', σ') => forR x b rest ρ' σ'
      | (.ret u, ρ', σ') => some (.ret u, ρ', σ')
open Classical in
noncomputable def forL (i : Nat) (vs : List AV) (x : Str) (b : AS) : List AV → AS
  | [] => fun ρ σ => if σ[i]? = some (.list vs) then some (.next, ρ, σ) else none
  | v :: rest => fun ρ σ => if σ[i]? = some (.list vs) then (b (upd ρ x v) σ).bind fun
      | (.next, ρ', σ') => forL i vs x b rest ρ' σ'
      | (.ret u, ρ', σ') => some (.ret u, ρ', σ')
    else none
noncomputable def rngL (lo hi : Int) : List AV := (List.range (hi - lo).toNat).map fun k : Nat => AV.int (lo + (k : Int))
abbrev rangeOk (lo hi : Int) : Prop := -(2 ^ 62) ≤ lo ∧ lo < 2 ^ 62 ∧ -(2 ^ 62) ≤ hi ∧ hi < 2 ^ 62
noncomputable def sFor (x : Str) (src : AM AV) (b : AS) : AS := fun ρ σ => (src ρ σ).bind fun p => match p.1 with
  | .rng lo hi => if rangeOk lo hi then forR x b (rngL lo hi) ρ p.2 else none
  | .ref i => (match p.2[i]? with
    | some (.list vs) => forL i vs x b vs ρ p.2
    | _ => none)
  | _ => none
theorem R.iter {α ρ σ h h'} {I : Addr} {o : Obj} {vs : Array Value} {T : String} (r : R prog w c α ρ σ h) (hI : h.get? I = some o) (hd : o.data = .fields vs) (hc : o.cls = .type T) (hT : T ≠ "tuple" ∧ T ≠ "range" ∧ T ≠ "dict_values") (h0 : c.h₀.get? I = none)
    (hs : ∀ b ob, b ≠ I → h.get? b = some ob → h'.get? b = some ob) : R prog w c α ρ σ h' ∧ VK h h' := by
  have vk : VK h h' := fun b ob e f => hs b ob (fun q => by
    subst q; rw [hI] at e; cases e
    rcases f with ⟨f, _⟩ | ⟨f | f, _⟩ <;> rw [hc] at f <;> injection f with f
    · exact hT.1 f
    · exact hT.2.1 f
    · exact hT.2.2 f) e
  have u : Up h α σ.length h' α σ.length := ⟨Nat.le_refl _, fun _ _ => rfl, vk⟩
  have hne : ∀ b ob, h.get? b = some ob → (∀ vs, ob.data ≠ .fields vs) → b ≠ I := fun b ob e f q => by
    subst q; rw [hI] at e; cases e; exact f _ hd
  obtain ⟨m, cm, e1, e2, e3, e4⟩ := r.env
  refine ⟨⟨fun b ob e => hs b ob (fun q => by subst q; rw [h0] at e; cases e) (r.keep b ob e), ⟨m, cm, ?_, fun x a hx => ?_, fun x v hx hk => let ⟨y, hy, hv⟩ := e3 x v hx hk; ⟨y, hy, hv.up u⟩, fun x v hx hk => let ⟨y, hy, hv⟩ := e4 x v hx hk; ⟨y, hy, hv.up u⟩⟩, r.dot, fun i ob e => ?_, r.inj, r.own, r.apart⟩, vk⟩
  · obtain ⟨ob, es, ep, ho, hdt, rest⟩ := e1
    exact ⟨ob, es, ep, hs _ _ (hne _ _ ho (fun vs => by rw [hdt]; simp)) ho, hdt, rest⟩
  · obtain ⟨ob, ho, hdt⟩ := e2 x a hx
    exact ⟨ob, hs _ _ (hne _ _ ho (fun vs => by rw [hdt]; simp)) ho, hdt⟩
  · refine (r.objs i ob e).up u fun ob' ho => hs _ _ (fun q => ?_) ho
    obtain ⟨ob2, ho2, hf, _⟩ := (r.objs i ob e).some
    rw [q, hI] at ho2; cases ho2
    exact hf (.inl ⟨_, hd⟩)
theorem R.h0_none {α ρ σ h} (r : R prog w c α ρ σ h) : c.h₀.get? h.objs.size = none := by
  cases e : c.h₀.get? h.objs.size with
  | none => rfl
  | some o => exact absurd (Heap.lt_size (r.keep _ _ e)) (Nat.lt_irrefl _)
theorem FK.off {h h' h'' : Heap} {I : Addr} (k : FK h h') (hn : h.get? I = none) (hs : ∀ b ob, b ≠ I → h'.get? b = some ob → h''.get? b = some ob) : FK h h'' := fun b o e f => hs b o (fun q => by subst q; rw [hn] at e; cases e) (k b o e f)
theorem bind_next {o : Option (AF × AEnv × Store)} {k : AEnv → Store → Option (AF × AEnv × Store)} {r} (h : (o.bind fun
      | (.next, ρ', σ') => k ρ' σ'
      | (.ret u, ρ', σ') => some (.ret u, ρ', σ')) = some r) : ∃ f1 ρ1 σ1, o = some (f1, ρ1, σ1) ∧ (match f1 with | .next => k ρ1 σ1 | .ret u => some (.ret u, ρ1, σ1)) = some r := by
  obtain ⟨⟨f1, ρ1, σ1⟩, h2, h⟩ := bind_some' h
  refine ⟨f1, ρ1, σ1, h2, ?_⟩
  cases f1 <;> exact h
theorem R.turn {α ρ σ h h'} {I : Addr} {o : Obj} {vs : Array Value} {T : String} {s₀ : Shared} {α₀ : Nat → Addr} {n₀ : Nat} (r : R prog w c α ρ σ h) (hI : h.get? I = some o) (hd : o.data = .fields vs) (hc : o.cls = .type T) (hT : T ≠ "tuple" ∧ T ≠ "range" ∧ T ≠ "dict_values") (h0 : c.h₀.get? I = none)
    (hn : s₀.heap.get? I = none) (u : Up s₀.heap α₀ n₀ h α σ.length) (fk : FK s₀.heap h) (hs : ∀ b ob, b ≠ I → h.get? b = some ob → h'.get? b = some ob) : R prog w c α ρ σ h' ∧ Up h α σ.length h' α σ.length ∧ Up s₀.heap α₀ n₀ h' α σ.length ∧ FK s₀.heap h' :=
  have k := r.iter hI hd hc hT h0 hs
  have u' : Up h α σ.length h' α σ.length := ⟨Nat.le_refl _, fun _ _ => rfl, k.2⟩
  ⟨k.1, u', u.trans u', fk.off hn hs⟩
theorem for_range {x : Str} {px : Pos} {body : List Stmt} {b : AS} {I : Addr} (ok : Ok c) (st : Storable c x) (hb : SimS prog w c (execs body c.env) b)
    {ρ₀ : AEnv} {σ₀ : Store} {f : AF} {ρ' : AEnv} {σ' : Store} {α₀ : Nat → Addr} {s₀ : Shared} {h₁ : Heap} {tk₁ : Nat} {lo : Int} {n : Nat} {RR : Result → Shared → Prop}
    (hm : forR x b ((List.range n).map fun k : Nat => AV.int (lo + (k : Int))) ρ₀ σ₀ = some (f, ρ', σ')) (r₀ : R prog w c α₀ ρ₀ σ₀ h₁) (hn : s₀.heap.get? I = none) (hn0 : c.h₀.get? I = none) (u₀ : Up s₀.heap α₀ σ₀.length h₁ α₀ σ₀.length) (k₀ : FK s₀.heap h₁) (hI : IsRangeIter h₁ I lo n 1)
    (q : ∀ x α' h' tk', R prog w c α' ρ' σ' h' → Up s₀.heap α₀ σ₀.length h' α' σ'.length → FK s₀.heap h' → FR h' α' σ'.length f x → RR (.ok x) { s₀ with heap := h', toks := tk' }) :
    codeAny (model prog w) c.A (.forLoop (.Name x px) (.ref I) body [] c.env) RR { s₀ with heap := h₁, toks := tk₁ } := by
  refine codeAny_forLoop (fun k s => Run prog w c α₀ σ₀.length s₀ (fun ρ σ h => ∃ j : Nat, n = j + k ∧ forR x b (((List.range n).map fun k : Nat => AV.int (lo + (k : Int))).drop j) ρ σ = some (f, ρ', σ') ∧ IsRangeIter h I (lo + j) k 1) s) ?_ n
    (.mk α₀ ρ₀ σ₀ h₁ tk₁ ⟨0, by omega, by simpa using hm, by simpa using hI⟩ r₀ u₀ k₀)
  refine fun k s hI => wpAny_gen fun X hX => ?_
  induction hI with
  | mk α ρ σ h tk hm r u fk =>
  obtain ⟨j, hj, hm, hI⟩ := hm
  cases k with
  | zero =>
    refine wpAny_pyNext_range_end ok.hand hI (by simp) fun h' hs => ?_
    rw [List.drop_eq_nil_of_le (by simp; omega)] at hm
    replace q := tr3 (Q := fun x s => RR (.ok x) s) hm q
    obtain ⟨r', _, u', fk'⟩ := r.turn hI rfl rfl (by decide) hn0 hn u fk (fun b ob hb e => hs b ob hb e)
    exact hX _ _ (wpAny_execs_nil (q _ α h' tk r' u' fk' .next))
  | succ k =>
    refine wpAny_pyNext_range_item hI (by omega) fun h' hI' hs => ?_
    rw [List.drop_eq_getElem_cons (by simp; omega)] at hm
    rw [List.getElem_map, List.getElem_range] at hm
    obtain ⟨f1, ρ1, σ1, h2, hm⟩ := bind_next hm
    obtain ⟨r', _, u', fk'⟩ := r.turn hI rfl rfl (by decide) hn0 hn u fk (fun b ob hb e => hs.extBut b ob hb e)
    refine hX _ _ (wpAny_assign_Name (store_any (s := { s₀ with heap := h', toks := tk + 1 }) ok st r' (.int (lo + j) _) fun h2' tk2 r2 u2 k2 _ => wpAny_gen fun Y hY => ?_))
    refine hb _ _ _ _ _ _ { s₀ with heap := h2', toks := tk2 } _ _ h2 r2 fun y α3 h3 tk3 r3 u3 k3 v3 => ?_
    cases v3 with
    | next =>
      refine hY _ _ ⟨k, Nat.lt_succ_self _, .mk α3 ρ1 σ1 h3 tk3 ⟨j + 1, by omega, hm, ?_⟩ r3 ((u'.trans u2).trans u3) ((fk'.trans k2).trans k3)⟩
      have e1 : lo + ((j + 1 : Nat) : Int) = lo + j + 1 := by omega
      have e2 : ((k + 1 : Nat) : Int) - 1 = (k : Int) := by omega
      rw [e1]
      rw [e2] at hI'
      exact k3 _ _ (k2 _ _ hI' (.inl ⟨_, rfl⟩)) (.inl ⟨_, rfl⟩)
    | ret v =>
      replace q := tr3 (Q := fun x s => RR (.ok x) s) hm q
      exact hY _ _ (q _ α3 h3 tk3 r3 ((u'.trans u2).trans u3) ((fk'.trans k2).trans k3) (.ret v))
theorem R.list' {ρ : AEnv} {σ : Store} {α : Nat → Addr} {h : Heap} {i : Nat} {vs : List AV} {a} (r : R prog w c α ρ σ h) (e : σ[i]? = some (.list vs)) (ha : α i = a) :
    ∃ items ep, h.get? a = some { cls := .type "list", data := .seq (items : List Value).toArray ep } ∧ VRs h α σ.length vs items ∧ items.length ≤ 1000000 := ha ▸ r.list e
theorem for_list {x : Str} {px : Pos} {body : List Stmt} {b : AS} {I : Addr} {i : Nat} {vs : List AV} (ok : Ok c) (st : Storable c x) (hb : SimS prog w c (execs body c.env) b)
    {ρ₀ : AEnv} {σ₀ : Store} {f : AF} {ρ' : AEnv} {σ' : Store} {α₀ : Nat → Addr} {s₀ : Shared} {h₁ : Heap} {tk₁ : Nat} {RR : Result → Shared → Prop} (hi : i < σ₀.length)
    (hm : forL i vs x b vs ρ₀ σ₀ = some (f, ρ', σ')) (r₀ : R prog w c α₀ ρ₀ σ₀ h₁) (hn : s₀.heap.get? I = none) (hn0 : c.h₀.get? I = none) (u₀ : Up s₀.heap α₀ σ₀.length h₁ α₀ σ₀.length) (k₀ : FK s₀.heap h₁) (hI : h₁.IsListIter I (α₀ i) 0)
    (q : ∀ x α' h' tk', R prog w c α' ρ' σ' h' → Up s₀.heap α₀ σ₀.length h' α' σ'.length → FK s₀.heap h' → FR h' α' σ'.length f x → RR (.ok x) { s₀ with heap := h', toks := tk' }) :
    codeAny (model prog w) c.A (.forLoop (.Name x px) (.ref I) body [] c.env) RR { s₀ with heap := h₁, toks := tk₁ } := by
  refine codeAny_forLoop (fun k s => Run prog w c α₀ σ₀.length s₀ (fun ρ σ h => ∃ j : Nat, vs.length = j + k ∧ forL i vs x b (vs.drop j) ρ σ = some (f, ρ', σ') ∧ h.IsListIter I (α₀ i) j) s) ?_ vs.length
    (.mk α₀ ρ₀ σ₀ h₁ tk₁ ⟨0, by omega, by simpa using hm, hI⟩ r₀ u₀ k₀)
  refine fun k s hI => wpAny_gen fun X hX => ?_
  induction hI with
  | mk α ρ σ h tk hm r u fk =>
  obtain ⟨j, hj, hm, hI⟩ := hm
  obtain ⟨oI, gI, cI, dI⟩ := id hI
  cases k with
  | zero =>
    rw [List.drop_eq_nil_of_le (show vs.length ≤ j from Nat.le_of_eq hj)] at hm
    have e1 := ite_some hm
    replace q := tr3 (Q := fun x s => RR (.ok x) s) e1.2 q
    obtain ⟨is, n1, g1, v1, _⟩ := r.list' e1.1 (u.agree i hi)
    refine wpAny_pyNext_list_end ok.hand hI ⟨_, g1, rfl, _, rfl⟩ (List.getElem?_toArray.trans (List.getElem?_eq_none (Nat.le_of_eq (v1.length.symm.trans hj)))) fun h' hs => ?_
    obtain ⟨r', _, u', fk'⟩ := r.turn gI dI cI (by decide) hn0 hn u fk (fun b ob hb e => hs b ob hb e)
    exact hX _ _ (wpAny_execs_nil (q _ α h' tk r' u' fk' .next))
  | succ k =>
    have hlt : j < vs.length := hj ▸ Nat.lt_add_of_pos_right (Nat.succ_pos k)
    rw [List.drop_eq_getElem_cons hlt] at hm
    have e1 := ite_some hm
    obtain ⟨is, n1, g1, v1, _⟩ := r.list' e1.1 (u.agree i hi)
    obtain ⟨y, hy, hv⟩ := v1.get j vs[j] (List.getElem?_eq_getElem hlt)
    refine wpAny_pyNext_list_item hI ⟨_, g1, rfl, _, rfl⟩ (x := y) (List.getElem?_toArray.trans hy) fun h' hI' hs => ?_
    obtain ⟨f1, ρ1, σ1, h2, hm⟩ := bind_next e1.2
    obtain ⟨r', ux, u', fk'⟩ := r.turn gI dI cI (by decide) hn0 hn u fk (fun b ob hb e => hs.extBut b ob hb e)
    refine hX _ _ (wpAny_assign_Name (store_any (s := { s₀ with heap := h', toks := tk }) ok st r' (hv.up ux) fun h2' tk2 r2 u2 k2 _ => wpAny_gen fun Y hY => ?_))
    refine hb _ _ _ _ _ _ { s₀ with heap := h2', toks := tk2 } _ _ h2 r2 fun y α3 h3 tk3 r3 u3 k3 v3 => ?_
    cases v3 with
    | next =>
      refine hY _ _ ⟨k, Nat.lt_succ_self _, .mk α3 ρ1 σ1 h3 tk3 ⟨j + 1, hj.trans (Nat.add_right_comm j k 1), hm, ?_⟩ r3 ((u'.trans u2).trans u3) ((fk'.trans k2).trans k3)⟩
      obtain ⟨o, g, cc, d⟩ := hI'
      exact ⟨o, k3 _ _ (k2 _ _ g (.inl ⟨_, d⟩)) (.inl ⟨_, d⟩), cc, d⟩
    | ret v =>
      replace q := tr3 (Q := fun x s => RR (.ok x) s) hm q
      exact hY _ _ (q _ α3 h3 tk3 r3 ((u'.trans u2).trans u3) ((fk'.trans k2).trans k3) (.ret v))
theorem sFor_inv {x : Str} {src : AM AV} {b : AS} {ρ : AEnv} {σ : Store} {r} {C : Prop} (h : sFor x src b ρ σ = some r) (k1 : ∀ σ1 lo hi, src ρ σ = some (.rng lo hi, σ1) → rangeOk lo hi → forR x b (rngL lo hi) ρ σ1 = some r → C)
    (k2 : ∀ σ1 i vs, src ρ σ = some (.ref i, σ1) → σ1[i]? = some (.list vs) → forL i vs x b vs ρ σ1 = some r → C) : C := by
  obtain ⟨⟨v, σ1⟩, h1, h⟩ := bind_some' h
  cases v with
  | rng lo hi => exact k1 σ1 lo hi h1 (ite_some h).1 (ite_some h).2
  | ref i =>
    replace k2 := k2 σ1 i
    dsimp only at h
    cases e : σ1[i]? with
    | none => rw [e] at h; cases h
    | some o =>
      rw [e] at h
      cases o with
      | list vs => exact k2 vs h1 e h
      | dict _ => (first | exact nos h | cases h)
  | _ => (first | exact nos h | cases h)
theorem VR.inv_rng {h α n lo hi x} (r : VR h α n (.rng lo hi) x) : ∃ a t u v, x = .ref a ∧ IsRange h a lo hi 1 t u v := by cases r with | rng e => exact ⟨_, _, _, _, rfl, e⟩
theorem R.push {α ρ σ h} (r : R prog w c α ρ σ h) (o : Obj) : R prog w c α ρ σ (h.push o) ∧ Up h α σ.length (h.push o) α σ.length ∧ FK h (h.push o) :=
  ⟨r.grow (Grow.same (HK.push _ _) α σ), ⟨Nat.le_refl _, fun _ _ => rfl, (HK.push h o).vk⟩, (HK.push h o).fk⟩
set_option tactic.hygienic true in
theorem simS_For {x : Str} {px pos : Pos} {iter : Expr} {body : List Stmt} {src : AM AV} {b : AS} (ok : Ok c) (st : Storable c x) (hs : ∀ v, foldedSetIterable iter c.env v = pure v) (hsrc : Sim prog w c (eval iter c.env) src) (hb : SimS prog w c (execs body c.env) b) :
    SimS prog w c (exec (.For (.Name x px) iter body [] pos) c.env) (sFor x src b) := by
  intro ρ σ f ρ' σ' α s Q E hm r q
  have fin : ∀ {h1 α1 σ1 tk1}, Grow prog w s.heap α σ h1 α1 σ1 → KS prog w c { s with heap := h1, toks := tk1 } α1 σ1.length Q f ρ' σ' :=
    fun g1 x α' h' tk' r' u' k' v' => q x α' h' tk' r' (g1.up.trans u') (g1.fk.trans k') v'
  refine sFor_inv hm (fun σ1 lo hi h1 hok hm => ?_) fun σ1 i vs h1 e1 hm => ?_
  · refine wpAny_For (hsrc _ _ _ _ _ _ _ _ h1 r fun y α1 hh1 tk1 g1 v1 => wpAny_gen fun X hX => ?_) hs
    obtain ⟨a, t, u, v, rfl, hr⟩ := v1.inv_rng
    refine wpAny_pyIter_range hr (small_one hok.1 hok.2.1 hok.2.2.1 hok.2.2.2) ?_
    have e : Builtin.Range.rangeSize lo hi 1 = ((hi - lo).toNat : Int) := by rw [rangeSize_one]; split <;> omega
    have r1 := r.grow g1
    have k := r1.push { cls := .type "range_iterator", data := .fields #[rawInt lo, rawInt (Builtin.Range.rangeSize lo hi 1), rawInt 1] }
    exact hX _ _ (for_range (s₀ := { s with heap := hh1, toks := tk1 }) (lo := lo) (n := (hi - lo).toNat) ok st hb hm k.1 (get?_size_none _) r1.h0_none k.2.1 k.2.2 (by
        show Heap.get? _ _ = _
        rw [Heap.get?_push_size _ rfl, e]) (fin g1))
  · refine wpAny_For (hsrc _ _ _ _ _ _ _ _ h1 r fun y α1 hh1 tk1 g1 v1 => wpAny_gen fun X hX => ?_) hs
    obtain ⟨hi, rfl⟩ := v1.inv_ref
    have r1 := r.grow g1
    obtain ⟨is, n1, g1', v1', l1⟩ := r1.list e1
    have k := r1.push { cls := .type "list_iterator", data := .fields #[.ref (α1 i), .int 0 0] }
    exact wpAny_pyIter_list (items := is.toArray) ⟨_, g1', rfl, _, rfl⟩ (hX _ _ (for_list (s₀ := { s with heap := hh1, toks := tk1 }) ok st hb hi hm k.1 (get?_size_none _) r1.h0_none k.2.1 k.2.2
        ⟨_, Heap.get?_push_size _ rfl, rfl, rfl⟩ (fin g1)))
end
end Inn
end
section
set_option maxRecDepth 10000
set_option linter.unusedVariables false
namespace Inn
open PySem
variable {prog : Program} {w : World}
mutual
def AV.closed (n : Nat) : AV → Bool
  | .ref i => decide (i < n)
  | .vals i => decide (i < n)
  | .tup vs => closedL n vs
  | _ => true
def closedL (n : Nat) : List AV → Bool
  | [] => true
  | v :: vs => v.closed n && closedL n vs
end
noncomputable def closedK (n : Nat) : List (Int × AV) → Bool
  | [] => true
  | kv :: r => kv.2.closed n && closedK n r
noncomputable def AO.closed (n : Nat) : AO → Bool
  | .list vs => closedL n vs
  | .dict kvs => closedK n kvs
theorem VR.restrict {h α α' n n' m} {v : AV} {x : Value} (r : VR h α n v x) (hc : v.closed m = true) (ha : ∀ i, i < m → α' i = α i) (hn : m ≤ n') : VR h α' n' v x :=
  VR.rec (motive_1 := fun v x _ => v.closed m = true → VR h α' n' v x) (motive_2 := fun vs xs _ => closedL m vs = true → VRs h α' n' vs xs) (fun _ => .none) (fun b _ => .bool b) (fun i t _ => .int i t) (fun e _ r hc => .tup e (r hc))
    (fun e _ => .rng e) (fun _ e hc => .vals (Nat.lt_of_lt_of_le (of_decide_eq_true hc) hn) (ha _ (of_decide_eq_true hc) ▸ e)) (fun _ hc => ha _ (of_decide_eq_true hc) ▸ .ref (Nat.lt_of_lt_of_le (of_decide_eq_true hc) hn)) (fun _ => .nil)
    (fun _ _ a b hc => .cons (a (Bool.and_eq_true_iff.mp hc).1) (b (Bool.and_eq_true_iff.mp hc).2)) r hc
theorem VRs.restrict {h α α' n n' m} {vs : List AV} {xs : List Value} (r : VRs h α n vs xs) (hc : closedL m vs = true) (ha : ∀ i, i < m → α' i = α i) (hn : m ≤ n') : VRs h α' n' vs xs := by
  induction vs generalizing xs with
  | nil => cases r.nil_inv; exact .nil
  | cons v vs ih =>
    obtain ⟨x, ys, rfl, a, r⟩ := r.cons_inv
    have hc := Bool.and_eq_true_iff.mp hc
    exact .cons (a.restrict hc.1 ha hn) (ih r hc.2)
theorem KR.restrict {h α α' n n' m} (ha : ∀ i, i < m → α' i = α i) (hn : m ≤ n') {vs xs} (r : KR h α n vs xs) (hc : closedK m vs = true) : KR h α' n' vs xs := by
  induction r with
  | nil => exact .nil
  | cons a _ ih =>
    have hc := Bool.and_eq_true_iff.mp hc
    exact .cons (a.restrict hc.1 ha hn) (ih hc.2)
theorem OR.restrict {h α α' n n' m} {o : AO} {a : Addr} (r : OR prog w h α n o a) (hc : o.closed m = true) (ha : ∀ i, i < m → α' i = α i) (hn : m ≤ n') : OR prog w h α' n' o a := by
  cases r with
  | list e r l => exact .list e (r.restrict hc ha hn) l
  | dict e r l l' => exact .dict e (r.restrict ha hn hc) l l'
noncomputable def exportV (σ : Store) (v : AV) (σ' : Store) : Option (AV × Store) :=
  if v.closed σ.length then some (v, σ) else
  match v with
  | .ref i => (match σ'[i]? with
    | some o => if o.closed σ.length then some (.ref σ.length, σ ++ [o]) else none
    | none => none)
  | _ => none
noncomputable def emp : AEnv := fun _ => none
noncomputable def bindE : List (Str × AV) → AEnv → AEnv
  | [], ρ => ρ
  | (n, v) :: r, ρ => bindE r (upd ρ n v)
abbrev FnX := Store → AV → Store → Option (AV × Store)
open Classical in
noncomputable def aFnX (X : FnX) (params : List Str) (m : Nat → AS) (args : List AV) (σ : Store) : Option (AV × Store) :=
  if args.length = params.length then
    (m σ.length (bindE (params.zip args) emp) σ).bind fun p =>
      if p.2.2.take σ.length = σ then X σ (match p.1 with | .ret v => v | .next => .none) p.2.2 else none
  else none
noncomputable abbrev aFn := aFnX exportV
noncomputable def Lvl (k : Nat) (A : Around) : Prop := A.handled = none ∧ A.depth + k < recursionLimit ∧ A.units + 100 * (k + 1) < cLine
theorem Lvl.deeper {k : Nat} {A : Around} (h : Lvl (k + 1) A) (env : Env) : Lvl k (A.deeper env) := by
  obtain ⟨h1, h2, h3⟩ := h
  refine ⟨h1, ?_, ?_⟩
  · show A.depth + 1 + k < _; omega
  · show A.units + 3 + 100 * (k + 1) < _; omega
theorem Lvl.mono {k j : Nat} {A : Around} (h : Lvl k A) (hj : j ≤ k) : Lvl j A := by
  obtain ⟨h1, h2, h3⟩ := h
  have : 100 * (j + 1) ≤ 100 * (k + 1) := Nat.mul_le_mul_left _ (by omega)
  exact ⟨h1, by omega, by omega⟩
structure SR (prog : Program) (w : World) (α : Nat → Addr) (σ : Store) (h : Heap) : Prop where
  objs : ∀ i o, σ[i]? = some o → OR prog w h α σ.length o (α i)
  inj : ∀ i j, i < σ.length → j < σ.length → α i = α j → i = j
theorem R.sr {c α ρ σ h} (r : R prog w c α ρ σ h) : SR prog w α σ h := ⟨r.objs, r.inj⟩
abbrev FnM := List AV → Store → Option (AV × Store)
noncomputable def FnOk (prog : Program) (w : World) (G : Heap → Prop) (k : Nat) (f : Addr) (F : FnM) : Prop :=
  ∀ (A : Around) (s : Shared) (args : List AV) (xs : List Value) (σ : Store) (α : Nat → Addr) (v : AV) (σ' : Store) (Q : Value → Shared → Prop) (E : Value → Shared → Prop),
    Lvl k A → G s.heap → SR prog w α σ s.heap → VRs s.heap α σ.length args xs → F args σ = some (v, σ') →
    (∀ x α' h' tk', Grow prog w s.heap α σ h' α' σ' → VR h' α' σ'.length v x → Q x { s with heap := h', toks := tk' }) → wpAny (model prog w) A (call (.ref f) xs) Q E s
noncomputable def EnvR (h : Heap) (α : Nat → Addr) (n : Nat) (ρ : AEnv) (K : Str → Prop) (m : Str → Option Value) : Prop := ∀ x v, ρ x = some v → K x → ∃ y, m x = some y ∧ VR h α n v y
theorem EnvR.upd {h α n ρ K m p v x} {m' : Str → Option Value} (e : EnvR h α n ρ K m) (hv : VR h α n v x) (h1 : K p → m' p = some x) (h2 : ∀ z, z ≠ p → m' z = m z) : EnvR h α n (upd ρ p v) K m' := by
  intro z u hz hk
  by_cases hzp : z = p
  · subst hzp
    have hz : some v = some u := (if_pos rfl).symm.trans hz
    exact ⟨x, h1 hk, Option.some.inj hz ▸ hv⟩
  · have hz : ρ z = some u := (if_neg hzp).symm.trans hz
    exact h2 z hzp ▸ e z u hz hk
theorem bind_env {h α n} (kindOf : Str → Option NameKind) (params : List Str) (args : List AV) (xs : List Value) (ρ : AEnv) (m cm : Str → Option Value) (hv : VRs h α n args xs)
    (h1 : EnvR h α n ρ (fun x => kindOf x = some .local) m) (h2 : EnvR h α n ρ (fun x => kindOf x = some .cell ∨ kindOf x = some .free) cm) :
    EnvR h α n (bindE (params.zip args) ρ) (fun x => kindOf x = some .local) (bindL kindOf (params.zip xs) m) ∧ EnvR h α n (bindE (params.zip args) ρ) (fun x => kindOf x = some .cell ∨ kindOf x = some .free) (bindC kindOf (params.zip xs) cm) := by
  induction params generalizing args xs ρ m cm with
  | nil => exact ⟨h1, h2⟩
  | cons p params ih =>
    cases args with
    | nil => cases hv.nil_inv; exact ⟨h1, h2⟩
    | cons v args =>
      obtain ⟨x, ys, rfl, hv, hr⟩ := hv.cons_inv
      refine ih args ys _ _ _ hr (h1.upd hv (fun hk => ?_) fun z hz => ?_) (h2.upd hv (fun hk => ?_) fun z hz => ?_)
      · simp [hk]
      · split
        · simp [hz]
        · rfl
      · have hnl : ¬ kindOf p = some .local := fun e => by rw [e] at hk; simp at hk
        simp [hnl]
      · split
        · rfl
        · simp [hz]
theorem bindE_dot : ∀ (l : List (Str × AV)) (ρ : AEnv), (∀ p ∈ l, p.1 ≠ ".0") → ρ ".0" = none → bindE l ρ ".0" = none
  | [], ρ, _, h => h
  | (n, v) :: r, ρ, hp, h => by
    refine bindE_dot r _ (fun p hm => hp p (.tail _ hm)) ?_
    have : ¬ ((".0" : Str) = n) := fun e => hp (n, v) (.head _) e.symm
    simp only [upd, this, if_false]; exact h
structure FnAt (f : Addr) (fd : FuncData) (h : Heap) : Prop where
  fn : ∃ o, h.get? f = some o ∧ o.data = .func fd
  lim : h.NoLimit
  code : h.CodeRec fd.code fd.qualname
theorem Heap.get?_ge {h : Heap} {a : Addr} (ha : h.objs.size ≤ a) : h.get? a = none := by
  cases e : h.get? a with
  | none => rfl
  | some o => exact absurd (Heap.lt_size e) (Nat.not_lt.mpr ha)
noncomputable def Exp (prog : Program) (w : World) (X : FnX) : Prop := ∀ ⦃c : Cx⦄ ⦃α α2 : Nat → Addr⦄ ⦃ρ : AEnv⦄ ⦃σ σ1 : Store⦄ ⦃h2 : Heap⦄ ⦃u : AV⦄ ⦃x' : Value⦄ ⦃v : AV⦄ ⦃σ' : Store⦄, c.n₀ = σ.length → R prog w c α2 ρ σ1 h2 → (∀ i, i < σ.length → α2 i = α i) →
  VR h2 α2 σ1.length u x' → X σ u σ1 = some (v, σ') → ∃ α', Grow prog w c.h₀ α σ h2 α' σ' ∧ VR h2 α' σ'.length v x'
theorem exp_V : Exp prog w exportV := by
  intro c α α2 ρ σ σ1 h2 u x' v σ' hn r2 ag hvr hm
  unfold exportV at hm
  split at hm
  · rename_i hcl
    cases hm
    refine ⟨α2, ⟨r2.keep, ⟨[], (List.append_nil _).symm⟩, ag, fun i o hi e => ?_, fun i hi hj => absurd hi (Nat.not_le.mpr hj), fun i j hi hj => absurd hi (Nat.not_le.mpr hj)⟩, hvr.restrict hcl (fun _ _ => rfl) (Nat.le_refl _)⟩
    exact nos ((List.getElem?_eq_none hi).symm.trans e)
  · rename_i hncl
    cases u with
    | ref i =>
      dsimp only at hm
      cases eo : σ1[i]? with
      | none => rw [eo] at hm; exact nos hm
      | some o =>
        rw [eo] at hm
        have hm := ite_some hm
        have hi1 : i < σ1.length := (List.getElem?_eq_some_iff.mp eo).1
        have hin : σ.length ≤ i := Nat.not_lt.mp fun h => hncl (decide_eq_true h)
        obtain ⟨_, rfl⟩ := hvr.inv_ref
        have hag : ∀ j, j < σ.length → (fun j => if j = σ.length then α2 i else α j) j = α2 j := fun j hj => (if_neg (Nat.ne_of_lt hj)).trans (ag j hj).symm
        obtain ⟨rfl, rfl⟩ := Prod.mk.inj (Option.some.inj hm.2)
        refine ⟨fun j => if j = σ.length then α2 i else α j, Grow.one r2.keep (r2.own i (hn ▸ hin) hi1) ((r2.objs i o eo).restrict hm.1 hag (Nat.le_succ _)), ?_⟩
        have := VR.ref (h := h2) (α := fun j => if j = σ.length then α2 i else α j) (n := (σ ++ [o]).length) (i := σ.length) (by simp)
        rwa [if_pos rfl] at this
    | _ => exact nos hm
set_option tactic.hygienic true in
theorem fn_ok {X : FnX} {G : Heap → Prop} {k : Nat} {f : Addr} {fd : FuncData} {body : List Stmt} {params : List Str} {m : Nat → AS} (hX : Exp prog w X)
    (hG : ∀ h h', HK h h' → G h → G h') (hf : ∀ h, G h → FnAt f fd h) (hbody : fd.body = .stmts body) (hclo : fd.closure = [])
    (hbind : ∀ xs : List Value, xs.length = params.length → bindArgs fd ⟨xs, []⟩ = pure (params.zip xs))
    (hkind : ∀ p ∈ params, p ≠ ".0" ∧ (fd.scope.names.lookup p = some .local ∨ fd.scope.names.lookup p = some .cell))
    (hcell : ∀ n x, fd.scope.names.lookup x = some .cell → ((cellsFrom n fd.scope.names []).lookup x).isSome = true)
    (hco : fd.scope.isCoroutine = false) (hgen : fd.scope.isGenerator = false) (hk : fd.scope.kind = .function)
    (hb : ∀ A L h₀ n₀, Lvl k A → G h₀ → Ok ⟨A, callEnvC fd L f, h₀, n₀⟩ → SimS prog w ⟨A, callEnvC fd L f, h₀, n₀⟩ (execs body (callEnvC fd L f)) (m n₀)) :
    FnOk prog w G (k + 1) f (aFnX X params m) := by
  intro A s args xs σ α v σ' Q E hl hg sr hv hm q
  obtain ⟨hlen, hm⟩ := ite_some hm
  obtain ⟨⟨fl, ρ1, σ1⟩, h1, hm⟩ := bind_some' hm
  obtain ⟨htake, hm⟩ := ite_some hm
  obtain ⟨⟨o, ho, hd⟩, hlim, hcode⟩ := hf _ hg
  refine wpAny_call (codeAny_call_cells (hroom := by have := hl.2.1; omega) ho hd hlim hcode hbody (hbind xs (hv.length.symm.trans hlen)) hclo (fun x hx => (hkind _ (List.of_mem_zip hx).1).2.elim .inl fun e => .inr ⟨e, hcell _ _ e⟩) (fun s₁ x => wpAny_gen fun Y hY => ?_) hco hgen hk)
  obtain ⟨ic, cell, apart, above⟩ := x
  obtain ⟨h₁, tk₁, rfl⟩ := ic.same
  have ok : Ok ⟨A.deeper (callEnvC fd s.heap.objs.size f), callEnvC fd s.heap.objs.size f, s.heap, σ.length⟩ :=
    ⟨hk, Heap.get?_ge (Nat.le_refl _), fun x a hx => Heap.get?_ge (Nat.le_of_lt (above x a (mem_of_lookup hx))), fun x y a hx hy => name_of_addr apart (mem_of_lookup hx) (mem_of_lookup hy), hl.1⟩
  have u : Up s.heap α σ.length h₁ α σ.length := ⟨Nat.le_refl _, fun _ _ => rfl, HK.vk ic.keep⟩
  have be := bind_env (h := h₁) (α := α) (n := σ.length) (callEnvC fd s.heap.objs.size f).kindOf params args xs emp (fun _ => none) (fun _ => none) (hv.up u) (fun x v hx => nos hx) (fun x v hx => nos hx)
  have r : R prog w ⟨A.deeper (callEnvC fd s.heap.objs.size f), callEnvC fd s.heap.objs.size f, s.heap, σ.length⟩ α (bindE (params.zip args) emp) σ h₁ :=
    ⟨ic.keep, ⟨_, _, ic.ns, cell, be.1, be.2⟩, bindE_dot _ _ (fun p hp => (hkind _ (List.of_mem_zip hp).1).1) rfl, fun i o e => (sr.objs i o e).up u fun ob ho => ic.keep _ _ ho, sr.inj, fun i h1 h2 => absurd h1 (Nat.not_le.mpr h2),
      fun i hi e => (sr.objs i σ[i] (List.getElem?_eq_getElem hi)).some.elim fun ob hob => absurd (e ▸ Heap.lt_size hob.1) (Nat.lt_irrefl _)⟩
  refine hb (A.deeper (callEnvC fd s.heap.objs.size f)) s.heap.objs.size s.heap σ.length (hl.deeper _) hg ok _ _ _ _ _ _ { s with heap := h₁, toks := tk₁ } _ _ h1 r fun x α2 h2 tk2 r2 u2 k2 v2 => hY _ _ ?_
  have fin : ∀ (u : AV) (x' : Value), VR h2 α2 σ1.length u x' → X σ u σ1 = some (v, σ') → Q x' { s with heap := h2, toks := tk2 } := fun u x' hvr hm => (hX rfl r2 u2.agree hvr hm).elim fun α' h => q x' α' h2 tk2 h.1 h.2
  cases v2 with
  | next => exact fin _ _ .none hm
  | ret hv => exact fin _ _ hv hm
end Inn
end
section
set_option maxRecDepth 10000
set_option linter.unusedVariables false
namespace Inn
open PySem
variable {prog : Program} {w : World}
structure CxG (G : Heap → Prop) (k : Nat) (c : Cx) : Prop where
  ok : Ok c
  gl : c.env.globals = mainGlobals
  bl : c.env.builtins = builtinsNs
  lv : Lvl k c.A
  g : G c.h₀
  mono : ∀ h h', HK h h' → G h → G h'
  cells : ∀ x, (c.env.kindOf x = some .cell ∨ c.env.kindOf x = some .free) → (c.env.cells.lookup x).isSome = true
noncomputable def Gl (G : Heap → Prop) (x : Str) (v : Value) : Prop := ∀ h, G h → ∃ mg, h.Ns mainGlobals mg ∧ (mg x = some v ∨ (mg x = none ∧ ∃ mb, h.Ns builtinsNs mb ∧ mb x = some v))
section
variable {c : Cx} {G : Heap → Prop} {k : Nat}
theorem CxG.here {α ρ σ h} (cx : CxG G k c) (r : R prog w c α ρ σ h) : G h := cx.mono _ _ r.keep cx.g
noncomputable def isVar : Option NameKind → Bool
  | some .local | some .cell | some .free => true
  | _ => false
theorem isVar_cases {o : Option NameKind} (h : isVar o = true) : o = some .local ∨ o = some .cell ∨ o = some .free := by
  cases o with
  | none => cases h
  | some kd => cases kd <;> first | exact .inl rfl | exact .inr (.inl rfl) | exact .inr (.inr rfl) | cases h
theorem var_not_local {o : Option NameKind} (h : isVar o = true ∧ o ≠ some .local) : o = some .cell ∨ o = some .free := (isVar_cases h.1).resolve_left h.2
noncomputable def okName (x : Str) : Bool := !(x == ("__debug__" : Str)) && !(x == ("__classdict__" : Str))
theorem sim_name {x : Str} {pos : Pos} (cx : CxG G k c) (hv : isVar (c.env.kindOf x) = true) (hn : okName x = true) : Sim prog w c (eval (.Name x pos) c.env) (aName x) := by
  simp only [okName, Bool.and_eq_true, Bool.not_eq_true'] at hn
  cases hk : c.env.kindOf x with
  | none => rw [hk] at hv; cases hv
  | some kd =>
    cases kd with
    | «local» => exact sim_local cx.ok.fn hk hn.1
    | cell => exact sim_cell cx.ok.fn hk (cx.cells x (.inl hk)) hn.1
    | free => exact sim_free cx.ok.fn hk (cx.cells x (.inr hk)) hn.1 hn.2
    | _ => rw [hk] at hv; cases hv
noncomputable def isSto : Option NameKind → Bool
  | some .local | some .cell => true
  | _ => false
theorem storable {x : Str} (cx : CxG G k c) (hv : isSto (c.env.kindOf x) = true) (h0 : (x == (".0" : Str)) = false) : Storable c x := by
  refine ⟨by simpa using h0, ?_⟩
  cases hk : c.env.kindOf x with
  | none => rw [hk] at hv; cases hv
  | some kd =>
    cases kd with
    | «local» => exact .inl rfl
    | cell => exact .inr ⟨rfl, cx.cells x (.inl hk)⟩
    | _ => rw [hk] at hv; cases hv
theorem load_gl {α ρ σ} {s : Shared} {x : Str} {pos : Pos} {v : Value} {Q : Value → Shared → Prop} {E} (cx : CxG G k c) (hx : c.env.kindOf x = some .globalImplicit) (hd : (x == ("__debug__" : Str)) = false) (g : Gl G x v)
    (r : R prog w c α ρ σ s.heap) (q : Q v s) : wpAny (model prog w) c.A (eval (.Name x pos) c.env) Q E s := by
  refine Calls.Name_function_global cx.ok.fn hx ?_ hd
  obtain ⟨mg, h1, h2⟩ := g _ (cx.here r)
  rw [← cx.gl] at h1
  rcases h2 with h2 | ⟨h2, mb, h3, h4⟩
  · exact Calls.loadGlobal_global h1 h2 q
  · rw [← cx.bl] at h3
    exact Calls.loadGlobal_builtin h1 h2 h3 h4 q
theorem sim_glob {x : Str} {pos : Pos} {i : Int} {t : Tok} (cx : CxG G k c) (hx : c.env.kindOf x = some .globalImplicit) (hd : (x == ("__debug__" : Str)) = false) (g : Gl G x (.int i t)) :
    Sim prog w c (eval (.Name x pos) c.env) (aInt i) := by
  intro ρ σ v σ' α s Q E hm r q
  (first | replace q := tr2 hm q | cases hm)
  exact load_gl cx hx hd g r (q _ α s.heap s.toks (Grow.refl ..) (.int _ _))
inductive Callee (G : Heap → Prop) : Value → Prop
  | builtin (id : String) : Callee G (.builtin id)
  | type (T : String) : Callee G (.type T)
  | fn {f : Addr} {o : Obj} {fd : FuncData} : (∀ h, G h → h.get? f = some o) → o.data = .func fd → Callee G (.ref f)
theorem callWith_any {A : Around} {E : Value → Shared → Prop} {s : Shared} {fv : Value} {pos : Pos} {args : List (Bool × Sem Value)} {Q : Value → Shared → Prop} (hc : Callee G fv) (hplain : args.any (·.1) = false)
    (h : wpAny (model prog w) A (evalArgs fv true args []) (fun a s₁ => G s₁.heap ∧ wpAny (model prog w) A (call fv a.pos a.kw) Q E s₁) E s) : wpAny (model prog w) A (callWith pos fv [] args []) Q E s := by
  cases hc with
  | builtin id => exact Calls.callWith_builtin hplain (wpAny_mono h (fun a s₁ h => h.2) fun _ _ e => e)
  | type T => exact PySem.callWith_type hplain (wpAny_mono h (fun a s₁ h => h.2) fun _ _ e => e)
  | fn hf hd => exact Calls.callWith_function (wpAny_mono h (fun a s₁ h => ⟨⟨hf _ h.1, hd⟩, h.2⟩) fun _ _ e => e)
noncomputable def OpN (prog : Program) (w : World) (c : Cx) (t : List Value → Sem Value) (F : FnM) : Prop :=
  ∀ (vs : List AV) (xs : List Value) (α : Nat → Addr) (ρ : AEnv) (σ : Store) (v : AV) (σ' : Store) (s : Shared) (Q : Value → Shared → Prop) (E : Value → Shared → Prop), F vs σ = some (v, σ') → R prog w c α ρ σ s.heap →
    VRs s.heap α σ.length vs xs → (∀ z α' h' tk', Grow prog w s.heap α σ h' α' σ' → VR h' α' σ'.length v z → Q z { s with heap := h', toks := tk' }) → wpAny (model prog w) c.A (t xs) Q E s
noncomputable def aCall (F : FnM) (ms : List (AM AV)) : AM AV := abind (aArgs ms) fun vs => fun _ σ => F vs σ
theorem sim_call {x : Str} {np pos : Pos} {e : Expr} {es : List Expr} {m : AM AV} {ms : List (AM AV)} {fv : Value} {F : FnM} (cx : CxG G k c) (hx : c.env.kindOf x = some .globalImplicit) (hd : (x == ("__debug__" : Str)) = false)
    (g : Gl G x fv) (hc : Callee G fv) (op : OpN prog w c (fun xs => call fv xs) F) (ha : SimA prog w c (e :: es) (m :: ms)) (he : starEach (e :: es) c.env = (false, eval e c.env) :: starEach es c.env := by rfl) (hp : ∀ pos, (backTo pos (starEach es c.env)).any (·.1) = false := by intro _; rfl) :
    Sim prog w c (eval (.Call (.Name x np) (e :: es) [] pos) c.env) (aCall F (m :: ms)) := by
  intro ρ σ v σ' α s Q E hm r q
  obtain ⟨vs, σ1, h1, hm⟩ := abind_some hm
  refine wpAny_Call_ofName (load_gl cx hx hd g r ?_)
  show wpAny _ _ (callWith pos fv [] (backTo pos (starEach (e :: es) c.env)) []) _ _ _
  have hplain : (backTo pos (starEach (e :: es) c.env)).any (·.1) = false := by
    rw [he]
    show ((false : Bool) || (backTo pos (starEach es c.env)).any (·.1)) = false
    rw [hp]; rfl
  refine callWith_any hc hplain ?_
  have hb : backTo pos (starEach (e :: es) c.env) = (false, eval e c.env) :: backTo pos (starEach es c.env) := by rw [he]; rfl
  have key := ha pos _ _ _ _ _ _ (fun xs s₁ => G s₁.heap ∧ wpAny (model prog w) c.A (call fv xs) Q E s₁) E h1 r fun xs α1 hh1 tk1 g1 v1 =>
    ⟨cx.here (r.grow g1), op _ _ _ _ _ _ _ { s with heap := hh1, toks := tk1 } _ _ hm (r.grow g1) v1 fun z α2 hh2 tk2 g2 v2 => q z α2 hh2 tk2 (g1.trans g2) v2⟩
  rw [hb] at key ⊢
  exact Calls.evalArgs_plain key
noncomputable def bLen : FnM
  | [.ref i], σ => match σ[i]? with
    | some (.list vs) => some (.int vs.length, σ)
    | some (.dict kvs) => some (.int kvs.length, σ)
    | none => none
  | _, _ => none
set_option tactic.hygienic true in
theorem op_len : OpN prog w c (fun xs => call (.builtin "len") xs) bLen := by
  intro vs xs α ρ σ v σ' s Q E hm r hv q
  unfold bLen at hm
  split at hm
  · rename_i i
    cases hv with
    | cons hv hn =>
    cases hn
    cases hv with
    | ref hi =>
    split at hm
    · rename_i vs e1
      (first | replace q := tr2 hm q | cases hm)
      obtain ⟨is, n1, g1, v1, l1⟩ := r.list e1
      refine Calls.call_len_list ⟨_, g1, rfl, _, rfl⟩ (by simp; omega) (q _ α s.heap _ (Grow.refl ..) ?_)
      rw [v1.length]; simpa using VR.int _ _
    · rename_i kvs e1
      (first | replace q := tr2 hm q | cases hm)
      obtain ⟨xs, hd, hk, hne, hl⟩ := r.dict e1
      refine call_len_dict (by simpa using hne) hd (by omega) (q _ α s.heap _ (Grow.refl ..) ?_)
      rw [hk.length]; exact .int _ _
    · (first | exact nos hm | replace q := tr2 hm q | cases hm)
  · (first | exact nos hm | replace q := tr2 hm q | cases hm)
noncomputable def bools : List AV → Option (List Bool)
  | [] => some []
  | .bool b :: r => (bools r).map (b :: ·)
  | _ => none
noncomputable def bAll : FnM
  | [.ref i], σ => match σ[i]? with
    | some (.list vs) => (bools vs).map fun bs => (.bool (bs.all id), σ)
    | _ => none
  | _, _ => none
theorem bools_get {h α n} : ∀ {vs : List AV} {xs : List Value} {bs : List Bool}, VRs h α n vs xs → bools vs = some bs → xs = bs.map .bool
  | _, _, _, .nil, e => by cases e; rfl
  | _, _, _, .cons a r, e => by
    cases a <;> simp only [bools, reduceCtorEq] at e
    obtain ⟨bs, e1, rfl⟩ := map_some' e
    simp [bools_get r e1]
theorem all_range (bs : List Bool) : (List.range bs.length).all (fun i => bs.getD i false) = bs.all id := by
  rw [Bool.eq_iff_iff, List.all_eq_true, List.all_eq_true]
  constructor
  · intro h b hb
    obtain ⟨i, hi, rfl⟩ := List.mem_iff_getElem.mp hb
    have := h i (by simp [hi])
    simpa [hi] using this
  · intro h i hi
    simp at hi
    have := h bs[i] (by simp)
    simpa [hi] using this
theorem off_size {h h1 h' : Heap} {I : Addr} {wr : List Addr} (k : HK h h1) (hn : h.get? I = none) (hs : ∀ b o, b ∉ [I] → h1.get? b = some o → h'.get? b = some o) : HK h h' := fun b o e =>
  hs b o (by
    intro hb
    rw [List.mem_singleton] at hb
    subst hb
    rw [hn] at e; cases e) (k b o e)
set_option tactic.hygienic true in
theorem op_all (lv : Lvl k c.A) : OpN prog w c (fun xs => call (.builtin "all") xs) bAll := by
  intro vs xs α ρ σ v σ' s Q E hm r hv q
  unfold bAll at hm
  split at hm
  · rename_i i
    cases hv with
    | cons hv hn =>
    cases hn
    cases hv with
    | ref hi =>
    split at hm
    · rename_i vs e1
      obtain ⟨bs, e2, hm⟩ := map_some' hm
      (first | replace q := tr2 hm q | cases hm)
      obtain ⟨is, n1, g1, v1, l1⟩ := r.list e1
      have eb := bools_get v1 e2
      refine call_all_walk (wpAny_pyIter_list ⟨_, g1, rfl, _, rfl⟩ ?_)
      have hne : α i ≠ s.heap.objs.size := Nat.ne_of_lt (Heap.lt_size g1)
      refine ⟨s.heap.objs.size, _, _, _, _, _, fun i => bs.getD i false, rfl, Walks.list (A := c.A.in1) lv.1 s.heap.objs.size (α i) hne is.toArray, ⟨⟨_, Heap.get?_push_size _ rfl, rfl, rfl⟩, ⟨_, Heap.get?_push_of_some _ g1, rfl, _, rfl⟩⟩, ?_, fun h' tk hs => ?_⟩
      · intro j y s' Q' E' hy hQ
        subst eb
        have hy' : (bs.map Value.bool)[j]? = some y := by simpa using hy
        rw [List.getElem?_map] at hy'
        obtain ⟨b, hb, rfl⟩ := map_some' hy'
        have : bs.getD j false = b := by simp [List.getD, hb]
        dsimp only at hQ
        rw [this] at hQ
        exact wpAny_truthy_bool hQ
      · have hsz : is.toArray.size = bs.length := by rw [eb]; simp
        rw [hsz, all_range]
        exact q _ α h' tk (Grow.same (off_size (wr := []) (HK.push _ _) (get?_size_none _) hs) α σ) (.bool _)
    · (first | exact nos hm | replace q := tr2 hm q | cases hm)
  · (first | exact nos hm | replace q := tr2 hm q | cases hm)
noncomputable def intsOf : List AV → Option (List Int)
  | [] => some []
  | .int i :: r => (intsOf r).map (i :: ·)
  | _ => none
theorem intsOf_get {h α n} : ∀ {vs : List AV} {xs : List Value} {ns : List Int}, VRs h α n vs xs → intsOf vs = some ns → ∀ (j : Nat) y, xs[j]? = some y → ∃ t, y = .int (ns.getD j 0) t
  | _, _, _, .nil, e, j, y, hy => by simp at hy
  | _, _, _, .cons a r, e, j, y, hy => by
    cases a <;> simp only [intsOf, reduceCtorEq] at e
    obtain ⟨ns, e1, rfl⟩ := map_some' e
    cases j with
    | zero => simp at hy; subst hy; exact ⟨_, rfl⟩
    | succ j => simp at hy; simpa using intsOf_get r e1 j y hy
theorem intsOf_length : ∀ {vs : List AV} {ns : List Int}, intsOf vs = some ns → vs.length = ns.length
  | [], _, e => by cases e; rfl
  | v :: vs, _, e => by
    cases v <;> simp only [intsOf, reduceCtorEq] at e
    obtain ⟨ns, e1, rfl⟩ := map_some' e
    simp [intsOf_length e1]
noncomputable def bSum : FnM
  | [.ref i], σ => match σ[i]? with
    | some (.list vs) => (intsOf vs).bind fun ns => if ns.all (fun n => decide (0 ≤ n ∧ n < 1000000)) then some (.int ns.sum, σ) else none
    | _ => none
  | _, _ => none
theorem preSum_eq (ns : List Int) : ∀ j, j ≤ ns.length → preSum (fun i => ns.getD i 0) j = (ns.take j).sum
  | 0, _ => by simp [preSum]
  | j + 1, h => by
    have e : ns.take (j + 1) = ns.take j ++ [ns[j]] := by
      rw [List.take_add_one, List.getElem?_eq_getElem (by omega)]; rfl
    rw [preSum, preSum_eq ns j (by omega), e, List.sum_append]
    have : ns[j]? = some ns[j] := by simp
    simp [List.getD, this]
theorem sum_bound (ns : List Int) (h : ∀ n ∈ ns, 0 ≤ n ∧ n < 1000000) : 0 ≤ ns.sum ∧ ns.sum ≤ 1000000 * ns.length := by
  induction ns with
  | nil => simp
  | cons a r ih =>
    have := h a (.head _)
    have := ih fun n hn => h n (.tail _ hn)
    simp only [List.sum_cons, List.length_cons]
    push_cast
    omega
set_option tactic.hygienic true in
theorem op_sum (lv : Lvl k c.A) : OpN prog w c (fun xs => call (.builtin "sum") xs) bSum := by
  intro vs xs α ρ σ v σ' s Q E hm r hv q
  unfold bSum at hm
  split at hm
  · rename_i i
    cases hv with
    | cons hv hn =>
    cases hn
    cases hv with
    | ref hi =>
    split at hm
    · rename_i vs e1
      obtain ⟨ns, e2, hm⟩ := bind_some' hm
      split at hm
      · rename_i hb
        (first | replace q := tr2 hm q | cases hm)
        obtain ⟨is, n1, g1, v1, l1⟩ := r.list e1
        have hin : ∀ n ∈ ns, 0 ≤ n ∧ n < 1000000 := fun n hn => of_decide_eq_true (List.all_eq_true.mp hb n hn)
        have hlen : is.length = ns.length := by rw [← v1.length, intsOf_length e2]
        refine call_sum_walk (wpAny_pyIter_list ⟨_, g1, rfl, _, rfl⟩ ?_)
        have hne : α i ≠ s.heap.objs.size := Nat.ne_of_lt (Heap.lt_size g1)
        refine ⟨s.heap.objs.size, _, _, _, _, _, fun i => ns.getD i 0, rfl, Walks.list (A := c.A.in1) lv.1 s.heap.objs.size (α i) hne is.toArray, ⟨⟨_, Heap.get?_push_size _ rfl, rfl, rfl⟩, ⟨_, Heap.get?_push_of_some _ g1, rfl, _, rfl⟩⟩, ?_, ?_, ?_, fun h' tk t' hs => ?_⟩
        · intro b hb
          rw [Heap.size_push]
          simp only [List.mem_cons, List.not_mem_nil, or_false] at hb
          rcases hb with rfl | rfl
          · exact Nat.lt_succ_self _
          · exact Nat.lt_succ_of_lt (Heap.lt_size g1)
        · intro j y hy
          exact intsOf_get v1 e2 j y (by simpa using hy)
        · intro j hj
          have hj' : j < ns.length := by simpa [hlen] using hj
          have h1 : ns.getD j 0 = ns[j] := by simp [List.getD, hj']
          have h2 := hin ns[j] (by simp)
          rw [preSum_eq ns (j + 1) (by omega)]
          dsimp only
          rw [h1]
          have h3 := sum_bound (ns.take (j + 1)) fun n hn => hin n (List.mem_of_mem_take hn)
          have h4 : (ns.take (j + 1)).length ≤ 1000000 := by rw [List.length_take]; omega
          unfold InLong
          omega
        · have hsz : is.toArray.size = ns.length := by simp [hlen]
          rw [hsz, preSum_eq ns _ (Nat.le_refl _), List.take_length]
          exact q _ α h' tk (Grow.same (off_size (wr := []) (HK.push _ _) (get?_size_none _) hs) α σ) (.int _ _)
      · (first | exact nos hm | replace q := tr2 hm q | cases hm)
    · (first | exact nos hm | replace q := tr2 hm q | cases hm)
  · (first | exact nos hm | replace q := tr2 hm q | cases hm)
noncomputable def bMin : FnM
  | [.int a, .int b], σ => some (.int (if b < a then b else a), σ)
  | _, _ => none
theorem op_min (lv : Lvl k c.A) : OpN prog w c (fun xs => call (.builtin "min") xs) bMin := by
  intro vs xs α ρ σ v σ' s Q E hm r hv q
  unfold bMin at hm
  split at hm
  · (first | exact nos hm | replace q := tr2 hm q | cases hm)
    cases hv with
    | cons hv hn =>
    cases hn with
    | cons hv' hn =>
    cases hn
    cases hv; cases hv'
    refine min_two_ints lv.1 fun h' tk k => q _ α h' tk (Grow.same k α σ) ?_
    split <;> exact .int _ _
  · (first | exact nos hm | replace q := tr2 hm q | cases hm)
noncomputable def bRange : FnM
  | [.int b], σ => some (.rng 0 b, σ)
  | [.int a, .int b], σ => some (.rng a b, σ)
  | _, _ => none
theorem op_range : OpN prog w c (fun xs => call (.type "range") xs) bRange := by
  intro vs xs α ρ σ v σ' s Q E hm r hv q
  unfold bRange at hm
  split at hm
  · (first | exact nos hm | replace q := tr2 hm q | cases hm)
    cases hv with
    | cons hv hn =>
    cases hn
    cases hv
    refine call_range_1 (q _ α _ _ (Grow.same (HK.push _ _) α σ) (.rng (IsRange.new ..)))
  · (first | exact nos hm | replace q := tr2 hm q | cases hm)
    cases hv with
    | cons hv hn =>
    cases hn with
    | cons hv' hn =>
    cases hn
    cases hv; cases hv'
    refine call_range_2 (q _ α _ _ (Grow.same (HK.push _ _) α σ) (.rng (IsRange.new ..)))
  · (first | exact nos hm | replace q := tr2 hm q | cases hm)
end
end Inn
end
section
set_option maxRecDepth 10000
set_option linter.unusedVariables false
namespace Inn
open PySem
variable {prog : Program} {w : World}
theorem rel_lookup {env : Env} : ∀ (names : List (Str × NameKind)) (x : Str),
    (names.map fun (n, k) => if (k == NameKind.free && env.scope.kind == .function && env.kindOf n == some .cell) then (n, NameKind.cell) else (n, k)).lookup x =
      (names.lookup x).map fun k => if (k == NameKind.free && env.scope.kind == .function && env.kindOf x == some .cell) then NameKind.cell else k
  | [], x => rfl
  | (n, k) :: r, x => by
    have ih := rel_lookup (env := env) r x
    by_cases hx : x = n
    · subst hx
      simp only [List.map_cons, List.lookup_cons, beq_self_eq_true, Option.map_some]
      split <;> simp_all
    · have hb : (x == n) = false := by simpa using hx
      simp only [List.map_cons, List.lookup_cons, hb]
      split <;> simp only [List.lookup_cons, hb] <;> exact ih
theorem closure_ok {scope : Scope} {env : Env} (h : ∀ p ∈ scope.names, p.2 = .free → (env.cells.lookup p.1).isSome = true) :
    ∃ cl, closureFor scope env = pure cl ∧ (∀ y a, cl.lookup y = some a → env.cells.lookup y = some a) ∧ (∀ p ∈ scope.names, p.2 = .free → (cl.lookup p.1).isSome = true) := by
  have key : ∀ (names : List (Str × NameKind)) (acc : List (Str × Addr)), (∀ p ∈ names, p.2 = .free → (env.cells.lookup p.1).isSome = true) → (∀ y a, acc.lookup y = some a → env.cells.lookup y = some a) →
      ∃ cl, (forIn names acc fun (p : Str × NameKind) (cs : List (Str × Addr)) => (if (p.2 == NameKind.free) = true then do
          let a ← cellOf env p.1
          pure (ForInStep.yield ((p.1, a) :: cs)) else pure (ForInStep.yield cs) : Sem (ForInStep (List (Str × Addr))))) = pure cl ∧ (∀ y a, cl.lookup y = some a → env.cells.lookup y = some a) ∧
        (∀ p ∈ names, p.2 = .free → (cl.lookup p.1).isSome = true) ∧ (∀ y, (acc.lookup y).isSome = true → (cl.lookup y).isSome = true) := by
    intro names
    induction names with
    | nil => intro acc _ ha; exact ⟨acc, rfl, ha, fun p hp => (nomatch hp), fun _ h => h⟩
    | cons p r ih =>
      intro acc hp ha
      rw [List.forIn_cons]
      by_cases hk : (p.2 == NameKind.free) = true
      · obtain ⟨a, ea⟩ := Option.isSome_iff_exists.mp (hp p (.head _) (by simpa using hk))
        obtain ⟨cl, e1, e2, e3, e4⟩ := ih ((p.1, a) :: acc) (fun q hq => hp q (.tail _ hq)) (fun y b hy => by
          by_cases hyp : y = p.1
          · subst hyp; simp at hy; subst hy; exact ea
          · have : (y == p.1) = false := by simpa using hyp
            rw [List.lookup_cons, this] at hy; exact ha y b hy)
        refine ⟨cl, ?_, e2, fun q hq hf => ?_, fun y hy => e4 y ?_⟩
        · rw [if_pos hk]
          unfold cellOf
          rw [ea]
          exact e1
        · rcases List.mem_cons.mp hq with rfl | hq
          · exact e4 _ (by simp)
          · exact e3 q hq hf
        · rw [List.lookup_cons]
          split
          · rfl
          · exact hy
      · obtain ⟨cl, e1, e2, e3, e4⟩ := ih acc (fun q hq => hp q (.tail _ hq)) ha
        refine ⟨cl, ?_, e2, fun q hq hf => ?_, e4⟩
        · rw [if_neg hk]; exact e1
        · rcases List.mem_cons.mp hq with rfl | hq
          · exact absurd (by simpa using hf) hk
          · exact e3 q hq hf
  obtain ⟨cl, e1, e2, e3, _⟩ := key scope.names [] h (fun y a hy => by simp at hy)
  refine ⟨cl, ?_, e2, e3⟩
  show ((forIn scope.names ([] : List (Str × Addr)) fun (p : Str × NameKind) (cs : List (Str × Addr)) => (if (p.2 == NameKind.free) = true then do
          let a ← cellOf env p.1
          pure (ForInStep.yield ((p.1, a) :: cs)) else pure (ForInStep.yield cs) : Sem (ForInStep (List (Str × Addr))))) >>= fun cs => pure cs) = pure cl
  rw [e1]
  rfl
noncomputable def SimT (prog : Program) (w : World) (c : Cx) (ifs : List Expr) (ms : List (AM Bool)) : Prop :=
  SimB prog w c (forIn ifs true fun e r => if r = true then do let ok ← isTrue e c.env (eval e c.env); pure (ForInStep.yield ok) else pure (ForInStep.yield r)) (bAnd ms)
theorem simT_nil {c : Cx} : SimT prog w c [] [] := by
  intro ρ σ v σ' α s Q E hm r q
  (first | replace q := tr2 hm q | cases hm)
  exact wpAny_pure (q _ α s.heap s.toks (Grow.refl ..) rfl)
theorem simT_one {c : Cx} {e m} (h : SimB prog w c (isTrue e c.env (eval e c.env)) m) : SimT prog w c [e] [m] := by
  intro ρ σ v σ' α s Q E hm r q
  obtain ⟨a, σ1, h1, hm⟩ := abind_some hm
  have e2 : v = a ∧ σ' = σ1 := by cases a <;> cases hm <;> exact ⟨rfl, rfl⟩
  obtain ⟨rfl, rfl⟩ := e2
  rw [List.forIn_cons]
  refine wpAny_bind ?_
  simp only [if_true]
  exact wpAny_bind (h _ _ _ _ _ _ _ _ h1 r fun x α1 hh1 tk1 g1 v1 => wpAny_pure (wpAny_pure (q _ α1 hh1 tk1 g1 v1)))
noncomputable def itemsOf (v : AV) (σ : Store) : Option (List AV) := match v with
  | .rng lo hi => if rangeOk lo hi ∧ hi - lo ≤ 1000000 then some (rngL lo hi) else none
  | .ref i => (match σ[i]? with
    | some (.list vs) => some vs
    | some (.dict kvs) => some (kvs.map fun kv => .int kv.1)
    | none => none)
  | _ => none
noncomputable def compItems (x : Str) (t : AM Bool) (m : AM AV) (ρ : AEnv) (σ : Store) : List AV → Option (List AV)
  | [] => some []
  | v :: vs => (t (upd ρ x v) σ).bind fun p => if p.1 then (m (upd ρ x v) p.2).bind fun q => if q.1.closed σ.length then (compItems x t m ρ σ vs).map (q.1 :: ·) else none
    else compItems x t m ρ σ vs
noncomputable def aComp (x : Str) (src : AM AV) (t : AM Bool) (m : AM AV) : AM AV := abind src fun v => fun ρ σ => (itemsOf v σ).bind fun vs => (compItems x t m ρ σ vs).bind fun us => some (.ref σ.length, σ ++ [.list us])
abbrev subCx (c : Cx) (scope : Scope) (cl : List (Str × Addr)) (C : Addr) : Cx := ⟨c.A, compEnvC scope cl C c.env, c.h₀, c.n₀⟩
structure CompOk (c : Cx) (scope : Scope) (x : Str) : Prop where
  cell : ∀ y ∈ scope.names, y.2 ≠ .cell
  kind : scope.kind = .function
  hx : scope.names.lookup x = some .local
  x0 : x ≠ ".0"
  names : ∀ y ∈ scope.names, y.2 = .local → scope.names.lookup y.1 = some .local
  loc : ∀ y ∈ scope.names, y.2 = .local → y.1 = x ∨ y.1 = ".0"
  free : ∀ y ∈ scope.names, y.2 = .free → isVar (c.env.kindOf y.1) = true ∧ c.env.kindOf y.1 ≠ some .local
section
variable {c : Cx} {G : Heap → Prop} {k : Nat} {scope : Scope} {x : Str} {cl : List (Str × Addr)}
theorem sub_local {C : Addr} {y : Str} (co : CompOk c scope x) (h : (subCx c scope cl C).env.kindOf y = some .local) : y = x ∨ y = ".0" := by
  have h' : (relabel scope c.env).names.lookup y = some .local := h
  unfold relabel at h'
  rw [rel_lookup] at h'
  obtain ⟨kd, h1, h2⟩ := map_some' h'
  have : kd = .local := by split at h2 <;> first | exact h2 | cases h2
  subst this
  exact co.loc (y, .local) (mem_of_lookup h1) rfl
theorem sub_free {C : Addr} {y : Str} (co : CompOk c scope x) (h : (subCx c scope cl C).env.kindOf y = some .cell ∨ (subCx c scope cl C).env.kindOf y = some .free) : (y, NameKind.free) ∈ scope.names := by
  have h' : (relabel scope c.env).names.lookup y = some .cell ∨ (relabel scope c.env).names.lookup y = some .free := h
  unfold relabel at h'
  rw [rel_lookup] at h'
  have : ∃ kd, scope.names.lookup y = some kd ∧ (kd = .cell ∨ kd = .free) := by
    rcases h' with h' | h' <;> obtain ⟨kd, h1, h2⟩ := map_some' h' <;> refine ⟨kd, h1, ?_⟩ <;> split at h2
    · rename_i hc
      simp only [Bool.and_eq_true, beq_iff_eq] at hc
      exact .inr hc.1.1
    · exact .inl h2
    · cases h2
    · exact .inr h2
  obtain ⟨kd, h1, h2⟩ := this
  have hm := mem_of_lookup h1
  rcases h2 with rfl | rfl
  · exact absurd rfl (co.cell _ hm)
  · exact hm
theorem sub_cx {C : Addr} (cx : CxG G k c) (co : CompOk c scope x) (hC : c.h₀.get? C = none) (hA : ∀ y a, cl.lookup y = some a → c.env.cells.lookup y = some a) (hB : ∀ p ∈ scope.names, p.2 = .free → (cl.lookup p.1).isSome = true) :
    CxG G k (subCx c scope cl C) :=
  ⟨⟨co.kind, hC, fun y a hy => cx.ok.freshC y a (hA y a hy), fun y z a hy hz => cx.ok.apartC y z a (hA y a hy) (hA z a hz), cx.ok.hand⟩, cx.gl, cx.bl, cx.lv, cx.g, cx.mono, fun y hy => hB _ (sub_free co hy) rfl⟩
structure IterAt (h : Heap) (I : Addr) : Prop where
  ex : ∃ o vs T, h.get? I = some o ∧ o.data = .fields vs ∧ o.cls = .type T ∧ (T ≠ "tuple" ∧ T ≠ "range" ∧ T ≠ "dict_values")
theorem HK.off {h h' h'' : Heap} {a : Addr} (k : HK h h') (hn : h.get? a = none) (hs : ∀ b o, b ≠ a → h'.get? b = some o → h''.get? b = some o) : HK h h'' := fun b o e => hs b o (fun q => nos (((congrArg h.get? q).trans hn).symm.trans e)) (k b o e)
theorem upd_upd {ρ : AEnv} {x : Str} {v u : AV} : upd (upd ρ x v) x u = upd ρ x u := funext fun y => by
  unfold upd
  by_cases hy : y = x
  · rw [if_pos hy, if_pos hy]
  · rw [if_neg hy, if_neg hy, if_neg hy]
theorem R.setList {α ρ σ} {h h' : Heap} {D : Addr} {ys : Array Value} {ep : Nat} (ok : Ok c) (r : R prog w c α ρ σ h) (hD : h.get? D = some { cls := .type "list", data := .seq ys ep }) (hs : Heap.SameBut D h h') (hDC : D ≠ c.env.locals) (h0 : c.h₀.get? D = none) (ha : ∀ i, i < σ.length → α i ≠ D) :
    R prog w c α ρ σ h' ∧ Up h α σ.length h' α σ.length := by
  obtain ⟨m, cm, e1, e2, e3, e4⟩ := r.env
  have k := R.sameBut (a := D) ok r (fun b o hb e => hs.extBut b o hb e) h0 ha (fun o e => Option.some.inj (hD.symm.trans e) ▸ (fx_seq rfl rfl).1)
    ⟨m, cm, e1.sameBut hs (Ne.symm hDC), fun y a hy => (e2 y a hy).sameBut hs fun e => (e2 y a hy).elim fun ob ho => (fx_seq (ob := { cls := .type "list", data := .seq ys ep }) rfl rfl).2 _ (Option.some.inj (hD.symm.trans (e ▸ ho.1)) ▸ ho.2), e3, e4⟩ r.dot
  exact ⟨k.1, k.2.1⟩
inductive CI (prog : Program) (w : World) (c : Cx) (x : Str) (t : AM Bool) (m : AM AV) (α : Nat → Addr) (ρ : AEnv) (σ : Store) (s : Shared) (D : Addr) (St : Nat → Heap → Prop) (n : Nat) (vs us : List AV) (q : Nat) : Shared → Prop
  | mk (h' : Heap) (tk' : Nat) (ρ' : AEnv) (j : Nat) (ys : List Value) (ep : Nat) (us₀ us₁ : List AV) (f1 : q = n + 1 - j) (f2 : j ≤ n) (f3 : St j h') (f4 : HK s.heap h') (f5 : R prog w c α ρ' σ h') (f6 : ∀ v, upd ρ' x v = upd ρ x v)
    (f7 : h'.get? D = some { cls := .type "list", data := .seq ys.toArray ep }) (f8 : ys.length ≤ j) (f9 : us = us₀ ++ us₁) (f10 : VRs h' α σ.length us₀ ys) (f11 : compItems x t m ρ σ (vs.drop j) = some us₁) : CI prog w c x t m α ρ σ s D St n vs us q { s with heap := h', toks := tk' }
theorem comp_loop {elt iter : Expr} {px pos : Pos} {ifs : List Expr} {t : AM Bool} {m : AM AV} {I D : Addr} {fp : List Addr} {n : Nat} {P : Nat → Value → Prop} {St : Nat → Heap → Prop} {α : Nat → Addr} {ρ : AEnv} {σ : Store} {s s₂ : Shared} {vs us : List AV} {ts : List (AM Bool)} {RR : Result → Shared → Prop}
    (ok : Ok c) (hkx : c.env.kindOf x = some .local) (x0 : x ≠ ".0") (ht : SimT prog w c ifs ts) (htt : t = bAnd ts) (he : Sim prog w c (eval elt c.env) m) (none0 : ∀ a, s.heap.get? a = none → c.h₀.get? a = none) (live : ∀ i, i < σ.length → ∃ ob, s.heap.get? (α i) = some ob)
    (W : Walks prog w c.A I fp [I] n P St) (hI : s.heap.get? I = none) (hIf : ∀ i h, St i h → IterAt h I) (hP : ∀ j y, j < vs.length → P j y → ∃ v, vs[j]? = some v ∧ VR s.heap α σ.length v y) (hn : n = vs.length) (hn' : n ≤ 1000000)
    (hD0 : s.heap.get? D = none) (hC0 : s.heap.get? c.env.locals = none) (hDC : D ≠ c.env.locals) (hDf : D ∉ fp) (hCf : c.env.locals ∉ fp) (start : CI prog w c x t m α ρ σ s D St n vs us (n + 1) s₂)
    (fin : ∀ h' tk' m' ys ep, HK s.heap h' → h'.Ns c.env.locals m' → h'.get? D = some { cls := .type "list", data := .seq ys.toArray ep } → VRs h' α σ.length us ys → ys.length ≤ 1000000 → RR (.ok .next) { s with heap := h', toks := tk' }) :
    codeAny (model prog w) c.A (.compLoop (.ListComp elt [⟨.Name x px, iter, ifs, 0⟩] scope pos) 0 (.ref I) (.ref D) c.env) RR s₂ := by
  refine codeAny_compLoop_tests (CI prog w c x t m α ρ σ s D St n vs us) (fun q s' hI' => wpAny_gen fun X hX => ?_) (n + 1) start
  have hDI : D ≠ I := fun e => hDf (e ▸ W.sub I (List.mem_singleton.mpr rfl))
  induction hI' with
  | mk h' tk' ρ' j ys ep us₀ us₁ hq hj hst' hk' r' hu' hD' hyl hus hvr hm' =>
  obtain ⟨oI, vI, TI, gI, dI, cI, tI⟩ := (hIf _ _ hst').ex
  rcases Nat.lt_or_ge j n with hlt | hge
  · refine W.item j _ _ _ hlt hst' fun y h3 tk3 hPy hst3 hs3 => hX _ _ ?_
    obtain ⟨v, hv, hvy⟩ := hP j y (hn ▸ hlt) hPy
    have off3 : ∀ b ob, b ≠ I → h'.get? b = some ob → h3.get? b = some ob := fun b ob hb e => hs3 b ob (fun h => hb (List.mem_singleton.mp h)) e
    have k3 := r'.iter gI dI cI tI (none0 _ hI) off3
    have hk3 : HK s.heap h3 := hk'.off hI off3
    refine wpAny_assign_Name (store_local (s := { s with heap := h3, toks := tk3 }) ok k3.1 hkx x0 (hvy.up ⟨Nat.le_refl _, fun _ _ => rfl, hk3.vk⟩) fun h4 tk4 r4 u4 fk4 off4 => wpAny_gen fun Y hY => ?_)
    rw [hu' v] at r4
    have hk4 : HK s.heap h4 := hk3.off hC0 off4
    have hst4 : St (j + 1) h4 := W.frame _ _ _ hst3 fun b hb o e => off4 b o (fun hb' => hCf (hb' ▸ hb)) e
    have hD4 := off4 _ _ hDC (off3 _ _ hDI hD')
    have hvr4 : VRs h4 α σ.length us₀ ys := (hvr.up ⟨Nat.le_refl _, fun _ _ => rfl, k3.2⟩).up u4
    rw [List.drop_eq_getElem_cons (hn ▸ hlt), (List.getElem?_eq_some_iff.mp hv).2] at hm'
    obtain ⟨⟨b, σ5⟩, h5, hm5⟩ := bind_some' hm'
    rw [htt] at h5
    have hlq : n + 1 - (j + 1) < q := by omega
    refine ht _ _ _ _ _ { s with heap := h4, toks := tk4 } _ _ h5 r4 fun b' α5 hh5 tk5 g5 v5 => ?_
    subst v5
    cases b with
    | false => exact hY _ _ (Exists.intro (n + 1 - (j + 1)) ⟨hlq, .mk hh5 tk5 _ (j + 1) ys ep us₀ us₁ rfl hlt (W.frame _ _ _ hst4 fun b _ o e => g5.keep b o e) (hk4.trans g5.keep) (r4.grow g5.forget) (fun u => upd_upd) (g5.keep _ _ hD4) (Nat.le_succ_of_le hyl) hus (hvr4.up ⟨Nat.le_refl _, fun _ _ => rfl, g5.keep.vk⟩) hm5⟩)
    | true =>
      obtain ⟨⟨u, σ6⟩, h6, hm6⟩ := bind_some' hm5
      obtain ⟨hcl, hm6⟩ := ite_some hm6
      obtain ⟨us₂, hm7, e7⟩ := map_some' hm6
      refine hY _ _ (he _ _ _ _ _ { s with heap := hh5, toks := tk5 } _ _ h6 (r4.grow g5) fun z α6 hh6 tk6 g6 v6 => wpAny_gen fun Z hZ => ?_)
      have g56 := g5.trans g6
      have hD6 := g56.keep _ _ hD4
      have hv6 : VR hh6 α σ.length u z := v6.restrict hcl (fun i hi => (g56.agree i hi).symm) (Nat.le_refl _)
      refine wpAny_list_append_plain (items := ys.toArray) ⟨_, hD6⟩ (fun h7 hl7 hs7 => hZ _ _ ?_) (le_sizeLine (by simp; omega))
      obtain ⟨ep7, hD7⟩ := hl7
      have k7 := (r4.grow g56.forget).setList ok hD6 hs7 hDC (none0 _ hD0) fun i hi e => (live i hi).elim fun ob ho => nos (hD0.symm.trans (e ▸ ho))
      refine ⟨n + 1 - (j + 1), hlq, .mk h7 tk6 _ (j + 1) (ys ++ [z]) ep7 (us₀ ++ [u]) us₂ rfl hlt (W.frame _ _ _ (W.frame _ _ _ hst4 fun b _ o e => g56.keep b o e) fun b hb o e => hs7.extBut b o (fun hb' => hDf (hb' ▸ hb)) e) ((hk4.trans g56.keep).off hD0 fun b o hb e => hs7.extBut b o hb e) k7.1 (fun u => upd_upd) ?_ ?_ ?_
        (((hvr4.up ⟨Nat.le_refl _, fun _ _ => rfl, g56.keep.vk⟩).append (.cons hv6 .nil)).up k7.2) hm7⟩
      · simpa using hD7
      · rw [List.length_append]; exact Nat.add_le_add_right hyl 1
      · rw [hus, ← e7, List.append_assoc]; rfl
  · rw [Nat.le_antisymm hj hge] at hst'
    rw [List.drop_eq_nil_of_le (hn ▸ hge)] at hm'
    refine W.done _ _ _ hst' fun h3 tk3 hs3 => hX _ _ ?_
    have off3 : ∀ b ob, b ≠ I → h'.get? b = some ob → h3.get? b = some ob := fun b ob hb e => hs3 b ob (fun h => hb (List.mem_singleton.mp h)) e
    have k3 := r'.iter gI dI cI tI (none0 _ hI) off3
    obtain ⟨m8, cm8, e18, _⟩ := k3.1.env
    rw [← Option.some.inj hm', List.append_nil] at hus
    exact fin h3 tk3 m8 ys ep (hk'.off hI off3) e18 (off3 _ _ hDI hD') (hus ▸ hvr.up ⟨Nat.le_refl _, fun _ _ => rfl, k3.2⟩) (Nat.le_trans hyl (Nat.le_trans hj hn'))
theorem comp_core {elt iter : Expr} {px pos : Pos} {ifs : List Expr} {t : AM Bool} {m : AM AV} {I : Addr} {fp : List Addr} {n : Nat} {P : Nat → Value → Prop} {St : Nat → Heap → Prop} {α : Nat → Addr} {ρ : AEnv} {σ : Store} {s : Shared} {h₁ : Heap} {tk₁ : Nat} {vs us : List AV} {ts : List (AM Bool)}
    {E : Value → Shared → Prop} {RR : Value → Addr → Result → Shared → Prop}
    (cx : CxG G k c) (co : CompOk c scope x) (hA : ∀ y a, cl.lookup y = some a → c.env.cells.lookup y = some a) (hB : ∀ p ∈ scope.names, p.2 = .free → (cl.lookup p.1).isSome = true)
    (ht : ∀ C, CxG G k (subCx c scope cl C) → SimT prog w (subCx c scope cl C) ifs ts) (htt : t = bAnd ts)
    (he : ∀ C, CxG G k (subCx c scope cl C) → Sim prog w (subCx c scope cl C) (eval elt (compEnvC scope cl C c.env)) m)
    (r : R prog w c α ρ σ s.heap) (W : Walks prog w c.A I fp [I] n P St) (hI : s.heap.get? I = none) (k₁ : HK s.heap h₁) (hst : St 0 h₁) (hfp : ∀ b ∈ fp, b < h₁.objs.size) (hIf : ∀ i h, St i h → IterAt h I)
    (hP : ∀ j y, j < vs.length → P j y → ∃ v, vs[j]? = some v ∧ VR s.heap α σ.length v y) (hn : n = vs.length) (hn' : n ≤ 1000000) (hm : compItems x t m ρ σ vs = some us)
    (fin : ∀ D C h' tk' m' ys ep, s.heap.get? D = none → s.heap.get? C = none → D ≠ C → HK s.heap h' → h'.Ns C m' → h'.get? D = some { cls := .type "list", data := .seq ys.toArray ep } → VRs h' α σ.length us ys → ys.length ≤ 1000000 →
      RR (.ref D) C (.ok .next) { s with heap := h', toks := tk' }) :
    wpAny (model prog w) c.A (newList []) (fun acc s₃ => wpAny (model prog w) c.A (newFunctionEnv scope c.env.globals cl [] c.env.qual none .none (some c.env)) (fun cenv s₄ =>
      codeAny (model prog w) c.A (.compStart (.ListComp elt [⟨.Name x px, iter, ifs, 0⟩] scope pos) 0 (.ref I) acc { cenv with scope := relabel scope c.env }) (RR acc cenv.locals) s₄) E s₃) E { s with heap := h₁, toks := tk₁ } := by
  refine wpAny_newObj_type (wpAny_newFunctionEnv co.cell (by intro y hy; simp at hy) (fun h₂ hns₁ hsb₁ => ?_) co.kind)
  dsimp only at hns₁ hsb₁ ⊢
  generalize hH2 : h₁.push { cls := .type "list", dict := none, data := .seq ([] : List Value).toArray } = H2 at hns₁ hsb₁ ⊢
  have hC : H2.objs.size = h₁.objs.size + 1 := by rw [← hH2, Heap.size_push]
  have hDC : h₁.objs.size ≠ H2.objs.size := by rw [hC]; exact Nat.ne_of_lt (Nat.lt_succ_self _)
  have below : ∀ b, b < h₁.objs.size → b ≠ H2.objs.size ∧ b ≠ h₁.objs.size := fun b hb => ⟨by rw [hC]; exact Nat.ne_of_lt (Nat.lt_succ_of_lt hb), Nat.ne_of_lt hb⟩
  have hDf : h₁.objs.size ∉ fp := fun hm => Nat.lt_irrefl _ (hfp _ hm)
  have hCf : H2.objs.size ∉ fp := fun hm => by have := hfp _ hm; rw [hC] at this; exact Nat.lt_irrefl _ (Nat.lt_of_succ_lt this)
  have old : HK h₁ h₂ := fun b o e => hsb₁.extBut b o (below b (Heap.lt_size e)).1 (Heap.get?_push_of_some _ (hH2 ▸ Heap.get?_push_of_some _ e))
  have hacc : h₂.get? h₁.objs.size = some { cls := .type "list", data := .seq ([] : List Value).toArray } := hsb₁.extBut _ _ hDC (Heap.get?_push_of_some _ (hH2 ▸ Heap.get?_push_size _ rfl))
  have hst₁ : St 0 h₂ := W.frame _ _ _ hst fun b _ o e => old b o e
  have fresh : ∀ a, h₁.objs.size ≤ a → s.heap.get? a = none := fun a ha => by
    cases e : s.heap.get? a with
    | none => rfl
    | some o' => exact absurd (Heap.lt_size (k₁ _ _ e)) (Nat.not_lt.mpr ha)
  have hD0 := fresh h₁.objs.size (Nat.le_refl _)
  have hC0 := fresh H2.objs.size (by rw [hC]; exact Nat.le_succ _)
  have none0 : ∀ a, s.heap.get? a = none → c.h₀.get? a = none := fun a ha => by
    cases e : c.h₀.get? a with
    | none => rfl
    | some o => rw [r.keep _ _ e] at ha; cases ha
  have cx' : CxG G k (subCx c scope cl H2.objs.size) := sub_cx cx co (none0 _ hC0) hA hB
  have live : ∀ i, i < σ.length → ∃ ob, s.heap.get? (α i) = some ob := fun i hi => r.live i hi
  have kk : HK s.heap h₂ := k₁.trans old
  -- the relation in the comprehension's own frame
  have r0 : R prog w (subCx c scope cl H2.objs.size) α (fun y => if y = x then none else ρ y) σ h₂ := by
    have g := r.grow (Grow.same kk α σ)
    obtain ⟨m0, cm, e1, e2, e3, e4⟩ := g.env
    refine ⟨g.keep, ⟨_, cm, hns₁, fun y a hy => e2 y a (hA y a hy), fun y v hy hk => ?_, fun y v hy hk => ?_⟩, ?_, g.objs, g.inj, g.own, fun i hi e => ?_⟩
    · rcases sub_local co hk with rfl | rfl
      · simp at hy
      · by_cases h0 : (".0" : Str) = x
        · rw [if_pos h0] at hy; cases hy
        · rw [if_neg h0, r.dot] at hy; cases hy
    · have hyf := sub_free co hk
      by_cases h0 : y = x
      · rw [if_pos h0] at hy; cases hy
      · rw [if_neg h0] at hy
        have := co.free _ hyf rfl
        exact e4 y v hy (var_not_local this)
    · by_cases h0 : (".0" : Str) = x
      · rw [if_pos h0]
      · rw [if_neg h0]; exact r.dot
    · obtain ⟨ob, ho⟩ := live i hi
      rw [show α i = H2.objs.size from e] at ho
      rw [hC0] at ho; cases ho
  have updx : ∀ v, upd (fun y => if y = x then none else ρ y) x v = upd ρ x v := fun v => funext fun y => by
    unfold upd
    by_cases hy : y = x
    · rw [if_pos hy, if_pos hy]
    · rw [if_neg hy, if_neg hy]; exact if_neg hy
  have loop := comp_loop (elt := elt) (iter := iter) (px := px) (pos := pos) (scope := scope) (RR := RR (.ref h₁.objs.size) H2.objs.size) (D := h₁.objs.size) cx'.ok (lookup_relabel_local co.hx) co.x0 (ht _ cx') htt (he _ cx') none0 live W hI hIf hP hn hn' hD0 hC0 hDC hDf hCf
    (.mk h₂ (tk₁ + ([] : List (Str × Value)).length) _ 0 [] 0 [] us rfl (Nat.zero_le _) hst₁ kk r0 updx hacc (Nat.le_refl _) rfl .nil hm) fun h' tk' m' ys ep a1 a2 a3 a4 a5 => fin _ _ h' tk' m' ys ep hD0 hC0 hDC a1 a2 a3 a4 a5
  exact codeAny_compStart_list loop (W.self 0 _ _ _ hst₁ loop)
end
end Inn
end
section
set_option maxRecDepth 10000
set_option linter.unusedVariables false
namespace Inn
open PySem
variable {prog : Program} {w : World}
section
variable {c : Cx} {G : Heap → Prop} {k : Nat}
theorem intKind_is {kk : Int} {v : Value} (h : (intKind prog w).is kk v = true) : ∃ t, v = .int kk t := by
  cases v <;> simp [intKind, Value.isInt] at h
  subst h; exact ⟨_, rfl⟩
theorem itemsOf_inv {C : Prop} {v σ vs} (h : itemsOf v σ = some vs) (k1 : ∀ lo hi, v = .rng lo hi → (rangeOk lo hi ∧ hi - lo ≤ 1000000) → rngL lo hi = vs → C) (k2 : ∀ i us, v = .ref i → σ[i]? = some (.list us) → us = vs → C)
    (k3 : ∀ i kvs, v = .ref i → σ[i]? = some (.dict kvs) → (kvs.map fun kv => AV.int kv.1) = vs → C) : C := by
  cases v with
  | rng lo hi => exact k1 lo hi rfl (ite_some h).1 (Option.some.inj (ite_some h).2)
  | ref i =>
    replace k2 := k2 i
    replace k3 := k3 i
    clear k1
    unfold itemsOf at h
    dsimp only at h
    cases e : σ[i]? with
    | none => rw [e] at h; exact nos h
    | some o =>
      rw [e] at h
      cases o with
      | list us => exact k2 us rfl e (Option.some.inj h)
      | dict kvs => exact k3 kvs rfl e (Option.some.inj h)
  | _ => exact nos h
theorem KR.keyAt {h α n kvs xs} (hk : KR h α n kvs xs) {j : Nat} {kk : Int} {xx : Value} (e : xs[j]? = some (kk, xx)) : (kvs.map fun kv => AV.int kv.1)[j]? = some (.int kk) := by
  induction hk generalizing j with
  | nil => cases e
  | cons a r ih =>
    cases j with
    | zero => cases e; rfl
    | succ j => exact ih e
theorem Walks.to {A I fp ws n m P St} (W : Walks prog w A I fp ws n P St) (e : m = n) : Walks prog w A I fp ws m P St := by subst e; exact W
theorem lt_two {h : Heap} {o : Obj} {a b : Addr} (ha : a < h.objs.size) (hb : b ∈ [h.objs.size, a]) : b < (h.push o).objs.size := by
  rw [Heap.size_push]
  rcases List.mem_cons.mp hb with rfl | hb
  · exact Nat.lt_succ_self _
  · exact List.mem_singleton.mp hb ▸ Nat.lt_succ_of_lt ha
set_option tactic.hygienic true in
theorem iter_walk {α ρ σ} {s : Shared} {v : AV} {y : Value} {vs : List AV} {Q : Value → Shared → Prop} {E : Value → Shared → Prop} (hh : c.A.handled = none) (r : R prog w c α ρ σ s.heap) (hv : VR s.heap α σ.length v y) (hi : itemsOf v σ = some vs)
    (q : ∀ I fp P St h₁, s.heap.get? I = none → HK s.heap h₁ → Walks prog w c.A I fp [I] vs.length P St → St 0 h₁ → (∀ b ∈ fp, b < h₁.objs.size) → (∀ i h, St i h → IterAt h I) →
      (∀ j z, j < vs.length → P j z → ∃ v, vs[j]? = some v ∧ VR s.heap α σ.length v z) → vs.length ≤ 1000000 → Q (.ref I) { s with heap := h₁ }) : wpAny (model prog w) c.A (pyIter y) Q E s := by
  refine itemsOf_inv hi (fun lo hi' ev hok evs => ?_) (fun i us ev e1 evs => ?_) fun i kvs ev e1 evs => ?_
  · obtain ⟨a, t, u, z, rfl, hr⟩ := VR.inv_rng (ev ▸ hv)
    refine wpAny_pyIter_range hr (small_one hok.1.1 hok.1.2.1 hok.1.2.2.1 hok.1.2.2.2) ?_
    have e : Builtin.Range.rangeSize lo hi' 1 = ((hi' - lo).toNat : Int) := by rw [rangeSize_one]; split <;> omega
    have hl : vs.length = (hi' - lo).toNat := by rw [← evs]; simp [rngL]
    refine q s.heap.objs.size _ _ _ _ (get?_size_none _) (HK.push _ _) (Walks.to (Walks.range hh s.heap.objs.size lo 1 (hi' - lo).toNat) hl) ?_ (fun b hb => ?_) (fun i h hst => ⟨_, _, _, hst, rfl, rfl, by decide⟩) ?_ (by rw [hl]; omega)
    · show Heap.get? _ _ = _
      rw [Heap.get?_push_size _ rfl, e]; simp
    · rw [List.mem_singleton.mp hb, Heap.size_push]; exact Nat.lt_succ_self _
    · rintro j z hj ⟨tk, rfl⟩
      rw [hl] at hj
      refine ⟨.int (lo + j), ?_, ?_⟩
      · rw [← evs]; simp [rngL, hj]
      · simpa using VR.int _ _
  · obtain ⟨hi, rfl⟩ := VR.inv_ref (ev ▸ hv)
    subst evs
    obtain ⟨is, n1, g1, v1, l1⟩ := r.list e1
    have hlt := Heap.lt_size g1
    refine wpAny_pyIter_list ⟨_, g1, rfl, _, rfl⟩ (q s.heap.objs.size _ _ _ _ (get?_size_none _) (HK.push _ _) (Walks.to (Walks.list hh s.heap.objs.size (α i) (Nat.ne_of_lt hlt) is.toArray) v1.length) ⟨⟨_, Heap.get?_push_size _ rfl, rfl, rfl⟩, ⟨_, Heap.get?_push_of_some _ g1, rfl, _, rfl⟩⟩
      (fun b hb => lt_two hlt hb) (fun i h hst => hst.1.elim fun o ho => ⟨_, _, _, ho.1, ho.2.2, ho.2.1, by decide⟩) (fun j z hj hz => ?_) (v1.length ▸ l1))
    obtain ⟨z', e2, hv⟩ := v1.get j us[j] (List.getElem?_eq_getElem hj)
    exact ⟨us[j], List.getElem?_eq_getElem hj, Option.some.inj (e2.symm.trans (List.getElem?_toArray.symm.trans hz)) ▸ hv⟩
  · obtain ⟨hi, rfl⟩ := VR.inv_ref (ev ▸ hv)
    obtain ⟨xs, hd, hk, hne, hl⟩ := r.dict e1
    obtain ⟨ep, hdat⟩ := hd.dictAt
    have hsz : vs.length = xs.length := by rw [← evs, List.length_map, hk.length]
    refine wpAny_pyIter_dict (knd := intKind prog w) (by simpa using hne) hdat (q s.heap.objs.size _ _ _ _ (get?_size_none _) (HK.push _ _) (Walks.to (Walks.dictKeys (knd := intKind prog w) hh s.heap.objs.size (α i) (Nat.ne_of_lt hdat.lt_size) xs ep) hsz) ⟨⟨_, Heap.get?_push_size _ rfl, rfl, rfl⟩, hdat.push _⟩
      (fun b hb => lt_two hdat.lt_size hb) (fun i h hst => hst.1.elim fun o ho => ⟨_, _, _, ho.1, ho.2.2, ho.2.1, by decide⟩) (fun j z hj hz => ?_) (hsz ▸ hl))
    obtain ⟨kk, xx, hx, his⟩ := hz
    obtain ⟨t, rfl⟩ := intKind_is his
    exact ⟨_, evs ▸ hk.keyAt hx, .int _ _⟩
theorem off_vk {h h' : Heap} {C : Addr} {m : Str → Option Value} (hn : h.Ns C m) (hs : Heap.SameBut C h h') : VK h h' := fun b o e v => hs.extBut b o (fun hb => by
  subst hb
  obtain ⟨o', es, ep, ho, hd, _⟩ := hn
  rw [ho] at e; cases e
  rcases v with ⟨_, _, _, v⟩ | ⟨_, _, v⟩ <;> rw [hd] at v <;> cases v) e
theorem grow_list' {σ : Store} {α : Nat → Addr} {h h' : Heap} {vs : List AV} {items : List Value} {a : Addr} {ep : Nat} (k : HK h h') (hn : h.get? a = none)
    (ho : h'.get? a = some { cls := .type "list", data := .seq items.toArray ep }) (hv : VRs h' α σ.length vs items) (hl : items.length ≤ 1000000) :
    ∃ α', Grow prog w h α σ h' α' (σ ++ [.list vs]) ∧ VR h' α' (σ ++ [AO.list vs]).length (.ref σ.length) (.ref a) := by
  have u : Up h' α σ.length h' (fun i => if i = σ.length then a else α i) (σ.length + 1) := ⟨Nat.le_succ _, fun i hi => by simp [Nat.ne_of_lt hi], VK.refl _⟩
  refine ⟨_, Grow.one k hn (.list ho (hv.up u) hl), ?_⟩
  have := VR.ref (h := h') (α := fun i => if i = σ.length then a else α i) (n := (σ ++ [AO.list vs]).length) (i := σ.length) (by simp)
  simpa using this
theorem sim_ListComp {elt iter : Expr} {x : Str} {px pos : Pos} {ifs : List Expr} {scope : Scope} {src : AM AV} {ts : List (AM Bool)} {m : AM AV} (cx : CxG G k c) (co : CompOk c scope x) (hs : ∀ v, foldedSetIterable iter c.env v = pure v)
    (hsrc : Sim prog w c (eval iter c.env) src)
    (ht : ∀ cl C, CxG G k (subCx c scope cl C) → SimT prog w (subCx c scope cl C) ifs ts)
    (he : ∀ cl C, CxG G k (subCx c scope cl C) → Sim prog w (subCx c scope cl C) (eval elt (compEnvC scope cl C c.env)) m) :
    Sim prog w c (eval (.ListComp elt [⟨.Name x px, iter, ifs, 0⟩] scope pos) c.env) (aComp x src (bAnd ts) m) := by
  intro ρ σ v σ' α s Q E hm r q
  obtain ⟨a, σ1, h1, hm⟩ := abind_some hm
  obtain ⟨vs, h2, hm⟩ := bind_some' hm
  obtain ⟨us, h3, hm⟩ := bind_some' hm
  (first | replace q := tr2 hm q | cases hm)
  obtain ⟨cl, ecl, hA, hB⟩ := closure_ok (scope := scope) (env := c.env) (fun p hp hf => by
    exact cx.cells _ (var_not_local (co.free p hp hf)))
  rw [eval_ListComp]
  refine wpAny_comprehension_free (use := none) rfl hs ecl co.kind co.names ?_
  refine hsrc _ _ _ _ _ _ _ _ h1 r fun y α1 hh1 tk1 g1 v1 => ?_
  have r1 := r.grow g1
  refine iter_walk (s := { s with heap := hh1, toks := tk1 }) cx.ok.hand r1 v1 h2 fun I fp P St h₁ hI k₁ W hst hfp hIf hP hl => ?_
  refine comp_core (s := { s with heap := hh1, toks := tk1 }) (RR := fun acc C => compPost (model prog w) c.A E none Q acc C) cx co hA hB (ht cl) rfl (he cl) r1 W hI k₁ hst hfp hIf hP rfl hl h3 ?_
  intro D C h' tk' m' ys ep hD hC hDC hk hn hd hv hyl
  refine ⟨m', hn, fun h'' hs'' => ?_⟩
  have hk'' : HK hh1 h'' := fun b o e => hs''.extBut b o (fun hb => by subst hb; rw [hC] at e; cases e) (hk b o e)
  have hd'' := hs''.extBut _ _ hDC hd
  have vk : VK h' h'' := off_vk hn hs''
  obtain ⟨α', g, v⟩ := grow_list' (h := hh1) (a := D) hk'' hD hd'' (hv.up ⟨Nat.le_refl _, fun _ _ => rfl, vk⟩) hyl
  exact q _ α' h'' tk' (g1.trans g) v
noncomputable def sAssignC (y : Str) (x : Str) (src : AM AV) (t : AM Bool) (m : AM AV) : AS := sAssign y (aComp x src t m)
theorem simS_AssignComp {elt iter : Expr} {x y : Str} {px py pos spos : Pos} {ifs : List Expr} {scope : Scope} {src : AM AV} {ts : List (AM Bool)} {m : AM AV} (cx : CxG G k c) (st : Storable c y) (co : CompOk c scope x) (hs : ∀ v, foldedSetIterable iter c.env v = pure v)
    (hsw : swapsWith (.ListComp elt [⟨.Name x px, iter, ifs, 0⟩] scope pos) (some (.Name y py)) spos.line c.env = pure true)
    (hsrc : Sim prog w c (eval iter c.env) src)
    (ht : ∀ cl C, CxG G k (subCx c scope cl C) → SimT prog w (subCx c scope cl C) ifs ts)
    (he : ∀ cl C, CxG G k (subCx c scope cl C) → Sim prog w (subCx c scope cl C) (eval elt (compEnvC scope cl C c.env)) m) :
    SimS prog w c (exec (.Assign [.Name y py] (.ListComp elt [⟨.Name x px, iter, ifs, 0⟩] scope pos) spos) c.env) (sAssignC y x src (bAnd ts) m) := by
  intro ρ σ f ρ' σ' α s Q E hm r q
  obtain ⟨⟨v, σ2⟩, hm1, hm2⟩ := bind_some' hm
  cases hm2
  clear hm
  obtain ⟨a, σ1, h1, hm⟩ := abind_some hm1
  obtain ⟨vs, h2, hm⟩ := bind_some' hm
  obtain ⟨us, h3, hm⟩ := bind_some' hm
  (first | replace q := tr2 hm q | cases hm)
  obtain ⟨cl, ecl, hA, hB⟩ := closure_ok (scope := scope) (env := c.env) (fun p hp hf => by
    exact cx.cells _ (var_not_local (co.free p hp hf)))
  rw [exec_Assign_Name_used _ _ _ _ hsw]
  refine wpAny_bind (wpAny_standAt (wpAny_bind ?_))
  show wpAny _ _ (do let _ ← comprehension (.ListComp elt [⟨.Name x px, iter, ifs, 0⟩] scope pos) scope c.env _ (newList []) false (eval iter c.env) (some (assign (.Name y py) c.env))) _ _ s
  refine wpAny_bind (wpAny_mono (wpAny_comprehension_free (use := some (assign (.Name y py) c.env)) (Q := fun _ s' => Q .next s') rfl hs ecl co.kind co.names ?_) (fun _ s' hq => wpAny_pure (wpAny_pure hq)) fun _ _ e => e)
  refine hsrc _ _ _ _ _ _ _ _ h1 r fun y1 α1 hh1 tk1 g1 v1 => ?_
  have r1 := r.grow g1
  refine iter_walk (s := { s with heap := hh1, toks := tk1 }) cx.ok.hand r1 v1 h2 fun I fp P St h₁ hI k₁ W hst hfp hIf hP hl => ?_
  refine comp_core (s := { s with heap := hh1, toks := tk1 }) (RR := fun acc C => compPost (model prog w) c.A E (some (assign (.Name y py) c.env)) (fun _ s' => Q .next s') acc C) cx co hA hB (ht cl) rfl (he cl) r1 W hI k₁ hst hfp hIf hP rfl hl h3 ?_
  intro D C h' tk' m' ys ep hD hC hDC hk hn hd hv hyl
  obtain ⟨α', g, v⟩ := grow_list' (h := hh1) (a := D) hk hD hd hv hyl
  have r2 := r1.grow g
  show wpAny _ _ (assign (.Name y py) c.env (.ref D)) _ _ _
  have hCr : ∀ b o, hh1.get? b = some o → b ≠ C := fun b o e hb => by subst hb; rw [hC] at e; cases e
  obtain ⟨m1, cm1, e11, e21, _⟩ := id r1.env
  have hLC : C ≠ c.env.locals := fun e => by
    obtain ⟨o, _, _, ho, _⟩ := e11
    exact hCr _ _ ho e.symm
  have hcC : ∀ z, c.env.cells.lookup z ≠ some C := fun z hz => by
    obtain ⟨o, ho, _⟩ := e21 z C hz
    exact hCr _ _ ho rfl
  refine wpAny_assign_Name (store_any (s := { s with heap := h', toks := tk' }) cx.ok st r2 v fun h3 tk3 r3 u3 fk3 off3 => ?_)
  have hn3 : h3.Ns C m' := by
    obtain ⟨o, es, ep, ho, rest⟩ := hn
    exact ⟨o, es, ep, off3 _ _ ho hLC hcC, rest⟩
  refine ⟨m', hn3, fun h4 hs4 => ?_⟩
  obtain ⟨oC, esC, epC, hoC, hdC, _⟩ := id hn3
  have hne : ∀ b o, h3.get? b = some o → (∀ es ep, o.data ≠ .dict es ep) → b ≠ C := fun b o e hd hb => by
    subst hb; rw [hoC] at e; cases e; exact hd _ _ hdC
  obtain ⟨m3, cm3, e13, e23, e33, e43⟩ := r3.env
  have henv : ∃ (m cm : Str → Option Value), h4.Ns c.env.locals m ∧ (∀ x a, c.env.cells.lookup x = some a → h4.IsCell a (cm x)) ∧
      (∀ z v', upd ρ y (.ref σ1.length) z = some v' → c.env.kindOf z = some .local → ∃ y, m z = some y ∧ VR h3 α' (σ1 ++ [AO.list us]).length v' y) ∧
      (∀ z v', upd ρ y (.ref σ1.length) z = some v' → (c.env.kindOf z = some .cell ∨ c.env.kindOf z = some .free) → ∃ y, cm z = some y ∧ VR h3 α' (σ1 ++ [AO.list us]).length v' y) :=
    ⟨m3, cm3, e13.sameBut hs4 (Ne.symm hLC), fun z a hz => (e23 z a hz).sameBut hs4 fun e => hcC z (e ▸ hz), e33, e43⟩
  have hαC : ∀ i, i < (σ1 ++ [AO.list us]).length → α' i ≠ C := fun i hi e => by
    by_cases hlt : i < σ1.length
    · rw [g.agree i hlt] at e
      obtain ⟨ob, ho⟩ := r1.live i hlt
      exact hCr _ _ ho e
    · have : i = σ1.length := by simp at hi; omega
      subst this
      cases v with
      | ref hi => exact hDC e
  have h0C : c.h₀.get? C = none := by
    cases e : c.h₀.get? C with
    | none => rfl
    | some o => exact absurd rfl (hCr _ _ (r1.keep _ _ e))
  obtain ⟨r4, u4, fk4⟩ := R.sameBut (a := C) cx.ok r3 (fun b o hb e => hs4.extBut b o hb e) h0C hαC (fun o e f => by
      rw [hoC] at e; cases e
      rcases f with ⟨_, f⟩ | ⟨_, _, _, f⟩ <;> rw [hdC] at f <;> cases f) henv r3.dot
  exact q _ α' h4 tk3 r4 (((g1.up.trans g.up).trans u3).trans u4) (((g1.fk.trans g.fk).trans fk3).trans fk4) .next
end
end Inn
end
section
set_option maxRecDepth 10000
set_option linter.unusedVariables false
namespace Inn
open PySem PySem.SeqAt
variable {prog : Program} {w : World}
noncomputable def pairsEq (f : AV → AV → Option Bool) : List AV → List AV → Option Bool
  | v :: vs, u :: us => (f v u).bind fun a => (pairsEq f vs us).map fun b => a && b
  | _, _ => some true
noncomputable def dictEq (f : AV → AV → Option Bool) (kws : List (Int × AV)) : List (Int × AV) → Option Bool
  | [] => some true
  | (k, v) :: r => match look kws k with
    | none => some false
    | some u => (f v u).bind fun a => (dictEq f kws r).map fun b => a && b
noncomputable def aEq : Nat → Store → AV → AV → Option Bool
  | 0, _, _, _ => none
  | n + 1, σ, v, u => match v, u with
    | .int a, .int b => some (a == b)
    | .bool a, .bool b => some (a == b)
    | .none, .none => some true
    | .none, .int _ => some false
    | .int _, .none => some false
    | .tup vs, .tup us => (pairsEq (aEq n σ) vs us).map fun b => b && vs.length == us.length
    | .ref i, .ref j => (match σ[i]?, σ[j]? with
      | some (.list vs), some (.list us) => if vs.length = us.length then pairsEq (aEq n σ) vs us else some false
      | some (.dict ka), some (.dict kb) => if ka.length = kb.length then dictEq (aEq n σ) kb ka else some false
      | _, _ => none)
    | _, _ => none
theorem pairs_any {p w p' w'} {es : List DictEntry} {kvs : List (Int × Value)} (h : Pairs (intKind p w) es kvs) : Pairs (intKind p' w') es kvs := by
  induction h with
  | nil => exact .nil
  | cons a b _ ih => exact .cons a b ih
theorem dictOf_any {p w p' w'} {h : Heap} {a : Addr} {kvs : List (Int × Value)} (d : h.DictOf (intKind p w) a kvs) : h.DictOf (intKind p' w') a kvs := by
  obtain ⟨o, es, ep, ho, hx, hd, hk, hp, hn⟩ := d
  exact ⟨o, es, ep, ho, hx, hd, hk, pairs_any hp, hn⟩
theorem SR.list {α σ h i vs} (r : SR prog w α σ h) (e : σ[i]? = some (.list vs)) :
    ∃ items ep, h.get? (α i) = some { cls := .type "list", data := .seq (items : List Value).toArray ep } ∧ VRs h α σ.length vs items ∧ items.length ≤ 1000000 := by
  cases r.objs i _ e with
  | list a b c => exact ⟨_, _, a, b, c⟩
theorem SR.dict {α σ h i kvs} (r : SR prog w α σ h) (e : σ[i]? = some (.dict kvs)) :
    ∃ xs, h.DictOf (intKind prog w) (α i) xs ∧ KR h α σ.length kvs xs ∧ α i ≠ sysModules ∧ xs.length ≤ 1000000 := by
  cases r.objs i _ e with
  | dict a b c d => exact ⟨_, a, b, c, d⟩
theorem KR.keys {h α n} : ∀ {vs xs}, KR h α n vs xs → vs.map (·.1) = xs.map (·.1)
  | _, _, .nil => rfl
  | _, _, .cons _ r => by simp [r.keys]
theorem look_self {kvs : List (Int × AV)} (hn : (kvs.map (·.1)).Nodup) : ∀ p ∈ kvs, look kvs p.1 = some p.2 := by
  induction kvs with
  | nil => intro p hp; cases hp
  | cons a r ih =>
    intro p hp
    simp only [List.map_cons, List.nodup_cons] at hn
    rcases List.mem_cons.mp hp with rfl | hp
    · simp [look]
    · have hne : ¬ a.1 = p.1 := fun e => hn.1 (e ▸ List.mem_map_of_mem hp)
      simp only [look, List.find?_cons, hne, decide_false]
      exact ih hn.2 p hp
theorem KR.mem {h α n} : ∀ {vs xs}, KR h α n vs xs → ∀ p ∈ vs, ∃ x, VR h α n p.2 x
  | _, _, .nil, p, hp => by cases hp
  | _, _, .cons a r, p, hp => by
    rcases List.mem_cons.mp hp with rfl | hp
    · exact ⟨_, a⟩
    · exact r.mem p hp
set_option tactic.hygienic true in
theorem same_true {α σ h} (sr : SR prog w α σ h) : ∀ (n : Nat) (v u : AV) (x : Value) (b : Bool), aEq n σ v u = some b → VR h α σ.length v x → VR h α σ.length u x → b = true
  | 0, v, u, x, b, e, _, _ => by cases e
  | n + 1, v, u, x, b, e, hv, hu => by
    have pl : ∀ (vs us : List AV) (xs : List Value) (b : Bool), VRs h α σ.length vs xs → VRs h α σ.length us xs → pairsEq (aEq n σ) vs us = some b → b = true := by
      intro vs
      induction vs with
      | nil => intro us xs b _ _ e; cases us <;> (cases e; rfl)
      | cons v vs ih =>
        intro us xs b h1 h2 e
        cases h1 with
        | cons a1 r1 =>
        cases h2 with
        | cons a2 r2 =>
        obtain ⟨b1, e1, e⟩ := bind_some' e
        obtain ⟨b2, e2, e⟩ := map_some' e
        rw [← e, same_true sr n _ _ _ _ e1 a1 a2, ih _ _ _ r1 r2 e2]; rfl
    unfold aEq at e
    split at e <;> try simp only [Option.some.injEq] at e
    · obtain ⟨t, rfl⟩ := hv.inv_int; obtain ⟨t', hx⟩ := hu.inv_int; cases hx; rw [← e]; simp
    · have := hv.inv_bool; subst this; have := hu.inv_bool; cases this; rw [← e]; simp
    · exact e.symm
    · have := hv.inv_none; subst this; obtain ⟨t', hx⟩ := hu.inv_int; cases hx
    · have := hu.inv_none; subst this; obtain ⟨t', hx⟩ := hv.inv_int; cases hx
    · obtain ⟨a, items, rfl, g1, r1⟩ := hv.inv_tup
      obtain ⟨a', items', hx, g2, r2⟩ := hu.inv_tup
      cases hx
      rw [g1] at g2
      have : items = items' := by injection g2 with g2; injection g2 with _ _ g2; injection g2 with g2; simpa using g2
      subst this
      obtain ⟨b1, e1, e⟩ := map_some' e
      rw [← e, pl _ _ _ _ r1 r2 e1, r1.length, r2.length]; simp
    · rename_i i j
      obtain ⟨hi, rfl⟩ := hv.inv_ref
      obtain ⟨hj, hx⟩ := hu.inv_ref
      injection hx with hx
      have : i = j := sr.inj i j hi hj hx
      subst this
      split at e
      · rename_i vs us e1 e2
        rw [e1] at e2; cases e2
        obtain ⟨is, n1, g1, v1, l1⟩ := sr.list e1
        rw [if_pos rfl] at e
        exact pl _ _ _ _ v1 v1 e
      · rename_i ka kb e1 e2
        rw [e1] at e2; cases e2
        rw [if_pos rfl] at e
        obtain ⟨xs, hd, hk, _⟩ := sr.dict e1
        have hnd : (ka.map (·.1)).Nodup := by
          rw [hk.keys]
          obtain ⟨_, _, _, _, _, _, _, _, hn⟩ := hd
          exact hn
        have key : ∀ (r : List (Int × AV)) (b : Bool), (∀ p ∈ r, p ∈ ka) → dictEq (aEq n σ) ka r = some b → b = true := by
          intro r
          induction r with
          | nil => intro b _ e; cases e; rfl
          | cons p r ih =>
            intro b hsub e
            unfold dictEq at e
            rw [look_self hnd p (hsub p (.head _))] at e
            obtain ⟨b1, e1, e⟩ := bind_some' e
            obtain ⟨b2, e2, e⟩ := map_some' e
            obtain ⟨x, hx⟩ := hk.mem p (hsub p (.head _))
            rw [← e, same_true sr n _ _ _ _ e1 hx hx, ih _ (fun q hq => hsub q (.tail _ hq)) e2]; rfl
        exact key _ _ (fun _ h => h) e
      · cases e
    · cases e
theorem pairs_all {f : AV → AV → Option Bool} : ∀ {vs us : List AV} {b : Bool}, pairsEq f vs us = some b →
    (∀ (j : Nat) v u, vs[j]? = some v → us[j]? = some u → ∃ bj, f v u = some bj) ∧ b = (List.range (min vs.length us.length)).all (fun j => (f (vs.getD j .none) (us.getD j .none)).getD false)
  | [], us, b, e => by
    cases e
    exact ⟨fun j v u hv => by simp at hv, by simp⟩
  | v :: vs, [], b, e => by
    cases e
    exact ⟨fun j v u _ hu => by simp at hu, by simp⟩
  | v :: vs, u :: us, b, e => by
    obtain ⟨b1, e1, e⟩ := bind_some' e
    obtain ⟨b2, e2, e⟩ := map_some' e
    obtain ⟨h1, h2⟩ := pairs_all e2
    refine ⟨fun j v' u' hv hu => ?_, ?_⟩
    · cases j with
      | zero => simp at hv hu; subst hv hu; exact ⟨_, e1⟩
      | succ j => simp at hv hu; exact h1 j v' u' hv hu
    · have hmin : min (v :: vs).length (u :: us).length = min vs.length us.length + 1 := by simp only [List.length_cons]; omega
      rw [hmin, List.range_succ_eq_map, List.all_cons, List.all_map, ← e, h2]
      simp only [List.getD_cons_zero, e1, Option.getD_some]
      rfl
theorem KR.look_none {h α n} : ∀ {vs xs}, KR h α n vs xs → ∀ {k : Int}, Inn.look vs k = none → valueAt xs k = none
  | _, _, .nil, k, e => rfl
  | _, _, .cons (k := k') (v := v') (x := x') a r, k, e => by
    by_cases hk : k' = k
    · subst hk
      simp [Inn.look] at e
    · rename_i vs' _
      have e' : Inn.look vs' k = none := by
        simp only [Inn.look, List.find?_cons, hk, decide_false] at e
        exact e
      simp only [valueAt, List.find?_cons, hk, decide_false]
      exact r.look_none e'
set_option tactic.hygienic true in
theorem eq_at {α σ} : ∀ (n : Nat) (v u : AV) (x y : Value) (b : Bool) (A : Around) (s : Shared), SR prog w α σ s.heap → aEq n σ v u = some b → VR s.heap α σ.length v x → VR s.heap α σ.length u y → A.units + n < cLine →
    EqAt A s x y b ∧ RcAt A s x y b ∧ RcNeAt A s x y (!b)
  | 0, v, u, x, y, b, A, s, sr, e, _, _, _ => by cases e
  | n + 1, v, u, x, y, b, A, s, sr, e, hv, hu, hA => by
    have e₀ := e
    have hu0 : A.units < cLine := by omega
    have hin : A.in1.units + n < cLine := by show A.units + 1 + n < cLine; omega
    have ofRc : ∀ {l l' : Addr} {k : Bool}, x = .ref l → y = .ref l' → RcAt A s x y b → EqAt A s x y b := by
      intro l l' k hx hy h
      subst hx hy
      by_cases hne : l = l'
      · subst hne
        have := same_true sr (n + 1) v u _ b e₀ hv hu
        subst this
        exact EqAt.same _
      · exact EqAt.of_refs hne h
    have pl : ∀ {vs us : List AV} {xs ys : List Value} {b : Bool}, VRs s.heap α σ.length vs xs → VRs s.heap α σ.length us ys → pairsEq (aEq n σ) vs us = some b →
        ∀ j (h1 : j < xs.toArray.size) (h2 : j < ys.toArray.size), EqAt A.in1 s xs.toArray[j] ys.toArray[j] ((aEq n σ (vs.getD j .none) (us.getD j .none)).getD false) := by
      intro vs us xs ys b h1 h2 e j hj1 hj2
      have hj1' : j < vs.length := by rw [h1.length]; simpa using hj1
      have hj2' : j < us.length := by rw [h2.length]; simpa using hj2
      obtain ⟨bj, ebj⟩ := (pairs_all e).1 j vs[j] us[j] (by simp [hj1']) (by simp [hj2'])
      obtain ⟨x', ex, vx⟩ := h1.get j vs[j] (by simp [hj1'])
      obtain ⟨y', ey, vy⟩ := h2.get j us[j] (by simp [hj2'])
      have e1 : vs.getD j .none = vs[j] := by simp [List.getD, hj1']
      have e2 : us.getD j .none = us[j] := by simp [List.getD, hj2']
      rw [e1, e2, ebj]
      have e3 : xs.toArray[j] = x' := by
        have := (List.getElem?_eq_some_iff.mp ex).2
        simpa using this
      have e4 : ys.toArray[j] = y' := by
        have := (List.getElem?_eq_some_iff.mp ey).2
        simpa using this
      rw [e3, e4]
      exact (eq_at n _ _ _ _ _ _ _ sr ebj vx vy hin).1
    unfold aEq at e
    split at e <;> try simp only [Option.some.injEq] at e
    · obtain ⟨t, rfl⟩ := hv.inv_int; obtain ⟨t', rfl⟩ := hu.inv_int
      subst e
      exact ⟨EqAt.int_int _ _ _ _, RcAt.int_int _ _ _ _, RcNeAt.int_int _ _ _ _⟩
    · have := hv.inv_bool; subst this; have := hu.inv_bool; subst this
      subst e
      exact ⟨EqAt.bool_bool _ _, RcAt.bool_bool _ _, RcNeAt.bool_bool _ _⟩
    · have := hv.inv_none; subst this; have := hu.inv_none; subst this
      subst e
      exact ⟨EqAt.same _, RcAt.none_none, RcNeAt.none_none⟩
    · have := hv.inv_none; subst this; obtain ⟨t', rfl⟩ := hu.inv_int
      subst e
      exact ⟨EqAt.none_int _ _, RcAt.none_int _ _, RcNeAt.none_int _ _⟩
    · have := hu.inv_none; subst this; obtain ⟨t', rfl⟩ := hv.inv_int
      subst e
      exact ⟨EqAt.int_none _ _, RcAt.int_none _ _, RcNeAt.int_none _ _⟩
    · rename_i vs us
      obtain ⟨a, items, hx, g1, r1⟩ := hv.inv_tup
      obtain ⟨a', items', hy, g2, r2⟩ := hu.inv_tup
      obtain ⟨b1, e1, e⟩ := map_some' e
      have hb : b = ((List.range (min items.toArray.size items'.toArray.size)).all (fun j => (aEq n σ (vs.getD j .none) (us.getD j .none)).getD false) && items.toArray.size == items'.toArray.size) := by
        rw [← e, (pairs_all e1).2, r1.length, r2.length]
        simp
      have hl : s.heap.IsTuple a items.toArray := ⟨_, g1, rfl, _, rfl⟩
      have hl' : s.heap.IsTuple a' items'.toArray := ⟨_, g2, rfl, _, rfl⟩
      have rc : RcAt A s x y b := by rw [hx, hy, hb]; exact RcAt.tuples hl hl' hu0 (pl r1 r2 e1)
      refine ⟨ofRc (k := true) hx hy rc, rc, ?_⟩
      rw [hx, hy, hb]; exact RcNeAt.tuples hl hl' hu0 (pl r1 r2 e1)
    · rename_i i j
      obtain ⟨hi, hx⟩ := hv.inv_ref
      obtain ⟨hj, hy⟩ := hu.inv_ref
      split at e
      · rename_i vs us e1 e2
        obtain ⟨is, n1, g1, v1, l1⟩ := sr.list e1
        obtain ⟨js, n2, g2, v2, l2⟩ := sr.list e2
        have hl : s.heap.IsList (α i) is.toArray := ⟨_, g1, rfl, _, rfl⟩
        have hl' : s.heap.IsList (α j) js.toArray := ⟨_, g2, rfl, _, rfl⟩
        split at e
        · rename_i hlen
          have hsz : is.toArray.size = js.toArray.size := by simp only [List.size_toArray]; rw [← v1.length, ← v2.length]; exact hlen
          have hb : b = (List.range is.toArray.size).all (fun j => (aEq n σ (vs.getD j .none) (us.getD j .none)).getD false) := by
            rw [(pairs_all e).2, List.size_toArray, ← v1.length, ← hlen, Nat.min_self]
          have rc : RcAt A s x y b := by rw [hx, hy, hb]; exact RcAt.lists hl hl' hsz hu0 (pl v1 v2 e)
          refine ⟨ofRc (k := true) hx hy rc, rc, ?_⟩
          rw [hx, hy, hb]; exact RcNeAt.lists hl hl' hsz hu0 (pl v1 v2 e)
        · rename_i hlen
          cases e
          have hsz : (is.toArray.size != js.toArray.size) = true := by simp only [List.size_toArray]; rw [← v1.length, ← v2.length]; simpa using hlen
          have rc : RcAt A s x y false := by rw [hx, hy]; exact RcAt.lists_lengths hl hl' hsz hu0
          refine ⟨ofRc (k := true) hx hy rc, rc, ?_⟩
          rw [hx, hy]; exact RcNeAt.lists_lengths hl hl' hsz hu0
      · rename_i ka kb e1 e2
        obtain ⟨xa, da, hka, hna, hla⟩ := sr.dict e1
        obtain ⟨xb, db, hkb, hnb, hlb⟩ := sr.dict e2
        have hits : ∀ {r xr b}, KR s.heap α σ.length r xr → dictEq (aEq n σ) kb r = some b → PySem.W.KeqHits A.in1 s xb xr b := by
          intro r xr b hr
          induction hr generalizing b with
          | nil => intro e; cases e; exact .nil
          | cons hv hr ih =>
            intro e
            unfold dictEq at e
            split at e
            · rename_i hnone
              cases e
              exact .miss (hkb.look_none hnone)
            · rename_i u' hsome
              obtain ⟨b1, e1, e⟩ := bind_some' e
              obtain ⟨b2, e2, e⟩ := map_some' e
              obtain ⟨y', hy', vy'⟩ := hkb.look hsome
              rw [← e]
              exact .hit hy' (eq_at n _ _ _ _ _ _ _ sr e1 hv vy' hin).1 (ih e2)
        have hma : (α i == sysModules) = false := by simpa using hna
        have hmb : (α j == sysModules) = false := by simpa using hnb
        have key : ∃ r, (xa.length = xb.length → PySem.W.KeqHits A.in1 s xb xa r) ∧ b = (xa.length == xb.length && r) := by
          have hl : ka.length = xa.length := hka.length
          have hl' : kb.length = xb.length := hkb.length
          split at e
          · rename_i hlen
            exact ⟨b, fun _ => hits hka e, by rw [← hl, ← hl', hlen]; simp⟩
          · rename_i hlen
            cases e
            exact ⟨true, fun h => absurd (by rw [hl, hl']; exact h) hlen, by rw [← hl, ← hl']; simpa using hlen⟩
        obtain ⟨r, hr, hb⟩ := key
        have rc : RcAt A s x y b := by
          rw [hx, hy, hb]
          intro p' w' E Q h
          exact PySem.W.keq_eq (knd := intKind p' w') hma hmb (dictOf_any da) (dictOf_any db) hu0 hr h
        refine ⟨ofRc (k := true) hx hy rc, rc, ?_⟩
        rw [hx, hy, hb]
        intro p' w' E Q h
        exact PySem.W.keq_ne (knd := intKind p' w') hma hmb (dictOf_any da) (dictOf_any db) hu0 hr h
      · cases e
    · cases e
noncomputable def cEq (a b : AV) (σ : Store) : Option Bool := aEq 6 σ a b
noncomputable def cNe (a b : AV) (σ : Store) : Option Bool := (aEq 6 σ a b).map (!·)
theorem cmp_eq {c : Cx} {k : Nat} (lv : Lvl k c.A) : Cmp2 prog w c (compareOp .Eq) cEq := by
  intro a b x y α ρ σ v s Q E hf r ha hb q
  exact (eq_at 6 _ _ _ _ _ _ _ r.sr hf ha hb (by have := lv.2.2; omega)).2.1 prog w E Q (q s.toks)
theorem cmp_ne {c : Cx} {k : Nat} (lv : Lvl k c.A) : Cmp2 prog w c (compareOp .NotEq) cNe := by
  intro a b x y α ρ σ v s Q E hf r ha hb q
  obtain ⟨b', e1, rfl⟩ := map_some' hf
  exact (eq_at 6 _ _ _ _ _ _ _ r.sr e1 ha hb (by have := lv.2.2; omega)).2.2 prog w E Q (q s.toks)
end Inn
end
section
set_option maxRecDepth 10000
set_option linter.unusedVariables false
namespace Inn
open PySem
variable {prog : Program} {w : World}
section
variable {c : Cx} {G : Heap → Prop} {k : Nat}
noncomputable def bList : FnM
  | [.ref i], σ => (match σ[i]? with
    | some (.list vs) => some (.ref σ.length, σ ++ [.list vs])
    | some (.dict kvs) => some (.ref σ.length, σ ++ [.list (kvs.map fun kv => .int kv.1)])
    | none => none)
  | [.vals i], σ => (match σ[i]? with
    | some (.dict kvs) => some (.ref σ.length, σ ++ [.list (kvs.map (·.2))])
    | _ => none)
  | [.rng lo hi], σ => if rangeOk lo hi ∧ hi - lo ≤ 1000000 then some (.ref σ.length, σ ++ [.list (rngL lo hi)]) else none
  | [.tup vs], σ => if vs.length ≤ 1000000 then some (.ref σ.length, σ ++ [.list vs]) else none
  | _, _ => none
theorem vrs_of {h α n} : ∀ (vs : List AV) (xs : List Value), vs.length = xs.length → (∀ (j : Nat) x, xs[j]? = some x → ∃ v, vs[j]? = some v ∧ VR h α n v x) → VRs h α n vs xs
  | [], [], _, _ => .nil
  | v :: vs, x :: xs, hl, hp => by
    refine .cons ?_ (vrs_of vs xs (by simpa using hl) fun j y hy => ?_)
    · obtain ⟨v', e, h⟩ := hp 0 x rfl
      simp at e; subst e; exact h
    · obtain ⟨v', e, h⟩ := hp (j + 1) y (by simpa using hy)
      exact ⟨v', by simpa using e, h⟩
theorem KR.keysOf {h α n} : ∀ {vs xs}, KR h α n vs xs → vs.map (·.1) = xs.map (·.1)
  | _, _, .nil => rfl
  | _, _, .cons _ r => by simp [r.keysOf]
theorem KR.key {h α n} : ∀ {kvs xs}, KR h α n kvs xs → ∀ (j : Nat) (kk : Int) (xx : Value), xs[j]? = some (kk, xx) → ∃ v, kvs[j]? = some (kk, v) ∧ VR h α n v xx
  | _, _, .nil, j, kk, xx, e => by simp at e
  | _, _, .cons a r, 0, kk, xx, e => by simp at e; obtain ⟨rfl, rfl⟩ := e; exact ⟨_, rfl, a⟩
  | _, _, .cons a r, j + 1, kk, xx, e => by simp at e; simpa using r.key j kk xx e
set_option tactic.hygienic true in
theorem op_list (lv : Lvl k c.A) : OpN prog w c (fun xs => call (.type "list") xs) bList := by
  intro vs xs α ρ σ v σ' s Q E hm r hv q
  unfold bList at hm
  split at hm
  · cases hv with
    | cons hv hn =>
    cases hn
    cases hv with
    | ref hi =>
    split at hm
    · rename_i vs e1
      cases hm
      obtain ⟨is, n1, g1, v1, l1⟩ := r.list e1
      refine call_list_seq _ (.inl rfl) g1 rfl rfl (fun h' c' k hg => ?_) (le_sizeLine (by simpa using l1))
      obtain ⟨α', g, v⟩ := grow_list (a := s.heap.objs.size) r k (get?_size_none _) hg v1 l1
      exact q _ α' h' s.toks g v
    · rename_i kvs e1
      cases hm
      obtain ⟨ys, hd, hk, hne, hl⟩ := r.dict e1
      obtain ⟨ep, hdat⟩ := hd.dictAt
      refine PySem.W.kdl_call (PySem.W.kdl_dict (knd := intKind prog w) (kvs := ys) (ep := ep) (by simpa using hne)) lv.1 hdat (le_sizeLine hl) fun h' tk acc c' k hg hit => ?_
      have hv : VRs s.heap α σ.length (kvs.map fun kv => AV.int kv.1) acc.toList := by
        refine vrs_of _ _ (by have := hit.1; simp [hk.length]; omega) fun j x hx => ?_
        obtain ⟨kk, xx, e2, his⟩ := hit.2 j x (by simpa using hx)
        obtain ⟨t, rfl⟩ := intKind_is his
        obtain ⟨v, e3, _⟩ := hk.key j kk xx e2
        exact ⟨.int kk, by simp [e3], .int _ _⟩
      obtain ⟨α', g, v⟩ := grow_list (a := s.heap.objs.size) (ep := c') (items := acc.toList) r k (get?_size_none _) (by simpa using hg) hv (by have := hit.1; simp; omega)
      exact q _ α' h' tk g v
    · cases hm
  · cases hv with
    | cons hv hn =>
    cases hn
    cases hv with
    | vals hi hw =>
    split at hm
    · rename_i kvs e1
      cases hm
      obtain ⟨ys, hd, hk, hne, hl⟩ := r.dict e1
      obtain ⟨ep, hdat⟩ := hd.dictAt
      refine PySem.W.kdl_call (PySem.W.kdl_values (knd := intKind prog w) (kvs := ys) (ep := ep)) lv.1 ⟨hw, hdat⟩ (le_sizeLine hl) fun h' tk acc c' k hg hit => ?_
      have hv : VRs s.heap α σ.length (kvs.map (·.2)) acc.toList := by
        refine vrs_of _ _ (by have := hit.1; simp [hk.length]; omega) fun j x hx => ?_
        obtain ⟨kk, e2⟩ := hit.2 j x (by simpa using hx)
        obtain ⟨v, e3, hvx⟩ := hk.key j kk x e2
        exact ⟨v, by simp [e3], hvx⟩
      obtain ⟨α', g, v⟩ := grow_list (a := s.heap.objs.size) (ep := c') (items := acc.toList) r k (get?_size_none _) (by simpa using hg) hv (by have := hit.1; simp; omega)
      exact q _ α' h' tk g v
    · cases hm
  · rename_i lo hi
    split at hm
    · rename_i hok
      cases hm
      cases hv with
      | cons hv hn =>
      cases hn
      cases hv with
      | rng hr =>
      obtain ⟨⟨o1, o2, o3, o4⟩, o5⟩ := hok
      have e : Builtin.Range.rangeSize lo hi 1 = ((hi - lo).toNat : Int) := by rw [rangeSize_one]; split <;> omega
      refine call_list_range lv.1 hr (small_one o1 o2 o3 o4) e (by omega) fun h' tk acc c' k hg hit => ?_
      have hv : VRs s.heap α σ.length (rngL lo hi) acc.toList := by
        refine vrs_of _ _ (by have := hit.1; simp [rngL]; omega) fun j x hx => ?_
        have hj : j < (hi - lo).toNat := by
          have := (List.getElem?_eq_some_iff.mp hx).1
          have := hit.1
          simp at *; omega
        obtain ⟨t, rfl⟩ := hit.2 j x (by simpa using hx)
        exact ⟨.int (lo + j), by simp [rngL, hj], by simpa using VR.int _ _⟩
      obtain ⟨α', g, v⟩ := grow_list (a := s.heap.objs.size) (ep := c') (items := acc.toList) r k (get?_size_none _) (by simpa using hg) hv (by have := hit.1; simp; omega)
      exact q _ α' h' tk g v
    · cases hm
  · split at hm
    · rename_i hlen
      cases hm
      cases hv with
      | cons hv hn =>
      cases hn
      cases hv with
      | tup e1 v1 =>
      have l1 := hlen
      rw [v1.length] at l1
      refine call_list_seq _ (.inr rfl) e1 rfl rfl (fun h' c' k hg => ?_) (le_sizeLine (by simpa using l1))
      obtain ⟨α', g, v⟩ := grow_list (a := s.heap.objs.size) r k (get?_size_none _) hg v1 l1
      exact q _ α' h' s.toks g v
    · cases hm
  · cases hm
noncomputable def isi (T : String) (v : AV) (σ : Store) : Option Bool := match v with
  | .int _ => if T = "int" then some true else if T = "bool" then some false else none
  | .bool _ => if T = "int" then some true else if T = "bool" then some true else none
  | .tup _ => if T = "tuple" then some true else none
  | .ref i => (match σ[i]? with
    | some (.list _) => if T = "list" then some true else none
    | some (.dict _) => if T = "dict" then some true else none
    | none => none)
  | _ => none
noncomputable def aIsi (T : String) (m : AM AV) : AM AV := abind m fun v => fun _ σ => (isi T v σ).map fun b => (.bool b, σ)
set_option tactic.hygienic true in
theorem isi_any {α ρ σ} {s : Shared} {T : String} {v : AV} {x : Value} {b : Bool} {Q : Value → Shared → Prop} {E : Value → Shared → Prop} (hm : isi T v σ = some b) (r : R prog w c α ρ σ s.heap) (hv : VR s.heap α σ.length v x)
    (q : ∀ tk', Q (.bool b) { s with toks := tk' }) : wpAny (model prog w) c.A (call (.builtin "isinstance") [x, .type T]) Q E s := by
  unfold isi at hm
  split at hm
  · cases hv
    split at hm
    · rename_i h; subst h; cases hm; exact IsiPair.int_int (q s.toks)
    · split at hm
      · rename_i h; subst h; cases hm; exact IsiPair.int_bool (q _)
      · cases hm
  · cases hv
    split at hm
    · rename_i h; subst h; cases hm; exact IsiPair.bool_int (q s.toks)
    · split at hm
      · rename_i h; subst h; cases hm; exact IsiPair.bool_bool (q s.toks)
      · cases hm
  · cases hv with
    | tup e1 _ =>
    split at hm
    · rename_i h; subst h; cases hm; exact IsiPair.tuple_tuple e1 rfl (q s.toks)
    · cases hm
  · cases hv with
    | ref hi =>
    split at hm
    · rename_i vs e1
      split at hm
      · rename_i h; subst h; cases hm
        obtain ⟨is, n1, g1, v1, l1⟩ := r.list e1
        exact IsiPair.list_list g1 rfl (q s.toks)
      · cases hm
    · rename_i kvs e1
      split at hm
      · rename_i h; subst h; cases hm
        obtain ⟨ys, ⟨o, _, _, ho, hx, _⟩, _⟩ := r.dict e1
        exact IsiPair.dict_dict ho hx.1 (q s.toks)
      · cases hm
    · cases hm
  · cases hm
theorem sim_isinstance {np tp pos : Pos} {e : Expr} {T : String} {tn : Str} {m : AM AV} (cx : CxG G k c) (hx : c.env.kindOf "isinstance" = some .globalImplicit) (ht : c.env.kindOf tn = some .globalImplicit) (hd : (tn == ("__debug__" : Str)) = false)
    (g : Gl G "isinstance" (.builtin "isinstance")) (gt : Gl G tn (.type T)) (h : Sim prog w c (eval e c.env) m) (he : ∀ r, starEach (e :: r) c.env = (false, eval e c.env) :: starEach r c.env) :
    Sim prog w c (eval (.Call (.Name "isinstance" np) [e, .Name tn tp] [] pos) c.env) (aIsi T m) := by
  intro ρ σ v σ' α s Q E hm r q
  obtain ⟨a, σ1, h1, hm⟩ := abind_some hm
  obtain ⟨b, h2, hm⟩ := map_some' hm
  cases hm
  refine wpAny_Call_ofName (load_gl cx hx (by decide) g r ?_)
  have hb : backTo pos (starEach [e, .Name tn tp] c.env) = [(false, eval e c.env), (false, eval (.Name tn tp) c.env)] := by rw [he]; rfl
  show wpAny _ _ (callWith pos (.builtin "isinstance") [] (backTo pos (starEach [e, .Name tn tp] c.env)) []) _ _ _
  rw [hb]
  refine Calls.callWith_builtin rfl (Calls.evalArgs_plain (Calls.spliced_cons (h _ _ _ _ _ _ _ _ h1 r fun x α1 hh1 tk1 g1 v1 => ?_)))
  refine Calls.spliced_cons (load_gl (s := { s with heap := hh1, toks := tk1 }) cx ht hd gt (r.grow g1) (Calls.spliced_nil ?_))
  exact isi_any (s := { s with heap := hh1, toks := tk1 }) h2 (r.grow g1) v1 fun tk2 => q _ α1 hh1 tk2 g1 (.bool _)
theorem R.change {α ρ σ h h'} {i : Nat} {o : AO} (ok : Ok c) (r : R prog w c α ρ σ h) (hi : i < σ.length) (h0 : c.n₀ ≤ i) (hs : Heap.SameBut (α i) h h') (ho : OR prog w h' α σ.length o (α i)) :
    R prog w c α ρ (σ.set i o) h' ∧ Up h α σ.length h' α (σ.set i o).length ∧ FK h h' := by
  obtain ⟨ob, hob, hnf, hnc⟩ := (r.objs i σ[i] (by simp [hi])).some
  obtain ⟨m, cm, e1, e2, e3, e4⟩ := r.env
  have fk : FK h h' := fun b o e f => hs.extBut b o (fun q => by subst q; rw [hob] at e; cases e; exact hnf f) e
  have u : Up h α σ.length h' α (σ.set i o).length := ⟨by simp, fun _ _ => rfl, fk.vk⟩
  refine ⟨⟨fun b ob' e => hs.extBut b ob' (fun q => by
      subst q
      have := r.own i h0 hi
      rw [this] at e; cases e) (r.keep b ob' e), ⟨m, cm, e1.sameBut hs (fun q => r.apart i hi q.symm), fun x a hx => (e2 x a hx).sameBut hs (fun q => by
      obtain ⟨o', ho', hd'⟩ := e2 x a hx
      rw [q, hob] at ho'; cases ho'; exact hnc _ hd'), fun x v hx hk => let ⟨y, hy, hv⟩ := e3 x v hx hk; ⟨y, hy, hv.up u⟩, fun x v hx hk => let ⟨y, hy, hv⟩ := e4 x v hx hk; ⟨y, hy, hv.up u⟩⟩, r.dot, fun j o' e => ?_, ?_, ?_, ?_⟩, u, fk⟩
  · rw [List.length_set]
    by_cases hj : j = i
    · subst hj
      rw [List.getElem?_set_self hi] at e
      cases e
      exact ho
    · rw [List.getElem?_set_ne (Ne.symm hj)] at e
      have hjl : j < σ.length := (List.getElem?_eq_some_iff.mp e).1
      have hne : α j ≠ α i := fun q => hj (r.inj j i hjl hi q)
      refine (r.objs j o' e).up ⟨Nat.le_refl _, fun _ _ => rfl, fk.vk⟩ fun ob' ho' => hs.extBut _ _ hne ho'
  · simpa using r.inj
  · simpa using r.own
  · simpa using r.apart
noncomputable def put (kvs : List (Int × AV)) (k : Int) (v : AV) : List (Int × AV) :=
  if kvs.any (fun kv => decide (kv.1 = k)) then kvs.map (fun kv => if kv.1 = k then (kv.1, v) else kv) else kvs ++ [(k, v)]
theorem KR.append {h α n} : ∀ {a x b y}, KR h α n a x → KR h α n b y → KR h α n (a ++ b) (x ++ y)
  | _, _, _, _, .nil, r => r
  | _, _, _, _, .cons p q, r => .cons p (q.append r)
theorem KR.put {h α n} {kvs xs} {k : Int} {v : AV} {x : Value} (r : KR h α n kvs xs) (hv : VR h α n v x) : KR h α n (Inn.put kvs k v) (stored xs k x) := by
  have hany : kvs.any (fun kv => decide (kv.1 = k)) = xs.any (fun kv => decide (kv.1 = k)) := by
    have := congrArg (fun l : List Int => l.any fun a => decide (a = k)) r.keysOf
    simpa [List.any_map, Function.comp_def] using this
  unfold Inn.put stored
  rw [hany]
  split
  · clear hany
    rename_i h0; clear h0
    induction r with
    | nil => exact .nil
    | @cons k' v' x' vs xs a _ ih =>
      simp only [List.map_cons]
      by_cases hk : k' = k
      · rw [if_pos hk, if_pos hk]; exact .cons hv ih
      · rw [if_neg hk, if_neg hk]; exact .cons a ih
  · exact r.append (.cons hv .nil)
noncomputable def sSetItem (n₀ : Nat) (x : Str) (mi : AM AV) (m : AM AV) : AS := fun ρ σ => (m ρ σ).bind fun p => (ρ x).bind fun v => match v with
  | .ref i => (mi ρ p.2).bind fun q => (match p.2[i]?, q.1 with
    | some (.list vs), .int j => if n₀ ≤ i ∧ 0 ≤ j ∧ j < vs.length then some (.next, ρ, q.2.set i (.list (vs.set j.toNat p.1))) else none
    | some (.dict kvs), .int j => if n₀ ≤ i ∧ kvs.length < 1000000 then some (.next, ρ, q.2.set i (.dict (put kvs j p.1))) else none
    | _, _ => none)
  | _ => none
theorem setItem_plain {A : Around} {E : Value → Shared → Prop} {s : Shared} {l : Addr} {items : Array Value} {n : Nat} {k : Int} {t : Tok} {v : Value} {Q : Unit → Shared → Prop} (ho : s.heap.get? l = some { cls := .type "list", data := .seq items n })
    (h0 : 0 ≤ k) (hfit : k < 2 ^ 63) (hn : k < items.size)
    (hQ : ∀ h', h'.get? l = some { cls := .type "list", data := .seq (items.setIfInBounds k.toNat v) n } → Heap.SameBut l s.heap h' → Q () { s with heap := h' }) :
    wpAny (model prog w) A (setItem (.ref l) (.int k t) v) Q E s := by
  have hl : s.heap.IsList l items := ⟨_, ho, rfl, _, rfl⟩
  unfold setItem
  try with_reducible refine wpAny_holding ?_
  first | refine wpAny_bind (wpAny_pure ?_) | skip
  refine wpAny_bind (wpAny_sequenceKey hl.typeIs (by decide) ?_)
  refine wpAny_bind (wpAny_callSpecial?_slot (name := Str.ofString "__setitem__") hl.typeIs slot_list_setitem
    (wpAny_call_entry slot_list_setitem hl.typeIs entry_list_setitem ?_ (args_list_setitem _ _ _)))
  show wpAny _ _ (Builtin.List.listSubscript? (.int k t) >>= _) _ _ s
  refine wpAny_bind (wpAny_listSubscript_int (fitsIndex_of h0 hfit) ?_)
  clear hfit
  obtain ⟨j, rfl⟩ := Int.eq_ofNat_of_zero_le h0
  have hj : j < items.size := by omega
  have hx' : items[j]? = some items[j] := Array.getElem?_eq_getElem hj
  show wpAny _ _ ((seqItemAt l j >>= fun r => pure (r.map (j, ·))) >>= _) _ _ s
  refine wpAny_bind (wpAny_bind (wpAny_seqItemAt ho rfl (wpAny_pure ?_)))
  rw [hx']
  show wpAny _ _ (setSeqItemAt l j v >>= _) _ _ s
  refine wpAny_bind (wpAny_setSeqItemAt ho rfl (wpAny_pure ⟨_, rfl, wpAny_pure (hQ _ ?_ (Heap.SameBut.update ..))⟩))
  rw [Heap.get?_update_self _ ho (by rfl)]
  simp [Obj.mapSeq]
theorem VRs.set {h α n} : ∀ {vs : List AV} {xs : List Value} (j : Nat) {v : AV} {x : Value}, VRs h α n vs xs → VR h α n v x → VRs h α n (vs.set j v) (xs.set j x)
  | _, _, j, _, _, .nil, _ => by simpa using VRs.nil
  | _, _, 0, _, _, .cons a r, hv => by simpa using VRs.cons hv r
  | _, _, j + 1, _, _, .cons a r, hv => by simpa using VRs.cons a (r.set j hv)
theorem put_length (kvs : List (Int × AV)) (k : Int) (v : AV) : (put kvs k v).length ≤ kvs.length + 1 := by
  unfold put; split <;> simp
set_option tactic.hygienic true in
theorem simS_setItem {x : Str} {np pos' pos : Pos} {i e : Expr} {mi m : AM AV} (cx : CxG G k c) (hv : isVar (c.env.kindOf x) = true) (hn : okName x = true) (hsw : swapsWith e (some (.Subscript (.Name x np) i pos')) pos.line c.env = pure false)
    (hi : Sim prog w c (eval i c.env) mi) (h : Sim prog w c (eval e c.env) m) :
    SimS prog w c (exec (.Assign [.Subscript (.Name x np) i pos'] e pos) c.env) (sSetItem c.n₀ x mi m) := by
  intro ρ σ f ρ' σ' α s Q E hm r q
  obtain ⟨⟨u, σ1⟩, h1, hm⟩ := bind_some' hm
  obtain ⟨v, h2, hm⟩ := bind_some' hm
  split at hm
  · rename_i a
    obtain ⟨⟨z, σ2⟩, h3, hm⟩ := bind_some' hm
    refine wpAny_Assign_Subscript (h _ _ _ _ _ _ _ _ h1 r fun y1 α1 hh1 tk1 g1 v1 => ?_) hsw
    have r1 := r.grow g1
    refine sim_name (c := c) (prog := prog) (w := w) cx hv hn ρ σ1 (.ref a) σ1 α1 { s with heap := hh1, toks := tk1 } _ _ (by simp [aName, h2]) r1 fun y2 α2 hh2 tk2 g2 v2 => ?_
    have r2 := r1.grow g2
    refine hi _ _ _ _ _ { s with heap := hh2, toks := tk2 } _ _ h3 r2 fun y3 α3 hh3 tk3 g3 v3 => ?_
    have r3 := r2.grow g3
    obtain ⟨ha, rfl⟩ : a < σ1.length ∧ y2 = .ref (α2 a) := by cases v2 with | ref hi => exact ⟨hi, rfl⟩
    have hα : α3 a = α2 a := g3.agree a ha
    have ha3 : a < σ2.length := Nat.lt_of_lt_of_le ha g3.len
    have vu : VR hh3 α3 σ2.length u y1 := (v1.up g2.up).up g3.up
    have fin : ∀ h4 tk4 o', R prog w c α3 ρ (σ2.set a o') h4 → Up hh3 α3 σ2.length h4 α3 (σ2.set a o').length → FK hh3 h4 → some (AF.next, ρ, σ2.set a o') = some (f, ρ', σ') → Q .next { s with heap := h4, toks := tk4 } := by
      intro h4 tk4 o' r4 u4 fk4 e
      cases e
      exact q _ α3 h4 tk4 r4 (((g1.up.trans g2.up).trans g3.up).trans u4) (((g1.fk.trans g2.fk).trans g3.fk).trans fk4) .next
    split at hm
    · rename_i vs j e1 e2
      split at hm
      · rename_i hb
        subst e2
        obtain ⟨t, rfl⟩ : ∃ t, y3 = .int j t := by cases v3 with | int _ t => exact ⟨t, rfl⟩
        obtain ⟨is, n1, o1, v1', l1⟩ := r2.list e1
        have o3 := g3.keep _ _ o1
        have hl := v1'.length
        refine setItem_plain o3 hb.2.1 (by omega) (by simp; omega) fun h4 hD4 hs4 => ?_
        have vk4 : VK hh3 h4 := fun b o e f => hs4.extBut b o (fun q => by
          subst q; rw [o3] at e; cases e
          rcases f with ⟨f, _⟩ | ⟨f | f, _⟩ <;> simp at f) e
        have hor : OR prog w h4 α3 σ2.length (.list (vs.set j.toNat u)) (α3 a) := by
          rw [hα]
          refine .list (items := is.set j.toNat y1) (ep := n1) (by simpa using hD4) (((v1'.up g3.up).set j.toNat vu).up ⟨Nat.le_refl _, fun _ _ => rfl, vk4⟩) (by simpa using l1)
        obtain ⟨r4, u4, fk4⟩ := r3.change cx.ok ha3 hb.1 (by rw [hα]; exact hs4) hor
        exact fin _ _ _ r4 u4 fk4 hm
      · cases hm
    · rename_i kvs j e1 e2
      split at hm
      · rename_i hb
        subst e2
        obtain ⟨t, rfl⟩ : ∃ t, y3 = .int j t := by cases v3 with | int _ t => exact ⟨t, rfl⟩
        obtain ⟨xs, hd, hk, hne, hl⟩ := r2.dict e1
        have hd3 : hh3.DictOf (intKind prog w) (α2 a) xs := by
          obtain ⟨o, es, ep, ho, rest⟩ := hd
          exact ⟨o, es, ep, g3.keep _ _ ho, rest⟩
        have hkl := hk.length
        refine wpAny_setItem_pairs (knd := intKind prog w) (k := j) (by simp [intKind, Value.isInt]) hd3 (fun h4 hD4 hs4 => ?_) (le_sizeLine hl)
        have vk4 : VK hh3 h4 := fun b o e f => hs4.extBut b o (fun q => by
          subst q
          obtain ⟨o', es, ep, ho, hx, hdt, _⟩ := hd3
          rw [ho] at e; cases e
          rcases f with ⟨_, _, _, f⟩ | ⟨_, _, f⟩ <;> rw [hdt] at f <;> cases f) e
        have hk4 := ((hk.up g3.up).put (k := j) vu).up (⟨Nat.le_refl _, fun _ _ => rfl, vk4⟩ : Up hh3 α3 σ2.length h4 α3 σ2.length)
        have hor : OR prog w h4 α3 σ2.length (.dict (put kvs j u)) (α3 a) := by
          rw [hα]
          refine .dict hD4 hk4 hne ?_
          rw [← hk4.length]
          have := put_length kvs j u
          omega
        obtain ⟨r4, u4, fk4⟩ := r3.change cx.ok ha3 hb.1 (by rw [hα]; exact hs4) hor
        exact fin _ _ _ r4 u4 fk4 hm
      · cases hm
    · cases hm
  · cases hm
end
end Inn
end
section
set_option maxRecDepth 10000
set_option linter.unusedVariables false
namespace Inn
open PySem PySem.W PyProof.Rows
variable {prog : Program} {w : World}
structure Gr (K : Frag) (h : Heap) : Prop where
  kin : K.In h
  lim : h.NoLimit
  ns : ∃ mg, h.Ns mainGlobals mg
  bs : ∃ mb, h.Ns builtinsNs mb ∧ ∀ x : Str, x ≠ "__name__" → mb x = bootBuiltins x
theorem Gr.mono {K : Frag} (h h' : Heap) (k : HK h h') (g : Gr K h) : Gr K h' := by
  obtain ⟨mg, e1⟩ := g.ns
  obtain ⟨mb, e2, e3⟩ := g.bs
  exact ⟨g.kin.keeps k, g.lim.keeps k, ⟨mg, e1.keeps k⟩, ⟨mb, e2.keeps k, e3⟩⟩
theorem gl_def {K : Frag} {x : Str} {v : Value} (e : nsIn K mainGlobals x = some (some v)) : Gl (Gr K) x v := by
  intro h g
  obtain ⟨mg, e1⟩ := g.ns
  exact ⟨mg, e1, .inl (mg_of g.kin e1 e)⟩
theorem gl_bi {K : Frag} {x : Str} {v : Value} (e : nsIn K mainGlobals x = some none) (hn : (x == ("__name__" : Str)) = false) (hb : bootBuiltins x = some v) : Gl (Gr K) x v := by
  intro h g
  obtain ⟨mg, e1⟩ := g.ns
  obtain ⟨mb, e2, e3⟩ := g.bs
  exact ⟨mg, e1, .inr ⟨mg_none_of g.kin e1 e, mb, e2, by rw [e3 x (by simpa using hn), hb]⟩⟩
abbrev cxOf (fd : FuncData) (f : Addr) (A : Around) (L : Addr) (h₀ : Heap) (n₀ : Nat) : Cx := ⟨A, callEnvC fd L f, h₀, n₀⟩
theorem fn_def {X : FnX} (hX : Exp prog w X) {K : Frag} {k : Nat} {f : Addr} {oc : Value} {od : Option Addr} {osl : Array (Option Value)} {name qual : Str} {params : Arguments} {body : List Stmt} {scope : Scope} {doc pm cdv ct : Value} {an : Option Addr} {ps : List Str} {m : Nat → AS}
    (ho : K.lookup f = some ⟨oc, od, .func (fnOf name qual params body scope .none .none doc pm an cdv ct), osl⟩) (hcd : codeIn K cdv qual = true)
    (hbind : ∀ xs : List Value, xs.length = ps.length → bindArgs (fnOf name qual params body scope .none .none doc pm an cdv ct) ⟨xs, []⟩ = pure (ps.zip xs))
    (hkind : (ps.all fun p => !(p == (".0" : Str)) && (scope.names.lookup p == some .local || scope.names.lookup p == some .cell)) = true)
    (hco : scope.isCoroutine = false) (hgen : scope.isGenerator = false) (hk : scope.kind = .function) (hfree : (scope.names.all fun p => !(p.2 == NameKind.free)) = true)
    (hb : ∀ A L h₀ n₀, CxG (Gr K) k (cxOf (fnOf name qual params body scope .none .none doc pm an cdv ct) f A L h₀ n₀) →
      SimS prog w (cxOf (fnOf name qual params body scope .none .none doc pm an cdv ct) f A L h₀ n₀) (execs body (cxOf (fnOf name qual params body scope .none .none doc pm an cdv ct) f A L h₀ n₀).env) (m n₀)) :
    FnOk prog w (Gr K) (k + 1) f (aFnX X ps m) := by
  refine fn_ok hX (fd := fnOf name qual params body scope .none .none doc pm an cdv ct) (body := body) Gr.mono (fun h g => ⟨⟨_, g.kin _ _ ho, rfl⟩, g.lim, codeRec_of g.kin hcd⟩) rfl rfl hbind ?_ ?_ hco hgen hk ?_
  · intro p hp
    have := List.all_eq_true.mp hkind p hp
    simp only [Bool.and_eq_true, Bool.or_eq_true, beq_iff_eq, Bool.not_eq_true', beq_eq_false_iff_ne] at this
    exact this
  · intro n x hx
    exact cellsFrom_some _ _ _ (.inl hx)
  · intro A L h₀ n₀ lv g ok
    refine hb A L h₀ n₀ ⟨ok, rfl, rfl, lv, g, Gr.mono, fun x hx => ?_⟩
    rcases hx with hx | hx
    · exact cellsFrom_some _ _ _ (.inl hx)
    · exfalso
      have hx' : scope.names.lookup x = some .free := hx
      have hm : (x, NameKind.free) ∈ scope.names := mem_of_lookup hx'
      have := List.all_eq_true.mp hfree _ hm
      simp at this
theorem bind1 {P : List Value → Prop} (h : ∀ a, P [a]) : ∀ xs : List Value, xs.length = 1 → P xs := by
  intro xs hx
  cases xs with
  | nil => cases hx
  | cons a r => cases r with | nil => exact h a | cons _ _ => cases hx
theorem bind2 {P : List Value → Prop} (h : ∀ a b, P [a, b]) : ∀ xs : List Value, xs.length = 2 → P xs := by
  intro xs hx
  cases xs with
  | nil => cases hx
  | cons a r => exact bind1 (P := fun l => P (a :: l)) (fun b => h a b) r (Nat.succ.inj hx)
theorem bind3 {P : List Value → Prop} (h : ∀ a b c, P [a, b, c]) : ∀ xs : List Value, xs.length = 3 → P xs := by
  intro xs hx
  cases xs with
  | nil => cases hx
  | cons a r => exact bind2 (P := fun l => P (a :: l)) (fun b c => h a b c) r (Nat.succ.inj hx)
theorem bind4 {P : List Value → Prop} (h : ∀ a b c d, P [a, b, c, d]) : ∀ xs : List Value, xs.length = 4 → P xs := by
  intro xs hx
  cases xs with
  | nil => cases hx
  | cons a r => exact bind3 (P := fun l => P (a :: l)) (fun b c d => h a b c d) r (Nat.succ.inj hx)
theorem callee_fn {K : Frag} {f : Addr} {oc : Value} {od : Option Addr} {osl : Array (Option Value)} {fd : FuncData} (ho : K.lookup f = some ⟨oc, od, .func fd, osl⟩) : Callee (Gr K) (.ref f) := .fn (fun h g => g.kin _ _ ho) rfl
end Inn
namespace Inn
open PySem
variable {prog : Program} {w : World} {c : Cx} {G : Heap → Prop} {k : Nat}
theorem op_fn_le {f : Addr} {F : FnM} {j : Nat} (cx : CxG G k c) (hF : FnOk prog w G j f F) (hj : j ≤ k) : OpN prog w c (fun xs => call (.ref f) xs) F :=
  fun vs xs α ρ σ v σ' s Q E hm r hv q => hF _ _ _ _ _ _ _ _ _ _ (cx.lv.mono hj) (cx.here r) r.sr hv hm q
noncomputable def compOkB (env : Env) (scope : Scope) (x : Str) : Bool :=
  (scope.names.lookup x == some .local) && !(x == (".0" : Str)) &&
  scope.names.all fun y => !(y.2 == NameKind.cell) && (!(y.2 == NameKind.local) || (scope.names.lookup y.1 == some .local && (y.1 == x || y.1 == (".0" : Str)))) &&
    (!(y.2 == NameKind.free) || (isVar (env.kindOf y.1) && !(env.kindOf y.1 == some .local)))
theorem compOk_of {scope : Scope} {x : Str} (hk : scope.kind = .function) (h : compOkB c.env scope x = true) : CompOk c scope x := by
  simp only [compOkB, Bool.and_eq_true, Bool.or_eq_true, beq_iff_eq, Bool.not_eq_true', beq_eq_false_iff_ne, List.all_eq_true] at h
  obtain ⟨⟨h1, h2⟩, h3⟩ := h
  refine ⟨fun y hy => (h3 y hy).1.1, hk, h1, h2, fun y hy e => ?_, fun y hy e => ?_, fun y hy e => ?_⟩
  · rcases (h3 y hy).1.2 with h | h
    · exact absurd e h
    · exact h.1
  · rcases (h3 y hy).1.2 with h | h
    · exact absurd e h
    · exact h.2
  · rcases (h3 y hy).2 with h | h
    · exact absurd e h
    · exact h
end Inn
end
section
set_option maxRecDepth 10000
set_option linter.unusedVariables false
namespace Inn
open PySem PySem.W
variable {prog : Program} {w : World}
section
variable {c : Cx} {G : Heap → Prop} {k : Nat}
noncomputable def Low (G : Heap → Prop) : Prop := ∀ h, G h → sysModules < h.objs.size
theorem gr_low {K : Frag} : Low (Gr K) := fun h g => PyProof.Rows.modules_low g.lim
theorem grow_dict {σ : Store} {α : Nat → Addr} {h h' : Heap} {kvs : List (Int × AV)} {xs : List (Int × Value)} {a : Addr} (k : HK h h') (hn : h.get? a = none)
    (hd : h'.DictOf (intKind prog w) a xs) (hv : KR h' α σ.length kvs xs) (ha : a ≠ sysModules) (hl : xs.length ≤ 1000000) :
    ∃ α', Grow prog w h α σ h' α' (σ ++ [.dict kvs]) ∧ VR h' α' (σ ++ [AO.dict kvs]).length (.ref σ.length) (.ref a) := by
  have u : Up h' α σ.length h' (fun i => if i = σ.length then a else α i) (σ.length + 1) := ⟨Nat.le_succ _, fun i hi => by simp [Nat.ne_of_lt hi], VK.refl _⟩
  refine ⟨_, Grow.one k hn (.dict hd (hv.up u) ha hl), ?_⟩
  have := VR.ref (h := h') (α := fun i => if i = σ.length then a else α i) (n := (σ ++ [AO.dict kvs]).length) (i := σ.length) (by simp)
  simpa using this
noncomputable def aDict0 : AM AV := fun _ σ => some (.ref σ.length, σ ++ [.dict []])
theorem sim_Dict0 {pos : Pos} (cx : CxG G k c) (low : Low G) : Sim prog w c (eval (.Dict [] [] pos) c.env) aDict0 := by
  intro ρ σ v σ' α s Q E hm r q
  cases hm
  refine wpAny_Dict_empty ?_
  have hl := low _ (cx.here r)
  obtain ⟨α', g, v⟩ := grow_dict (prog := prog) (w := w) (kvs := []) (xs := []) (α := α) (HK.push s.heap { cls := .type "dict", data := .dict #[] }) (get?_size_none _) (Heap.DictOf.new s.heap) .nil (fun e => absurd hl (by rw [← e]; exact Nat.lt_irrefl _)) (by simp)
  exact q _ α' _ s.toks g v
theorem intsAre_of {h α n} : ∀ {vs : List AV} {xs : List Value} {ns : List Int}, VRs h α n vs xs → intsOf vs = some ns → PyProof.Rows.IntsAre xs ns
  | _, _, _, .nil, e => by cases e; exact .nil
  | _, _, _, .cons a r, e => by
    cases a <;> simp only [intsOf, reduceCtorEq] at e
    obtain ⟨ns, e1, rfl⟩ := map_some' e
    exact .cons _ _ (intsAre_of r e1)
theorem vrs_ints {h α n} : ∀ {xs : List Value} {ns : List Int}, PyProof.Rows.IntsAre xs ns → VRs h α n (ns.map .int) xs
  | _, _, .nil => .nil
  | _, _, .cons _ _ r => .cons (.int _ _) (vrs_ints r)
noncomputable def bSorted : FnM
  | [.ref i], σ => (match σ[i]? with
    | some (.list vs) => (intsOf vs).bind fun ns => if ns.length < 64 then some (.ref σ.length, σ ++ [.list ((sortI ns).map .int)]) else none
    | some (.dict kvs) => if kvs.length < 64 then some (.ref σ.length, σ ++ [.list ((sortI (kvs.map (·.1))).map .int)]) else none
    | none => none)
  | _, _ => none
theorem keys_ints {h α n kvs xs} (hk : KR h α n kvs xs) (vs : List Value) (hl : vs.length = xs.length) (hv : ∀ (j : Nat) (v : Value), vs[j]? = some v → ∃ k x, xs[j]? = some (k, x) ∧ (intKind prog w).is k v = true) : PyProof.Rows.IntsAre vs (kvs.map (·.1)) := by
  induction hk generalizing vs with
  | nil => cases vs with | nil => exact .nil | cons _ _ => simp at hl
  | @cons k0 v0 x0 _ _ a r ih =>
    cases vs with
    | nil => simp at hl
    | cons y ys =>
      obtain ⟨k, x, e1, e2⟩ := hv 0 y rfl
      simp at e1
      obtain ⟨rfl, rfl⟩ := e1
      obtain ⟨t, rfl⟩ := intKind_is e2
      exact .cons _ _ (ih ys (by simpa using hl) fun j v e => by simpa using hv (j + 1) v (by simpa using e))
set_option tactic.hygienic true in
theorem op_sorted (lv : Lvl k c.A) : OpN prog w c (fun xs => call (.builtin "sorted") xs) bSorted := by
  intro vs xs α ρ σ v σ' s Q E hm r hv q
  unfold bSorted at hm
  split at hm
  · rename_i i
    cases hv with
    | cons hv hn =>
    cases hn
    cases hv with
    | ref hi =>
    split at hm
    · rename_i vs e1
      obtain ⟨ns, e2, hm⟩ := bind_some' hm
      split at hm
      · rename_i h64
        cases hm
        obtain ⟨is, n1, g1, v1, l1⟩ := r.list e1
        have hI := intsAre_of v1 e2
        have hlen : is.length = ns.length := by rw [← v1.length, intsOf_length e2]
        refine PyProof.Rows.sorted_ints (ns := ns) (vs := is) ⟨_, g1, rfl, _, rfl⟩ hI (by omega) fun out ns' a1 a2 a3 => ?_
        obtain ⟨ep, hat⟩ := PyProof.Rows.sortedAll_at s.heap is out
        have hnew : s.heap.get? (s.heap.objs.size + 1) = none := by
          cases e : s.heap.get? (s.heap.objs.size + 1) with
          | none => rfl
          | some o => exact absurd (Heap.lt_size e) (Nat.not_lt.mpr (Nat.le_succ _))
        have hs := eq_sortI a2 a3
        subst hs
        have hv' := vrs_ints (h := PyProof.Rows.sortedAll s.heap is out) (α := α) (n := σ.length) a1
        have hll := hv'.length
        have hpl := a2.length_eq
        rw [List.length_map] at hll
        obtain ⟨α', g, v⟩ := grow_list' (prog := prog) (w := w) (h := s.heap) (a := s.heap.objs.size + 1) (ep := ep) (items := out.toList) (fun b o e => PyProof.Rows.sortedAll_old e) hnew (by rw [hat]) hv' (by omega)
        exact q _ α' _ s.toks g v
      · cases hm
    · rename_i kvs e1
      split at hm
      · rename_i h64
        cases hm
        obtain ⟨xs, hd, hk, hne, hl⟩ := r.dict e1
        obtain ⟨ep, hat⟩ := hd.dictAt
        refine Calls.call_function_entry PyProof.Rows.kind_sorted PyProof.Rows.plain_sorted PyProof.Rows.entry_sorted (PyProof.Rows.args_sorted1 _) ?_
        unfold Builtin.«sorted»
        refine wpAny_bind (m := checkCount "sorted" 1 1 _) (wpAny_pure ?_)
        refine wpAny_bind (kdu_collect (A := c.A.in1) (kdl_dict (knd := intKind prog w) (kvs := xs) (ep := ep) (by simpa using hne)) lv.1 hat (le_sizeLine hl) fun h' tk acc hk' hacc => ?_)
        have hal : acc.toList.length = xs.length := by rw [Array.length_toList]; exact hacc.1
        refine wpAny_bind (wpAny_newList ?_ (by rw [hal]; exact le_sizeLine hl))
        have hI := keys_ints hk acc.toList hal (fun j v e => hacc.2 j v (by rw [← Array.getElem?_toList]; exact e))
        have hoL : (h'.push (PyProof.Rows.seqObj "list" acc.toList.toArray 0)).get? h'.objs.size = some (PyProof.Rows.seqObj "list" acc.toList.toArray 0) := Heap.get?_push_size _ rfl
        refine wpAny_bind (wpAny_holding (wpAny_call_entry PyProof.Rows.slot_list_sort ⟨_, hoL, rfl⟩ PyProof.Rows.entry_list_sort (PyProof.Rows.list_sort_tree hoL hI (by rw [hal, ← hk.length]; exact h64) fun out ns' a1 a2 a3 => ⟨_, rfl, ?_⟩) (PyProof.Rows.args_list_sort _)))
        refine wpAny_pure ⟨_, rfl, ?_⟩
        have hs := eq_sortI a2 a3
        subst hs
        obtain ⟨ep', hat'⟩ := PyProof.Rows.sortedHeap_at (out := out) hoL
        have hkk : HK s.heap (PyProof.Rows.sortedHeap (h'.push (PyProof.Rows.seqObj "list" acc.toList.toArray 0)) h'.objs.size acc.toList out) := fun b o e => by
          have e2 := hk' _ _ e
          have hlt := Heap.lt_size e2
          rw [PyProof.Rows.sortedHeap_old (Nat.ne_of_lt hlt) (by rw [Heap.size_push]; exact Nat.lt_succ_of_lt hlt)]
          exact Heap.get?_push_of_some _ e2
        have hnew : s.heap.get? h'.objs.size = none := by
          cases e : s.heap.get? h'.objs.size with
          | none => rfl
          | some o => exact absurd (Heap.lt_size (hk' _ _ e)) (Nat.lt_irrefl _)
        have hv' := vrs_ints (h := PyProof.Rows.sortedHeap (h'.push (PyProof.Rows.seqObj "list" acc.toList.toArray 0)) h'.objs.size acc.toList out) (α := α) (n := σ.length) a1
        have hll := hv'.length
        have hpl := a2.length_eq
        rw [List.length_map] at hll hpl
        obtain ⟨α', g, v⟩ := grow_list' (prog := prog) (w := w) (h := s.heap) (a := h'.objs.size) (ep := ep') (items := out.toList) hkk hnew (by rw [hat']) hv' (by omega)
        exact q _ α' _ tk g v
      · cases hm
    · cases hm
  · cases hm
noncomputable def cIn (a b : AV) (σ : Store) : Option Bool := match a, b with
  | .int n, .ref i => (match σ[i]? with
    | some (.list vs) => (intsOf vs).map fun ns => ns.any (· == n)
    | some (.dict kvs) => some (look kvs n).isSome
    | none => none)
  | _, _ => none
noncomputable def cNotIn (a b : AV) (σ : Store) : Option Bool := (cIn a b σ).map (!·)
theorem KR.looks {h α n kvs xs} (hk : KR h α n kvs xs) (m : Int) : (valueAt xs m).isSome = (Inn.look kvs m).isSome := by
  cases e : Inn.look kvs m with
  | none => rw [hk.look_none e]; rfl
  | some v => obtain ⟨x, hx, _⟩ := hk.look e; rw [hx]; rfl
noncomputable def hits (n : Int) : Value → Bool
  | .int m _ => m == n
  | _ => false
theorem any_hits {n : Int} : ∀ {xs : List Value} {ns : List Int}, PyProof.Rows.IntsAre xs ns → xs.any (hits n) = ns.any (· == n)
  | _, _, .nil => rfl
  | _, _, .cons m t r => by simp [hits, any_hits r]
theorem hits_at {A : Around} {α : Nat → Addr} {σ : Store} {s : Shared} {vs : List AV} {is : List Value} {ns : List Int} (lv : Lvl k A) (sr : SR prog w α σ s.heap) (v1 : VRs s.heap α σ.length vs is) (e2 : intsOf vs = some ns) (n : Int) (t : Tok) :
    (∀ y, y ∈ is.toArray → SeqAt.EqAt A.in1 s y (.int n t) (hits n y)) ∧ is.toArray.any (hits n) = ns.any (· == n) := by
  have hI := intsAre_of v1 e2
  refine ⟨fun y hy => ?_, ?_⟩
  · have hy' : y ∈ is := by simpa using hy
    obtain ⟨j, hj, rfl⟩ := List.mem_iff_getElem.mp hy'
    obtain ⟨m, u, e3, _⟩ := hI.at j is[j] (by simp [hj])
    rw [e3]
    exact (eq_at (prog := prog) (w := w) 1 (.int m) (.int n) _ _ (m == n) A.in1 s sr rfl (.int _ _) (.int _ _) (by have := lv.2.2; show A.units + _ + 1 < cLine; omega)).1
  · rw [← any_hits hI]; simp
set_option tactic.hygienic true in
theorem cmp_notIn (lv : Lvl k c.A) : Cmp2 prog w c (compareOp .NotIn) cNotIn := by
  intro a b x y α ρ σ v s Q E hf r ha hb q
  replace hf := map_some' hf
  obtain ⟨v', hf, rfl⟩ := hf
  unfold cIn at hf
  split at hf
  · rename_i n i
    obtain ⟨t, rfl⟩ := ha.inv_int
    obtain ⟨hi, rfl⟩ := hb.inv_ref
    split at hf
    · rename_i vs e1
      replace hf := map_some' hf
      obtain ⟨ns, e2, rfl⟩ := hf
      obtain ⟨is, n1, g1, v1, l1⟩ := r.list e1
      obtain ⟨h1, h2⟩ := hits_at (prog := prog) (w := w) lv r.sr v1 e2 n t
      refine SeqAt.notIn_listAt (items := is.toArray) (hits n) ⟨_, g1, rfl, _, rfl⟩ h1 ?_
      rw [h2]; exact q s.toks
    · rename_i kvs e1
      cases hf
      obtain ⟨xs, hd, hk, hne, hl⟩ := r.dict e1
      refine wpAny_notIn_of (knd := intKind prog w) (k := n) (by simp [intKind, Value.isInt]) (by simpa using hne) (mapOf_of_dictOf hd) ?_
      rw [hk.looks]
      exact q _
    · cases hf
  · cases hf
noncomputable def aValues (x : Str) : AM AV := fun ρ σ => (ρ x).bind fun v => match v with
  | .ref i => (match σ[i]? with
    | some (.dict _) => some (.vals i, σ)
    | _ => none)
  | _ => none
theorem sim_values {x : Str} {np apos pos : Pos} (cx : CxG G k c) (hv : isVar (c.env.kindOf x) = true) (hn : okName x = true) (hline : (apos.endLine == pos.line) = true := by rfl) :
    Sim prog w c (eval (.Call (.Attribute (.Name x np) "values" apos) [] [] pos) c.env) (aValues x) := by
  intro ρ σ v σ' α s Q E hm r q
  obtain ⟨v1, h1, hm⟩ := bind_some' hm
  split at hm
  · rename_i i
    split at hm
    · rename_i kvs e1
      cases hm
      refine wpAny_Call_method0_late rfl hline ?_
      refine sim_name (c := c) (prog := prog) (w := w) cx hv hn ρ σ (.ref i) σ α s _ _ (by simp [aName, h1]) r fun y α1 hh1 tk1 g1 v1 => ?_
      have r1 := r.grow g1
      obtain ⟨hi1, rfl⟩ : i < σ.length ∧ y = .ref (α1 i) := by cases v1 with | ref hi => exact ⟨hi, rfl⟩
      obtain ⟨xs, hd, hk, hne, hl⟩ := r1.dict e1
      refine ⟨"dict", _, F.plainAttrs_dict, F.slot_dict_values, F.type_dict_values, hd.typeIs, fun a ha => ?_, ?_⟩
      · cases ha
        obtain ⟨o, _, _, ho, hx, _⟩ := hd
        exact ⟨o, ho, hx.2.1⟩
      · refine Calls.callWith_builtin rfl (evalArgs_none ?_)
        refine call_meetsIn F.slot_dict_values hd.typeIs F.entry_dict_values (F.args_dict_values_1 _) (meets_dict_values (intKind prog w) (α1 i) (by simpa using hne)) ⟨⟨xs, hd⟩, ?_⟩
        have kk : HK hh1 (hh1.push { cls := .type "dict_values", data := .fields #[.ref (α1 i)] }) := HK.push _ _
        exact q _ α1 _ tk1 (g1.trans (Grow.same kk α1 _)) (.vals hi1 ⟨_, Heap.get?_push_size _ rfl, rfl, rfl⟩)
    · cases hm
  · cases hm
end
end Inn
end
section
set_option maxRecDepth 10000
set_option linter.unusedVariables false
namespace Inn
open PySem PySem.W
variable {prog : Program} {w : World}
section
variable {A : Around} {E : Value → Shared → Prop} {s : Shared}
theorem lk_list_keys : typeLookup (.type "list") "keys" = pure none := by rw [typeLookup_type, builtinLookup_eq_fast]; kernel_rfl
theorem keys_miss {a : Addr} {xs : Array Value} {k : Nat} {Q : Option Value → Shared → Prop} (hx : s.heap.get? a = some { cls := .type "list", data := .seq xs k }) (hA : A.handled = none)
    (h : ∀ h' tk, HK s.heap h' → Q none { s with heap := h', toks := tk }) : wpAny (model prog w) A (getAttr? (.ref a) "keys") Q E s := by
  obtain ⟨hp, g, d, tk, os⟩ := s
  have hT : ∀ tk', (⟨hp, g, d, tk', os⟩ : Shared).TypeIs (.ref a) "list" := fun _ => ⟨_, hx, rfl⟩
  have f1 := sub_AttributeError
  have f3 := F.slot_list_getattribute.lookup
  have f4 := F.slot_list_getattribute.bind (.ref a)
  have f5 := am_list_getattr_none
  have hmiss := lk_list_keys
  unfold getAttr? getAttrBy? getAttrBy
  repeat (any_goals (first | assumption | exact hT _ | ((with_reducible show wpAny _ _ (call (Value.builtin "list.__getattribute__") _ _) _ _ _); refine call_meets F.slot_list_getattribute (hT _) am_entry_list_getattribute (F.args_list_getattribute_2 _ _) (meets_getattribute_miss_list a xs k #[] "keys" _ hmiss (by decide +kernel) (by decide +kernel)) ⟨hx, hA, fun h' tk' e hx' => ?_⟩) | wp_step))
  obtain ⟨t', u', he⟩ := hx'.there
  show wpAny _ _ (getattributeRaised _ _ _ _ _ _ _) _ _ _
  unfold getattributeRaised
  repeat (any_goals (first | assumption | wp_step))
  exact h _ _ hx'.keeps
theorem pair_items {t : Addr} {x y : Value} {Q : List Value → Shared → Prop} (hx : s.heap.get? t = some (tupObj [x, y])) (h : Q [x, y] s) : wpAny (model prog w) A (Builtin.Dict.pairItems (.ref t)) Q E s := by
  unfold Builtin.Dict.pairItems
  refine wpAny_bind (wpAny_typeOf (T := "tuple") ⟨_, hx, rfl⟩ ?_)
  rw [if_pos (by decide)]
  unfold seqItems?
  refine wpAny_bind ?_
  refine wpAny_bind (wpAny_load hx ?_)
  exact wpAny_pure (wpAny_pure h)
theorem entry_update_loop : entryFor table "dict.update.loop" = some Builtin.«dict.update.loop» := entryFor_of_tree (by kernel_rfl)
theorem plain_update_loop : plainId "dict.update.loop" = true := by decide +kernel
inductive TupPairs (h : Heap) : List Value → List (Int × Value) → Prop
  | nil : TupPairs h [] []
  | cons {t : Addr} {k : Int} {u : Tok} {v : Value} {xs kvs} : h.get? t = some (tupObj [.int k u, v]) → TupPairs h xs kvs → TupPairs h (.ref t :: xs) ((k, v) :: kvs)
theorem TupPairs.keeps {h h' : Heap} (k : ∀ b o, h.get? b = some o → (∃ items, o = tupObj items) → h'.get? b = some o) : ∀ {xs kvs}, TupPairs h xs kvs → TupPairs h' xs kvs
  | _, _, .nil => .nil
  | _, _, .cons e r => .cons (k _ _ e ⟨_, rfl⟩) (r.keeps k)
theorem update_loop {d I l : Addr} {items : List Value} {R : Result → Shared → Prop} (hA : A.handled = none) (hne : l ≠ I) (hdl : d ≠ l) (hdI : d ≠ I) (hlen : items.length ≤ 1000000) :
    ∀ (rest : List Value) (kvs : List (Int × Value)) (acc : List (Int × Value)) (pre : List Value) (s : Shared), items = pre ++ rest → TupPairs s.heap rest kvs →
      s.heap.IsListIter I l pre.length → s.heap.IsList l items.toArray → s.heap.DictOf (intKind prog w) d acc → acc.length ≤ pre.length →
      (∀ h' tk, (∀ b o, b ≠ I → b ≠ d → s.heap.get? b = some o → h'.get? b = some o) → h'.DictOf (intKind prog w) d (kvs.foldl (fun a p => stored a p.1 p.2) acc) → (kvs.foldl (fun a p => stored a p.1 p.2) acc).length ≤ items.length → R (.ok (.ret .none)) { s with heap := h', toks := tk }) →
      codeAny (model prog w) A (.builtin "dict.update.loop" ⟨[.ref d, .ref I, rawInt pre.length, .none], []⟩) R s
  := by
  intro rest
  induction rest with
  | nil =>
    intro kvs acc pre s hi tp hit hl hd hal h
    cases tp
    rw [List.append_nil] at hi
    subst hi
    refine codeAny_builtin entry_update_loop ?_
    rw [Around.under_plainId plain_update_loop _]
    unfold Builtin.«dict.update.loop»
    have W := Walks.list (prog := prog) (w := w) (A := A.in1) hA I l hne items.toArray
    have hsz : items.toArray.size = items.length := by simp
    refine wpAny_bind (W.done s _ _ (by rw [hsz]; exact ⟨hit, hl⟩) fun h' tk hk => ?_)
    show wpAny _ _ (Builtin.Dict.addKeywords d [] >>= _) _ _ _
    refine wpAny_bind (wpAny_pure (wpAny_pure ?_))
    refine h h' tk (fun b o hb hb' e => hk b o (by simpa using hb) e) ?_ (by simpa using hal)
    obtain ⟨o, es, ep, ho, rr⟩ := hd
    exact ⟨o, es, ep, hk _ _ (by simpa using hdI) ho, rr⟩
  | cons y rest ih =>
    intro kvs acc pre s hi tp hit hl hd hal h
    cases tp with
    | @cons t k u v _ kvs e r =>
    refine codeAny_builtin entry_update_loop ?_
    rw [Around.under_plainId plain_update_loop _]
    unfold Builtin.«dict.update.loop»
    have W := Walks.list (prog := prog) (w := w) (A := A.in1) hA I l hne items.toArray
    refine wpAny_bind (W.item pre.length s _ _ (by rw [hi]; simp) ⟨hit, hl⟩ fun x h1 tk1 hx hst hk => ?_)
    have hx' : x = .ref t := by
      rw [hi] at hx
      simp at hx
      exact hx.symm
    subst hx'
    have htI : t ≠ I := fun e' => by
      obtain ⟨o, ho, hc, _⟩ := hit
      rw [← e', e] at ho; cases ho; exact absurd hc (by simp)
    have htd : t ≠ d := fun e' => by
      obtain ⟨o, es, ep, ho, hc, _⟩ := hd
      rw [← e', e] at ho; cases ho; exact absurd hc.1 (by simp)
    have e1 := hk _ _ (by simpa using htI) e
    refine wpAny_bind (wpAny_holding (wpAny_bind (wpAny_tryCatch (pair_items e1 ?_))))
    have hd1 : h1.DictOf (intKind prog w) d acc := by
      obtain ⟨o, es, ep, ho, rr⟩ := hd
      exact ⟨o, es, ep, hk _ _ (by simpa using hdI) ho, rr⟩
    have hpl : pre.length < items.length := by rw [hi]; simp
    refine wpAny_holding (wpAny_dictSet_pairs (knd := intKind prog w) (k := k) (by simp [intKind, Value.isInt]) hd1 (fun h2 hd2 hs2 => ?_) (le_sizeLine (by omega)))
    refine wpAny_pure ⟨plainId_quiet plain_update_loop _, ?_⟩
    have hlen2 : (pre ++ [Value.ref t]).length = pre.length + 1 := by simp
    have key := ih kvs (stored acc k v) (pre ++ [.ref t]) { s with heap := h2, toks := tk1 + 1 } (by simp [hi]) (r.keeps fun b o eb ho => ?_) ?_ ?_ hd2 ?_ (fun h' tk hk' hd' hl' => h h' tk (fun b o hb hb' eb => hk' b o hb hb' (hs2.extBut b o hb' (hk b o (by simpa using hb) eb))) hd' hl')
    · rw [hlen2] at key
      exact key
    · have hbI : b ≠ I := fun e' => by
        subst e'
        obtain ⟨items', rfl⟩ := ho
        obtain ⟨o, ho, hc, _⟩ := hit
        rw [eb] at ho; cases ho; exact absurd hc (by simp)
      have hbd : b ≠ d := fun e' => by
        subst e'
        obtain ⟨items', rfl⟩ := ho
        obtain ⟨o, es, ep, ho, hc, _⟩ := hd
        rw [eb] at ho; cases ho; exact absurd hc.1 (by simp)
      exact hs2.extBut b o hbd (hk b o (by simpa using hbI) eb)
    · rw [hlen2]
      obtain ⟨o, ho, rr⟩ := hst.1
      exact ⟨o, hs2.extBut _ _ (Ne.symm hdI) ho, rr⟩
    · obtain ⟨o, ho, rr⟩ := hst.2
      exact ⟨o, hs2.extBut _ _ (Ne.symm hdl) ho, rr⟩
    · have := stored_length_le acc k v
      rw [hlen2]; omega
end
section
variable {c : Cx} {G : Heap → Prop} {k : Nat}
noncomputable def pairsL : List AV → Option (List (Int × AV))
  | [] => some []
  | .tup [.int n, v] :: r => (pairsL r).map ((n, v) :: ·)
  | _ => none
noncomputable def bDict : FnM
  | [.ref i], σ => (match σ[i]? with
    | some (.dict kvs) => some (.ref σ.length, σ ++ [.dict kvs])
    | some (.list vs) => (pairsL vs).map fun kvs => (.ref σ.length, σ ++ [.dict (kvs.foldl (fun a p => put a p.1 p.2) [])])
    | none => none)
  | _, _ => none
theorem tupPairs_of {h α n} : ∀ {vs : List AV} {xs : List Value} {kvs : List (Int × AV)}, VRs h α n vs xs → pairsL vs = some kvs → ∃ ys, TupPairs h xs ys ∧ KR h α n kvs ys
  | _, _, _, .nil, e => by cases e; exact ⟨[], .nil, .nil⟩
  | _, _, _, .cons (v := v0) a r, e => by
    unfold pairsL at e
    split at e
    · rename_i e'; cases e'
    · rename_i m v' r' e'
      simp only [List.cons.injEq] at e'
      obtain ⟨rfl, rfl⟩ := e'
      obtain ⟨kvs', e1, rfl⟩ := map_some' e
      obtain ⟨ys, h1, h2⟩ := tupPairs_of r e1
      cases a with
      | tup e2 r2 =>
      cases r2 with
      | cons a1 r3 =>
      cases r3 with
      | cons a2 r4 =>
      cases r4
      cases a1
      exact ⟨_, .cons e2 h1, .cons a2 h2⟩
    · cases e
theorem KR.fold {h α n} : ∀ {kvs xs acc ys}, KR h α n kvs xs → KR h α n acc ys → KR h α n (kvs.foldl (fun a p => Inn.put a p.1 p.2) acc) (xs.foldl (fun a p => stored a p.1 p.2) ys)
  | _, _, _, _, .nil, r => r
  | _, _, _, _, .cons a q, r => q.fold (r.put a)
set_option tactic.hygienic true in
theorem op_dict (lv : Lvl k c.A) (cx : CxG G k c) (low : Low G) : OpN prog w c (fun xs => call (.type "dict") xs) bDict := by
  intro vs xs α ρ σ v σ' s Q E hm r hv q
  have hl := low _ (cx.here r)
  have hsz : s.heap.objs.size ≠ sysModules := fun e => absurd hl (by rw [← e]; exact Nat.lt_irrefl _)
  unfold bDict at hm
  split at hm
  · rename_i i
    cases hv with
    | cons hv hn =>
    cases hn
    cases hv with
    | ref hi =>
    split at hm
    · rename_i kvs e1
      cases hm
      obtain ⟨xs, hd, hk, hne, hl⟩ := r.dict e1
      refine kt_call_dict (knd := intKind prog w) (by simpa using hne) hd (le_sizeLine hl) fun h' hd' hs' => ?_
      have kk : HK s.heap h' := fun b o e => hs'.extBut b o (Nat.ne_of_lt (Heap.lt_size e)) (Heap.get?_push_of_some _ e)
      obtain ⟨α', g, v⟩ := grow_dict (prog := prog) (w := w) (σ := σ) (α := α) kk (get?_size_none _) hd' (hk.up ⟨Nat.le_refl _, fun _ _ => rfl, kk.vk⟩) hsz hl
      exact q _ α' _ s.toks g v
    · rename_i vs e1
      obtain ⟨kvs, e2, hm⟩ := map_some' hm
      cases hm
      obtain ⟨is, n1, g1, v1, l1⟩ := r.list e1
      obtain ⟨ys, tp, kr⟩ := tupPairs_of v1 e2
      refine callType_codes (Q₁ := fun obj s₁ => obj = .ref s.heap.objs.size ∧ s₁ = { s with heap := s.heap.push { cls := .type "dict", data := .dict #[] } }) F.kt_called_dict (F.kt_typeCall_dict_1 _) F.entry_dict_init (kt_code_dict_new _ ⟨rfl, rfl⟩) ?_
      rintro obj s₁ ⟨rfl, rfl⟩
      have hnew : (s.heap.push { cls := .type "dict", data := .dict #[] }).DictOf (intKind prog w) s.heap.objs.size [] := Heap.DictOf.new s.heap
      refine ⟨hnew.typeIs, F.args_dict_init_2 _ _, ?_⟩
      unfold Builtin.«dict.__init__»
      refine wpAny_bind ?_
      unfold Builtin.Dict.selfAndRest
      refine wpAny_bind (wpAny_notOrdered_dict hnew.typeIs ?_)
      show wpAny _ _ (pure (s.heap.objs.size, [Value.ref (α i)])) _ _ _
      refine wpAny_pure ?_
      show wpAny _ _ (Builtin.Dict.updateFrom "dict.__init__" s.heap.objs.size (.ref (α i)) [] .none) _ _ _
      unfold Builtin.Dict.updateFrom
      have g2 : (s.heap.push { cls := .type "dict", data := .dict #[] }).get? (α i) = some { cls := .type "list", data := .seq is.toArray n1 } := Heap.get?_push_of_some _ g1
      refine wpAny_bind (wpAny_typeOf (T := "list") ⟨_, g2, rfl⟩ ?_)
      rw [if_pos (by decide)]
      refine wpAny_bind (keys_miss g2 lv.1 fun h2 tk2 hk2 => ?_)
      simp only [Option.isNone_none, if_true]
      refine wpAny_bind (wpAny_rule ?_)
      have g3 := hk2 _ _ g2
      refine wpAny_bind (wpAny_pyIter_list (items := is.toArray) ⟨_, g3, rfl, _, rfl⟩ ?_)
      have hdlt : s.heap.objs.size < (s.heap.push { cls := .type "dict", data := .dict #[] }).objs.size := by rw [Heap.size_push]; exact Nat.lt_succ_self _
      have hdz : h2.get? s.heap.objs.size = some { cls := .type "dict", data := .dict #[] } := hk2 _ _ (Heap.get?_push_size _ rfl)
      refine wpAny_pure ⟨plainId_quiet plain_update_loop _, ?_⟩
      have kk1 : HK s.heap h2 := fun b o e => hk2 _ _ (Heap.get?_push_of_some _ e)
      have hli : α i ≠ h2.objs.size := Nat.ne_of_lt (Heap.lt_size g3)
      have hdi : s.heap.objs.size ≠ h2.objs.size := Nat.ne_of_lt (Heap.lt_size hdz)
      have hdl : s.heap.objs.size ≠ α i := Ne.symm (Nat.ne_of_lt (Heap.lt_size g1))
      have kp : HK h2 (h2.push { cls := .type "list_iterator", data := .fields #[.ref (α i), .int 0 0] }) := HK.push _ _
      refine update_loop (prog := prog) (w := w) (A := c.A.in1) (items := is) lv.1 hli hdl hdi l1 is ys [] [] { s with heap := h2.push { cls := .type "list_iterator", data := .fields #[.ref (α i), .int 0 0] }, toks := tk2 } rfl (tp.keeps fun b o e _ => kp _ _ (kk1 _ _ e)) ⟨_, Heap.get?_push_size _ rfl, rfl, rfl⟩ ⟨_, kp _ _ g3, rfl, _, rfl⟩ ?_ (Nat.le_refl _) fun h' tk hk' hd' hl' => ?_
      · obtain ⟨o, es, ep, ho, rr⟩ := hnew
        exact ⟨o, es, ep, kp _ _ (hk2 _ _ ho), rr⟩
      · have kk : HK s.heap h' := fun b o e => hk' b o (Nat.ne_of_lt (Heap.lt_size (kk1 _ _ e))) (Nat.ne_of_lt (Heap.lt_size e)) (kp _ _ (kk1 _ _ e))
        have krf : KR h' α σ.length (kvs.foldl (fun a p => put a p.1 p.2) []) (ys.foldl (fun a p => stored a p.1 p.2) []) := KR.fold (kr.up ⟨Nat.le_refl _, fun _ _ => rfl, kk.vk⟩) .nil
        obtain ⟨α', g, v⟩ := grow_dict (prog := prog) (w := w) (σ := σ) (α := α) kk (get?_size_none _) hd' krf hsz (by omega)
        exact ⟨rfl, q _ α' _ tk g v⟩
    · cases hm
  · cases hm
end
end Inn
end
section
set_option maxRecDepth 10000
set_option linter.unusedVariables false
namespace Inn
open PySem
variable {prog : Program} {w : World}
section
variable {c : Cx} {G : Heap → Prop} {k : Nat}
end
end Inn
end
section
set_option maxRecDepth 10000
set_option linter.unusedVariables false
namespace Inn
open PySem
noncomputable def wA {β : Type} (m : AM β) (ρ : AEnv) (σ : Store) (Q : β → Store → Prop) : Prop := ∃ v σ', m ρ σ = some (v, σ') ∧ Q v σ'
noncomputable def wS (m : AS) (ρ : AEnv) (σ : Store) (Q : AF → AEnv → Store → Prop) : Prop := ∃ f ρ' σ', m ρ σ = some (f, ρ', σ') ∧ Q f ρ' σ'
noncomputable def wF (F : FnM) (vs : List AV) (σ : Store) (Q : AV → Store → Prop) : Prop := ∃ v σ', F vs σ = some (v, σ') ∧ Q v σ'
theorem wA.mono {β : Type} {m : AM β} {ρ σ} {Q Q' : β → Store → Prop} (h : wA m ρ σ Q) (q : ∀ v σ', Q v σ' → Q' v σ') : wA m ρ σ Q' := by
  obtain ⟨v, σ', e, hq⟩ := h; exact ⟨v, σ', e, q _ _ hq⟩
theorem wS.mono {m : AS} {ρ σ} {Q Q' : AF → AEnv → Store → Prop} (h : wS m ρ σ Q) (q : ∀ f ρ' σ', Q f ρ' σ' → Q' f ρ' σ') : wS m ρ σ Q' := by
  obtain ⟨f, ρ', σ', e, hq⟩ := h; exact ⟨f, ρ', σ', e, q _ _ _ hq⟩
theorem wF.mono {F : FnM} {vs σ} {Q Q' : AV → Store → Prop} (h : wF F vs σ Q) (q : ∀ v σ', Q v σ' → Q' v σ') : wF F vs σ Q' := by
  obtain ⟨v, σ', e, hq⟩ := h; exact ⟨v, σ', e, q _ _ hq⟩
theorem wA_pure {β : Type} {v : β} {ρ σ Q} : wA (apure v) ρ σ Q ↔ Q v σ := by
  constructor
  · rintro ⟨v, σ', e, q⟩; cases e; exact q
  · intro q; exact ⟨_, _, rfl, q⟩
theorem wA_bind {β γ : Type} {m : AM β} {k : β → AM γ} {ρ σ Q} : wA (abind m k) ρ σ Q ↔ wA m ρ σ fun v σ1 => wA (k v) ρ σ1 Q := by
  constructor
  · rintro ⟨v, σ', e, q⟩
    obtain ⟨a, σ1, e1, e2⟩ := abind_some e
    exact ⟨a, σ1, e1, v, σ', e2, q⟩
  · rintro ⟨a, σ1, e1, v, σ', e2, q⟩
    exact ⟨v, σ', by simp [abind, e1, e2], q⟩
theorem wA_bind_e {β γ : Type} {m : AM β} {k : β → AM γ} {ρ σ Q} : (wA (abind m k) ρ σ Q) = (wA m ρ σ fun v σ1 => wA (k v) ρ σ1 Q) := propext (wA_bind)
theorem wA_int {i ρ σ Q} : wA (aInt i) ρ σ Q ↔ Q (.int i) σ := wA_pure
theorem wA_int_e {i ρ σ Q} : (wA (aInt i) ρ σ Q) = (Q (.int i) σ) := propext (wA_int)
theorem wA_bool {i ρ σ Q} : wA (aBool i) ρ σ Q ↔ Q (.bool i) σ := wA_pure
theorem wA_bool_e {i ρ σ Q} : (wA (aBool i) ρ σ Q) = (Q (.bool i) σ) := propext (wA_bool)
theorem wA_none {ρ σ Q} : wA aNone ρ σ Q ↔ Q .none σ := wA_pure
theorem wA_none_e {ρ σ Q} : (wA aNone ρ σ Q) = (Q .none σ) := propext (wA_none)
theorem wA_name {x ρ σ Q} {v : AV} (h : ρ x = some v) : wA (aName x) ρ σ Q ↔ Q v σ := by
  constructor
  · rintro ⟨v, σ', e, q⟩; simp only [aName, h, Option.map_some] at e; cases e; exact q
  · intro q; exact ⟨v, σ, by simp [aName, h], q⟩
theorem wA_here {x : Str} {ρ : AEnv} {σ Q} {v : AV} : wA (aName x) (upd ρ x v) σ Q ↔ Q v σ := wA_name (by simp [upd])
theorem wA_here_e {x : Str} {ρ : AEnv} {σ Q} {v : AV} : (wA (aName x) (upd ρ x v) σ Q) = (Q v σ) := propext (wA_here)
theorem wA_there {x y : Str} {ρ : AEnv} {σ Q} {v : AV} (h : ¬ (x = y)) : wA (aName x) (upd ρ y v) σ Q ↔ wA (aName x) ρ σ Q := by simp [wA, aName, upd, h]
theorem wA_there_e {x y : Str} {ρ : AEnv} {σ Q} {v : AV} (h : ¬ (x = y)) : (wA (aName x) (upd ρ y v) σ Q) = (wA (aName x) ρ σ Q) := propext (wA_there h)
noncomputable def w2 (f : AV → AV → Store → Option (AV × Store)) (a b : AV) (σ : Store) (Q : AV → Store → Prop) : Prop := ∃ v σ', f a b σ = some (v, σ') ∧ Q v σ'
noncomputable def wC (f : AV → AV → Store → Option Bool) (a b : AV) (σ : Store) (Q : Bool → Prop) : Prop := ∃ v, f a b σ = some v ∧ Q v
theorem wA_bin {f a b ρ σ Q} : wA (aBin f a b) ρ σ Q ↔ wA a ρ σ fun x σ1 => wA b ρ σ1 fun y σ2 => w2 f x y σ2 Q := by
  unfold aBin
  rw [wA_bind]; simp only [wA_bind_e]; rfl
theorem wA_bin_e {f a b ρ σ Q} : (wA (aBin f a b) ρ σ Q) = (wA a ρ σ fun x σ1 => wA b ρ σ1 fun y σ2 => w2 f x y σ2 Q) := propext (wA_bin)
theorem wA_fn {β : Type} {g : Store → Option (β × Store)} {ρ σ Q} : wA (fun _ σ => g σ) ρ σ Q ↔ ∃ v σ', g σ = some (v, σ') ∧ Q v σ' := Iff.rfl
theorem wA_cmp {f a b ρ σ Q} : wA (aCmp f a b) ρ σ Q ↔ wA a ρ σ fun x σ1 => wA b ρ σ1 fun y σ2 => wC f x y σ2 fun t => Q (.bool t) σ2 := by
  unfold aCmp
  rw [wA_bind]; simp only [wA_bind_e]
  simp only [wA, wC, Option.map_eq_some_iff]
  constructor
  · rintro ⟨v, s1, e1, u, s2, e2, z, s3, ⟨t, e3, e4⟩, q⟩; cases e4; exact ⟨v, s1, e1, u, _, e2, _, e3, q⟩
  · rintro ⟨v, s1, e1, u, s2, e2, t, e3, q⟩; exact ⟨v, s1, e1, u, s2, e2, _, _, ⟨t, e3, rfl⟩, q⟩
theorem wA_cmp_e {f a b ρ σ Q} : (wA (aCmp f a b) ρ σ Q) = (wA a ρ σ fun x σ1 => wA b ρ σ1 fun y σ2 => wC f x y σ2 fun t => Q (.bool t) σ2) := propext (wA_cmp)
theorem wA_bcmp {f a b ρ σ Q} : wA (bCmp f a b) ρ σ Q ↔ wA a ρ σ fun x σ1 => wA b ρ σ1 fun y σ2 => wC f x y σ2 fun t => Q t σ2 := by
  unfold bCmp
  rw [wA_bind]; simp only [wA_bind_e]
  simp only [wA, wC, Option.map_eq_some_iff]
  constructor
  · rintro ⟨v, s1, e1, u, s2, e2, z, s3, ⟨t, e3, e4⟩, q⟩; cases e4; exact ⟨v, s1, e1, u, _, e2, _, e3, q⟩
  · rintro ⟨v, s1, e1, u, s2, e2, t, e3, q⟩; exact ⟨v, s1, e1, u, s2, e2, _, _, ⟨t, e3, rfl⟩, q⟩
theorem wA_bcmp_e {f a b ρ σ Q} : (wA (bCmp f a b) ρ σ Q) = (wA a ρ σ fun x σ1 => wA b ρ σ1 fun y σ2 => wC f x y σ2 fun t => Q t σ2) := propext (wA_bcmp)
theorem wA_cmp2 {f g a b d ρ σ Q} : wA (aCmp2 f g a b d) ρ σ Q ↔ wA a ρ σ fun x σ1 => wA b ρ σ1 fun y σ2 => wC f x y σ2 fun t => if t then wA d ρ σ2 fun z σ3 => wC g y z σ3 fun u => Q (.bool u) σ3 else Q (.bool false) σ2 := by
  unfold aCmp2
  rw [wA_bind]; simp only [wA_bind_e]
  simp only [wA, wC]
  constructor
  · rintro ⟨v, s1, e1, u, s2, e2, z, s3, e3, q⟩
    obtain ⟨t, e4, e5⟩ := bind_some' e3
    refine ⟨v, s1, e1, u, s2, e2, t, e4, ?_⟩
    cases t with
    | false => simp only [Bool.false_eq_true, if_false] at e5 ⊢; cases e5; exact q
    | true =>
      simp only [if_true] at e5 ⊢
      obtain ⟨d, s4, e6, e7⟩ := abind_some e5
      obtain ⟨o, e8, e9⟩ := map_some' e7
      cases e9
      exact ⟨d, _, e6, _, e8, q⟩
  · rintro ⟨v, s1, e1, u, s2, e2, t, e4, q⟩
    cases t with
    | false => exact ⟨v, s1, e1, u, s2, e2, _, _, by simp only [e4, Option.bind_some, Bool.false_eq_true, if_false]; rfl, by simpa using q⟩
    | true =>
      simp only [if_true] at q
      obtain ⟨d, s4, e6, o, e8, q⟩ := q
      exact ⟨v, s1, e1, u, s2, e2, _, _, by simp only [e4, Option.bind_some, if_true, abind, e6, e8, Option.map_some], q⟩
theorem wA_cmp2_e {f g a b d ρ σ Q} : (wA (aCmp2 f g a b d) ρ σ Q) = (wA a ρ σ fun x σ1 => wA b ρ σ1 fun y σ2 => wC f x y σ2 fun t => if t then wA d ρ σ2 fun z σ3 => wC g y z σ3 fun u => Q (.bool u) σ3 else Q (.bool false) σ2) := propext (wA_cmp2)
theorem wA_bcmp2 {f g a b d ρ σ Q} : wA (bCmp2 f g a b d) ρ σ Q ↔ wA a ρ σ fun x σ1 => wA b ρ σ1 fun y σ2 => wC f x y σ2 fun t => if t then wA d ρ σ2 fun z σ3 => wC g y z σ3 fun u => Q u σ3 else Q false σ2 := by
  unfold bCmp2
  rw [wA_bind]; simp only [wA_bind_e]
  simp only [wA, wC]
  constructor
  · rintro ⟨v, s1, e1, u, s2, e2, z, s3, e3, q⟩
    obtain ⟨t, e4, e5⟩ := bind_some' e3
    refine ⟨v, s1, e1, u, s2, e2, t, e4, ?_⟩
    cases t with
    | false => simp only [Bool.false_eq_true, if_false] at e5 ⊢; cases e5; exact q
    | true =>
      simp only [if_true] at e5 ⊢
      obtain ⟨d, s4, e6, e7⟩ := abind_some e5
      obtain ⟨o, e8, e9⟩ := map_some' e7
      cases e9
      exact ⟨d, _, e6, _, e8, q⟩
  · rintro ⟨v, s1, e1, u, s2, e2, t, e4, q⟩
    cases t with
    | false => exact ⟨v, s1, e1, u, s2, e2, _, _, by simp only [e4, Option.bind_some, Bool.false_eq_true, if_false]; rfl, by simpa using q⟩
    | true =>
      simp only [if_true] at q
      obtain ⟨d, s4, e6, o, e8, q⟩ := q
      exact ⟨v, s1, e1, u, s2, e2, _, _, by simp only [e4, Option.bind_some, if_true, abind, e6, e8, Option.map_some], q⟩
theorem wA_bcmp2_e {f g a b d ρ σ Q} : (wA (bCmp2 f g a b d) ρ σ Q) = (wA a ρ σ fun x σ1 => wA b ρ σ1 fun y σ2 => wC f x y σ2 fun t => if t then wA d ρ σ2 fun z σ3 => wC g y z σ3 fun u => Q u σ3 else Q false σ2) := propext (wA_bcmp2)
theorem wA_bval {m ρ σ Q} : wA (bVal m) ρ σ Q ↔ wA m ρ σ fun v σ1 => ∃ b, aTruth v = some b ∧ Q b σ1 := by
  unfold bVal; rw [wA_bind]
  simp only [wA, Option.map_eq_some_iff]
  constructor
  · rintro ⟨v, s1, e1, u, s2, ⟨b, e2, e3⟩, q⟩; cases e3; exact ⟨v, _, e1, _, e2, q⟩
  · rintro ⟨v, s1, e1, b, e2, q⟩; exact ⟨v, s1, e1, _, _, ⟨b, e2, rfl⟩, q⟩
theorem wA_bval_e {m ρ σ Q} : (wA (bVal m) ρ σ Q) = (wA m ρ σ fun v σ1 => ∃ b, aTruth v = some b ∧ Q b σ1) := propext (wA_bval)
theorem wA_bnot {m ρ σ Q} : wA (bNot m) ρ σ Q ↔ wA m ρ σ fun v σ1 => Q (!v) σ1 := by
  unfold bNot; rw [wA_bind]
  simp only [wA, Option.some.injEq, Prod.mk.injEq]
  constructor
  · rintro ⟨v, s1, e1, u, s2, ⟨rfl, rfl⟩, q⟩; exact ⟨v, _, e1, q⟩
  · rintro ⟨v, s1, e1, q⟩; exact ⟨v, s1, e1, _, _, ⟨rfl, rfl⟩, q⟩
theorem wA_bnot_e {m ρ σ Q} : (wA (bNot m) ρ σ Q) = (wA m ρ σ fun v σ1 => Q (!v) σ1) := propext (wA_bnot)
theorem wA_not {m ρ σ Q} : wA (aNot m) ρ σ Q ↔ wA m ρ σ fun v σ1 => ∃ b, aTruth v = some b ∧ Q (.bool (!b)) σ1 := by
  unfold aNot; rw [wA_bind]
  simp only [wA, Option.map_eq_some_iff]
  constructor
  · rintro ⟨v, s1, e1, u, s2, ⟨b, e2, e3⟩, q⟩; cases e3; exact ⟨v, _, e1, _, e2, q⟩
  · rintro ⟨v, s1, e1, b, e2, q⟩; exact ⟨v, s1, e1, _, _, ⟨b, e2, rfl⟩, q⟩
theorem wA_not_e {m ρ σ Q} : (wA (aNot m) ρ σ Q) = (wA m ρ σ fun v σ1 => ∃ b, aTruth v = some b ∧ Q (.bool (!b)) σ1) := propext (wA_not)
theorem wA_neg {m ρ σ Q} : wA (aNeg m) ρ σ Q ↔ wA m ρ σ fun v σ1 => ∃ i, v = .int i ∧ Q (.int (-i)) σ1 := by
  unfold aNeg; rw [wA_bind]
  simp only [wA]
  constructor
  · rintro ⟨v, s1, e1, u, s2, e2, q⟩
    split at e2
    · cases e2; exact ⟨_, _, e1, _, rfl, q⟩
    · cases e2
  · rintro ⟨v, s1, e1, i, rfl, q⟩; exact ⟨_, s1, e1, _, _, rfl, q⟩
theorem wA_neg_e {m ρ σ Q} : (wA (aNeg m) ρ σ Q) = (wA m ρ σ fun v σ1 => ∃ i, v = .int i ∧ Q (.int (-i)) σ1) := propext (wA_neg)
theorem wA_band_nil {ρ σ Q} : wA (bAnd []) ρ σ Q ↔ Q true σ := wA_pure
theorem wA_band_nil_e {ρ σ Q} : (wA (bAnd []) ρ σ Q) = (Q true σ) := propext (wA_band_nil)
theorem wA_band_cons {m ms ρ σ Q} : wA (bAnd (m :: ms)) ρ σ Q ↔ wA m ρ σ fun b σ1 => if b then wA (bAnd ms) ρ σ1 Q else Q false σ1 := by
  rw [bAnd, wA_bind]
  constructor <;> intro h <;> refine h.mono fun b σ1 h => ?_ <;> cases b <;> simpa [wA_pure] using h
theorem wA_band_cons_e {m ms ρ σ Q} : (wA (bAnd (m :: ms)) ρ σ Q) = (wA m ρ σ fun b σ1 => if b then wA (bAnd ms) ρ σ1 Q else Q false σ1) := propext (wA_band_cons)
theorem wA_bor_nil {ρ σ Q} : wA (bOr []) ρ σ Q ↔ Q false σ := wA_pure
theorem wA_bor_nil_e {ρ σ Q} : (wA (bOr []) ρ σ Q) = (Q false σ) := propext (wA_bor_nil)
theorem wA_bor_cons {m ms ρ σ Q} : wA (bOr (m :: ms)) ρ σ Q ↔ wA m ρ σ fun b σ1 => if b then Q true σ1 else wA (bOr ms) ρ σ1 Q := by
  rw [bOr, wA_bind]
  constructor <;> intro h <;> refine h.mono fun b σ1 h => ?_ <;> cases b <;> simpa [wA_pure] using h
theorem wA_bor_cons_e {m ms ρ σ Q} : (wA (bOr (m :: ms)) ρ σ Q) = (wA m ρ σ fun b σ1 => if b then Q true σ1 else wA (bOr ms) ρ σ1 Q) := propext (wA_bor_cons)
theorem wA_vand1 {m ρ σ Q} : wA (vAnd [m]) ρ σ Q ↔ wA m ρ σ Q := by rw [vAnd]
theorem wA_vand1_e {m ρ σ Q} : (wA (vAnd [m]) ρ σ Q) = (wA m ρ σ Q) := propext (wA_vand1)
theorem wA_vand {m m' ms ρ σ Q} : wA (vAnd (m :: m' :: ms)) ρ σ Q ↔ wA m ρ σ fun v σ1 => ∃ b, aTruth v = some b ∧ if b then wA (vAnd (m' :: ms)) ρ σ1 Q else Q v σ1 := by
  rw [vAnd, wA_bind]
  constructor
  · intro h; refine h.mono fun v σ1 h => ?_
    obtain ⟨u, s2, e, q⟩ := h
    obtain ⟨b, e1, e2⟩ := bind_some' e
    refine ⟨b, e1, ?_⟩
    cases b with
    | false => simp only [Bool.false_eq_true, if_false] at e2 ⊢; cases e2; exact q
    | true => simp only [if_true] at e2 ⊢; exact ⟨u, s2, e2, q⟩
  · intro h; refine h.mono fun v σ1 h => ?_
    obtain ⟨b, e1, h⟩ := h
    cases b with
    | false => exact ⟨v, σ1, by simp [e1], by simpa using h⟩
    | true =>
      simp only [if_true] at h
      obtain ⟨u, s2, e2, q⟩ := h
      exact ⟨u, s2, by simp [e1, e2], q⟩
  · simp
theorem wA_vand_e {m m' ms ρ σ Q} : (wA (vAnd (m :: m' :: ms)) ρ σ Q) = (wA m ρ σ fun v σ1 => ∃ b, aTruth v = some b ∧ if b then wA (vAnd (m' :: ms)) ρ σ1 Q else Q v σ1) := propext (wA_vand)
theorem wA_args_nil {ρ σ Q} : wA (aArgs []) ρ σ Q ↔ Q [] σ := wA_pure
theorem wA_args_nil_e {ρ σ Q} : (wA (aArgs []) ρ σ Q) = (Q [] σ) := propext (wA_args_nil)
theorem wA_args_cons {m ms ρ σ Q} : wA (aArgs (m :: ms)) ρ σ Q ↔ wA m ρ σ fun v σ1 => wA (aArgs ms) ρ σ1 fun vs σ2 => Q (v :: vs) σ2 := by
  rw [aArgs, wA_bind]; simp only [wA_bind_e, wA_pure]
theorem wA_args_cons_e {m ms ρ σ Q} : (wA (aArgs (m :: ms)) ρ σ Q) = (wA m ρ σ fun v σ1 => wA (aArgs ms) ρ σ1 fun vs σ2 => Q (v :: vs) σ2) := propext (wA_args_cons)
theorem wA_call {F ms ρ σ Q} : wA (aCall F ms) ρ σ Q ↔ wA (aArgs ms) ρ σ fun vs σ1 => wF F vs σ1 Q := by
  unfold aCall; rw [wA_bind]; rfl
theorem wA_call_e {F ms ρ σ Q} : (wA (aCall F ms) ρ σ Q) = (wA (aArgs ms) ρ σ fun vs σ1 => wF F vs σ1 Q) := propext (wA_call)
theorem wA_list {ms ρ σ Q} : wA (aList ms) ρ σ Q ↔ wA (aArgs ms) ρ σ fun vs σ1 => vs.length ≤ 1000000 ∧ Q (.ref σ1.length) (σ1 ++ [.list vs]) := by
  unfold aList; rw [wA_bind]
  constructor <;> intro h <;> refine h.mono fun vs σ1 h => ?_
  · obtain ⟨v, s, e, q⟩ := h
    split at e
    · cases e; exact ⟨by assumption, q⟩
    · cases e
  · exact ⟨_, _, by simp [h.1], h.2⟩
theorem wA_list_e {ms ρ σ Q} : (wA (aList ms) ρ σ Q) = (wA (aArgs ms) ρ σ fun vs σ1 => vs.length ≤ 1000000 ∧ Q (.ref σ1.length) (σ1 ++ [.list vs])) := propext (wA_list)
theorem wA_tup {ms ρ σ Q} : wA (aTup ms) ρ σ Q ↔ wA (aArgs ms) ρ σ fun vs σ1 => vs.length ≤ 1000000 ∧ Q (.tup vs) σ1 := by
  unfold aTup; rw [wA_bind]
  constructor <;> intro h <;> refine h.mono fun vs σ1 h => ?_
  · obtain ⟨v, s, e, q⟩ := h
    split at e
    · cases e; exact ⟨by assumption, q⟩
    · cases e
  · exact ⟨_, _, by simp [h.1], h.2⟩
theorem wA_tup_e {ms ρ σ Q} : (wA (aTup ms) ρ σ Q) = (wA (aArgs ms) ρ σ fun vs σ1 => vs.length ≤ 1000000 ∧ Q (.tup vs) σ1) := propext (wA_tup)
theorem wA_sub {a b ρ σ Q} : wA (aSub a b) ρ σ Q ↔ wA a ρ σ fun x σ1 => wA b ρ σ1 fun y σ2 => w2 getI x y σ2 Q := wA_bin
theorem wA_sub_e {a b ρ σ Q} : (wA (aSub a b) ρ σ Q) = (wA a ρ σ fun x σ1 => wA b ρ σ1 fun y σ2 => w2 getI x y σ2 Q) := propext (wA_sub)
theorem wA_isi {T m ρ σ Q} : wA (aIsi T m) ρ σ Q ↔ wA m ρ σ fun v σ1 => ∃ b, isi T v σ1 = some b ∧ Q (.bool b) σ1 := by
  unfold aIsi; rw [wA_bind]
  simp only [wA, Option.map_eq_some_iff]
  constructor
  · rintro ⟨v, s1, e1, u, s2, ⟨b, e2, e3⟩, q⟩; cases e3; exact ⟨v, _, e1, _, e2, q⟩
  · rintro ⟨v, s1, e1, b, e2, q⟩; exact ⟨v, s1, e1, _, _, ⟨b, e2, rfl⟩, q⟩
theorem wA_isi_e {T m ρ σ Q} : (wA (aIsi T m) ρ σ Q) = (wA m ρ σ fun v σ1 => ∃ b, isi T v σ1 = some b ∧ Q (.bool b) σ1) := propext (wA_isi)
theorem wA_upto {a b ρ σ Q} : wA (aUpto a b) ρ σ Q ↔ wA a ρ σ fun x σ1 => wA b ρ σ1 fun y σ2 => ∃ i k vs, x = .ref i ∧ y = .int k ∧ 0 ≤ k ∧ σ2[i]? = some (.list vs) ∧ Q (.ref σ2.length) (σ2 ++ [.list (vs.take k.toNat)]) := by
  unfold aUpto
  rw [wA_bin]
  constructor <;> intro h <;> refine h.mono fun x σ1 h => h.mono fun y σ2 h => ?_
  · obtain ⟨v, s, e, q⟩ := h
    dsimp only at e
    split at e
    · split at e
      · split at e
        · cases e; exact ⟨_, _, _, rfl, rfl, by assumption, by assumption, q⟩
        · cases e
      · cases e
    · cases e
  · obtain ⟨i, k, vs, rfl, rfl, h0, e, q⟩ := h
    exact ⟨_, _, by simp [e, h0], q⟩
theorem wA_upto_e {a b ρ σ Q} : (wA (aUpto a b) ρ σ Q) = (wA a ρ σ fun x σ1 => wA b ρ σ1 fun y σ2 => ∃ i k vs, x = .ref i ∧ y = .int k ∧ 0 ≤ k ∧ σ2[i]? = some (.list vs) ∧ Q (.ref σ2.length) (σ2 ++ [.list (vs.take k.toNat)])) := propext (wA_upto)
theorem wA_comp {x src t m ρ σ Q} : wA (aComp x src t m) ρ σ Q ↔ wA src ρ σ fun v σ1 => ∃ vs us, itemsOf v σ1 = some vs ∧ compItems x t m ρ σ1 vs = some us ∧ Q (.ref σ1.length) (σ1 ++ [.list us]) := by
  unfold aComp; rw [wA_bind]
  constructor <;> intro h <;> refine h.mono fun v σ1 h => ?_
  · obtain ⟨u, s, e, q⟩ := h
    obtain ⟨vs, e1, e⟩ := bind_some' e
    obtain ⟨us, e2, e⟩ := bind_some' e
    cases e; exact ⟨vs, us, e1, e2, q⟩
  · obtain ⟨vs, us, e1, e2, q⟩ := h
    exact ⟨_, _, by simp [e1, e2], q⟩
theorem wS_nil {ρ σ Q} : wS sNil ρ σ Q ↔ Q .next ρ σ := by
  constructor
  · rintro ⟨f, ρ', σ', e, q⟩; cases e; exact q
  · intro q; exact ⟨_, _, _, rfl, q⟩
theorem wS_nil_e {ρ σ Q} : (wS sNil ρ σ Q) = (Q .next ρ σ) := propext (wS_nil)
noncomputable def thenS (b : AS) (Q : AF → AEnv → Store → Prop) : AF → AEnv → Store → Prop
  | .next, ρ, σ => wS b ρ σ Q
  | .ret v, ρ, σ => Q (.ret v) ρ σ
theorem wS_seq {a b ρ σ Q} : wS (sSeq a b) ρ σ Q ↔ wS a ρ σ (thenS b Q) := by
  constructor
  · rintro ⟨f, ρ', σ', e, q⟩
    obtain ⟨⟨f1, ρ1, σ1⟩, e1, e2⟩ := bind_some' e
    refine ⟨f1, ρ1, σ1, e1, ?_⟩
    cases f1 with
    | next => exact ⟨f, ρ', σ', e2, q⟩
    | ret v => cases e2; exact q
  · rintro ⟨f1, ρ1, σ1, e1, q⟩
    cases f1 with
    | next => obtain ⟨f, ρ', σ', e2, q⟩ := q; exact ⟨f, ρ', σ', by simp [sSeq, e1, e2], q⟩
    | ret v => exact ⟨_, _, _, by simp [sSeq, e1], q⟩
theorem wS_seq_e {a b ρ σ Q} : (wS (sSeq a b) ρ σ Q) = (wS a ρ σ (thenS b Q)) := propext (wS_seq)
theorem wS_assign {x m ρ σ Q} : wS (sAssign x m) ρ σ Q ↔ wA m ρ σ fun v σ1 => Q .next (upd ρ x v) σ1 := by
  constructor
  · rintro ⟨f, ρ', σ', e, q⟩
    obtain ⟨⟨v, σ1⟩, e1, e2⟩ := bind_some' e
    cases e2; exact ⟨v, _, e1, q⟩
  · rintro ⟨v, σ1, e, q⟩
    exact ⟨_, _, _, by simp [sAssign, e], q⟩
theorem wS_assign_e {x m ρ σ Q} : (wS (sAssign x m) ρ σ Q) = (wA m ρ σ fun v σ1 => Q .next (upd ρ x v) σ1) := propext (wS_assign)
theorem wS_ret {m ρ σ Q} : wS (sRet m) ρ σ Q ↔ wA m ρ σ fun v σ1 => Q (.ret v) ρ σ1 := by
  constructor
  · rintro ⟨f, ρ', σ', e, q⟩
    obtain ⟨⟨v, σ1⟩, e1, e2⟩ := bind_some' e
    cases e2; exact ⟨v, _, e1, q⟩
  · rintro ⟨v, σ1, e, q⟩
    exact ⟨_, _, _, by simp [sRet, e], q⟩
theorem wS_ret_e {m ρ σ Q} : (wS (sRet m) ρ σ Q) = (wA m ρ σ fun v σ1 => Q (.ret v) ρ σ1) := propext (wS_ret)
theorem wS_if {t a b ρ σ Q} : wS (sIf t a b) ρ σ Q ↔ wA t ρ σ fun v σ1 => if v then wS a ρ σ1 Q else wS b ρ σ1 Q := by
  constructor
  · rintro ⟨f, ρ', σ', e, q⟩
    obtain ⟨⟨v, σ1⟩, e1, e2⟩ := bind_some' e
    refine ⟨v, σ1, e1, ?_⟩
    cases v with
    | true => exact ⟨f, ρ', σ', e2, q⟩
    | false => exact ⟨f, ρ', σ', e2, q⟩
  · rintro ⟨v, σ1, e, q⟩
    cases v with
    | true => obtain ⟨f, ρ', σ', e2, q⟩ := q; exact ⟨_, _, _, by simp only [sIf, e, Option.bind_some, if_true, e2], q⟩
    | false => obtain ⟨f, ρ', σ', e2, q⟩ := q; exact ⟨_, _, _, by simp only [sIf, e, Option.bind_some, Bool.false_eq_true, if_false, e2], q⟩
theorem wS_if_e {t a b ρ σ Q} : (wS (sIf t a b) ρ σ Q) = (wA t ρ σ fun v σ1 => if v then wS a ρ σ1 Q else wS b ρ σ1 Q) := propext (wS_if)
theorem forR_inv {x : Str} {b : AS} {Q : AF → AEnv → Store → Prop} (I : List AV → AEnv → Store → Prop) : ∀ (vs : List AV),
    (∀ v rest ρ σ, I (v :: rest) ρ σ → wS b (upd ρ x v) σ fun f ρ' σ' => match f with | .next => I rest ρ' σ' | .ret u => Q (.ret u) ρ' σ') → (∀ ρ σ, I [] ρ σ → Q .next ρ σ) →
    ∀ ρ σ, I vs ρ σ → wS (forR x b vs) ρ σ Q
  | [], _, hq, ρ, σ, h => ⟨_, _, _, rfl, hq _ _ h⟩
  | v :: rest, hs, hq, ρ, σ, h => by
    obtain ⟨f, ρ', σ', e, q⟩ := hs v rest ρ σ h
    cases f with
    | next =>
      obtain ⟨f2, ρ2, σ2, e2, q2⟩ := forR_inv I rest hs hq ρ' σ' q
      exact ⟨f2, ρ2, σ2, by simp [forR, e, e2], q2⟩
    | ret u => exact ⟨_, _, _, by simp [forR, e], q⟩
theorem forN_inv {x : Str} {b : AS} {Q : AF → AEnv → Store → Prop} (n : Nat) (I : Nat → AEnv → Store → Prop)
    (hs : ∀ j ρ σ, j < n → I j ρ σ → wS b (upd ρ x (.int j)) σ fun f ρ' σ' => match f with | .next => I (j + 1) ρ' σ' | .ret u => Q (.ret u) ρ' σ') (hq : ∀ ρ σ, I n ρ σ → Q .next ρ σ) (ρ σ) (h : I 0 ρ σ) :
    wS (forR x b (rngL 0 n)) ρ σ Q := by
  have e : rngL 0 n = (List.range n).map fun k : Nat => AV.int k := by simp [rngL]
  refine forR_inv (fun vs ρ σ => ∃ j, j ≤ n ∧ vs = ((List.range n).map fun k : Nat => AV.int k).drop j ∧ I j ρ σ) _ ?_ ?_ ρ σ ⟨0, Nat.zero_le _, by simpa using e, h⟩
  · rintro v rest ρ σ ⟨j, hj, e1, hI⟩
    by_cases hlt : j < n
    · rw [List.drop_eq_getElem_cons (by simpa using hlt)] at e1
      simp only [List.getElem_map, List.getElem_range, List.cons.injEq] at e1
      obtain ⟨rfl, rfl⟩ := e1
      refine (hs j ρ σ hlt hI).mono fun f ρ' σ' q => ?_
      cases f with
      | next => exact ⟨j + 1, hlt, rfl, q⟩
      | ret u => exact q
    · rw [List.drop_of_length_le (by simp; omega)] at e1; cases e1
  · rintro ρ σ ⟨j, hj, e1, hI⟩
    by_cases hlt : j < n
    · rw [List.drop_eq_getElem_cons (by simpa using hlt)] at e1; cases e1
    · have : j = n := by omega
      subst this; exact hq _ _ hI
theorem wS_for {x src b ρ σ Q} : wS (sFor x src b) ρ σ Q ↔ wA src ρ σ fun v σ1 => wS (fun ρ σ => match v with
  | .rng lo hi => if rangeOk lo hi then forR x b (rngL lo hi) ρ σ else none
  | .ref i => (match σ[i]? with
    | some (.list vs) => forL i vs x b vs ρ σ
    | _ => none)
  | _ => none) ρ σ1 Q := by
  constructor
  · rintro ⟨f, ρ', σ', e, q⟩
    obtain ⟨⟨v, σ1⟩, e1, e2⟩ := bind_some' e
    exact ⟨v, σ1, e1, f, ρ', σ', e2, q⟩
  · rintro ⟨v, σ1, e, f, ρ', σ', e2, q⟩
    refine ⟨f, ρ', σ', ?_, q⟩
    simp only [sFor, e, Option.bind_some]
    exact e2
theorem wS_range {x b ρ σ Q} {lo hi : Int} (h : rangeOk lo hi) (q : wS (forR x b (rngL lo hi)) ρ σ Q) : wS (fun ρ σ => match AV.rng lo hi with
  | .rng lo hi => if rangeOk lo hi then forR x b (rngL lo hi) ρ σ else none
  | .ref i => (match σ[i]? with
    | some (.list vs) => forL i vs x b vs ρ σ
    | _ => none)
  | _ => none) ρ σ Q := by
  obtain ⟨f, ρ', σ', e, q⟩ := q
  exact ⟨f, ρ', σ', by dsimp only; rw [if_pos h]; exact e, q⟩
theorem wS_forN {x src b ρ σ Q} (n : Nat) (hn : n < 1000000) (I : Nat → AEnv → Store → Prop) (hsrc : wA src ρ σ fun v σ1 => v = .rng 0 n ∧ I 0 ρ σ1)
    (hs : ∀ j ρ σ, j < n → I j ρ σ → wS b (upd ρ x (.int j)) σ fun f ρ' σ' => match f with | .next => I (j + 1) ρ' σ' | .ret u => Q (.ret u) ρ' σ') (hq : ∀ ρ σ, I n ρ σ → Q .next ρ σ) : wS (sFor x src b) ρ σ Q := by
  rw [wS_for]
  refine hsrc.mono fun v σ1 h => ?_
  obtain ⟨rfl, h⟩ := h
  exact wS_range (by unfold rangeOk; omega) (forN_inv n I hs hq _ _ h)
theorem wS_while {t : AM Bool} {b : AS} {Q : AF → AEnv → Store → Prop} (I : Nat → AEnv → Store → Prop)
    (hs : ∀ n ρ σ, I n ρ σ → wA t ρ σ fun v σ1 => if v then ∃ n', n = n' + 1 ∧ wS b ρ σ1 (fun f ρ' σ' => match f with | .next => I n' ρ' σ' | .ret u => Q (.ret u) ρ' σ') else Q .next ρ σ1) (n : Nat) (hn : n < 1000) (ρ σ) (h : I n ρ σ) :
    wS (sWhile t b) ρ σ Q := by
  have key : ∀ k n ρ σ, n < k → I n ρ σ → wS (whileN t b k) ρ σ Q := by
    intro k
    induction k with
    | zero => intro n _ _ hlt; omega
    | succ k ih =>
      intro n ρ σ hlt h
      obtain ⟨v, σ1, e, q⟩ := hs n ρ σ h
      cases v with
      | false => exact ⟨_, _, _, by simp only [whileN, e, Option.bind_some, Bool.false_eq_true, if_false], q⟩
      | true =>
        simp only [if_true] at q
        obtain ⟨n', rfl, f, ρ', σ', e2, q⟩ := q
        cases f with
        | next =>
          obtain ⟨f3, ρ3, σ3, e3, q3⟩ := ih n' ρ' σ' (by omega) q
          exact ⟨f3, ρ3, σ3, by simp only [whileN, e, Option.bind_some, if_true, e2, e3], q3⟩
        | ret u => exact ⟨_, _, _, by simp only [whileN, e, Option.bind_some, if_true, e2], q⟩
  exact key 1000 n ρ σ hn h
theorem wF_fn {X : FnX} {ps : List Str} {m : Nat → AS} {args : List AV} {σ : Store} {Q : AV → Store → Prop} (hl : args.length = ps.length)
    (h : wS (m σ.length) (bindE (ps.zip args) emp) σ fun f _ σ' => (∃ τ, σ' = σ ++ τ) ∧ ∃ v s, X σ (match f with | .ret v => v | .next => .none) σ' = some (v, s) ∧ Q v s) : wF (aFnX X ps m) args σ Q := by
  obtain ⟨f, ρ', σ', e, ⟨τ, rfl⟩, v, s, e2, q⟩ := h
  refine ⟨v, s, (if_pos hl).trans ?_, q⟩
  rw [e]
  exact (if_pos List.take_left).trans e2
theorem wF_eq {F : FnM} {vs σ Q v σ'} (h : F vs σ = some (v, σ')) : wF F vs σ Q ↔ Q v σ' := by
  constructor
  · rintro ⟨v, σ', e, q⟩; rw [h] at e; cases e; exact q
  · intro q; exact ⟨_, _, h, q⟩
theorem exp_int {σ i σ'} : exportV σ (.int i) σ' = some (.int i, σ) := by simp [exportV, AV.closed]
theorem exp_bool {σ i σ'} : exportV σ (.bool i) σ' = some (.bool i, σ) := by simp [exportV, AV.closed]
theorem exp_none {σ σ'} : exportV σ .none σ' = some (.none, σ) := by simp [exportV, AV.closed]
theorem closedL_ints (n : Nat) (ns : List Int) : closedL n (ns.map .int) = true := by
  induction ns with
  | nil => rfl
  | cons a r ih => simp [closedL, AV.closed, ih]
theorem exp_new {σ σ' : Store} {i : Nat} {o : AO} (hi : σ.length ≤ i) (e : σ'[i]? = some o) (hc : o.closed σ.length = true) : exportV σ (.ref i) σ' = some (.ref σ.length, σ ++ [o]) := by
  have : ¬ i < σ.length := by omega
  simp [exportV, AV.closed, this, e, hc]
theorem app_get {σ τ : Store} {i : Nat} {o : AO} (e : σ[i]? = some o) : (σ ++ τ)[i]? = some o := by
  have := (List.getElem?_eq_some_iff.mp e).1
  rw [List.getElem?_append_left this, e]
theorem new_get {σ : Store} {o : AO} : (σ ++ [o])[σ.length]? = some o := by simp
theorem intsOf_map (ns : List Int) : intsOf (ns.map .int) = some ns := by
  induction ns with
  | nil => rfl
  | cons a r ih => simp [intsOf, ih]
theorem str_ne {a b : String} (h : (a == b) = false) : ¬ (Str.ofString a = Str.ofString b) := by
  intro e
  have e' : a.toList.map Char.toNat = b.toList.map Char.toNat := by
    rw [Str.ofString_eq_toList, Str.ofString_eq_toList] at e
    simpa using e
  have hinj : a.toList = b.toList := by
    have key : ∀ l1 l2 : List Char, l1.map Char.toNat = l2.map Char.toNat → l1 = l2 := by
      intro l1
      induction l1 with
      | nil => intro l2 h; cases l2 with | nil => rfl | cons _ _ => simp at h
      | cons x xs ih =>
        intro l2 h
        cases l2 with
        | nil => simp at h
        | cons y ys =>
          simp only [List.map_cons, List.cons.injEq] at h
          rw [ih _ h.2, Char.toNat_inj.mp h.1]
    exact key _ _ e'
  have : a = b := String.toList_inj.mp hinj
  subst this
  simp at h
theorem str_eq_iff {a b : String} : (Str.ofString a = Str.ofString b) ↔ a = b := by
  constructor
  · intro e
    by_cases h : a = b
    · exact h
    · exact absurd e (str_ne (by simpa using h))
  · rintro rfl; rfl
theorem upd_ne {ρ : AEnv} {x y : String} {v : AV} (h : (y == x) = false) : upd ρ (Str.ofString x) v (Str.ofString y) = ρ (Str.ofString y) := by
  unfold upd
  rw [if_neg]
  intro e
  have := str_eq_iff.mp e
  subst this
  simp at h
theorem str_eq_iff_e {a b : String} : ((Str.ofString a = Str.ofString b)) = (a = b) := propext (str_eq_iff)
end Inn
end
section
set_option maxRecDepth 10000
set_option linter.unusedVariables false
namespace Inn
open PySem PySem.W PyProof.Rows
variable {prog : Program} {w : World}
theorem well_ints {P : Params} {h : Heap} {α : Nat → Addr} {n : Nat} : ∀ (ns : List Int) (vs : List Value), WellAll P h vs (ofPys (ns.map PyData.int)) → VRs h α n (ns.map .int) vs
  | [], vs, hw => by
    have hw' : WellAll P h vs [] := hw
    cases hw'; exact .nil
  | a :: ns, vs, hw => by
    have hw' : WellAll P h vs (.int a :: ofPys (ns.map PyData.int)) := hw
    cases hw' with
    | cons x y =>
      cases x
      exact .cons (.int _ _) (well_ints ns _ y)
theorem law_end {K : Frag} {k : Nat} {f : Addr} {F : FnM} {s₁ : Shared} {l : Addr} {ns : List Int} {c : ClaimW} {cl : Str → Option Addr} {mean : ExcName → Option Value} {args : List WData}
    (hF : FnOk prog w (Gr K) k f F) (hk : k ≤ 20) (g : Gr K s₁.heap) (hW : Well w.params s₁.heap (.ref l) (ofPy (PyData.list (ns.map PyData.int)))) (hl : ns.length ≤ 63) (hg : s₁.gens = #[])
    (hlaw : ∀ σ i, σ[i]? = some (AO.list (ns.map .int)) → F [.ref i] σ = some (.bool true, σ))
    (hr : ∀ cls, c.raises args cls = false) (hp : c.post args (.bool true) args = true) (hu : c.unshared = true → True) :
    wpAny (model prog w) callerA (PySem.call (.ref f) [.ref l]) (fun v s' => GoodWG c cl mean args s₁ (.ok (.ret v)) s') (fun e s' => GoodWG c cl mean args s₁ (.error e) s') s₁ := by
  have hW' : Well w.params s₁.heap (.ref l) (.list (ofPys (ns.map PyData.int))) := hW
  cases hW' with
  | @list _ vs _ ho hall =>
  have hv := well_ints (α := fun _ => l) (n := 1) ns vs hall
  have hlen := hv.length
  rw [List.length_map] at hlen
  refine hF callerA s₁ [.ref 0] [.ref l] [.list (ns.map .int)] (fun _ => l) (.bool true) [.list (ns.map .int)] _ _ ?_ g ?_ ?_ (hlaw _ 0 rfl) ?_
  · refine Lvl.mono ⟨rfl, ?_, ?_⟩ hk
    · decide +kernel
    · decide +kernel
  · refine ⟨fun i o e => ?_, fun i j hi hj _ => ?_⟩
    · cases i with
      | zero => simp at e; subst e; exact .list ho hv (by omega)
      | succ i => simp at e
    · simp at hi hj; omega
  · exact .cons (.ref (by simp)) .nil
  · intro x α' h' tk' gr hx
    cases hx
    exact ⟨.inl ⟨_, _, _, rfl, hr, .bool true, hp, fun _ => ⟨List.nodup_nil, fun a ha => by cases ha⟩⟩, .of_keep gr.keep, rfl, .of_eq hg⟩
end Inn
end
set_option maxRecDepth 100000
set_option maxHeartbeats 8000000
open_top hd4 for PySem.Challenge.rw_uf040026_04
section
open PySem PySem.W PyProof.Rows
namespace Inn
section
variable {P : Params}
theorem gl_all : Gl (Gr (hd4.heap_39 P)) "all" (.builtin "all") := gl_bi (by k_is) rfl (by boot_by_name)
theorem gl_bool : Gl (Gr (hd4.heap_39 P)) "bool" (.type "bool") := gl_bi (by k_is) rfl (by boot_by_name)
theorem gl_dict : Gl (Gr (hd4.heap_39 P)) "dict" (.type "dict") := gl_bi (by k_is) rfl (by boot_by_name)
theorem gl_int : Gl (Gr (hd4.heap_39 P)) "int" (.type "int") := gl_bi (by k_is) rfl (by boot_by_name)
theorem gl_isinstance : Gl (Gr (hd4.heap_39 P)) "isinstance" (.builtin "isinstance") := gl_bi (by k_is) rfl (by boot_by_name)
theorem gl_len : Gl (Gr (hd4.heap_39 P)) "len" (.builtin "len") := gl_bi (by k_is) rfl (by boot_by_name)
theorem gl_list : Gl (Gr (hd4.heap_39 P)) "list" (.type "list") := gl_bi (by k_is) rfl (by boot_by_name)
theorem gl_min : Gl (Gr (hd4.heap_39 P)) "min" (.builtin "min") := gl_bi (by k_is) rfl (by boot_by_name)
theorem gl_range : Gl (Gr (hd4.heap_39 P)) "range" (.type "range") := gl_bi (by k_is) rfl (by boot_by_name)
theorem gl_sorted : Gl (Gr (hd4.heap_39 P)) "sorted" (.builtin "sorted") := gl_bi (by k_is) rfl (by boot_by_name)
theorem gl_sum : Gl (Gr (hd4.heap_39 P)) "sum" (.builtin "sum") := gl_bi (by k_is) rfl (by boot_by_name)
theorem gl_tuple : Gl (Gr (hd4.heap_39 P)) "tuple" (.type "tuple") := gl_bi (by k_is) rfl (by boot_by_name)
theorem gl_MOST_NIGHTS : ∃ t, Gl (Gr (hd4.heap_39 P)) "MOST_NIGHTS" (.int 40 t) := ⟨_, gl_def (by k_is)⟩
theorem gl_kind_of : Gl (Gr (hd4.heap_39 P)) "kind_of" (.ref 21) := gl_def (by k_is)
theorem gl_rooms_of : Gl (Gr (hd4.heap_39 P)) "rooms_of" (.ref 28) := gl_def (by k_is)
theorem gl_has_night : Gl (Gr (hd4.heap_39 P)) "has_night" (.ref 35) := gl_def (by k_is)
theorem gl_wants_on : Gl (Gr (hd4.heap_39 P)) "wants_on" (.ref 42) := gl_def (by k_is)
theorem gl_rooms_on : Gl (Gr (hd4.heap_39 P)) "rooms_on" (.ref 47) := gl_def (by k_is)
theorem gl_spare_of : Gl (Gr (hd4.heap_39 P)) "spare_of" (.ref 52) := gl_def (by k_is)
theorem gl_short_kind : Gl (Gr (hd4.heap_39 P)) "short_kind" (.ref 59) := gl_def (by k_is)
theorem gl_short_night : Gl (Gr (hd4.heap_39 P)) "short_night" (.ref 66) := gl_def (by k_is)
theorem gl_law_cell : Gl (Gr (hd4.heap_39 P)) "_law_cell" (.ref 73) := gl_def (by k_is)
theorem gl_law_whole : Gl (Gr (hd4.heap_39 P)) "_law_whole" (.ref 80) := gl_def (by k_is)
theorem gl_law_wholes : Gl (Gr (hd4.heap_39 P)) "_law_wholes" (.ref 85) := gl_def (by k_is)
theorem gl_law_house_by : Gl (Gr (hd4.heap_39 P)) "_law_house_by" (.ref 90) := gl_def (by k_is)
theorem gl_law_kinds : Gl (Gr (hd4.heap_39 P)) "_law_kinds" (.ref 97) := gl_def (by k_is)
theorem gl_law_at_least : Gl (Gr (hd4.heap_39 P)) "_law_at_least" (.ref 102) := gl_def (by k_is)
theorem gl_law_short : Gl (Gr (hd4.heap_39 P)) "_law_short" (.ref 107) := gl_def (by k_is)
theorem gl_law_span_by : Gl (Gr (hd4.heap_39 P)) "_law_span_by" (.ref 114) := gl_def (by k_is)
theorem gl_law_spans_by : Gl (Gr (hd4.heap_39 P)) "_law_spans_by" (.ref 121) := gl_def (by k_is)
theorem gl_law_wants : Gl (Gr (hd4.heap_39 P)) "_law_wants" (.ref 126) := gl_def (by k_is)
theorem gl_law_open : Gl (Gr (hd4.heap_39 P)) "_law_open" (.ref 131) := gl_def (by k_is)
theorem gl_law_due : Gl (Gr (hd4.heap_39 P)) "_law_due" (.ref 138) := gl_def (by k_is)
theorem gl_law_right : Gl (Gr (hd4.heap_39 P)) "_law_right" (.ref 145) := gl_def (by k_is)
end
noncomputable def sp_kind_of : FnM := aFnX exportV ["counts", "room"] (fun n₀ => (sSeq (sAssign "kind" (aInt 0)) (sSeq (sWhile (bCmp cGe (aName "room") (aSub (aName "counts") (aName "kind"))) (sSeq (sAssign "room" (aBin opSub (aName "room") (aSub (aName "counts") (aName "kind")))) (sSeq (sAssign "kind" (aBin opAdd (aName "kind") (aInt 1))) sNil))) (sSeq (sRet (aName "kind")) sNil))))
theorem cl_kind_of {P : Params} : Callee (Gr (hd4.heap_39 P)) (.ref 21) := callee_fn (by k_is)
theorem ok_kind_of {prog : Program} {w : World} {P : Params} : FnOk prog w (Gr (hd4.heap_39 P)) 1 21 sp_kind_of := by
  refine fn_def exp_V (K := hd4.heap_39 P) (f := 21) (k := 0) (ps := ["counts", "room"]) (ho := by k_is) (hcd := by k_is) (bind2 fun _ _ => rfl) rfl rfl rfl rfl rfl ?_
  intro A L h₀ n₀ cx
  exact (simS_cons (simS_Assign cx.ok (storable cx rfl rfl) rfl sim_int) (simS_cons (simS_While (simB_Cmp1 cmp_ge rfl (sim_name cx rfl rfl) (sim_Sub (fun _ _ => rfl) (sim_name cx rfl rfl) (sim_name cx rfl rfl))) (simS_cons (simS_Assign cx.ok (storable cx rfl rfl) rfl (sim_BinOp op_sub (sim_name cx rfl rfl) (sim_Sub (fun _ _ => rfl) (sim_name cx rfl rfl) (sim_name cx rfl rfl)))) (simS_cons (simS_Assign cx.ok (storable cx rfl rfl) rfl (sim_BinOp op_add (sim_name cx rfl rfl) sim_int)) simS_nil))) (simS_cons (simS_Return (sim_name cx rfl rfl)) simS_nil)))
noncomputable def sp_rooms_of : FnM := aFnX exportV ["counts", "kind"] (fun n₀ => (sSeq (sAssign "first" (aCall bSum [(aUpto (aName "counts") (aName "kind"))])) (sSeq (sRet (aCall bList [(aCall bRange [(aName "first"), (aBin opAdd (aName "first") (aSub (aName "counts") (aName "kind")))])])) sNil)))
theorem cl_rooms_of {P : Params} : Callee (Gr (hd4.heap_39 P)) (.ref 28) := callee_fn (by k_is)
theorem ok_rooms_of {prog : Program} {w : World} {P : Params} : FnOk prog w (Gr (hd4.heap_39 P)) 1 28 sp_rooms_of := by
  refine fn_def exp_V (K := hd4.heap_39 P) (f := 28) (k := 0) (ps := ["counts", "kind"]) (ho := by k_is) (hcd := by k_is) (bind2 fun _ _ => rfl) rfl rfl rfl rfl rfl ?_
  intro A L h₀ n₀ cx
  exact (simS_cons (simS_Assign cx.ok (storable cx rfl rfl) rfl (sim_call cx rfl rfl gl_sum (.builtin _) (op_sum cx.lv) (simA_cons (sim_upto (sim_name cx rfl rfl) (sim_name cx rfl rfl) (fun _ _ => rfl)) simA_nil))) (simS_cons (simS_Return (sim_call cx rfl rfl gl_list (.type _) (op_list cx.lv) (simA_cons (sim_call cx rfl rfl gl_range (.type _) op_range (simA_cons (sim_name cx rfl rfl) (simA_cons (sim_BinOp op_add (sim_name cx rfl rfl) (sim_Sub (fun _ _ => rfl) (sim_name cx rfl rfl) (sim_name cx rfl rfl))) simA_nil))) simA_nil))) simS_nil))
noncomputable def sp_has_night : FnM := aFnX exportV ["span", "night"] (fun n₀ => (sSeq (sRet (aCmp2 cLe cLt (aSub (aName "span") (aInt 0)) (aName "night") (aSub (aName "span") (aInt 1)))) sNil))
theorem cl_has_night {P : Params} : Callee (Gr (hd4.heap_39 P)) (.ref 35) := callee_fn (by k_is)
theorem ok_has_night {prog : Program} {w : World} {P : Params} : FnOk prog w (Gr (hd4.heap_39 P)) 1 35 sp_has_night := by
  refine fn_def exp_V (K := hd4.heap_39 P) (f := 35) (k := 0) (ps := ["span", "night"]) (ho := by k_is) (hcd := by k_is) (bind2 fun _ _ => rfl) rfl rfl rfl rfl rfl ?_
  intro A L h₀ n₀ cx
  exact (simS_cons (simS_Return (sim_Cmp2 cmp_le cmp_lt rfl rfl (sim_Sub (fun _ _ => rfl) (sim_name cx rfl rfl) sim_int) (sim_name cx rfl rfl) (sim_Sub (fun _ _ => rfl) (sim_name cx rfl rfl) sim_int))) simS_nil)
noncomputable def sp_wants_on : FnM := aFnX exportV ["stays", "night"] (fun n₀ => (sSeq (sAssign "found" aDict0) (sSeq (sFor "number" (aCall bSorted [(aName "stays")]) (sSeq (sIf (bVal (aCall sp_has_night [(aSub (aName "stays") (aName "number")), (aName "night")])) (sSeq (sSetItem n₀ "found" (aName "number") (aSub (aSub (aName "stays") (aName "number")) (aInt 2))) sNil) sNil) sNil)) (sSeq (sRet (aName "found")) sNil))))
theorem cl_wants_on {P : Params} : Callee (Gr (hd4.heap_39 P)) (.ref 42) := callee_fn (by k_is)
theorem ok_wants_on {prog : Program} {w : World} {P : Params} : FnOk prog w (Gr (hd4.heap_39 P)) 2 42 sp_wants_on := by
  refine fn_def exp_V (K := hd4.heap_39 P) (f := 42) (k := 1) (ps := ["stays", "night"]) (ho := by k_is) (hcd := by k_is) (bind2 fun _ _ => rfl) rfl rfl rfl rfl rfl ?_
  intro A L h₀ n₀ cx
  exact (simS_cons (simS_Assign cx.ok (storable cx rfl rfl) rfl (sim_Dict0 cx gr_low)) (simS_cons (simS_For cx.ok (storable cx rfl rfl) (fun _ => rfl) (sim_call cx rfl rfl gl_sorted (.builtin _) (op_sorted cx.lv) (simA_cons (sim_name cx rfl rfl) simA_nil)) (simS_cons (simS_If (simB_val (fun _ => rfl) (sim_call cx rfl rfl gl_has_night cl_has_night (op_fn_le cx ok_has_night (by decide)) (simA_cons (sim_Sub (fun _ _ => rfl) (sim_name cx rfl rfl) (sim_name cx rfl rfl)) (simA_cons (sim_name cx rfl rfl) simA_nil)))) (simS_cons (simS_setItem cx rfl rfl rfl (sim_name cx rfl rfl) (sim_Sub (fun _ _ => rfl) (sim_Sub (fun _ _ => rfl) (sim_name cx rfl rfl) (sim_name cx rfl rfl)) sim_int)) simS_nil) simS_nil) simS_nil)) (simS_cons (simS_Return (sim_name cx rfl rfl)) simS_nil)))
noncomputable def sp_rooms_on : FnM := aFnX exportV ["counts", "closings", "night"] (fun n₀ => (sSeq (sAssignC "shut" "number" (aName "closings") (bAnd [(bVal (aCall sp_has_night [(aSub (aName "closings") (aName "number")), (aName "night")]))]) (aSub (aSub (aName "closings") (aName "number")) (aInt 2))) (sSeq (sAssign "found" (aList [])) (sSeq (sFor "kind" (aCall bRange [(aCall bLen [(aName "counts")])]) (sSeq (sIf (bCmp cNotIn (aName "kind") (aName "shut")) (sSeq (sAssign "found" (aBin opAdd (aName "found") (aCall sp_rooms_of [(aName "counts"), (aName "kind")]))) sNil) sNil) sNil)) (sSeq (sRet (aName "found")) sNil)))))
theorem cl_rooms_on {P : Params} : Callee (Gr (hd4.heap_39 P)) (.ref 47) := callee_fn (by k_is)
theorem ok_rooms_on {prog : Program} {w : World} {P : Params} : FnOk prog w (Gr (hd4.heap_39 P)) 2 47 sp_rooms_on := by
  refine fn_def exp_V (K := hd4.heap_39 P) (f := 47) (k := 1) (ps := ["counts", "closings", "night"]) (ho := by k_is) (hcd := by k_is) (bind3 fun _ _ _ => rfl) rfl rfl rfl rfl rfl ?_
  intro A L h₀ n₀ cx
  exact (simS_cons (simS_AssignComp cx (storable cx rfl rfl) (compOk_of rfl rfl) (fun _ => rfl) rfl (sim_name cx rfl rfl) (fun _ _ cx => (simT_one (simB_val (fun _ => rfl) (sim_call cx rfl rfl gl_has_night cl_has_night (op_fn_le cx ok_has_night (by decide)) (simA_cons (sim_Sub (fun _ _ => rfl) (sim_name cx rfl rfl) (sim_name cx rfl rfl)) (simA_cons (sim_name cx rfl rfl) simA_nil)))))) (fun _ _ cx => (sim_Sub (fun _ _ => rfl) (sim_Sub (fun _ _ => rfl) (sim_name cx rfl rfl) (sim_name cx rfl rfl)) sim_int))) (simS_cons (simS_Assign cx.ok (storable cx rfl rfl) rfl (sim_List simA_nil)) (simS_cons (simS_For cx.ok (storable cx rfl rfl) (fun _ => rfl) (sim_call cx rfl rfl gl_range (.type _) op_range (simA_cons (sim_call cx rfl rfl gl_len (.builtin _) op_len (simA_cons (sim_name cx rfl rfl) simA_nil)) simA_nil)) (simS_cons (simS_If (simB_Cmp1 (cmp_notIn cx.lv) rfl (sim_name cx rfl rfl) (sim_name cx rfl rfl)) (simS_cons (simS_Assign cx.ok (storable cx rfl rfl) rfl (sim_BinOp op_add (sim_name cx rfl rfl) (sim_call cx rfl rfl gl_rooms_of cl_rooms_of (op_fn_le cx ok_rooms_of (by decide)) (simA_cons (sim_name cx rfl rfl) (simA_cons (sim_name cx rfl rfl) simA_nil))))) simS_nil) simS_nil) simS_nil)) (simS_cons (simS_Return (sim_name cx rfl rfl)) simS_nil))))
noncomputable def sp_spare_of : FnM := aFnX exportV ["counts", "rooms", "wants", "kind"] (fun n₀ => (sSeq (sAssign "there" (aCall bLen [(aComp "room" (aName "rooms") (bAnd [(bCmp cGe (aCall sp_kind_of [(aName "counts"), (aName "room")]) (aName "kind"))]) (aName "room"))])) (sSeq (sRet (aBin opSub (aName "there") (aCall bLen [(aComp "number" (aName "wants") (bAnd [(bCmp cGe (aSub (aName "wants") (aName "number")) (aName "kind"))]) (aName "number"))]))) sNil)))
theorem cl_spare_of {P : Params} : Callee (Gr (hd4.heap_39 P)) (.ref 52) := callee_fn (by k_is)
theorem ok_spare_of {prog : Program} {w : World} {P : Params} : FnOk prog w (Gr (hd4.heap_39 P)) 2 52 sp_spare_of := by
  refine fn_def exp_V (K := hd4.heap_39 P) (f := 52) (k := 1) (ps := ["counts", "rooms", "wants", "kind"]) (ho := by k_is) (hcd := by k_is) (bind4 fun _ _ _ _ => rfl) rfl rfl rfl rfl rfl ?_
  intro A L h₀ n₀ cx
  exact (simS_cons (simS_Assign cx.ok (storable cx rfl rfl) rfl (sim_call cx rfl rfl gl_len (.builtin _) op_len (simA_cons (sim_ListComp cx (compOk_of rfl rfl) (fun _ => rfl) (sim_name cx rfl rfl) (fun _ _ cx => (simT_one (simB_Cmp1 cmp_ge rfl (sim_call cx rfl rfl gl_kind_of cl_kind_of (op_fn_le cx ok_kind_of (by decide)) (simA_cons (sim_name cx rfl rfl) (simA_cons (sim_name cx rfl rfl) simA_nil))) (sim_name cx rfl rfl)))) (fun _ _ cx => (sim_name cx rfl rfl))) simA_nil))) (simS_cons (simS_Return (sim_BinOp op_sub (sim_name cx rfl rfl) (sim_call cx rfl rfl gl_len (.builtin _) op_len (simA_cons (sim_ListComp cx (compOk_of rfl rfl) (fun _ => rfl) (sim_name cx rfl rfl) (fun _ _ cx => (simT_one (simB_Cmp1 cmp_ge rfl (sim_Sub (fun _ _ => rfl) (sim_name cx rfl rfl) (sim_name cx rfl rfl)) (sim_name cx rfl rfl)))) (fun _ _ cx => (sim_name cx rfl rfl))) simA_nil)))) simS_nil))
noncomputable def sp_short_kind : FnM := aFnX exportV ["counts", "rooms", "wants"] (fun n₀ => (sSeq (sFor "kind" (aCall bRange [(aCall bLen [(aName "counts")])]) (sSeq (sIf (bCmp cLt (aCall sp_spare_of [(aName "counts"), (aName "rooms"), (aName "wants"), (aName "kind")]) (aInt 0)) (sSeq (sRet (aName "kind")) sNil) sNil) sNil)) (sSeq (sRet aNone) sNil)))
theorem cl_short_kind {P : Params} : Callee (Gr (hd4.heap_39 P)) (.ref 59) := callee_fn (by k_is)
theorem ok_short_kind {prog : Program} {w : World} {P : Params} : FnOk prog w (Gr (hd4.heap_39 P)) 3 59 sp_short_kind := by
  refine fn_def exp_V (K := hd4.heap_39 P) (f := 59) (k := 2) (ps := ["counts", "rooms", "wants"]) (ho := by k_is) (hcd := by k_is) (bind3 fun _ _ _ => rfl) rfl rfl rfl rfl rfl ?_
  intro A L h₀ n₀ cx
  exact (simS_cons (simS_For cx.ok (storable cx rfl rfl) (fun _ => rfl) (sim_call cx rfl rfl gl_range (.type _) op_range (simA_cons (sim_call cx rfl rfl gl_len (.builtin _) op_len (simA_cons (sim_name cx rfl rfl) simA_nil)) simA_nil)) (simS_cons (simS_If (simB_Cmp1 cmp_lt rfl (sim_call cx rfl rfl gl_spare_of cl_spare_of (op_fn_le cx ok_spare_of (by decide)) (simA_cons (sim_name cx rfl rfl) (simA_cons (sim_name cx rfl rfl) (simA_cons (sim_name cx rfl rfl) (simA_cons (sim_name cx rfl rfl) simA_nil))))) sim_int) (simS_cons (simS_Return (sim_name cx rfl rfl)) simS_nil) simS_nil) simS_nil)) (simS_cons (simS_Return sim_none) simS_nil))
noncomputable def sp_short_night : FnM := aFnX exportV ["counts", "closings", "stays"] (fun n₀ => (sSeq (sFor "night" (aCall bRange [(aInt 40)]) (sSeq (sAssign "kind" (aCall sp_short_kind [(aName "counts"), (aCall sp_rooms_on [(aName "counts"), (aName "closings"), (aName "night")]), (aCall sp_wants_on [(aName "stays"), (aName "night")])])) (sSeq (sIf (bCmp cIsNot (aName "kind") aNone) (sSeq (sRet (aTup [(aName "night"), (aName "kind")])) sNil) sNil) sNil))) (sSeq (sRet aNone) sNil)))
theorem cl_short_night {P : Params} : Callee (Gr (hd4.heap_39 P)) (.ref 66) := callee_fn (by k_is)
theorem ok_short_night {prog : Program} {w : World} {P : Params} : FnOk prog w (Gr (hd4.heap_39 P)) 4 66 sp_short_night := by
  refine fn_def exp_V (K := hd4.heap_39 P) (f := 66) (k := 3) (ps := ["counts", "closings", "stays"]) (ho := by k_is) (hcd := by k_is) (bind3 fun _ _ _ => rfl) rfl rfl rfl rfl rfl ?_
  intro A L h₀ n₀ cx
  exact (simS_cons (simS_For cx.ok (storable cx rfl rfl) (fun _ => rfl) (sim_call cx rfl rfl gl_range (.type _) op_range (simA_cons (sim_glob cx rfl rfl gl_MOST_NIGHTS.choose_spec) simA_nil)) (simS_cons (simS_Assign cx.ok (storable cx rfl rfl) rfl (sim_call cx rfl rfl gl_short_kind cl_short_kind (op_fn_le cx ok_short_kind (by decide)) (simA_cons (sim_name cx rfl rfl) (simA_cons (sim_call cx rfl rfl gl_rooms_on cl_rooms_on (op_fn_le cx ok_rooms_on (by decide)) (simA_cons (sim_name cx rfl rfl) (simA_cons (sim_name cx rfl rfl) (simA_cons (sim_name cx rfl rfl) simA_nil)))) (simA_cons (sim_call cx rfl rfl gl_wants_on cl_wants_on (op_fn_le cx ok_wants_on (by decide)) (simA_cons (sim_name cx rfl rfl) (simA_cons (sim_name cx rfl rfl) simA_nil))) simA_nil))))) (simS_cons (simS_If (simB_Cmp1 cmp_isNot rfl (sim_name cx rfl rfl) sim_none) (simS_cons (simS_Return (sim_Tuple (simA_cons (sim_name cx rfl rfl) (simA_cons (sim_name cx rfl rfl) simA_nil)))) simS_nil) simS_nil) simS_nil))) (simS_cons (simS_Return sim_none) simS_nil))
noncomputable def sp_law_cell : FnM := aFnX exportV ["_law_script", "_law_k"] (fun n₀ => (sSeq (sAssign "_law_more" (aBin opMul (aName "_law_k") (aInt 7919))) (sSeq (sIf (bCmp cNe (aName "_law_script") (aList [])) (sSeq (sAssign "_law_more" (aBin opAdd (aName "_law_more") (aBin opMul (aBin opDiv (aName "_law_k") (aCall bLen [(aName "_law_script")])) (aInt 104729)))) (sSeq (sAssign "_law_more" (aBin opMod (aBin opAdd (aName "_law_more") (aBin opMul (aSub (aName "_law_script") (aBin opMod (aName "_law_k") (aCall bLen [(aName "_law_script")]))) (aInt 48271))) (aInt 1000003))) sNil)) sNil) (sSeq (sRet (aBin opMod (aBin opAdd (aBin opDiv (aBin opMul (aName "_law_more") (aName "_law_more")) (aInt 11)) (aBin opMul (aInt 13) (aName "_law_more"))) (aInt 1000003))) sNil))))
theorem cl_law_cell {P : Params} : Callee (Gr (hd4.heap_39 P)) (.ref 73) := callee_fn (by k_is)
theorem ok_law_cell {prog : Program} {w : World} {P : Params} : FnOk prog w (Gr (hd4.heap_39 P)) 1 73 sp_law_cell := by
  refine fn_def exp_V (K := hd4.heap_39 P) (f := 73) (k := 0) (ps := ["_law_script", "_law_k"]) (ho := by k_is) (hcd := by k_is) (bind2 fun _ _ => rfl) rfl rfl rfl rfl rfl ?_
  intro A L h₀ n₀ cx
  exact (simS_cons (simS_Assign cx.ok (storable cx rfl rfl) rfl (sim_BinOp op_mul (sim_name cx rfl rfl) sim_int)) (simS_cons (simS_If (simB_Cmp1 (cmp_ne cx.lv) rfl (sim_name cx rfl rfl) (sim_List simA_nil)) (simS_cons (simS_Assign cx.ok (storable cx rfl rfl) rfl (sim_BinOp op_add (sim_name cx rfl rfl) (sim_BinOp op_mul (sim_BinOp op_div (sim_name cx rfl rfl) (sim_call cx rfl rfl gl_len (.builtin _) op_len (simA_cons (sim_name cx rfl rfl) simA_nil))) sim_int))) (simS_cons (simS_Assign cx.ok (storable cx rfl rfl) rfl (sim_BinOp op_mod (sim_BinOp op_add (sim_name cx rfl rfl) (sim_BinOp op_mul (sim_Sub (fun _ _ => rfl) (sim_name cx rfl rfl) (sim_BinOp op_mod (sim_name cx rfl rfl) (sim_call cx rfl rfl gl_len (.builtin _) op_len (simA_cons (sim_name cx rfl rfl) simA_nil)))) sim_int)) sim_int)) simS_nil)) simS_nil) (simS_cons (simS_Return (sim_BinOp op_mod (sim_BinOp op_add (sim_BinOp op_div (sim_BinOp op_mul (sim_name cx rfl rfl) (sim_name cx rfl rfl)) sim_int) (sim_BinOp op_mul sim_int (sim_name cx rfl rfl))) sim_int)) simS_nil)))
noncomputable def sp_law_whole : FnM := aFnX exportV ["_law_found"] (fun n₀ => (sSeq (sRet (vAnd [(aIsi "int" (aName "_law_found")), (aNot (aIsi "bool" (aName "_law_found")))])) sNil))
theorem cl_law_whole {P : Params} : Callee (Gr (hd4.heap_39 P)) (.ref 80) := callee_fn (by k_is)
theorem ok_law_whole {prog : Program} {w : World} {P : Params} : FnOk prog w (Gr (hd4.heap_39 P)) 1 80 sp_law_whole := by
  refine fn_def exp_V (K := hd4.heap_39 P) (f := 80) (k := 0) (ps := ["_law_found"]) (ho := by k_is) (hcd := by k_is) (bind1 fun _ => rfl) rfl rfl rfl rfl rfl ?_
  intro A L h₀ n₀ cx
  exact (simS_cons (simS_Return (sim_and (simVAnd_cons (sim_isinstance cx rfl rfl rfl gl_isinstance gl_int (sim_name cx rfl rfl) (fun _ => rfl)) (simVAnd_one (sim_not (sim_isinstance cx rfl rfl rfl gl_isinstance gl_bool (sim_name cx rfl rfl) (fun _ => rfl))))))) simS_nil)
noncomputable def sp_law_wholes : FnM := aFnX exportV ["_law_found"] (fun n₀ => (sSeq (sRet (vAnd [(aIsi "list" (aName "_law_found")), (aCall bAll [(aComp "_law_one" (aName "_law_found") (bAnd []) (aCall sp_law_whole [(aName "_law_one")]))])])) sNil))
theorem cl_law_wholes {P : Params} : Callee (Gr (hd4.heap_39 P)) (.ref 85) := callee_fn (by k_is)
theorem ok_law_wholes {prog : Program} {w : World} {P : Params} : FnOk prog w (Gr (hd4.heap_39 P)) 2 85 sp_law_wholes := by
  refine fn_def exp_V (K := hd4.heap_39 P) (f := 85) (k := 1) (ps := ["_law_found"]) (ho := by k_is) (hcd := by k_is) (bind1 fun _ => rfl) rfl rfl rfl rfl rfl ?_
  intro A L h₀ n₀ cx
  exact (simS_cons (simS_Return (sim_and (simVAnd_cons (sim_isinstance cx rfl rfl rfl gl_isinstance gl_list (sim_name cx rfl rfl) (fun _ => rfl)) (simVAnd_one (sim_call cx rfl rfl gl_all (.builtin _) (op_all cx.lv) (simA_cons (sim_ListComp cx (compOk_of rfl rfl) (fun _ => rfl) (sim_name cx rfl rfl) (fun _ _ cx => simT_nil) (fun _ _ cx => (sim_call cx rfl rfl gl_law_whole cl_law_whole (op_fn_le cx ok_law_whole (by decide)) (simA_cons (sim_name cx rfl rfl) simA_nil)))) simA_nil)))))) simS_nil)
noncomputable def sp_law_house_by : FnM := aFnX exportV ["_law_script"] (fun n₀ => (sSeq (sAssign "_law_many" (aBin opAdd (aInt 1) (aBin opMod (aCall sp_law_cell [(aName "_law_script"), (aInt 0)]) (aInt 6)))) (sSeq (sAssign "_law_most" (aSub (aList [(aInt 4), (aInt 3), (aInt 4), (aInt 9)]) (aBin opMod (aCall sp_law_cell [(aName "_law_script"), (aInt 1)]) (aInt 4)))) (sSeq (sRet (aComp "_law_k" (aCall bRange [(aName "_law_many")]) (bAnd []) (aBin opMod (aCall sp_law_cell [(aName "_law_script"), (aBin opAdd (aInt 10) (aName "_law_k"))]) (aBin opAdd (aName "_law_most") (aInt 1))))) sNil))))
theorem cl_law_house_by {P : Params} : Callee (Gr (hd4.heap_39 P)) (.ref 90) := callee_fn (by k_is)
theorem ok_law_house_by {prog : Program} {w : World} {P : Params} : FnOk prog w (Gr (hd4.heap_39 P)) 2 90 sp_law_house_by := by
  refine fn_def exp_V (K := hd4.heap_39 P) (f := 90) (k := 1) (ps := ["_law_script"]) (ho := by k_is) (hcd := by k_is) (bind1 fun _ => rfl) rfl rfl rfl rfl rfl ?_
  intro A L h₀ n₀ cx
  exact (simS_cons (simS_Assign cx.ok (storable cx rfl rfl) rfl (sim_BinOp op_add sim_int (sim_BinOp op_mod (sim_call cx rfl rfl gl_law_cell cl_law_cell (op_fn_le cx ok_law_cell (by decide)) (simA_cons (sim_name cx rfl rfl) (simA_cons sim_int simA_nil))) sim_int))) (simS_cons (simS_Assign cx.ok (storable cx rfl rfl) rfl (sim_Sub (fun _ _ => rfl) (sim_List (simA_cons sim_int (simA_cons sim_int (simA_cons sim_int (simA_cons sim_int simA_nil))))) (sim_BinOp op_mod (sim_call cx rfl rfl gl_law_cell cl_law_cell (op_fn_le cx ok_law_cell (by decide)) (simA_cons (sim_name cx rfl rfl) (simA_cons sim_int simA_nil))) sim_int))) (simS_cons (simS_Return (sim_ListComp cx (compOk_of rfl rfl) (fun _ => rfl) (sim_call cx rfl rfl gl_range (.type _) op_range (simA_cons (sim_name cx rfl rfl) simA_nil)) (fun _ _ cx => simT_nil) (fun _ _ cx => (sim_BinOp op_mod (sim_call cx rfl rfl gl_law_cell cl_law_cell (op_fn_le cx ok_law_cell (by decide)) (simA_cons (sim_name cx rfl rfl) (simA_cons (sim_BinOp op_add sim_int (sim_name cx rfl rfl)) simA_nil))) (sim_BinOp op_add (sim_name cx rfl rfl) sim_int))))) simS_nil)))
noncomputable def sp_law_kinds : FnM := aFnX exportV ["_law_counts"] (fun n₀ => (sSeq (sAssign "_law_kinds_here" (aList [])) (sSeq (sFor "_law_kind" (aCall bRange [(aCall bLen [(aName "_law_counts")])]) (sSeq (sAssign "_law_kinds_here" (aBin opAdd (aName "_law_kinds_here") (aBin opMul (aList [(aName "_law_kind")]) (aSub (aName "_law_counts") (aName "_law_kind"))))) sNil)) (sSeq (sRet (aName "_law_kinds_here")) sNil))))
theorem cl_law_kinds {P : Params} : Callee (Gr (hd4.heap_39 P)) (.ref 97) := callee_fn (by k_is)
theorem ok_law_kinds {prog : Program} {w : World} {P : Params} : FnOk prog w (Gr (hd4.heap_39 P)) 1 97 sp_law_kinds := by
  refine fn_def exp_V (K := hd4.heap_39 P) (f := 97) (k := 0) (ps := ["_law_counts"]) (ho := by k_is) (hcd := by k_is) (bind1 fun _ => rfl) rfl rfl rfl rfl rfl ?_
  intro A L h₀ n₀ cx
  exact (simS_cons (simS_Assign cx.ok (storable cx rfl rfl) rfl (sim_List simA_nil)) (simS_cons (simS_For cx.ok (storable cx rfl rfl) (fun _ => rfl) (sim_call cx rfl rfl gl_range (.type _) op_range (simA_cons (sim_call cx rfl rfl gl_len (.builtin _) op_len (simA_cons (sim_name cx rfl rfl) simA_nil)) simA_nil)) (simS_cons (simS_Assign cx.ok (storable cx rfl rfl) rfl (sim_BinOp op_add (sim_name cx rfl rfl) (sim_BinOp op_mul (sim_List (simA_cons (sim_name cx rfl rfl) simA_nil)) (sim_Sub (fun _ _ => rfl) (sim_name cx rfl rfl) (sim_name cx rfl rfl))))) simS_nil)) (simS_cons (simS_Return (sim_name cx rfl rfl)) simS_nil)))
noncomputable def sp_law_at_least : FnM := aFnX exportV ["_law_kinds_here", "_law_kind"] (fun n₀ => (sSeq (sRet (aCall bLen [(aComp "_law_one" (aName "_law_kinds_here") (bAnd [(bCmp cGe (aName "_law_one") (aName "_law_kind"))]) (aName "_law_one"))])) sNil))
theorem cl_law_at_least {P : Params} : Callee (Gr (hd4.heap_39 P)) (.ref 102) := callee_fn (by k_is)
theorem ok_law_at_least {prog : Program} {w : World} {P : Params} : FnOk prog w (Gr (hd4.heap_39 P)) 1 102 sp_law_at_least := by
  refine fn_def exp_V (K := hd4.heap_39 P) (f := 102) (k := 0) (ps := ["_law_kinds_here", "_law_kind"]) (ho := by k_is) (hcd := by k_is) (bind2 fun _ _ => rfl) rfl rfl rfl rfl rfl ?_
  intro A L h₀ n₀ cx
  exact (simS_cons (simS_Return (sim_call cx rfl rfl gl_len (.builtin _) op_len (simA_cons (sim_ListComp cx (compOk_of rfl rfl) (fun _ => rfl) (sim_name cx rfl rfl) (fun _ _ cx => (simT_one (simB_Cmp1 cmp_ge rfl (sim_name cx rfl rfl) (sim_name cx rfl rfl)))) (fun _ _ cx => (sim_name cx rfl rfl))) simA_nil))) simS_nil)
noncomputable def sp_law_short : FnM := aFnX exportV ["_law_counts", "_law_rooms", "_law_wants_here"] (fun n₀ => (sSeq (sAssign "_law_kinds_here" (aCall sp_law_kinds [(aName "_law_counts")])) (sSeq (sFor "_law_kind" (aCall bRange [(aCall bLen [(aName "_law_counts")])]) (sSeq (sIf (bCmp cGt (aCall sp_law_at_least [(aCall bList [(aValues "_law_wants_here")]), (aName "_law_kind")]) (aCall sp_law_at_least [(aComp "_law_room" (aName "_law_rooms") (bAnd []) (aSub (aName "_law_kinds_here") (aName "_law_room"))), (aName "_law_kind")])) (sSeq (sRet (aName "_law_kind")) sNil) sNil) sNil)) (sSeq (sRet aNone) sNil))))
theorem cl_law_short {P : Params} : Callee (Gr (hd4.heap_39 P)) (.ref 107) := callee_fn (by k_is)
theorem ok_law_short {prog : Program} {w : World} {P : Params} : FnOk prog w (Gr (hd4.heap_39 P)) 2 107 sp_law_short := by
  refine fn_def exp_V (K := hd4.heap_39 P) (f := 107) (k := 1) (ps := ["_law_counts", "_law_rooms", "_law_wants_here"]) (ho := by k_is) (hcd := by k_is) (bind3 fun _ _ _ => rfl) rfl rfl rfl rfl rfl ?_
  intro A L h₀ n₀ cx
  exact (simS_cons (simS_Assign cx.ok (storable cx rfl rfl) rfl (sim_call cx rfl rfl gl_law_kinds cl_law_kinds (op_fn_le cx ok_law_kinds (by decide)) (simA_cons (sim_name cx rfl rfl) simA_nil))) (simS_cons (simS_For cx.ok (storable cx rfl rfl) (fun _ => rfl) (sim_call cx rfl rfl gl_range (.type _) op_range (simA_cons (sim_call cx rfl rfl gl_len (.builtin _) op_len (simA_cons (sim_name cx rfl rfl) simA_nil)) simA_nil)) (simS_cons (simS_If (simB_Cmp1 cmp_gt rfl (sim_call cx rfl rfl gl_law_at_least cl_law_at_least (op_fn_le cx ok_law_at_least (by decide)) (simA_cons (sim_call cx rfl rfl gl_list (.type _) (op_list cx.lv) (simA_cons (sim_values cx rfl rfl) simA_nil)) (simA_cons (sim_name cx rfl rfl) simA_nil))) (sim_call cx rfl rfl gl_law_at_least cl_law_at_least (op_fn_le cx ok_law_at_least (by decide)) (simA_cons (sim_ListComp cx (compOk_of rfl rfl) (fun _ => rfl) (sim_name cx rfl rfl) (fun _ _ cx => simT_nil) (fun _ _ cx => (sim_Sub (fun _ _ => rfl) (sim_name cx rfl rfl) (sim_name cx rfl rfl)))) (simA_cons (sim_name cx rfl rfl) simA_nil)))) (simS_cons (simS_Return (sim_name cx rfl rfl)) simS_nil) simS_nil) simS_nil)) (simS_cons (simS_Return sim_none) simS_nil)))
noncomputable def sp_law_span_by : FnM := aFnX exportV ["_law_script", "_law_k", "_law_many"] (fun n₀ => (sSeq (sAssign "_law_first" (aBin opMod (aCall sp_law_cell [(aName "_law_script"), (aName "_law_k")]) (aSub (aList [(aInt 40), (aInt 9), (aInt 9)]) (aBin opMod (aCall sp_law_cell [(aName "_law_script"), (aBin opAdd (aName "_law_k") (aInt 1))]) (aInt 3))))) (sSeq (sAssign "_law_last" (aCall bMin [(aInt 40), (aBin opAdd (aBin opAdd (aName "_law_first") (aInt 1)) (aBin opMod (aBin opDiv (aCall sp_law_cell [(aName "_law_script"), (aBin opAdd (aName "_law_k") (aInt 1))]) (aInt 3)) (aSub (aList [(aInt 40), (aInt 5), (aInt 5)]) (aBin opMod (aCall sp_law_cell [(aName "_law_script"), (aBin opAdd (aName "_law_k") (aInt 2))]) (aInt 3)))))])) (sSeq (sRet (aTup [(aName "_law_first"), (aName "_law_last"), (aBin opMod (aBin opDiv (aCall sp_law_cell [(aName "_law_script"), (aBin opAdd (aName "_law_k") (aInt 2))]) (aInt 3)) (aName "_law_many"))])) sNil))))
theorem cl_law_span_by {P : Params} : Callee (Gr (hd4.heap_39 P)) (.ref 114) := callee_fn (by k_is)
theorem ok_law_span_by {prog : Program} {w : World} {P : Params} : FnOk prog w (Gr (hd4.heap_39 P)) 2 114 sp_law_span_by := by
  refine fn_def exp_V (K := hd4.heap_39 P) (f := 114) (k := 1) (ps := ["_law_script", "_law_k", "_law_many"]) (ho := by k_is) (hcd := by k_is) (bind3 fun _ _ _ => rfl) rfl rfl rfl rfl rfl ?_
  intro A L h₀ n₀ cx
  exact (simS_cons (simS_Assign cx.ok (storable cx rfl rfl) rfl (sim_BinOp op_mod (sim_call cx rfl rfl gl_law_cell cl_law_cell (op_fn_le cx ok_law_cell (by decide)) (simA_cons (sim_name cx rfl rfl) (simA_cons (sim_name cx rfl rfl) simA_nil))) (sim_Sub (fun _ _ => rfl) (sim_List (simA_cons sim_int (simA_cons sim_int (simA_cons sim_int simA_nil)))) (sim_BinOp op_mod (sim_call cx rfl rfl gl_law_cell cl_law_cell (op_fn_le cx ok_law_cell (by decide)) (simA_cons (sim_name cx rfl rfl) (simA_cons (sim_BinOp op_add (sim_name cx rfl rfl) sim_int) simA_nil))) sim_int)))) (simS_cons (simS_Assign cx.ok (storable cx rfl rfl) rfl (sim_call cx rfl rfl gl_min (.builtin _) (op_min cx.lv) (simA_cons sim_int (simA_cons (sim_BinOp op_add (sim_BinOp op_add (sim_name cx rfl rfl) sim_int) (sim_BinOp op_mod (sim_BinOp op_div (sim_call cx rfl rfl gl_law_cell cl_law_cell (op_fn_le cx ok_law_cell (by decide)) (simA_cons (sim_name cx rfl rfl) (simA_cons (sim_BinOp op_add (sim_name cx rfl rfl) sim_int) simA_nil))) sim_int) (sim_Sub (fun _ _ => rfl) (sim_List (simA_cons sim_int (simA_cons sim_int (simA_cons sim_int simA_nil)))) (sim_BinOp op_mod (sim_call cx rfl rfl gl_law_cell cl_law_cell (op_fn_le cx ok_law_cell (by decide)) (simA_cons (sim_name cx rfl rfl) (simA_cons (sim_BinOp op_add (sim_name cx rfl rfl) sim_int) simA_nil))) sim_int)))) simA_nil)))) (simS_cons (simS_Return (sim_Tuple (simA_cons (sim_name cx rfl rfl) (simA_cons (sim_name cx rfl rfl) (simA_cons (sim_BinOp op_mod (sim_BinOp op_div (sim_call cx rfl rfl gl_law_cell cl_law_cell (op_fn_le cx ok_law_cell (by decide)) (simA_cons (sim_name cx rfl rfl) (simA_cons (sim_BinOp op_add (sim_name cx rfl rfl) sim_int) simA_nil))) sim_int) (sim_name cx rfl rfl)) simA_nil))))) simS_nil)))
noncomputable def sp_law_spans_by : FnM := aFnX exportV ["_law_script", "_law_k", "_law_count", "_law_many"] (fun n₀ => (sSeq (sAssign "_law_found" aDict0) (sSeq (sFor "_law_one" (aCall bRange [(aName "_law_count")]) (sSeq (sAssign "_law_number" (aBin opAdd (aBin opMod (aBin opAdd (aBin opMul (aName "_law_one") (aInt 37)) (aCall sp_law_cell [(aName "_law_script"), (aName "_law_k")])) (aInt 101)) (aSub (aList [(aInt 0), (aInt 0), (aNeg (aInt 50)), (aBin opPow (aInt 10) (aInt 20))]) (aBin opMod (aCall sp_law_cell [(aName "_law_script"), (aName "_law_k")]) (aInt 4))))) (sSeq (sSetItem n₀ "_law_found" (aName "_law_number") (aCall sp_law_span_by [(aName "_law_script"), (aBin opAdd (aBin opAdd (aName "_law_k") (aBin opMul (aInt 3) (aName "_law_one"))) (aInt 1)), (aName "_law_many")])) sNil))) (sSeq (sRet (aName "_law_found")) sNil))))
theorem cl_law_spans_by {P : Params} : Callee (Gr (hd4.heap_39 P)) (.ref 121) := callee_fn (by k_is)
theorem ok_law_spans_by {prog : Program} {w : World} {P : Params} : FnOk prog w (Gr (hd4.heap_39 P)) 3 121 sp_law_spans_by := by
  refine fn_def exp_V (K := hd4.heap_39 P) (f := 121) (k := 2) (ps := ["_law_script", "_law_k", "_law_count", "_law_many"]) (ho := by k_is) (hcd := by k_is) (bind4 fun _ _ _ _ => rfl) rfl rfl rfl rfl rfl ?_
  intro A L h₀ n₀ cx
  exact (simS_cons (simS_Assign cx.ok (storable cx rfl rfl) rfl (sim_Dict0 cx gr_low)) (simS_cons (simS_For cx.ok (storable cx rfl rfl) (fun _ => rfl) (sim_call cx rfl rfl gl_range (.type _) op_range (simA_cons (sim_name cx rfl rfl) simA_nil)) (simS_cons (simS_Assign cx.ok (storable cx rfl rfl) rfl (sim_BinOp op_add (sim_BinOp op_mod (sim_BinOp op_add (sim_BinOp op_mul (sim_name cx rfl rfl) sim_int) (sim_call cx rfl rfl gl_law_cell cl_law_cell (op_fn_le cx ok_law_cell (by decide)) (simA_cons (sim_name cx rfl rfl) (simA_cons (sim_name cx rfl rfl) simA_nil)))) sim_int) (sim_Sub (fun _ _ => rfl) (sim_List (simA_cons sim_int (simA_cons sim_int (simA_cons (sim_neg sim_int) (simA_cons (sim_BinOp op_pow sim_int sim_int) simA_nil))))) (sim_BinOp op_mod (sim_call cx rfl rfl gl_law_cell cl_law_cell (op_fn_le cx ok_law_cell (by decide)) (simA_cons (sim_name cx rfl rfl) (simA_cons (sim_name cx rfl rfl) simA_nil))) sim_int)))) (simS_cons (simS_setItem cx rfl rfl rfl (sim_name cx rfl rfl) (sim_call cx rfl rfl gl_law_span_by cl_law_span_by (op_fn_le cx ok_law_span_by (by decide)) (simA_cons (sim_name cx rfl rfl) (simA_cons (sim_BinOp op_add (sim_BinOp op_add (sim_name cx rfl rfl) (sim_BinOp op_mul sim_int (sim_name cx rfl rfl))) sim_int) (simA_cons (sim_name cx rfl rfl) simA_nil))))) simS_nil))) (simS_cons (simS_Return (sim_name cx rfl rfl)) simS_nil)))
noncomputable def sp_law_wants : FnM := aFnX exportV ["_law_stays", "_law_night"] (fun n₀ => (sSeq (sRet (aCall bDict [(aComp "_law_one" (aCall bSorted [(aCall bList [(aName "_law_stays")])]) (bAnd [(bCmp2 cLe cLt (aSub (aSub (aName "_law_stays") (aName "_law_one")) (aInt 0)) (aName "_law_night") (aSub (aSub (aName "_law_stays") (aName "_law_one")) (aInt 1)))]) (aTup [(aName "_law_one"), (aSub (aSub (aName "_law_stays") (aName "_law_one")) (aInt 2))]))])) sNil))
theorem cl_law_wants {P : Params} : Callee (Gr (hd4.heap_39 P)) (.ref 126) := callee_fn (by k_is)
theorem ok_law_wants {prog : Program} {w : World} {P : Params} : FnOk prog w (Gr (hd4.heap_39 P)) 1 126 sp_law_wants := by
  refine fn_def exp_V (K := hd4.heap_39 P) (f := 126) (k := 0) (ps := ["_law_stays", "_law_night"]) (ho := by k_is) (hcd := by k_is) (bind2 fun _ _ => rfl) rfl rfl rfl rfl rfl ?_
  intro A L h₀ n₀ cx
  exact (simS_cons (simS_Return (sim_call cx rfl rfl gl_dict (.type _) (op_dict cx.lv cx gr_low) (simA_cons (sim_ListComp cx (compOk_of rfl rfl) (fun _ => rfl) (sim_call cx rfl rfl gl_sorted (.builtin _) (op_sorted cx.lv) (simA_cons (sim_call cx rfl rfl gl_list (.type _) (op_list cx.lv) (simA_cons (sim_name cx rfl rfl) simA_nil)) simA_nil)) (fun _ _ cx => (simT_one (simB_Cmp2 cmp_le cmp_lt rfl rfl (sim_Sub (fun _ _ => rfl) (sim_Sub (fun _ _ => rfl) (sim_name cx rfl rfl) (sim_name cx rfl rfl)) sim_int) (sim_name cx rfl rfl) (sim_Sub (fun _ _ => rfl) (sim_Sub (fun _ _ => rfl) (sim_name cx rfl rfl) (sim_name cx rfl rfl)) sim_int)))) (fun _ _ cx => (sim_Tuple (simA_cons (sim_name cx rfl rfl) (simA_cons (sim_Sub (fun _ _ => rfl) (sim_Sub (fun _ _ => rfl) (sim_name cx rfl rfl) (sim_name cx rfl rfl)) sim_int) simA_nil))))) simA_nil))) simS_nil)
noncomputable def sp_law_open : FnM := aFnX exportV ["_law_counts", "_law_closings", "_law_night"] (fun n₀ => (sSeq (sAssign "_law_shut" (aComp "_law_one" (aName "_law_closings") (bAnd [(bCmp2 cLe cLt (aSub (aSub (aName "_law_closings") (aName "_law_one")) (aInt 0)) (aName "_law_night") (aSub (aSub (aName "_law_closings") (aName "_law_one")) (aInt 1)))]) (aSub (aSub (aName "_law_closings") (aName "_law_one")) (aInt 2)))) (sSeq (sAssign "_law_kinds_here" (aCall sp_law_kinds [(aName "_law_counts")])) (sSeq (sRet (aComp "_law_room" (aCall bRange [(aCall bLen [(aName "_law_kinds_here")])]) (bAnd [(bCmp cNotIn (aSub (aName "_law_kinds_here") (aName "_law_room")) (aName "_law_shut"))]) (aName "_law_room"))) sNil))))
theorem cl_law_open {P : Params} : Callee (Gr (hd4.heap_39 P)) (.ref 131) := callee_fn (by k_is)
theorem ok_law_open {prog : Program} {w : World} {P : Params} : FnOk prog w (Gr (hd4.heap_39 P)) 2 131 sp_law_open := by
  refine fn_def exp_V (K := hd4.heap_39 P) (f := 131) (k := 1) (ps := ["_law_counts", "_law_closings", "_law_night"]) (ho := by k_is) (hcd := by k_is) (bind3 fun _ _ _ => rfl) rfl rfl rfl rfl rfl ?_
  intro A L h₀ n₀ cx
  exact (simS_cons (simS_Assign cx.ok (storable cx rfl rfl) rfl (sim_ListComp cx (compOk_of rfl rfl) (fun _ => rfl) (sim_name cx rfl rfl) (fun _ _ cx => (simT_one (simB_Cmp2 cmp_le cmp_lt rfl rfl (sim_Sub (fun _ _ => rfl) (sim_Sub (fun _ _ => rfl) (sim_name cx rfl rfl) (sim_name cx rfl rfl)) sim_int) (sim_name cx rfl rfl) (sim_Sub (fun _ _ => rfl) (sim_Sub (fun _ _ => rfl) (sim_name cx rfl rfl) (sim_name cx rfl rfl)) sim_int)))) (fun _ _ cx => (sim_Sub (fun _ _ => rfl) (sim_Sub (fun _ _ => rfl) (sim_name cx rfl rfl) (sim_name cx rfl rfl)) sim_int)))) (simS_cons (simS_Assign cx.ok (storable cx rfl rfl) rfl (sim_call cx rfl rfl gl_law_kinds cl_law_kinds (op_fn_le cx ok_law_kinds (by decide)) (simA_cons (sim_name cx rfl rfl) simA_nil))) (simS_cons (simS_Return (sim_ListComp cx (compOk_of rfl rfl) (fun _ => rfl) (sim_call cx rfl rfl gl_range (.type _) op_range (simA_cons (sim_call cx rfl rfl gl_len (.builtin _) op_len (simA_cons (sim_name cx rfl rfl) simA_nil)) simA_nil)) (fun _ _ cx => (simT_one (simB_Cmp1 (cmp_notIn cx.lv) rfl (sim_Sub (fun _ _ => rfl) (sim_name cx rfl rfl) (sim_name cx rfl rfl)) (sim_name cx rfl rfl)))) (fun _ _ cx => (sim_name cx rfl rfl)))) simS_nil)))
noncomputable def sp_law_due : FnM := aFnX exportV ["_law_counts", "_law_closings", "_law_stays"] (fun n₀ => (sSeq (sFor "_law_night" (aCall bRange [(aInt 40)]) (sSeq (sAssign "_law_kind" (aCall sp_law_short [(aName "_law_counts"), (aCall sp_law_open [(aName "_law_counts"), (aName "_law_closings"), (aName "_law_night")]), (aCall sp_law_wants [(aName "_law_stays"), (aName "_law_night")])])) (sSeq (sIf (bCmp cIsNot (aName "_law_kind") aNone) (sSeq (sRet (aTup [(aName "_law_night"), (aName "_law_kind")])) sNil) sNil) sNil))) (sSeq (sRet aNone) sNil)))
theorem cl_law_due {P : Params} : Callee (Gr (hd4.heap_39 P)) (.ref 138) := callee_fn (by k_is)
theorem ok_law_due {prog : Program} {w : World} {P : Params} : FnOk prog w (Gr (hd4.heap_39 P)) 3 138 sp_law_due := by
  refine fn_def exp_V (K := hd4.heap_39 P) (f := 138) (k := 2) (ps := ["_law_counts", "_law_closings", "_law_stays"]) (ho := by k_is) (hcd := by k_is) (bind3 fun _ _ _ => rfl) rfl rfl rfl rfl rfl ?_
  intro A L h₀ n₀ cx
  exact (simS_cons (simS_For cx.ok (storable cx rfl rfl) (fun _ => rfl) (sim_call cx rfl rfl gl_range (.type _) op_range (simA_cons sim_int simA_nil)) (simS_cons (simS_Assign cx.ok (storable cx rfl rfl) rfl (sim_call cx rfl rfl gl_law_short cl_law_short (op_fn_le cx ok_law_short (by decide)) (simA_cons (sim_name cx rfl rfl) (simA_cons (sim_call cx rfl rfl gl_law_open cl_law_open (op_fn_le cx ok_law_open (by decide)) (simA_cons (sim_name cx rfl rfl) (simA_cons (sim_name cx rfl rfl) (simA_cons (sim_name cx rfl rfl) simA_nil)))) (simA_cons (sim_call cx rfl rfl gl_law_wants cl_law_wants (op_fn_le cx ok_law_wants (by decide)) (simA_cons (sim_name cx rfl rfl) (simA_cons (sim_name cx rfl rfl) simA_nil))) simA_nil))))) (simS_cons (simS_If (simB_Cmp1 cmp_isNot rfl (sim_name cx rfl rfl) sim_none) (simS_cons (simS_Return (sim_Tuple (simA_cons (sim_name cx rfl rfl) (simA_cons (sim_name cx rfl rfl) simA_nil)))) simS_nil) simS_nil) simS_nil))) (simS_cons (simS_Return sim_none) simS_nil))
noncomputable def sp_law_right : FnM := aFnX exportV ["_law_counts", "_law_closings", "_law_stays"] (fun n₀ => (sSeq (sAssign "_law_due_here" (aCall sp_law_due [(aName "_law_counts"), (aName "_law_closings"), (aName "_law_stays")])) (sSeq (sAssign "_law_found" (aCall sp_short_night [(aName "_law_counts"), (aName "_law_closings"), (aName "_law_stays")])) (sSeq (sIf (bCmp cIs (aName "_law_due_here") aNone) (sSeq (sRet (aCmp cIs (aName "_law_found") aNone)) sNil) sNil) (sSeq (sRet (vAnd [(aIsi "tuple" (aName "_law_found")), (aCall sp_law_wholes [(aCall bList [(aName "_law_found")])]), (aCmp cEq (aName "_law_found") (aName "_law_due_here"))])) sNil)))))
theorem cl_law_right {P : Params} : Callee (Gr (hd4.heap_39 P)) (.ref 145) := callee_fn (by k_is)
theorem ok_law_right {prog : Program} {w : World} {P : Params} : FnOk prog w (Gr (hd4.heap_39 P)) 5 145 sp_law_right := by
  refine fn_def exp_V (K := hd4.heap_39 P) (f := 145) (k := 4) (ps := ["_law_counts", "_law_closings", "_law_stays"]) (ho := by k_is) (hcd := by k_is) (bind3 fun _ _ _ => rfl) rfl rfl rfl rfl rfl ?_
  intro A L h₀ n₀ cx
  exact (simS_cons (simS_Assign cx.ok (storable cx rfl rfl) rfl (sim_call cx rfl rfl gl_law_due cl_law_due (op_fn_le cx ok_law_due (by decide)) (simA_cons (sim_name cx rfl rfl) (simA_cons (sim_name cx rfl rfl) (simA_cons (sim_name cx rfl rfl) simA_nil))))) (simS_cons (simS_Assign cx.ok (storable cx rfl rfl) rfl (sim_call cx rfl rfl gl_short_night cl_short_night (op_fn_le cx ok_short_night (by decide)) (simA_cons (sim_name cx rfl rfl) (simA_cons (sim_name cx rfl rfl) (simA_cons (sim_name cx rfl rfl) simA_nil))))) (simS_cons (simS_If (simB_Cmp1 cmp_is rfl (sim_name cx rfl rfl) sim_none) (simS_cons (simS_Return (sim_Cmp1 cmp_is rfl (sim_name cx rfl rfl) sim_none)) simS_nil) simS_nil) (simS_cons (simS_Return (sim_and (simVAnd_cons (sim_isinstance cx rfl rfl rfl gl_isinstance gl_tuple (sim_name cx rfl rfl) (fun _ => rfl)) (simVAnd_cons (sim_call cx rfl rfl gl_law_wholes cl_law_wholes (op_fn_le cx ok_law_wholes (by decide)) (simA_cons (sim_call cx rfl rfl gl_list (.type _) (op_list cx.lv) (simA_cons (sim_name cx rfl rfl) simA_nil)) simA_nil)) (simVAnd_one (sim_Cmp1 (cmp_eq cx.lv) rfl (sim_name cx rfl rfl) (sim_name cx rfl rfl))))))) simS_nil))))
noncomputable def sp_law : FnM := aFnX exportV ["_law_script"] (fun n₀ => (sSeq (sAssign "_law_counts" (aCall sp_law_house_by [(aName "_law_script")])) (sSeq (sAssign "_law_stays" (aCall sp_law_spans_by [(aName "_law_script"), (aInt 20), (aBin opMod (aCall sp_law_cell [(aName "_law_script"), (aInt 2)]) (aInt 21)), (aCall bLen [(aName "_law_counts")])])) (sSeq (sAssign "_law_closings" (aCall sp_law_spans_by [(aName "_law_script"), (aInt 90), (aBin opMod (aCall sp_law_cell [(aName "_law_script"), (aInt 3)]) (aInt 6)), (aCall bLen [(aName "_law_counts")])])) (sSeq (sAssign "_law_handed" (aList [(aCall bList [(aName "_law_counts")]), (aCall bDict [(aName "_law_closings")]), (aCall bDict [(aName "_law_stays")])])) (sSeq (sIf (bOr [(bNot (bVal (aCall sp_law_right [(aSub (aName "_law_handed") (aInt 0)), (aSub (aName "_law_handed") (aInt 1)), (aSub (aName "_law_handed") (aInt 2))]))), (bCmp cNe (aName "_law_handed") (aList [(aName "_law_counts"), (aName "_law_closings"), (aName "_law_stays")]))]) (sSeq (sRet (aBool false)) sNil) sNil) (sSeq (sAssign "_law_due_here" (aCall sp_law_due [(aName "_law_counts"), (aName "_law_closings"), (aName "_law_stays")])) (sSeq (sIf (bCmp cIs (aName "_law_due_here") aNone) (sSeq (sRet (aBool true)) sNil) sNil) (sSeq (sAssign "_law_wants_here" (aCall sp_law_wants [(aName "_law_stays"), (aSub (aName "_law_due_here") (aInt 0))])) (sSeq (sAssign "_law_fewer" (aCall bDict [(aComp "_law_one" (aName "_law_stays") (bAnd [(bOr [(bCmp cNotIn (aName "_law_one") (aName "_law_wants_here")), (bCmp cLt (aSub (aName "_law_wants_here") (aName "_law_one")) (aSub (aName "_law_due_here") (aInt 1)))])]) (aTup [(aName "_law_one"), (aSub (aName "_law_stays") (aName "_law_one"))]))])) (sSeq (sRet (vAnd [(aCall sp_law_right [(aName "_law_counts"), (aName "_law_closings"), (aName "_law_fewer")]), (aCall sp_law_right [(aName "_law_counts"), (aName "_law_closings"), (aName "_law_stays")])])) sNil)))))))))))
theorem ok_law {prog : Program} {w : World} {P : Params} : FnOk prog w (Gr (hd4.heap_39 P)) 6 150 sp_law := by
  refine fn_def exp_V (K := hd4.heap_39 P) (f := 150) (k := 5) (ps := ["_law_script"]) (ho := by k_is) (hcd := by k_is) (bind1 fun _ => rfl) rfl rfl rfl rfl rfl ?_
  intro A L h₀ n₀ cx
  exact (simS_cons (simS_Assign cx.ok (storable cx rfl rfl) rfl (sim_call cx rfl rfl gl_law_house_by cl_law_house_by (op_fn_le cx ok_law_house_by (by decide)) (simA_cons (sim_name cx rfl rfl) simA_nil))) (simS_cons (simS_Assign cx.ok (storable cx rfl rfl) rfl (sim_call cx rfl rfl gl_law_spans_by cl_law_spans_by (op_fn_le cx ok_law_spans_by (by decide)) (simA_cons (sim_name cx rfl rfl) (simA_cons sim_int (simA_cons (sim_BinOp op_mod (sim_call cx rfl rfl gl_law_cell cl_law_cell (op_fn_le cx ok_law_cell (by decide)) (simA_cons (sim_name cx rfl rfl) (simA_cons sim_int simA_nil))) sim_int) (simA_cons (sim_call cx rfl rfl gl_len (.builtin _) op_len (simA_cons (sim_name cx rfl rfl) simA_nil)) simA_nil)))))) (simS_cons (simS_Assign cx.ok (storable cx rfl rfl) rfl (sim_call cx rfl rfl gl_law_spans_by cl_law_spans_by (op_fn_le cx ok_law_spans_by (by decide)) (simA_cons (sim_name cx rfl rfl) (simA_cons sim_int (simA_cons (sim_BinOp op_mod (sim_call cx rfl rfl gl_law_cell cl_law_cell (op_fn_le cx ok_law_cell (by decide)) (simA_cons (sim_name cx rfl rfl) (simA_cons sim_int simA_nil))) sim_int) (simA_cons (sim_call cx rfl rfl gl_len (.builtin _) op_len (simA_cons (sim_name cx rfl rfl) simA_nil)) simA_nil)))))) (simS_cons (simS_Assign cx.ok (storable cx rfl rfl) rfl (sim_List (simA_cons (sim_call cx rfl rfl gl_list (.type _) (op_list cx.lv) (simA_cons (sim_name cx rfl rfl) simA_nil)) (simA_cons (sim_call cx rfl rfl gl_dict (.type _) (op_dict cx.lv cx gr_low) (simA_cons (sim_name cx rfl rfl) simA_nil)) (simA_cons (sim_call cx rfl rfl gl_dict (.type _) (op_dict cx.lv cx gr_low) (simA_cons (sim_name cx rfl rfl) simA_nil)) simA_nil))))) (simS_cons (simS_If (simB_or (simOr_cons (simB_not (simB_val (fun _ => rfl) (sim_call cx rfl rfl gl_law_right cl_law_right (op_fn_le cx ok_law_right (by decide)) (simA_cons (sim_Sub (fun _ _ => rfl) (sim_name cx rfl rfl) sim_int) (simA_cons (sim_Sub (fun _ _ => rfl) (sim_name cx rfl rfl) sim_int) (simA_cons (sim_Sub (fun _ _ => rfl) (sim_name cx rfl rfl) sim_int) simA_nil)))))) (simOr_cons (simB_Cmp1 (cmp_ne cx.lv) rfl (sim_name cx rfl rfl) (sim_List (simA_cons (sim_name cx rfl rfl) (simA_cons (sim_name cx rfl rfl) (simA_cons (sim_name cx rfl rfl) simA_nil))))) simOr_nil))) (simS_cons (simS_Return sim_bool) simS_nil) simS_nil) (simS_cons (simS_Assign cx.ok (storable cx rfl rfl) rfl (sim_call cx rfl rfl gl_law_due cl_law_due (op_fn_le cx ok_law_due (by decide)) (simA_cons (sim_name cx rfl rfl) (simA_cons (sim_name cx rfl rfl) (simA_cons (sim_name cx rfl rfl) simA_nil))))) (simS_cons (simS_If (simB_Cmp1 cmp_is rfl (sim_name cx rfl rfl) sim_none) (simS_cons (simS_Return sim_bool) simS_nil) simS_nil) (simS_cons (simS_Assign cx.ok (storable cx rfl rfl) rfl (sim_call cx rfl rfl gl_law_wants cl_law_wants (op_fn_le cx ok_law_wants (by decide)) (simA_cons (sim_name cx rfl rfl) (simA_cons (sim_Sub (fun _ _ => rfl) (sim_name cx rfl rfl) sim_int) simA_nil)))) (simS_cons (simS_Assign cx.ok (storable cx rfl rfl) rfl (sim_call cx rfl rfl gl_dict (.type _) (op_dict cx.lv cx gr_low) (simA_cons (sim_ListComp cx (compOk_of rfl rfl) (fun _ => rfl) (sim_name cx rfl rfl) (fun _ _ cx => (simT_one (simB_or (simOr_cons (simB_Cmp1 (cmp_notIn cx.lv) rfl (sim_name cx rfl rfl) (sim_name cx rfl rfl)) (simOr_cons (simB_Cmp1 cmp_lt rfl (sim_Sub (fun _ _ => rfl) (sim_name cx rfl rfl) (sim_name cx rfl rfl)) (sim_Sub (fun _ _ => rfl) (sim_name cx rfl rfl) sim_int)) simOr_nil))))) (fun _ _ cx => (sim_Tuple (simA_cons (sim_name cx rfl rfl) (simA_cons (sim_Sub (fun _ _ => rfl) (sim_name cx rfl rfl) (sim_name cx rfl rfl)) simA_nil))))) simA_nil))) (simS_cons (simS_Return (sim_and (simVAnd_cons (sim_call cx rfl rfl gl_law_right cl_law_right (op_fn_le cx ok_law_right (by decide)) (simA_cons (sim_name cx rfl rfl) (simA_cons (sim_name cx rfl rfl) (simA_cons (sim_name cx rfl rfl) simA_nil)))) (simVAnd_one (sim_call cx rfl rfl gl_law_right cl_law_right (op_fn_le cx ok_law_right (by decide)) (simA_cons (sim_name cx rfl rfl) (simA_cons (sim_name cx rfl rfl) (simA_cons (sim_name cx rfl rfl) simA_nil)))))))) simS_nil))))))))))
end Inn
end
section
set_option maxRecDepth 10000
set_option linter.unusedVariables false
set_option linter.unusedSimpArgs false
namespace Inn
open PySem
theorem wF_get {F : FnM} {vs σ a b} (h : wF F vs σ fun v s => v = a ∧ s = b) : F vs σ = some (a, b) := by
  obtain ⟨v, s, e, rfl, rfl⟩ := h; exact e
theorem w2_add {a b : Int} {σ Q} : w2 opAdd (.int a) (.int b) σ Q ↔ Q (.int (a + b)) σ := by
  constructor
  · rintro ⟨v, s, e, q⟩; cases e; exact q
  · intro q; exact ⟨_, _, rfl, q⟩
theorem w2_add_e {a b : Int} {σ Q} : (w2 opAdd (.int a) (.int b) σ Q) = (Q (.int (a + b)) σ) := propext (w2_add)
theorem w2_sub {a b : Int} {σ Q} : w2 opSub (.int a) (.int b) σ Q ↔ Q (.int (a - b)) σ := by
  constructor
  · rintro ⟨v, s, e, q⟩; cases e; exact q
  · intro q; exact ⟨_, _, rfl, q⟩
theorem w2_sub_e {a b : Int} {σ Q} : (w2 opSub (.int a) (.int b) σ Q) = (Q (.int (a - b)) σ) := propext (w2_sub)
theorem w2_mod {a b : Int} {σ Q} : w2 opMod (.int a) (.int b) σ Q ↔ b ≠ 0 ∧ Q (.int (a.fmod b)) σ := by
  constructor
  · rintro ⟨v, s, e, q⟩
    simp only [opMod, ii] at e
    split at e
    · cases e
    · cases e; exact ⟨by assumption, q⟩
  · rintro ⟨h, q⟩; exact ⟨_, _, by simp [opMod, ii, h], q⟩
theorem w2_mod_e {a b : Int} {σ Q} : (w2 opMod (.int a) (.int b) σ Q) = (b ≠ 0 ∧ Q (.int (a.fmod b)) σ) := propext (w2_mod)
theorem w2_div {a b : Int} {σ Q} : w2 opDiv (.int a) (.int b) σ Q ↔ (0 < b ∧ b < 1000000000) ∧ Q (.int (a.fdiv b)) σ := by
  constructor
  · rintro ⟨v, s, e, q⟩
    simp only [opDiv, ii] at e
    split at e
    · cases e; exact ⟨by assumption, q⟩
    · cases e
  · rintro ⟨h, q⟩; exact ⟨_, _, by simp [opDiv, ii, h], q⟩
theorem w2_div_e {a b : Int} {σ Q} : (w2 opDiv (.int a) (.int b) σ Q) = ((0 < b ∧ b < 1000000000) ∧ Q (.int (a.fdiv b)) σ) := propext (w2_div)
theorem w2_mul {a b : Int} {σ Q} : w2 opMul (.int a) (.int b) σ Q ↔ (smallI a ∨ smallI b) ∧ Q (.int (a * b)) σ := by
  constructor
  · rintro ⟨v, s, e, q⟩
    simp only [opMul] at e
    split at e
    · cases e; exact ⟨by assumption, q⟩
    · cases e
  · rintro ⟨h, q⟩; exact ⟨_, _, by simp [opMul, h], q⟩
theorem w2_mul_e {a b : Int} {σ Q} : (w2 opMul (.int a) (.int b) σ Q) = ((smallI a ∨ smallI b) ∧ Q (.int (a * b)) σ) := propext (w2_mul)
theorem w2_pow {a b : Int} {σ Q} : w2 opPow (.int a) (.int b) σ Q ↔ (a = 10 ∧ 0 < b ∧ b < 1000) ∧ Q (.int (a ^ b.toNat)) σ := by
  constructor
  · rintro ⟨v, s, e, q⟩
    simp only [opPow, ii] at e
    split at e
    · cases e; exact ⟨by assumption, q⟩
    · cases e
  · rintro ⟨h, q⟩; exact ⟨_, _, by simp [opPow, ii, h], q⟩
theorem w2_pow_e {a b : Int} {σ Q} : (w2 opPow (.int a) (.int b) σ Q) = ((a = 10 ∧ 0 < b ∧ b < 1000) ∧ Q (.int (a ^ b.toNat)) σ) := propext (w2_pow)
theorem wC_lt {a b : Int} {σ Q} : wC cLt (.int a) (.int b) σ Q ↔ Q (decide (a < b)) := by simp [wC, cLt, ii]
theorem wC_lt_e {a b : Int} {σ Q} : (wC cLt (.int a) (.int b) σ Q) = (Q (decide (a < b))) := propext (wC_lt)
theorem wC_le {a b : Int} {σ Q} : wC cLe (.int a) (.int b) σ Q ↔ Q (decide (a ≤ b)) := by simp [wC, cLe, ii]
theorem wC_le_e {a b : Int} {σ Q} : (wC cLe (.int a) (.int b) σ Q) = (Q (decide (a ≤ b))) := propext (wC_le)
theorem wC_gt {a b : Int} {σ Q} : wC cGt (.int a) (.int b) σ Q ↔ Q (decide (b < a)) := by simp [wC, cGt, ii]
theorem wC_gt_e {a b : Int} {σ Q} : (wC cGt (.int a) (.int b) σ Q) = (Q (decide (b < a))) := propext (wC_gt)
theorem wC_ge {a b : Int} {σ Q} : wC cGe (.int a) (.int b) σ Q ↔ Q (decide (b ≤ a)) := by simp [wC, cGe, ii]
theorem wC_ge_e {a b : Int} {σ Q} : (wC cGe (.int a) (.int b) σ Q) = (Q (decide (b ≤ a))) := propext (wC_ge)
theorem pairs_ints {n : Nat} {σ : Store} : ∀ (ms ns : List Int), ms.length = ns.length → pairsEq (aEq (n + 1) σ) (ms.map .int) (ns.map .int) = some (ms == ns)
  | [], [], _ => rfl
  | [], _ :: _, h => by simp at h
  | _ :: _, [], h => by simp at h
  | a :: ms, b :: ns, h => by
    have ih := pairs_ints (n := n) (σ := σ) ms ns (by simpa using h)
    have e : aEq (n + 1) σ (.int a) (.int b) = some (a == b) := rfl
    simp only [List.map_cons, pairsEq, ih, e, Option.bind_some, Option.map_some, List.cons_beq_cons]
theorem aEq_ints {σ : Store} {i j : Nat} {ms ns : List Int} (h1 : σ[i]? = some (.list (ms.map .int))) (h2 : σ[j]? = some (.list (ns.map .int))) : aEq 6 σ (.ref i) (.ref j) = some (ms == ns) := by
  unfold aEq
  simp only [h1, h2, List.length_map]
  split
  · rename_i h; exact pairs_ints ms ns h
  · rename_i h
    have : ms ≠ ns := fun e => h (by rw [e])
    have e : (ms == ns) = false := by simpa using this
    rw [e]
theorem wC_neL {σ : Store} {i j : Nat} {ms ns : List Int} {Q} (h1 : σ[i]? = some (.list (ms.map .int))) (h2 : σ[j]? = some (.list (ns.map .int))) : wC cNe (.ref i) (.ref j) σ Q ↔ Q (!(ms == ns)) := by
  constructor
  · rintro ⟨v, e, q⟩; simp only [cNe, aEq_ints h1 h2, Option.map_some, Option.some.injEq] at e; subst e; exact q
  · intro q; exact ⟨_, by simp only [cNe, aEq_ints h1 h2, Option.map_some], q⟩
theorem wF_len {σ : Store} {i : Nat} {vs : List AV} {Q} (h : σ[i]? = some (.list vs)) : wF bLen [.ref i] σ Q ↔ Q (.int vs.length) σ := wF_eq (by simp [bLen, h])
theorem w2_item {σ : Store} {i : Nat} {vs : List AV} {k : Int} {v : AV} {Q} (h : σ[i]? = some (.list vs)) (h0 : 0 ≤ k) (e : vs[k.toNat]? = some v) : w2 getI (.ref i) (.int k) σ Q ↔ Q v σ := by
  have e' : getI (.ref i) (.int k) σ = some (v, σ) := by simp [getI, h, h0, e]
  constructor
  · rintro ⟨v', s, e1, q⟩; rw [e'] at e1; cases e1; exact q
  · intro q; exact ⟨_, _, e', q⟩
theorem compItems_ints {x : Str} {t : AM Bool} {m : AM AV} {ρ : AEnv} {σ : Store} (p : Int → Bool) (f : Int → AV) : ∀ (ns : List Int),
    (∀ n ∈ ns, wA t (upd ρ x (.int n)) σ fun b σ1 => b = p n ∧ (p n = true → wA m (upd ρ x (.int n)) σ1 fun u _ => u = f n ∧ (f n).closed σ.length = true)) →
    compItems x t m ρ σ (ns.map .int) = some ((ns.filter p).map f)
  | [], _ => rfl
  | v :: vs, h => by
    obtain ⟨b, σ1, e1, rfl, e2⟩ := h v (.head _)
    have ih := compItems_ints p f vs fun u hu => h u (.tail _ hu)
    rw [List.map_cons, compItems, e1]
    cases hp : p v with
    | false => simp [hp, ih]
    | true =>
      obtain ⟨u, σ2, e3, rfl, e4⟩ := e2 hp
      simp [hp, e3, e4, ih]
theorem wA_compI {x src t m ρ σ} {Q : AV → Store → Prop} (p : Int → Bool) (f : Int → AV) (h : wA src ρ σ fun v σ1 => ∃ ns : List Int, itemsOf v σ1 = some (ns.map .int) ∧
    (∀ n ∈ ns, wA t (upd ρ x (.int n)) σ1 fun b σ2 => b = p n ∧ (p n = true → wA m (upd ρ x (.int n)) σ2 fun u _ => u = f n ∧ (f n).closed σ1.length = true)) ∧ Q (.ref σ1.length) (σ1 ++ [.list ((ns.filter p).map f)])) :
    wA (aComp x src t m) ρ σ Q := by
  rw [wA_comp]
  refine h.mono fun v σ1 h => ?_
  obtain ⟨ns, e1, e2, q⟩ := h
  exact ⟨_, _, e1, compItems_ints p f ns e2, q⟩
theorem wA_compM {x src m ρ σ} {Q : AV → Store → Prop} (f : Int → AV) (h : wA src ρ σ fun v σ1 => ∃ ns : List Int, itemsOf v σ1 = some (ns.map .int) ∧
    (∀ n ∈ ns, wA m (upd ρ x (.int n)) σ1 fun u _ => u = f n ∧ (f n).closed σ1.length = true) ∧ Q (.ref σ1.length) (σ1 ++ [.list (ns.map f)])) :
    wA (aComp x src (bAnd []) m) ρ σ Q := by
  refine wA_compI (fun _ => true) f (h.mono fun v σ1 h => ?_)
  obtain ⟨ns, e1, e2, q⟩ := h
  refine ⟨ns, e1, fun n hn => ?_, ?_⟩
  · rw [wA_band_nil]; exact ⟨rfl, fun _ => e2 n hn⟩
  · rw [List.filter_eq_self.mpr (fun _ _ => rfl)]; exact q
noncomputable def rgI (lo hi : Int) : List Int := (List.range (hi - lo).toNat).map fun k : Nat => lo + (k : Int)
theorem rngL_eq (lo hi : Int) : rngL lo hi = (rgI lo hi).map .int := by simp [rngL, rgI]
theorem rgI_mem {lo hi n : Int} (h : n ∈ rgI lo hi) : lo ≤ n ∧ n < hi := by
  simp only [rgI, List.mem_map, List.mem_range] at h
  obtain ⟨k, hk, rfl⟩ := h
  omega
theorem rgI_length (lo hi : Int) : (rgI lo hi).length = (hi - lo).toNat := by simp [rgI]
theorem items_rng {lo hi : Int} {σ : Store} (h : -1000000 ≤ lo ∧ lo ≤ 1000000 ∧ hi ≤ 1000000 ∧ -1000000 ≤ hi ∧ hi - lo ≤ 1000000) : itemsOf (.rng lo hi) σ = some ((rgI lo hi).map .int) := by
  have : rangeOk lo hi ∧ hi - lo ≤ 1000000 := ⟨by unfold rangeOk; omega, by omega⟩
  simp only [itemsOf, if_pos this, rngL_eq]
theorem items_list {i : Nat} {vs : List AV} {σ : Store} (h : σ[i]? = some (.list vs)) : itemsOf (.ref i) σ = some vs := by simp [itemsOf, h]
theorem bools_map (bs : List Bool) : bools (bs.map .bool) = some bs := by
  induction bs with
  | nil => rfl
  | cons a r ih => simp [bools, ih]
theorem wF_all {σ : Store} {i : Nat} {bs : List Bool} {Q} (h : σ[i]? = some (.list (bs.map .bool))) : wF bAll [.ref i] σ Q ↔ Q (.bool (bs.all id)) σ := wF_eq (by simp [bAll, h, bools_map])
theorem wF_sum {σ : Store} {i : Nat} {ns : List Int} {Q} (h : σ[i]? = some (.list (ns.map .int))) (hb : ∀ n ∈ ns, 0 ≤ n ∧ n < 1000000) : wF bSum [.ref i] σ Q ↔ Q (.int ns.sum) σ := by
  have e : (ns.all fun n => decide (0 ≤ n ∧ n < 1000000)) = true := List.all_eq_true.mpr fun n hn => decide_eq_true (hb n hn)
  exact wF_eq (by simp only [bSum, h, intsOf_map, Option.bind_some, if_pos e])
theorem wF_range1 {b : Int} {σ Q} : wF bRange [.int b] σ Q ↔ Q (.rng 0 b) σ := wF_eq rfl
theorem wF_range1_e {b : Int} {σ Q} : (wF bRange [.int b] σ Q) = (Q (.rng 0 b) σ) := propext (wF_range1)
theorem wF_range2 {a b : Int} {σ Q} : wF bRange [.int a, .int b] σ Q ↔ Q (.rng a b) σ := wF_eq rfl
theorem wF_listR {lo hi : Int} {σ : Store} {Q} (h : -1000000 ≤ lo ∧ lo ≤ 1000000 ∧ hi ≤ 1000000 ∧ -1000000 ≤ hi ∧ hi - lo ≤ 1000000) : wF bList [.rng lo hi] σ Q ↔ Q (.ref σ.length) (σ ++ [.list ((rgI lo hi).map .int)]) := by
  have : rangeOk lo hi ∧ hi - lo ≤ 1000000 := ⟨by unfold rangeOk; omega, by omega⟩
  exact wF_eq (by simp only [bList, if_pos this, rngL_eq])
theorem wF_listL {σ : Store} {i : Nat} {vs : List AV} {Q} (h : σ[i]? = some (.list vs)) : wF bList [.ref i] σ Q ↔ Q (.ref σ.length) (σ ++ [.list vs]) := wF_eq (by simp [bList, h])
theorem wS_cut {a b : AS} {ρ σ} {Q : AF → AEnv → Store → Prop} (I : AEnv → Store → Prop) (h : wS a ρ σ fun f ρ' σ' => f = .next ∧ I ρ' σ') (k : ∀ ρ' σ', I ρ' σ' → wS b ρ' σ' Q) : wS (sSeq a b) ρ σ Q := by
  rw [wS_seq]
  refine h.mono fun f ρ' σ' h => ?_
  obtain ⟨rfl, h⟩ := h
  exact k _ _ h
theorem wS_if_of {t : AM Bool} {a b : AS} {ρ σ} {Q : AF → AEnv → Store → Prop} (P : Bool → Store → Prop) (ht : wA t ρ σ P) (ha : ∀ σ1, P true σ1 → wS a ρ σ1 Q) (hb : ∀ σ1, P false σ1 → wS b ρ σ1 Q) : wS (sIf t a b) ρ σ Q := by
  rw [wS_if]
  refine ht.mono fun v σ1 h => ?_
  cases v with
  | true => exact ha _ h
  | false => exact hb _ h
theorem wS_assignC {y x src t m ρ σ Q} : wS (sAssignC y x src t m) ρ σ Q ↔ wA (aComp x src t m) ρ σ fun v σ1 => Q .next (upd ρ y v) σ1 := wS_assign
theorem w2_mulL {σ : Store} {i : Nat} {vs : List AV} {b : Int} {Q} (h : σ[i]? = some (.list vs)) (hb : 0 ≤ b ∧ (vs.length : Int) * b ≤ 1000000 ∧ b < 1000000) : w2 opMul (.ref i) (.int b) σ Q ↔ Q (.ref σ.length) (σ ++ [.list (List.replicate b.toNat vs).flatten]) := by
  have e' : opMul (.ref i) (.int b) σ = some (.ref σ.length, σ ++ [.list (List.replicate b.toNat vs).flatten]) := by simp only [opMul, h]; rw [if_pos hb]
  constructor
  · rintro ⟨v', s, e1, q⟩; rw [e'] at e1; cases e1; exact q
  · intro q; exact ⟨_, _, e', q⟩
theorem w2_addL {σ : Store} {i j : Nat} {vs ws : List AV} {Q} (h : σ[i]? = some (.list vs)) (h' : σ[j]? = some (.list ws)) (hb : vs.length + ws.length ≤ 1000000) : w2 opAdd (.ref i) (.ref j) σ Q ↔ Q (.ref σ.length) (σ ++ [.list (vs ++ ws)]) := by
  have e' : opAdd (.ref i) (.ref j) σ = some (.ref σ.length, σ ++ [.list (vs ++ ws)]) := by simp only [opAdd, h, h']; rw [if_pos hb]
  constructor
  · rintro ⟨v', s, e1, q⟩; rw [e'] at e1; cases e1; exact q
  · intro q; exact ⟨_, _, e', q⟩
theorem upd_same {ρ : AEnv} {x : Str} {v : AV} : upd ρ x v x = some v := by simp [upd]
noncomputable def Ext (σ σ' : Store) : Prop := ∃ τ, σ' = σ ++ τ
theorem ext_refl {σ : Store} : Ext σ σ := ⟨[], by simp⟩
theorem ext_refl_e {σ : Store} : (Ext σ σ) = True := eq_true (ext_refl)
theorem ext_app {σ σ' τ : Store} (h : Ext σ σ') : Ext σ (σ' ++ τ) := by obtain ⟨τ', rfl⟩ := h; exact ⟨τ' ++ τ, by simp⟩
theorem ext_app_e {σ σ' τ : Store} (h : Ext σ σ') : (Ext σ (σ' ++ τ)) = True := eq_true (ext_app h)
theorem ext_self {σ τ : Store} : Ext σ (σ ++ τ) := ⟨τ, rfl⟩
theorem Ext.trans {a b c : Store} (x : Ext a b) (y : Ext b c) : Ext a c := by obtain ⟨t, rfl⟩ := x; obtain ⟨u, rfl⟩ := y; exact ⟨t ++ u, by simp⟩
theorem Ext.get {σ σ' : Store} {i : Nat} {o : AO} (h : Ext σ σ') (e : σ[i]? = some o) : σ'[i]? = some o := by obtain ⟨τ, rfl⟩ := h; exact app_get e
theorem Ext.len {σ σ' : Store} (h : Ext σ σ') : σ.length ≤ σ'.length := by obtain ⟨τ, rfl⟩ := h; simp
theorem Ext.set {σ σ' : Store} {j : Nat} {o : AO} (x : Ext σ σ') (h : σ.length ≤ j) : Ext σ (σ'.set j o) := by
  obtain ⟨τ, rfl⟩ := x
  exact ⟨τ.set (j - σ.length) o, by rw [List.set_append_right _ _ h]⟩
noncomputable def kindV : List Int → Int → Nat
  | [], _ => 0
  | n :: ns, r => if n ≤ r then kindV ns (r - n) + 1 else 0
noncomputable def firstV (ns : List Int) (k : Nat) : Int := (ns.take k).sum
noncomputable def houseV (ns : List Int) : Bool := decide (1 ≤ ns.length) && decide (ns.length ≤ 6) && ns.all fun n => decide (0 ≤ n) && decide (n ≤ 9)
noncomputable def kindsO : List Int → Nat → List Int
  | [], _ => []
  | n :: r, o => List.replicate n.toNat (o : Int) ++ kindsO r (o + 1)
theorem kindsO_snoc (a : Int) : ∀ (l : List Int) (o : Nat), kindsO (l ++ [a]) o = kindsO l o ++ List.replicate a.toNat ((o + l.length : Nat) : Int)
  | [], o => by simp [kindsO]
  | n :: r, o => by
    have := kindsO_snoc a r (o + 1)
    simp only [List.cons_append, kindsO, this, List.length_cons, List.append_assoc]
    rw [show o + 1 + r.length = o + (r.length + 1) by omega]
theorem kindsO_len : ∀ (l : List Int) (o : Nat), (∀ n ∈ l, 0 ≤ n) → ((kindsO l o).length : Int) = l.sum
  | [], o, _ => rfl
  | n :: r, o, h => by
    have ih := kindsO_len r (o + 1) fun m hm => h m (.tail _ hm)
    have := h n (.head _)
    simp only [kindsO, List.length_append, List.length_replicate, List.sum_cons]
    push_cast
    omega
theorem kindsO_get : ∀ (l : List Int) (o : Nat) (r : Nat), (∀ n ∈ l, 0 ≤ n) → (r : Int) < l.sum → (kindsO l o)[r]? = some ((o + kindV l r : Nat) : Int)
  | [], o, r, _, h => by simp at h; omega
  | n :: l, o, r, hn, h => by
    have h0 := hn n (.head _)
    simp only [kindsO, kindV]
    by_cases hr : n ≤ r
    · have ih := kindsO_get l (o + 1) (r - n.toNat) (fun m hm => hn m (.tail _ hm)) (by simp at h; omega)
      rw [List.getElem?_append_right (by simp; omega), List.length_replicate, ih, if_pos hr]
      have e : ((r - n.toNat : Nat) : Int) = r - n := by omega
      rw [e]
      congr 2
      omega
    · rw [List.getElem?_append_left (by simp; omega), if_neg hr]
      rw [List.getElem?_replicate, if_pos (by omega)]
      simp
theorem sum_take_nonneg (l : List Int) (k : Nat) (h : ∀ n ∈ l, 0 ≤ n) : 0 ≤ (l.take k).sum := by
  have key : ∀ l : List Int, (∀ n ∈ l, 0 ≤ n) → 0 ≤ l.sum := by
    intro l
    induction l with
    | nil => simp
    | cons a r ih => intro hh; have := hh a (.head _); have := ih fun n hn => hh n (.tail _ hn); simp; omega
  exact key _ fun n hn => h n (List.mem_of_mem_take hn)
theorem kindV_iff : ∀ (l : List Int) (k : Nat) (a r : Int), (∀ n ∈ l, 0 ≤ n) → l[k]? = some a → 0 ≤ r → r < l.sum → (kindV l r = k ↔ firstV l k ≤ r ∧ r < firstV l k + a)
  | [], k, a, r, _, h, _, _ => by simp at h
  | n :: l, 0, a, r, hn, h, h0, hs => by
    simp at h; subst h
    simp only [kindV, firstV, List.take_zero, List.sum_nil]
    by_cases hr : n ≤ r
    · rw [if_pos hr]; constructor
      · intro h; omega
      · intro h; omega
    · rw [if_neg hr]; constructor
      · intro _; omega
      · intro _; rfl
  | n :: l, k + 1, a, r, hn, h, h0, hs => by
    have h' : l[k]? = some a := by simpa using h
    have hf := sum_take_nonneg l k fun m hm => hn m (.tail _ hm)
    simp only [kindV]
    have e : firstV (n :: l) (k + 1) = n + firstV l k := by simp [firstV]
    rw [e]
    by_cases hr : n ≤ r
    · have ih := kindV_iff l k a (r - n) (fun m hm => hn m (.tail _ hm)) h' (by omega) (by simp at hs; omega)
      rw [if_pos hr]
      constructor
      · intro h; have := ih.1 (by omega); omega
      · intro h; have := ih.2 (by omega); omega
    · rw [if_neg hr]
      unfold firstV
      constructor
      · intro h; omega
      · intro h; omega
theorem rgI_app {a b c : Int} (h1 : a ≤ b) (h2 : b ≤ c) : rgI a c = rgI a b ++ rgI b c := by
  have e : (c - a).toNat = (b - a).toNat + (c - b).toNat := by omega
  unfold rgI
  rw [e, List.range_add, List.map_append, List.map_map]
  congr 1
  refine List.map_congr_left fun k _ => ?_
  simp only [Function.comp]
  omega
theorem house_iff {ns : List Int} : houseV ns = true ↔ (1 ≤ ns.length ∧ ns.length ≤ 6) ∧ ∀ n ∈ ns, 0 ≤ n ∧ n ≤ 9 := by
  simp [houseV, and_assoc]
theorem first_le {l : List Int} {k : Nat} {a : Int} (hn : ∀ n ∈ l, 0 ≤ n) (h : l[k]? = some a) : 0 ≤ firstV l k ∧ 0 ≤ a ∧ firstV l k + a ≤ l.sum := by
  refine ⟨sum_take_nonneg l k hn, hn a (List.mem_of_getElem? h), ?_⟩
  have hk : k < l.length := (List.getElem?_eq_some_iff.mp h).1
  have e : l = l.take k ++ a :: l.drop (k + 1) := by
    have : l[k] = a := by simpa [hk] using h
    rw [← this, List.getElem_cons_drop, List.take_append_drop]
  have e2 : l.sum = firstV l k + (a + (l.drop (k + 1)).sum) := by
    conv => lhs; rw [e]
    simp [firstV]
  have : 0 ≤ (l.drop (k + 1)).sum := by
    have := sum_take_nonneg (l.drop (k + 1)) (l.drop (k + 1)).length fun n hn' => hn n (List.mem_of_mem_drop hn')
    rwa [List.take_length] at this
  omega
theorem sum_le {l : List Int} (h : ∀ n ∈ l, 0 ≤ n ∧ n ≤ 9) : 0 ≤ l.sum ∧ l.sum ≤ 9 * l.length := by
  induction l with
  | nil => simp
  | cons a r ih => have := h a (.head _); have := ih fun n hn => h n (.tail _ hn); simp only [List.sum_cons, List.length_cons]; push_cast; omega
theorem set_get_ne {σ : Store} {a b : Nat} {o o' : AO} (h : σ[b]? = some o) (hne : a ≠ b) : (σ.set a o')[b]? = some o := by
  rw [List.getElem?_set_ne hne]; exact h
end Inn
end
section
set_option maxRecDepth 10000
set_option linter.unusedVariables false
set_option linter.unusedSimpArgs false
namespace Inn
open PySem PySem.W
theorem wA_dict0 {ρ σ Q} : wA aDict0 ρ σ Q ↔ Q (.ref σ.length) (σ ++ [.dict []]) := by
  constructor
  · rintro ⟨v, σ', e, q⟩; cases e; exact q
  · intro q; exact ⟨_, _, rfl, q⟩
theorem wA_dict0_e {ρ σ Q} : (wA aDict0 ρ σ Q) = (Q (.ref σ.length) (σ ++ [.dict []])) := propext (wA_dict0)
theorem wA_values {x : Str} {ρ : AEnv} {σ : Store} {Q} {i : Nat} {kvs} (h : ρ x = some (.ref i)) (e : σ[i]? = some (.dict kvs)) : wA (aValues x) ρ σ Q ↔ Q (.vals i) σ := by
  have e' : aValues x ρ σ = some (.vals i, σ) := by simp [aValues, h, e]
  constructor
  · rintro ⟨v, s, e1, q⟩; rw [e'] at e1; cases e1; exact q
  · intro q; exact ⟨_, _, e', q⟩
theorem w2_get {σ : Store} {i : Nat} {kvs : List (Int × AV)} {k : Int} {v : AV} {Q} (h : σ[i]? = some (.dict kvs)) (e : look kvs k = some v) : w2 getI (.ref i) (.int k) σ Q ↔ Q v σ := by
  have e' : getI (.ref i) (.int k) σ = some (v, σ) := by simp [getI, h, e]
  constructor
  · rintro ⟨v', s, e1, q⟩; rw [e'] at e1; cases e1; exact q
  · intro q; exact ⟨_, _, e', q⟩
theorem w2_tup {vs : List AV} {k : Int} {v : AV} {σ Q} (h0 : 0 ≤ k ∧ k < 1000000) (e : vs[k.toNat]? = some v) : w2 getI (.tup vs) (.int k) σ Q ↔ Q v σ := by
  have e' : getI (.tup vs) (.int k) σ = some (v, σ) := by simp only [getI, if_pos h0, e, Option.map_some]
  constructor
  · rintro ⟨v', s, e1, q⟩; rw [e'] at e1; cases e1; exact q
  · intro q; exact ⟨_, _, e', q⟩
theorem w2_tup0 {a b c : AV} {σ Q} : w2 getI (.tup [a, b, c]) (.int 0) σ Q ↔ Q a σ := w2_tup (by decide) rfl
theorem w2_tup0_e {a b c : AV} {σ Q} : (w2 getI (.tup [a, b, c]) (.int 0) σ Q) = (Q a σ) := propext (w2_tup0)
theorem w2_tup1 {a b c : AV} {σ Q} : w2 getI (.tup [a, b, c]) (.int 1) σ Q ↔ Q b σ := w2_tup (by decide) rfl
theorem w2_tup1_e {a b c : AV} {σ Q} : (w2 getI (.tup [a, b, c]) (.int 1) σ Q) = (Q b σ) := propext (w2_tup1)
theorem w2_tup2 {a b c : AV} {σ Q} : w2 getI (.tup [a, b, c]) (.int 2) σ Q ↔ Q c σ := w2_tup (by decide) rfl
theorem w2_tup2_e {a b c : AV} {σ Q} : (w2 getI (.tup [a, b, c]) (.int 2) σ Q) = (Q c σ) := propext (w2_tup2)
theorem w2_pair0 {a b : AV} {σ Q} : w2 getI (.tup [a, b]) (.int 0) σ Q ↔ Q a σ := w2_tup (by decide) rfl
theorem w2_pair1 {a b : AV} {σ Q} : w2 getI (.tup [a, b]) (.int 1) σ Q ↔ Q b σ := w2_tup (by decide) rfl
theorem wF_min {a b : Int} {σ Q} : wF bMin [.int a, .int b] σ Q ↔ Q (.int (if b < a then b else a)) σ := wF_eq rfl
theorem wF_listD {σ : Store} {i : Nat} {kvs : List (Int × AV)} {Q} (h : σ[i]? = some (.dict kvs)) : wF bList [.ref i] σ Q ↔ Q (.ref σ.length) (σ ++ [.list ((kvs.map (·.1)).map .int)]) := wF_eq (by simp [bList, h])
theorem wF_listV {σ : Store} {i : Nat} {kvs : List (Int × AV)} {Q} (h : σ[i]? = some (.dict kvs)) : wF bList [.vals i] σ Q ↔ Q (.ref σ.length) (σ ++ [.list (kvs.map (·.2))]) := wF_eq (by simp [bList, h])
theorem wF_listT {vs : List AV} {σ : Store} {Q} (h : vs.length ≤ 1000000) : wF bList [.tup vs] σ Q ↔ Q (.ref σ.length) (σ ++ [.list vs]) := wF_eq (by simp [bList, h])
theorem wF_dictD {σ : Store} {i : Nat} {kvs : List (Int × AV)} {Q} (h : σ[i]? = some (.dict kvs)) : wF bDict [.ref i] σ Q ↔ Q (.ref σ.length) (σ ++ [.dict kvs]) := wF_eq (by simp [bDict, h])
theorem wF_sortedL {σ : Store} {i : Nat} {ns : List Int} {Q} (h : σ[i]? = some (.list (ns.map .int))) (hl : ns.length < 64) : wF bSorted [.ref i] σ Q ↔ Q (.ref σ.length) (σ ++ [.list ((sortI ns).map .int)]) := wF_eq (by simp [bSorted, h, intsOf_map, hl])
theorem wF_sortedD {σ : Store} {i : Nat} {kvs : List (Int × AV)} {Q} (h : σ[i]? = some (.dict kvs)) (hl : kvs.length < 64) : wF bSorted [.ref i] σ Q ↔ Q (.ref σ.length) (σ ++ [.list ((sortI (kvs.map (·.1))).map .int)]) := wF_eq (by simp [bSorted, h, hl])
theorem wC_notIn {σ : Store} {i : Nat} {ns : List Int} {n : Int} {Q} (h : σ[i]? = some (.list (ns.map .int))) : wC cNotIn (.int n) (.ref i) σ Q ↔ Q (!(ns.any (· == n))) := by
  have e' : cNotIn (.int n) (.ref i) σ = some (!(ns.any (· == n))) := by simp only [cNotIn, cIn, h, intsOf_map, Option.map_some]
  constructor
  · rintro ⟨v', e1, q⟩; rw [e'] at e1; cases e1; exact q
  · intro q; exact ⟨_, e', q⟩
theorem wC_notInD {σ : Store} {i : Nat} {kvs : List (Int × AV)} {n : Int} {Q} (h : σ[i]? = some (.dict kvs)) : wC cNotIn (.int n) (.ref i) σ Q ↔ Q (!(look kvs n).isSome) := by
  have e' : cNotIn (.int n) (.ref i) σ = some (!(look kvs n).isSome) := by simp only [cNotIn, cIn, h, Option.map_some]
  constructor
  · rintro ⟨v', e1, q⟩; rw [e'] at e1; cases e1; exact q
  · intro q; exact ⟨_, e', q⟩
theorem wC_is0 {σ Q} : wC cIs .none .none σ Q ↔ Q true := by simp [wC, cIs, isN]
theorem wC_is0_e {σ Q} : (wC cIs .none .none σ Q) = (Q true) := propext (wC_is0)
theorem wC_is2 {i σ Q} : wC cIs (.tup i) .none σ Q ↔ Q false := by simp [wC, cIs, isN]
theorem wC_is2_e {i σ Q} : (wC cIs (.tup i) .none σ Q) = (Q false) := propext (wC_is2)
theorem wC_isnt0 {σ Q} : wC cIsNot .none .none σ Q ↔ Q false := by simp [wC, cIsNot, isN]
theorem wC_isnt0_e {σ Q} : (wC cIsNot .none .none σ Q) = (Q false) := propext (wC_isnt0)
theorem wC_isnt1 {i σ Q} : wC cIsNot (.int i) .none σ Q ↔ Q true := by simp [wC, cIsNot, isN]
theorem wC_isnt1_e {i σ Q} : (wC cIsNot (.int i) .none σ Q) = (Q true) := propext (wC_isnt1)
theorem wS_setItemD {n₀ x mi m ρ σ} {Q : AF → AEnv → Store → Prop} (h : wA m ρ σ fun v σ1 => ∃ a, ρ x = some (.ref a) ∧ wA mi ρ σ1 fun u σ2 => ∃ kvs, ∃ j : Int, σ1[a]? = some (.dict kvs) ∧ u = .int j ∧ n₀ ≤ a ∧ kvs.length < 1000000 ∧ Q .next ρ (σ2.set a (.dict (put kvs j v)))) :
    wS (sSetItem n₀ x mi m) ρ σ Q := by
  obtain ⟨v, σ1, e1, a, e2, u, σ2, e3, vs, j, e4, rfl, h1, h2, q⟩ := h
  refine ⟨_, _, _, ?_, q⟩
  simp only [sSetItem, e1, e2, e3, e4, Option.bind_some]
  rw [if_pos ⟨h1, h2⟩]
theorem wS_forI {x src b ρ σ} {Q : AF → AEnv → Store → Prop} (i : Nat) (ns : List Int) (I : List Int → AEnv → Store → Prop) (hsrc : wA src ρ σ fun v σ1 => v = .ref i ∧ I [] ρ σ1) (hk : ∀ d ρ σ, I d ρ σ → σ[i]? = some (.list (ns.map .int)))
    (hs : ∀ d n r ρ σ, ns = d ++ n :: r → I d ρ σ → wS b (upd ρ x (.int n)) σ fun f ρ' σ' => match f with | .next => I (d ++ [n]) ρ' σ' | .ret u => Q (.ret u) ρ' σ') (hq : ∀ ρ σ, I ns ρ σ → Q .next ρ σ) : wS (sFor x src b) ρ σ Q := by
  have key : ∀ (r d : List Int) ρ σ, ns = d ++ r → I d ρ σ → wS (forL i (ns.map .int) x b (r.map .int)) ρ σ Q := by
    intro r
    induction r with
    | nil =>
      intro d ρ σ e hI
      rw [List.append_nil] at e; subst e
      exact ⟨_, _, _, by simp only [List.map_nil, forL, if_pos (hk _ _ _ hI)], hq _ _ hI⟩
    | cons n r ih =>
      intro d ρ σ e hI
      obtain ⟨f, ρ', σ', e1, q⟩ := hs d n r ρ σ e hI
      cases f with
      | next =>
        obtain ⟨f2, ρ2, σ2, e2, q2⟩ := ih (d ++ [n]) ρ' σ' (by simp [e]) q
        exact ⟨f2, ρ2, σ2, by simp only [List.map_cons, forL, if_pos (hk _ _ _ hI), e1, Option.bind_some, e2], q2⟩
      | ret u => exact ⟨_, _, _, by simp only [List.map_cons, forL, if_pos (hk _ _ _ hI), e1, Option.bind_some], q⟩
  rw [wS_for]
  refine hsrc.mono fun v σ1 h => ?_
  obtain ⟨rfl, h⟩ := h
  obtain ⟨f, ρ', σ', e, q⟩ := key ns [] ρ σ1 rfl h
  exact ⟨f, ρ', σ', by simp only [hk _ _ _ h]; exact e, q⟩
theorem items_dict {i : Nat} {kvs : List (Int × AV)} {σ : Store} (h : σ[i]? = some (.dict kvs)) : itemsOf (.ref i) σ = some ((kvs.map (·.1)).map .int) := by simp [itemsOf, h]
theorem exp_tup3 {σ : Store} {a b c : Int} {σ' : Store} : exportV σ (.tup [.int a, .int b, .int c]) σ' = some (.tup [.int a, .int b, .int c], σ) := by simp [exportV, AV.closed, closedL]
theorem exp_tup2 {σ : Store} {a b : Int} {σ' : Store} : exportV σ (.tup [.int a, .int b]) σ' = some (.tup [.int a, .int b], σ) := by simp [exportV, AV.closed, closedL]
theorem look_cons {k n : Int} {v : AV} {r} : look ((k, v) :: r) n = if k = n then some v else look r n := by
  unfold look
  rw [List.find?_cons]
  by_cases h : k = n <;> simp [h]
theorem put_fresh {kvs : List (Int × AV)} {k : Int} {v : AV} (h : k ∉ kvs.map (·.1)) : put kvs k v = kvs ++ [(k, v)] := by
  unfold put
  rw [if_neg]
  simp only [List.any_eq_true, not_exists, not_and, decide_eq_true_eq]
  intro p hp e
  exact h (List.mem_map.mpr ⟨p, hp, e⟩)
theorem fold_put : ∀ (l acc : List (Int × AV)), ((acc ++ l).map (·.1)).Nodup → l.foldl (fun a p => put a p.1 p.2) acc = acc ++ l
  | [], acc, _ => by simp
  | (k, v) :: l, acc, h => by
    rw [List.foldl_cons]
    have hk : k ∉ acc.map (·.1) := by
      simp only [List.map_append, List.map_cons] at h
      have := (List.nodup_append.mp h).2.2
      intro hm
      exact this _ hm _ (.head _) rfl
    rw [put_fresh hk, fold_put l (acc ++ [(k, v)]) (by simpa using h)]
    simp
theorem put_keys {kvs : List (Int × AV)} {k : Int} {v : AV} (h : (kvs.map (·.1)).Nodup) : ((put kvs k v).map (·.1)).Nodup := by
  unfold put
  split
  · have : (kvs.map fun kv => if kv.1 = k then (kv.1, v) else kv).map (·.1) = kvs.map (·.1) := by
      rw [List.map_map]
      refine List.map_congr_left fun p _ => ?_
      simp only [Function.comp]; split <;> rfl
    rw [this]; exact h
  · rename_i hn
    rw [List.map_append, List.nodup_append]
    refine ⟨h, by simp, fun a ha b hb => ?_⟩
    simp only [List.map_cons, List.map_nil, List.mem_singleton] at hb
    subst hb
    intro e; subst e
    obtain ⟨p, hp, rfl⟩ := List.mem_map.mp ha
    exact hn (List.any_eq_true.mpr ⟨p, hp, by simp⟩)
end Inn
end
section
set_option maxRecDepth 10000
set_option linter.unusedVariables false
set_option linter.unusedSimpArgs false
namespace Inn
open PySem PySem.W
noncomputable def atL (l : List Int) (k : Int) : Nat := (l.filter fun x => decide (k ≤ x)).length
theorem atL_map (f : Int → Int) (l : List Int) (k : Int) : atL (l.map f) k = (l.filter fun x => decide (k ≤ f x)).length := by
  unfold atL
  rw [List.filter_map, List.length_map]; rfl
noncomputable def getW (ws : List (Int × Int)) (n : Int) : Int := ((ws.find? fun p => decide (p.1 = n)).map (·.2)).getD 0
noncomputable def inD (ws : List (Int × Int)) : List (Int × AV) := ws.map fun p => (p.1, .int p.2)
theorem inD_keys (ws : List (Int × Int)) : (inD ws).map (·.1) = ws.map (·.1) := by simp [inD]
theorem inD_len (ws : List (Int × Int)) : (inD ws).length = ws.length := by simp [inD]
theorem inD_vals (ws : List (Int × Int)) : (inD ws).map (·.2) = (ws.map (·.2)).map .int := by simp [inD]
theorem inD_look : ∀ {ws : List (Int × Int)} {n : Int}, n ∈ ws.map (·.1) → look (inD ws) n = some (.int (getW ws n))
  | [], n, h => by simp at h
  | (k, s) :: r, n, h => by
    have e : inD ((k, s) :: r) = (k, .int s) :: inD r := rfl
    rw [e, look_cons]
    by_cases hk : k = n
    · rw [if_pos hk]; simp [getW, hk]
    · rw [if_neg hk, inD_look (by simpa [Ne.symm hk] using h)]
      simp [getW, hk]
theorem inD_miss : ∀ {ws : List (Int × Int)} {n : Int}, n ∉ ws.map (·.1) → look (inD ws) n = none
  | [], n, h => rfl
  | (k, s) :: r, n, h => by
    have e : inD ((k, s) :: r) = (k, .int s) :: inD r := rfl
    simp only [List.map_cons, List.mem_cons, not_or] at h
    rw [e, look_cons, if_neg (fun q => h.1 q.symm), inD_miss h.2]
theorem getW_self {ws : List (Int × Int)} (hn : (ws.map (·.1)).Nodup) : ∀ p ∈ ws, getW ws p.1 = p.2 := by
  induction ws with
  | nil => intro p hp; simp at hp
  | cons q r ih =>
    intro p hp
    simp only [List.map_cons, List.nodup_cons] at hn
    rcases List.mem_cons.mp hp with rfl | hp
    · simp [getW]
    · have hne : q.1 ≠ p.1 := fun e => hn.1 (e ▸ List.mem_map.mpr ⟨p, hp, rfl⟩)
      have := ih hn.2 p hp
      simp only [getW, List.find?_cons, hne, decide_false]
      exact this
theorem atL_wants {ws : List (Int × Int)} (hn : (ws.map (·.1)).Nodup) (k : Int) : ((ws.map (·.1)).filter fun n => decide (k ≤ getW ws n)).length = atL (ws.map (·.2)) k := by
  unfold atL
  rw [List.filter_map, List.filter_map, List.length_map, List.length_map]
  congr 1
  refine List.filter_congr fun p hp => ?_
  simp only [Function.comp]
  rw [getW_self hn p hp]
theorem find_range_some {n j : Nat} {p : Nat → Bool} (h : ∀ k, k < j → p k = false) (hj : p j = true) (hlt : j < n) : (List.range n).find? p = some j := by
  rw [List.find?_range_eq_some]
  exact ⟨hj, by simpa using hlt, fun k hk => by simpa using h k hk⟩
theorem find_range_none {n : Nat} {p : Nat → Bool} (h : ∀ k, k < n → p k = false) : (List.range n).find? p = none := by
  rw [List.find?_eq_none]
  intro k hk
  simpa using h k (by simpa using hk)
theorem closed_inD (n : Nat) : ∀ ws, closedK n (inD ws) = true
  | [] => rfl
  | p :: r => by
    show closedK n ((p.1, .int p.2) :: inD r) = true
    simp [closedK, AV.closed, closed_inD n r]
theorem look_self' {kvs : List (Int × AV)} (hn : (kvs.map (·.1)).Nodup) : ∀ p ∈ kvs, look kvs p.1 = some p.2 := look_self hn
theorem dictEq_self {f : AV → AV → Option Bool} {kvs : List (Int × AV)} (hn : (kvs.map (·.1)).Nodup) (hf : ∀ p ∈ kvs, f p.2 p.2 = some true) : dictEq f kvs kvs = some true := by
  have key : ∀ l : List (Int × AV), (∀ p ∈ l, p ∈ kvs) → dictEq f kvs l = some true := by
    intro l
    induction l with
    | nil => intro _; rfl
    | cons p r ih =>
      intro h
      obtain ⟨k, v⟩ := p
      have e := look_self' hn (k, v) (h _ (.head _))
      simp only [dictEq, e, hf _ (h _ (.head _)), ih fun q hq => h q (.tail _ hq), Option.bind_some, Option.map_some, Bool.and_self]
  exact key kvs fun _ h => h
theorem aEq_dict {n : Nat} {σ : Store} {i j : Nat} {kvs : List (Int × AV)} (h1 : σ[i]? = some (.dict kvs)) (h2 : σ[j]? = some (.dict kvs)) (hn : (kvs.map (·.1)).Nodup) (hf : ∀ p ∈ kvs, aEq n σ p.2 p.2 = some true) : aEq (n + 1) σ (.ref i) (.ref j) = some true := by
  unfold aEq
  simp only [h1, h2, if_true]
  exact dictEq_self hn hf
theorem aEq_list {n : Nat} {σ : Store} {i j : Nat} {ns : List Int} (h1 : σ[i]? = some (.list (ns.map .int))) (h2 : σ[j]? = some (.list (ns.map .int))) : aEq (n + 2) σ (.ref i) (.ref j) = some true := by
  unfold aEq
  simp only [h1, h2, if_true]
  rw [pairs_ints ns ns rfl]; simp
theorem wC_ne_of {a b : AV} {σ : Store} {v : Bool} {Q} (h : aEq 6 σ a b = some v) : wC cNe a b σ Q ↔ Q (!v) := by
  constructor
  · rintro ⟨v', e1, q⟩; simp only [cNe, h, Option.map_some, Option.some.injEq] at e1; subst e1; exact q
  · intro q; exact ⟨_, by simp only [cNe, h, Option.map_some], q⟩
theorem wC_eq_of {a b : AV} {σ : Store} {v : Bool} {Q} (h : aEq 6 σ a b = some v) : wC cEq a b σ Q ↔ Q v := by
  constructor
  · rintro ⟨v', e1, q⟩; simp only [cEq, h, Option.some.injEq] at e1; subst e1; exact q
  · intro q; exact ⟨_, by simp only [cEq, h], q⟩
theorem aEq_three {n : Nat} {σ : Store} {i j a b c x y z : Nat} (h1 : σ[i]? = some (.list [.ref a, .ref b, .ref c])) (h2 : σ[j]? = some (.list [.ref x, .ref y, .ref z]))
    (e1 : aEq n σ (.ref a) (.ref x) = some true) (e2 : aEq n σ (.ref b) (.ref y) = some true) (e3 : aEq n σ (.ref c) (.ref z) = some true) : aEq (n + 1) σ (.ref i) (.ref j) = some true := by
  unfold aEq
  simp only [h1, h2, List.length_cons, List.length_nil, if_true, pairsEq, e1, e2, e3, Option.bind_some, Option.map_some, Bool.and_self]
theorem aEq_pair {n : Nat} {σ : Store} {a b : Int} : aEq (n + 2) σ (.tup [.int a, .int b]) (.tup [.int a, .int b]) = some true := by
  simp [aEq, pairsEq]
theorem aEq_trip {n : Nat} {σ : Store} {a b c : Int} : aEq (n + 2) σ (.tup [.int a, .int b, .int c]) (.tup [.int a, .int b, .int c]) = some true := by
  simp [aEq, pairsEq]
end Inn
end
section
set_option maxRecDepth 10000
set_option linter.unusedVariables false
set_option linter.unusedSimpArgs false
namespace Inn
open PySem PySem.W
noncomputable def cellM (ns : List Int) (k : Int) : Int := if ns = [] then k * 7919 else (k * 7919 + k.fdiv ns.length * 104729 + ns.getD (k.fmod ns.length).toNat 0 * 48271).fmod 1000003
noncomputable def cellV (ns : List Int) (k : Int) : Int := ((cellM ns k * cellM ns k).fdiv 11 + 13 * cellM ns k).fmod 1000003
theorem fmod_lt (a : Int) {b : Int} (h : 0 < b) : 0 ≤ a.fmod b ∧ a.fmod b < b := by
  rw [Int.fmod_eq_emod_of_nonneg _ (by omega)]
  exact ⟨Int.emod_nonneg _ (by omega), Int.emod_lt_of_pos _ h⟩
theorem cell_eq {σ : Store} {i : Nat} {ns : List Int} {k : Int} (h : σ[i]? = some (.list (ns.map .int))) (h0 : 0 ≤ k) (h1 : k < 1000000) (hl : ns.length ≤ 1000) : sp_law_cell [.ref i, .int k] σ = some (.int (cellV ns k), σ) := by
  refine wF_get (wF_fn rfl ?_)
  have hd := app_get (τ := [.list []]) h
  have hd2 : (σ ++ [AO.list []])[σ.length]? = some (.list (([] : List Int).map .int)) := new_get
  simp only [List.zip_cons_cons, List.zip_nil_right, List.zip_nil_left, bindE, wS_seq_e, wS_assign_e, wS_if_e, wS_nil_e, wS_ret_e, thenS, wA_bin_e, wA_int_e, wA_bool_e, wA_none_e, wA_cmp_e, wA_bcmp_e, wA_cmp2_e, wA_bcmp2_e, wA_bval_e, wA_bnot_e, wA_not_e, wA_neg_e, wA_band_nil_e, wA_band_cons_e, wA_bor_nil_e, wA_bor_cons_e, wA_vand1_e, wA_vand_e, wA_here_e, wA_there_e, str_eq_iff_e, String.reduceEq, not_false_eq_true, wA_list_e, wA_tup_e, wA_args_nil_e, wA_args_cons_e, wA_call_e, wA_sub_e, wA_isi_e, wA_upto_e, w2_add_e, w2_sub_e, w2_mod_e, w2_div_e, w2_mul_e, w2_pow_e, wC_lt_e, wC_le_e, wC_gt_e, wC_ge_e, List.length_nil, List.length_cons, List.length_map, exp_int, exp_bool, exp_none, aTruth, Option.some.injEq, exL_e, wC_neL hd hd2, wF_len hd]
  refine ⟨.inr (by decide), by omega, ?_⟩
  by_cases hn : ns = []
  · subst hn
    have hc : cellM [] k = k * 7919 := rfl
    have hs : smallI (k * 7919) := by unfold smallI; omega
    simp only [BEq.rfl, Bool.not_true, Bool.false_eq_true, if_false]
    exact ⟨.inl hs, by decide, .inl (by decide), by decide, ⟨_, rfl⟩, _, _, rfl, by rw [cellV, hc], rfl⟩
  · have hb : (!(ns == [])) = true := by simp [hn]
    have hpos : 0 < ns.length := by cases ns with | nil => exact absurd rfl hn | cons _ _ => simp
    have hm := fmod_lt k (b := ns.length) (by omega)
    have hit : (ns.map AV.int)[(k.fmod ns.length).toNat]? = some (.int (ns.getD (k.fmod ns.length).toNat 0)) := by
      have : (k.fmod ns.length).toNat < ns.length := by omega
      simp [this]
    simp only [List.zip_cons_cons, List.zip_nil_right, List.zip_nil_left, bindE, wS_seq_e, wS_assign_e, wS_if_e, wS_nil_e, wS_ret_e, thenS, wA_bin_e, wA_int_e, wA_bool_e, wA_none_e, wA_cmp_e, wA_bcmp_e, wA_cmp2_e, wA_bcmp2_e, wA_bval_e, wA_bnot_e, wA_not_e, wA_neg_e, wA_band_nil_e, wA_band_cons_e, wA_bor_nil_e, wA_bor_cons_e, wA_vand1_e, wA_vand_e, wA_here_e, wA_there_e, str_eq_iff_e, String.reduceEq, not_false_eq_true, wA_list_e, wA_tup_e, wA_args_nil_e, wA_args_cons_e, wA_call_e, wA_sub_e, wA_isi_e, wA_upto_e, w2_add_e, w2_sub_e, w2_mod_e, w2_div_e, w2_mul_e, w2_pow_e, wC_lt_e, wC_le_e, wC_gt_e, wC_ge_e, List.length_nil, List.length_cons, List.length_map, exp_int, exp_bool, exp_none, aTruth, Option.some.injEq, exL_e, hb, if_true, w2_item hd hm.1 hit]
    have hc : cellM ns k = (k * 7919 + k.fdiv ns.length * 104729 + ns.getD (k.fmod ns.length).toNat 0 * 48271).fmod 1000003 := by simp [cellM, hn]
    have hr := fmod_lt (k * 7919 + k.fdiv ns.length * 104729 + ns.getD (k.fmod ns.length).toNat 0 * 48271) (b := 1000003) (by decide)
    rw [← hc] at hr ⊢
    have hs : smallI (cellM ns k) := by unfold smallI; omega
    exact ⟨by omega, .inr (by decide), by omega, .inr (by decide), by decide, .inl hs, by decide, .inl (by decide), by decide, ⟨_, rfl⟩, _, _, rfl, by rw [cellV], rfl⟩
theorem wF_cell {σ : Store} {i : Nat} {ns : List Int} {k : Int} {Q} (h : σ[i]? = some (.list (ns.map .int))) (h0 : 0 ≤ k) (h1 : k < 1000000) (hl : ns.length ≤ 1000) : wF sp_law_cell [.ref i, .int k] σ Q ↔ Q (.int (cellV ns k)) σ := wF_eq (cell_eq h h0 h1 hl)
theorem whole_eq {σ : Store} {i : Int} : sp_law_whole [.int i] σ = some (.bool true, σ) := by
  refine wF_get (wF_fn rfl ?_)
  simp only [List.zip_cons_cons, List.zip_nil_right, List.zip_nil_left, bindE, wS_seq_e, wS_assign_e, wS_if_e, wS_nil_e, wS_ret_e, thenS, wA_bin_e, wA_int_e, wA_bool_e, wA_none_e, wA_cmp_e, wA_bcmp_e, wA_cmp2_e, wA_bcmp2_e, wA_bval_e, wA_bnot_e, wA_not_e, wA_neg_e, wA_band_nil_e, wA_band_cons_e, wA_bor_nil_e, wA_bor_cons_e, wA_vand1_e, wA_vand_e, wA_here_e, wA_there_e, str_eq_iff_e, String.reduceEq, not_false_eq_true, wA_list_e, wA_tup_e, wA_args_nil_e, wA_args_cons_e, wA_call_e, wA_sub_e, wA_isi_e, wA_upto_e, w2_add_e, w2_sub_e, w2_mod_e, w2_div_e, w2_mul_e, w2_pow_e, wC_lt_e, wC_le_e, wC_gt_e, wC_ge_e, List.length_nil, List.length_cons, List.length_map, exp_int, exp_bool, exp_none, aTruth, Option.some.injEq, exL_e, isi, if_true, String.reduceEq, if_false, Bool.not_false]
  exact ⟨⟨[], by simp⟩, _, _, rfl, rfl, rfl⟩
theorem wF_whole {σ : Store} {i : Int} {Q} : wF sp_law_whole [.int i] σ Q ↔ Q (.bool true) σ := wF_eq whole_eq
theorem wholes_eq {σ : Store} {i : Nat} {ns : List Int} (h : σ[i]? = some (.list (ns.map .int))) : sp_law_wholes [.ref i] σ = some (.bool true, σ) := by
  refine wF_get (wF_fn rfl ?_)
  have hi : isi "list" (.ref i) σ = some true := by simp [isi, h]
  simp only [List.zip_cons_cons, List.zip_nil_right, List.zip_nil_left, bindE, wS_seq_e, wS_assign_e, wS_if_e, wS_nil_e, wS_ret_e, thenS, wA_bin_e, wA_int_e, wA_bool_e, wA_none_e, wA_cmp_e, wA_bcmp_e, wA_cmp2_e, wA_bcmp2_e, wA_bval_e, wA_bnot_e, wA_not_e, wA_neg_e, wA_band_nil_e, wA_band_cons_e, wA_bor_nil_e, wA_bor_cons_e, wA_vand1_e, wA_vand_e, wA_here_e, wA_there_e, str_eq_iff_e, String.reduceEq, not_false_eq_true, wA_list_e, wA_tup_e, wA_args_nil_e, wA_args_cons_e, wA_call_e, wA_sub_e, wA_isi_e, wA_upto_e, w2_add_e, w2_sub_e, w2_mod_e, w2_div_e, w2_mul_e, w2_pow_e, wC_lt_e, wC_le_e, wC_gt_e, wC_ge_e, List.length_nil, List.length_cons, List.length_map, exp_int, exp_bool, exp_none, aTruth, Option.some.injEq, exL_e, hi, if_true]
  refine wA_compM (fun _ => .bool true) ?_
  simp only [List.zip_cons_cons, List.zip_nil_right, List.zip_nil_left, bindE, wS_seq_e, wS_assign_e, wS_if_e, wS_nil_e, wS_ret_e, thenS, wA_bin_e, wA_int_e, wA_bool_e, wA_none_e, wA_cmp_e, wA_bcmp_e, wA_cmp2_e, wA_bcmp2_e, wA_bval_e, wA_bnot_e, wA_not_e, wA_neg_e, wA_band_nil_e, wA_band_cons_e, wA_bor_nil_e, wA_bor_cons_e, wA_vand1_e, wA_vand_e, wA_here_e, wA_there_e, str_eq_iff_e, String.reduceEq, not_false_eq_true, wA_list_e, wA_tup_e, wA_args_nil_e, wA_args_cons_e, wA_call_e, wA_sub_e, wA_isi_e, wA_upto_e, w2_add_e, w2_sub_e, w2_mod_e, w2_div_e, w2_mul_e, w2_pow_e, wC_lt_e, wC_le_e, wC_gt_e, wC_ge_e, List.length_nil, List.length_cons, List.length_map, exp_int, exp_bool, exp_none, aTruth, Option.some.injEq, exL_e]
  refine ⟨ns, items_list h, fun n hn => ?_, ?_⟩
  · simp only [wF_whole]; exact ⟨trivial, rfl⟩
  · have e : (σ ++ [AO.list (List.map (fun _ => AV.bool true) ns)])[σ.length]? = some (.list ((ns.map fun _ => true).map .bool)) := by
      rw [new_get]; simp
    simp only [wF_all e, exp_bool]
    exact ⟨⟨_, rfl⟩, _, _, rfl, by simp, rfl⟩
theorem wF_wholes {σ : Store} {i : Nat} {ns : List Int} {Q} (h : σ[i]? = some (.list (ns.map .int))) : wF sp_law_wholes [.ref i] σ Q ↔ Q (.bool true) σ := wF_eq (wholes_eq h)
theorem roomsOf_eq {σ : Store} {i : Nat} {ns : List Int} {k : Nat} {a : Int} (h : σ[i]? = some (.list (ns.map .int))) (hb : ∀ n ∈ ns, 0 ≤ n ∧ n < 1000) (hl : ns.length < 100) (hk : ns[k]? = some a) :
    sp_rooms_of [.ref i, .int k] σ = some (.ref σ.length, σ ++ [.list ((rgI (firstV ns k) (firstV ns k + a)).map .int)]) := by
  refine wF_get (wF_fn rfl ?_)
  simp only [List.zip_cons_cons, List.zip_nil_right, List.zip_nil_left, bindE, wS_seq_e, wS_assign_e, wS_if_e, wS_nil_e, wS_ret_e, thenS, wA_bin_e, wA_int_e, wA_bool_e, wA_none_e, wA_cmp_e, wA_bcmp_e, wA_cmp2_e, wA_bcmp2_e, wA_bval_e, wA_bnot_e, wA_not_e, wA_neg_e, wA_band_nil_e, wA_band_cons_e, wA_bor_nil_e, wA_bor_cons_e, wA_vand1_e, wA_vand_e, wA_here_e, wA_there_e, str_eq_iff_e, String.reduceEq, not_false_eq_true, wA_list_e, wA_tup_e, wA_args_nil_e, wA_args_cons_e, wA_call_e, wA_sub_e, wA_isi_e, wA_upto_e, w2_add_e, w2_sub_e, w2_mod_e, w2_div_e, w2_mul_e, w2_pow_e, wC_lt_e, wC_le_e, wC_gt_e, wC_ge_e, List.length_nil, List.length_cons, List.length_map, exp_int, exp_bool, exp_none, aTruth, Option.some.injEq, exL_e]
  refine ⟨i, k, ns.map .int, rfl, rfl, by omega, h, ?_⟩
  have e1 : (σ ++ [AO.list (List.take (Int.toNat k) (ns.map .int))])[σ.length]? = some (.list ((ns.take k).map .int)) := by rw [new_get]; simp [List.map_take]
  have hb' : ∀ n ∈ ns.take k, 0 ≤ n ∧ n < 1000000 := fun n hn => by have := hb n (List.mem_of_mem_take hn); omega
  have e2 := app_get (τ := [AO.list (List.take (Int.toNat k) (ns.map .int))]) h
  have hit : (ns.map AV.int)[(k : Int).toNat]? = some (.int a) := by simp [hk]
  have ha := hb a (List.mem_of_getElem? hk)
  have hsum : 0 ≤ (ns.take k).sum ∧ (ns.take k).sum ≤ 1000 * (ns.take k).length := by
    have key : ∀ l : List Int, (∀ n ∈ l, 0 ≤ n ∧ n < 1000) → 0 ≤ l.sum ∧ l.sum ≤ 1000 * l.length := by
      intro l
      induction l with
      | nil => simp
      | cons b r ih => intro hh; have := hh b (.head _); have := ih fun n hn => hh n (.tail _ hn); simp only [List.sum_cons, List.length_cons]; push_cast; omega
    exact key _ fun n hn => hb n (List.mem_of_mem_take hn)
  have hlen : (ns.take k).length ≤ 100 := by rw [List.length_take]; omega
  simp only [List.zip_cons_cons, List.zip_nil_right, List.zip_nil_left, bindE, wS_seq_e, wS_assign_e, wS_if_e, wS_nil_e, wS_ret_e, thenS, wA_bin_e, wA_int_e, wA_bool_e, wA_none_e, wA_cmp_e, wA_bcmp_e, wA_cmp2_e, wA_bcmp2_e, wA_bval_e, wA_bnot_e, wA_not_e, wA_neg_e, wA_band_nil_e, wA_band_cons_e, wA_bor_nil_e, wA_bor_cons_e, wA_vand1_e, wA_vand_e, wA_here_e, wA_there_e, str_eq_iff_e, String.reduceEq, not_false_eq_true, wA_list_e, wA_tup_e, wA_args_nil_e, wA_args_cons_e, wA_call_e, wA_sub_e, wA_isi_e, wA_upto_e, w2_add_e, w2_sub_e, w2_mod_e, w2_div_e, w2_mul_e, w2_pow_e, wC_lt_e, wC_le_e, wC_gt_e, wC_ge_e, List.length_nil, List.length_cons, List.length_map, exp_int, exp_bool, exp_none, aTruth, Option.some.injEq, exL_e, wF_sum e1 hb', w2_item e2 (Int.natCast_nonneg _) hit, wF_range2]
  rw [wF_listR (by omega)]
  refine ⟨⟨[_, _], by simp; exact ⟨rfl, rfl⟩⟩, _, _, exp_new (o := .list ((rgI (firstV ns k) (firstV ns k + a)).map .int)) (by simp) (by rw [new_get]; rfl) (by simp [AO.closed, closedL_ints]), rfl, rfl⟩
theorem wF_roomsOf {σ : Store} {i : Nat} {ns : List Int} {k : Nat} {a : Int} {Q} (h : σ[i]? = some (.list (ns.map .int))) (hb : ∀ n ∈ ns, 0 ≤ n ∧ n < 1000) (hl : ns.length < 100) (hk : ns[k]? = some a) :
    wF sp_rooms_of [.ref i, .int k] σ Q ↔ Q (.ref σ.length) (σ ++ [.list ((rgI (firstV ns k) (firstV ns k + a)).map .int)]) := wF_eq (roomsOf_eq h hb hl hk)
theorem house_ok {σ : Store} {i : Nat} {sc : List Int} (h : σ[i]? = some (.list (sc.map .int))) (hl : sc.length ≤ 1000) :
    wF sp_law_house_by [.ref i] σ fun v s => ∃ ns : List Int, houseV ns = true ∧ v = .ref σ.length ∧ s = σ ++ [.list (ns.map .int)] := by
  have cell : ∀ {σ' : Store} {k : Int} {Q}, Ext σ σ' → 0 ≤ k → k < 1000000 → (wF sp_law_cell [.ref i, .int k] σ' Q ↔ Q (.int (cellV sc k)) σ') := fun hτ h0 h1 => wF_cell (hτ.get h) h0 h1 hl
  refine wF_fn rfl ?_
  have hr := fmod_lt (cellV sc 1) (b := 4) (by decide)
  have hk : ∃ q : Int, (0 ≤ q ∧ q ≤ 9) ∧ ([.int 4, .int 3, .int 4, .int 9] : List AV)[((cellV sc 1).fmod 4).toNat]? = some (.int q) := by
    generalize (cellV sc 1).fmod 4 = z at hr
    have : z = 0 ∨ z = 1 ∨ z = 2 ∨ z = 3 := by omega
    rcases this with rfl | rfl | rfl | rfl
    · exact ⟨4, by decide, rfl⟩
    · exact ⟨3, by decide, rfl⟩
    · exact ⟨4, by decide, rfl⟩
    · exact ⟨9, by decide, rfl⟩
  obtain ⟨q, hq0, hq⟩ := hk
  have hr1 := fmod_lt (cellV sc 0) (b := 6) (by decide)
  simp (maxDischargeDepth := 9) only [List.zip_cons_cons, List.zip_nil_right, List.zip_nil_left, bindE, wS_seq_e, wS_assign_e, wS_if_e, wS_nil_e, wS_ret_e, thenS, wA_bin_e, wA_int_e, wA_bool_e, wA_none_e, wA_cmp_e, wA_bcmp_e, wA_cmp2_e, wA_bcmp2_e, wA_bval_e, wA_bnot_e, wA_not_e, wA_neg_e, wA_band_nil_e, wA_band_cons_e, wA_bor_nil_e, wA_bor_cons_e, wA_vand1_e, wA_vand_e, wA_here_e, wA_there_e, str_eq_iff_e, String.reduceEq, not_false_eq_true, wA_list_e, wA_tup_e, wA_args_nil_e, wA_args_cons_e, wA_call_e, wA_sub_e, wA_isi_e, wA_upto_e, w2_add_e, w2_sub_e, w2_mod_e, w2_div_e, w2_mul_e, w2_pow_e, wC_lt_e, wC_le_e, wC_gt_e, wC_ge_e, List.length_nil, List.length_cons, List.length_map, exp_int, exp_bool, exp_none, aTruth, Option.some.injEq, exL_e, Int.reduceLE, Int.reduceLT, Int.reduceEq, Int.reduceNe, ne_eq, and_true, true_and, Nat.reduceLeDiff, Nat.reduceAdd, Int.reduceNeg, Nat.reduceLT, and_self, nzl_e, cell, ext_refl_e, ext_app_e]
  rw [w2_item new_get hr.1 hq]
  refine wA_compM (fun k => .int ((cellV sc (10 + k)).fmod (q + 1))) ?_
  simp (maxDischargeDepth := 9) only [List.zip_cons_cons, List.zip_nil_right, List.zip_nil_left, bindE, wS_seq_e, wS_assign_e, wS_if_e, wS_nil_e, wS_ret_e, thenS, wA_bin_e, wA_int_e, wA_bool_e, wA_none_e, wA_cmp_e, wA_bcmp_e, wA_cmp2_e, wA_bcmp2_e, wA_bval_e, wA_bnot_e, wA_not_e, wA_neg_e, wA_band_nil_e, wA_band_cons_e, wA_bor_nil_e, wA_bor_cons_e, wA_vand1_e, wA_vand_e, wA_here_e, wA_there_e, str_eq_iff_e, String.reduceEq, not_false_eq_true, wA_list_e, wA_tup_e, wA_args_nil_e, wA_args_cons_e, wA_call_e, wA_sub_e, wA_isi_e, wA_upto_e, w2_add_e, w2_sub_e, w2_mod_e, w2_div_e, w2_mul_e, w2_pow_e, wC_lt_e, wC_le_e, wC_gt_e, wC_ge_e, List.length_nil, List.length_cons, List.length_map, exp_int, exp_bool, exp_none, aTruth, Option.some.injEq, exL_e, Int.reduceLE, Int.reduceLT, Int.reduceEq, Int.reduceNe, ne_eq, and_true, true_and, Nat.reduceLeDiff, Nat.reduceAdd, Int.reduceNeg, Nat.reduceLT, and_self, nzl_e, cell, ext_refl_e, ext_app_e, wF_range1_e]
  refine ⟨rgI 0 (1 + (cellV sc 0).fmod 6), items_rng (by omega), fun n hn => ?_, ⟨[_, _], by simp; exact ⟨rfl, rfl⟩⟩, _, _, exp_new (by simp) new_get ?_, (rgI 0 (1 + (cellV sc 0).fmod 6)).map fun k => (cellV sc (10 + k)).fmod (q + 1), ?_, rfl, by simp⟩
  · have hn' := rgI_mem hn
    simp only [List.zip_cons_cons, List.zip_nil_right, List.zip_nil_left, bindE, wS_seq_e, wS_assign_e, wS_if_e, wS_nil_e, wS_ret_e, thenS, wA_bin_e, wA_int_e, wA_bool_e, wA_none_e, wA_cmp_e, wA_bcmp_e, wA_cmp2_e, wA_bcmp2_e, wA_bval_e, wA_bnot_e, wA_not_e, wA_neg_e, wA_band_nil_e, wA_band_cons_e, wA_bor_nil_e, wA_bor_cons_e, wA_vand1_e, wA_vand_e, wA_here_e, wA_there_e, str_eq_iff_e, String.reduceEq, not_false_eq_true, wA_list_e, wA_tup_e, wA_args_nil_e, wA_args_cons_e, wA_call_e, wA_sub_e, wA_isi_e, wA_upto_e, w2_add_e, w2_sub_e, w2_mod_e, w2_div_e, w2_mul_e, w2_pow_e, wC_lt_e, wC_le_e, wC_gt_e, wC_ge_e, List.length_nil, List.length_cons, List.length_map, exp_int, exp_bool, exp_none, aTruth, Option.some.injEq, exL_e, Int.reduceLE, Int.reduceLT, Int.reduceEq, Int.reduceNe, ne_eq, and_true, true_and, Nat.reduceLeDiff, Nat.reduceAdd, Int.reduceNeg, Nat.reduceLT, and_self, nzl_e, cell (ext_app ext_refl) (k := 10 + n) (by omega) (by omega), AV.closed]
    omega
  · have : (rgI 0 (1 + (cellV sc 0).fmod 6)).map (fun k => AV.int ((cellV sc (10 + k)).fmod (q + 1))) = ((rgI 0 (1 + (cellV sc 0).fmod 6)).map fun k => (cellV sc (10 + k)).fmod (q + 1)).map .int := by simp
    rw [AO.closed, this]; exact closedL_ints _ _
  · rw [house_iff]
    refine ⟨by simp [rgI_length]; omega, fun n hn => ?_⟩
    obtain ⟨k, _, rfl⟩ := List.mem_map.mp hn
    have := fmod_lt (cellV sc (10 + k)) (b := q + 1) (by omega)
    omega
theorem kinds_eq {σ : Store} {i : Nat} {ns : List Int} (h : σ[i]? = some (.list (ns.map .int))) (hg : houseV ns = true) : sp_law_kinds [.ref i] σ = some (.ref σ.length, σ ++ [.list ((kindsO ns 0).map .int)]) := by
  obtain ⟨⟨g1, g2⟩, g3⟩ := house_iff.1 hg
  have hn : ∀ n ∈ ns, 0 ≤ n := fun n hn => (g3 n hn).1
  have hsum := sum_le g3
  have hklen := kindsO_len ns 0 hn
  refine wF_get (wF_fn rfl ?_)
  refine wS_seq.2 ?_
  simp only [wS_assign_e, wA_list_e, wA_args_nil_e, thenS, List.length_nil, List.zip_cons_cons, List.zip_nil_right, bindE]
  refine ⟨by omega, ?_⟩
  refine wS_cut (fun ρ' σ' => Ext σ σ' ∧ ∃ j, ρ' "_law_kinds_here" = some (.ref j) ∧ σ.length ≤ j ∧ σ'[j]? = some (.list ((kindsO ns 0).map .int))) ?_ ?_
  · refine wS_forN ns.length (by omega) (fun k ρ' σ' => Ext σ σ' ∧ ρ' "_law_counts" = some (.ref i) ∧ ∃ j, ρ' "_law_kinds_here" = some (.ref j) ∧ σ.length ≤ j ∧ σ'[j]? = some (.list ((kindsO (ns.take k) 0).map .int))) ?_ ?_ ?_
    · have h1 := app_get (τ := [.list []]) h
      simp (maxDischargeDepth := 9) only [List.zip_cons_cons, List.zip_nil_right, List.zip_nil_left, bindE, wS_seq_e, wS_assign_e, wS_if_e, wS_nil_e, wS_ret_e, thenS, wA_bin_e, wA_int_e, wA_bool_e, wA_none_e, wA_cmp_e, wA_bcmp_e, wA_cmp2_e, wA_bcmp2_e, wA_bval_e, wA_bnot_e, wA_not_e, wA_neg_e, wA_band_nil_e, wA_band_cons_e, wA_bor_nil_e, wA_bor_cons_e, wA_vand1_e, wA_vand_e, wA_here_e, wA_there_e, str_eq_iff_e, String.reduceEq, not_false_eq_true, wA_list_e, wA_tup_e, wA_args_nil_e, wA_args_cons_e, wA_call_e, wA_sub_e, wA_isi_e, wA_upto_e, w2_add_e, w2_sub_e, w2_mod_e, w2_div_e, w2_mul_e, w2_pow_e, wC_lt_e, wC_le_e, wC_gt_e, wC_ge_e, List.length_nil, List.length_cons, List.length_map, exp_int, exp_bool, exp_none, aTruth, Option.some.injEq, exL_e, Int.reduceLE, Int.reduceLT, Int.reduceEq, Int.reduceNe, ne_eq, and_true, true_and, Nat.reduceLeDiff, Nat.reduceAdd, Int.reduceNeg, Nat.reduceLT, and_self, nzl_e, wF_len h1, wF_range1_e]
      exact ⟨ext_self, by (first | ((repeat (first | exact upd_same | refine (upd_ne rfl).trans ?_)); done) | simp [upd, str_eq_iff]), σ.length, upd_same, Nat.le_refl _, by rw [new_get]; rfl⟩
    · rintro k ρ' σ' hk ⟨hx, e1, j, e2, hj, e3⟩
      have hk' : ns[k]? = some ns[k] := by simp [hk]
      have hit : (ns.map AV.int)[(k : Int).toNat]? = some (.int ns[k]) := by simp [hk]
      have hb := g3 ns[k] (by simp)
      have hke := kindsO_len (ns.take k) 0 fun n hh => hn n (List.mem_of_mem_take hh)
      have hke2 := first_le hn hk'
      unfold firstV at hke2
      have h1 := app_get (τ := [.list [.int k]]) (hx.get h)
      simp (maxDischargeDepth := 9) only [List.zip_cons_cons, List.zip_nil_right, List.zip_nil_left, bindE, wS_seq_e, wS_assign_e, wS_if_e, wS_nil_e, wS_ret_e, thenS, wA_bin_e, wA_int_e, wA_bool_e, wA_none_e, wA_cmp_e, wA_bcmp_e, wA_cmp2_e, wA_bcmp2_e, wA_bval_e, wA_bnot_e, wA_not_e, wA_neg_e, wA_band_nil_e, wA_band_cons_e, wA_bor_nil_e, wA_bor_cons_e, wA_vand1_e, wA_vand_e, wA_here_e, wA_there_e, str_eq_iff_e, String.reduceEq, not_false_eq_true, wA_list_e, wA_tup_e, wA_args_nil_e, wA_args_cons_e, wA_call_e, wA_sub_e, wA_isi_e, wA_upto_e, w2_add_e, w2_sub_e, w2_mod_e, w2_div_e, w2_mul_e, w2_pow_e, wC_lt_e, wC_le_e, wC_gt_e, wC_ge_e, List.length_nil, List.length_cons, List.length_map, exp_int, exp_bool, exp_none, aTruth, Option.some.injEq, exL_e, Int.reduceLE, Int.reduceLT, Int.reduceEq, Int.reduceNe, ne_eq, and_true, true_and, Nat.reduceLeDiff, Nat.reduceAdd, Int.reduceNeg, Nat.reduceLT, and_self, nzl_e, wA_name e1, wA_name e2, w2_item h1 (Int.natCast_nonneg _) hit]
      rw [w2_mulL new_get (by simp; omega)]
      rw [w2_addL (app_get (app_get e3)) new_get (by simp; omega)]
      refine ⟨ext_app (ext_app (ext_app hx)), by (first | ((repeat (first | exact e1 | refine (upd_ne rfl).trans ?_)); done) | simpa [upd, str_eq_iff] using e1), _, upd_same, ?_, ?_⟩
      · have := hx.len; simp; omega
      rw [new_get, List.take_add_one, hk']
      simp only [Option.toList_some, kindsO_snoc]
      have hkl2 : (ns.take k).length = k := by simp; omega
      rw [hkl2]
      have e6 : (List.replicate ns[k].toNat [AV.int (k : Int)]).flatten = (List.replicate ns[k].toNat ((0 + k : Nat) : Int)).map .int := by
        generalize ns[k].toNat = m
        rw [Nat.zero_add]
        induction m with
        | zero => rfl
        | succ m ih => rw [List.replicate_succ, List.flatten_cons, ih, List.replicate_succ, List.map_cons]; rfl
      rw [e6, List.map_append]
    · rintro ρ' σ' ⟨hx, _, j, e2, hj, e3⟩
      rw [List.take_length] at e3
      exact ⟨rfl, hx, j, e2, hj, e3⟩
  · rintro ρ' σ' ⟨hx, j, e2, hj, e3⟩
    simp (maxDischargeDepth := 9) only [List.zip_cons_cons, List.zip_nil_right, List.zip_nil_left, bindE, wS_seq_e, wS_assign_e, wS_if_e, wS_nil_e, wS_ret_e, thenS, wA_bin_e, wA_int_e, wA_bool_e, wA_none_e, wA_cmp_e, wA_bcmp_e, wA_cmp2_e, wA_bcmp2_e, wA_bval_e, wA_bnot_e, wA_not_e, wA_neg_e, wA_band_nil_e, wA_band_cons_e, wA_bor_nil_e, wA_bor_cons_e, wA_vand1_e, wA_vand_e, wA_here_e, wA_there_e, str_eq_iff_e, String.reduceEq, not_false_eq_true, wA_list_e, wA_tup_e, wA_args_nil_e, wA_args_cons_e, wA_call_e, wA_sub_e, wA_isi_e, wA_upto_e, w2_add_e, w2_sub_e, w2_mod_e, w2_div_e, w2_mul_e, w2_pow_e, wC_lt_e, wC_le_e, wC_gt_e, wC_ge_e, List.length_nil, List.length_cons, List.length_map, exp_int, exp_bool, exp_none, aTruth, Option.some.injEq, exL_e, Int.reduceLE, Int.reduceLT, Int.reduceEq, Int.reduceNe, ne_eq, and_true, true_and, Nat.reduceLeDiff, Nat.reduceAdd, Int.reduceNeg, Nat.reduceLT, and_self, nzl_e, wA_name e2]
    exact ⟨hx, _, _, exp_new hj e3 (by simp [AO.closed, closedL_ints]), rfl, rfl⟩
theorem wF_kinds {σ : Store} {i : Nat} {ns : List Int} {Q} (h : σ[i]? = some (.list (ns.map .int))) (hg : houseV ns = true) : wF sp_law_kinds [.ref i] σ Q ↔ Q (.ref σ.length) (σ ++ [.list ((kindsO ns 0).map .int)]) := wF_eq (kinds_eq h hg)
abbrev Sp := Int × Int × Int
noncomputable def spV (s : Sp) : AV := .tup [.int s.1, .int s.2.1, .int s.2.2]
noncomputable def spD (kvs : List (Int × Sp)) : List (Int × AV) := kvs.map fun p => (p.1, spV p.2)
noncomputable def getS (kvs : List (Int × Sp)) (n : Int) : Sp := ((kvs.find? fun p => decide (p.1 = n)).map (·.2)).getD (0, 0, 0)
theorem spD_keys (kvs : List (Int × Sp)) : (spD kvs).map (·.1) = kvs.map (·.1) := by simp [spD]
theorem spD_len (kvs : List (Int × Sp)) : (spD kvs).length = kvs.length := by simp [spD]
theorem spD_look : ∀ {kvs : List (Int × Sp)} {n : Int}, n ∈ kvs.map (·.1) → look (spD kvs) n = some (spV (getS kvs n))
  | [], n, h => by simp at h
  | (k, s) :: r, n, h => by
    have e : spD ((k, s) :: r) = (k, spV s) :: spD r := rfl
    rw [e, look_cons]
    by_cases hk : k = n
    · rw [if_pos hk]; simp [getS, hk]
    · rw [if_neg hk, spD_look (by simpa [Ne.symm hk] using h)]
      simp [getS, hk]
noncomputable def onN (s : Sp) (t : Int) : Bool := decide (s.1 ≤ t) && decide (t < s.2.1)
theorem closed_spV (n : Nat) (s : Sp) : (spV s).closed n = true := rfl
theorem closed_spD (n : Nat) : ∀ kvs : List (Int × Sp), closedK n (spD kvs) = true
  | [] => rfl
  | p :: r => by
    show (closedK n ((p.1, spV p.2) :: spD r)) = true
    simp [closedK, closed_spV, closed_spD n r]
theorem put_spD (kvs : List (Int × Sp)) (n : Int) (s : Sp) : ∃ kvs', put (spD kvs) n (spV s) = spD kvs' := by
  unfold put
  split
  · refine ⟨kvs.map fun p => if p.1 = n then (p.1, s) else p, ?_⟩
    simp only [spD, List.map_map]
    refine List.map_congr_left fun p _ => ?_
    simp only [Function.comp]
    split <;> rfl
  · exact ⟨kvs ++ [(n, s)], by simp [spD]⟩
theorem hasNight_eq {σ : Store} {s : Sp} {t : Int} : sp_has_night [spV s, .int t] σ = some (.bool (onN s t), σ) := by
  refine wF_get (wF_fn rfl ?_)
  unfold spV
  simp only [List.zip_cons_cons, List.zip_nil_right, List.zip_nil_left, bindE, wS_seq_e, wS_assign_e, wS_if_e, wS_nil_e, wS_ret_e, thenS, wA_bin_e, wA_int_e, wA_bool_e, wA_none_e, wA_cmp_e, wA_bcmp_e, wA_cmp2_e, wA_bcmp2_e, wA_bval_e, wA_bnot_e, wA_not_e, wA_neg_e, wA_band_nil_e, wA_band_cons_e, wA_bor_nil_e, wA_bor_cons_e, wA_vand1_e, wA_vand_e, wA_here_e, wA_there_e, str_eq_iff_e, String.reduceEq, not_false_eq_true, wA_list_e, wA_tup_e, wA_args_nil_e, wA_args_cons_e, wA_call_e, wA_sub_e, wA_isi_e, wA_upto_e, w2_add_e, w2_sub_e, w2_mod_e, w2_div_e, w2_mul_e, w2_pow_e, wC_lt_e, wC_le_e, wC_gt_e, wC_ge_e, List.length_nil, List.length_cons, List.length_map, exp_int, exp_bool, exp_none, aTruth, Option.some.injEq, exL_e, Int.reduceLE, Int.reduceLT, Int.reduceEq, Int.reduceNe, ne_eq, and_true, true_and, Nat.reduceLeDiff, Nat.reduceAdd, Int.reduceNeg, Nat.reduceLT, and_self, nzl_e, w2_tup0_e, w2_tup1_e]
  unfold onN
  by_cases h : s.1 ≤ t
  · simp only [decide_eq_true h, if_true, Bool.true_and]
    exact ⟨ext_refl, _, _, rfl, rfl, rfl⟩
  · simp only [decide_eq_false h, Bool.false_eq_true, if_false, Bool.false_and]
    exact ⟨ext_refl, _, _, rfl, rfl, rfl⟩
theorem wF_hasNight {σ : Store} {s : Sp} {t : Int} {Q} : wF sp_has_night [spV s, .int t] σ Q ↔ Q (.bool (onN s t)) σ := wF_eq hasNight_eq
theorem wF_hasNight_e {σ : Store} {s : Sp} {t : Int} {Q} : (wF sp_has_night [spV s, .int t] σ Q) = (Q (.bool (onN s t)) σ) := propext (wF_hasNight)
theorem span_ok {σ : Store} {i : Nat} {sc : List Int} {k many : Int} (h : σ[i]? = some (.list (sc.map .int))) (hl : sc.length ≤ 1000) (hk : 0 ≤ k ∧ k < 10000) (hm : 0 < many) :
    wF sp_law_span_by [.ref i, .int k, .int many] σ fun v s => s = σ ∧ ∃ sp : Sp, v = spV sp := by
  have cell : ∀ {σ' : Store} {k : Int} {Q}, Ext σ σ' → 0 ≤ k → k < 1000000 → (wF sp_law_cell [.ref i, .int k] σ' Q ↔ Q (.int (cellV sc k)) σ') := fun hτ h0 h1 => wF_cell (hτ.get h) h0 h1 hl
  have k0 : 0 ≤ k := hk.1
  have k1 : k < 1000000 := by omega
  have k2 : 0 ≤ k + 1 := by omega
  have k3 : k + 1 < 1000000 := by omega
  have k4 : 0 ≤ k + 2 := by omega
  have k5 : k + 2 < 1000000 := by omega
  have pick : ∀ (z a b c : Int), 0 < a → 0 < b → 0 < c → ∃ q : Int, 0 < q ∧ ([.int a, .int b, .int c] : List AV)[(z.fmod 3).toNat]? = some (.int q) := by
    intro z a b c ha hb hc
    have hr := fmod_lt z (b := 3) (by decide)
    generalize z.fmod 3 = y at hr
    have : y = 0 ∨ y = 1 ∨ y = 2 := by omega
    rcases this with rfl | rfl | rfl
    · exact ⟨a, ha, rfl⟩
    · exact ⟨b, hb, rfl⟩
    · exact ⟨c, hc, rfl⟩
  obtain ⟨q1, hq1, e1⟩ := pick (cellV sc (k + 1)) 40 9 9 (by decide) (by decide) (by decide)
  obtain ⟨q2, hq2, e2⟩ := pick (cellV sc (k + 2)) 40 5 5 (by decide) (by decide) (by decide)
  have r1 := fmod_lt (cellV sc (k + 1)) (b := 3) (by decide)
  have r2 := fmod_lt (cellV sc (k + 2)) (b := 3) (by decide)
  have n1 : ¬ q1 = 0 := by omega
  have n2 : ¬ q2 = 0 := by omega
  have n3 : ¬ many = 0 := by omega
  refine wF_fn rfl ?_
  simp (maxDischargeDepth := 9) only [List.zip_cons_cons, List.zip_nil_right, List.zip_nil_left, bindE, wS_seq_e, wS_assign_e, wS_if_e, wS_nil_e, wS_ret_e, thenS, wA_bin_e, wA_int_e, wA_bool_e, wA_none_e, wA_cmp_e, wA_bcmp_e, wA_cmp2_e, wA_bcmp2_e, wA_bval_e, wA_bnot_e, wA_not_e, wA_neg_e, wA_band_nil_e, wA_band_cons_e, wA_bor_nil_e, wA_bor_cons_e, wA_vand1_e, wA_vand_e, wA_here_e, wA_there_e, str_eq_iff_e, String.reduceEq, not_false_eq_true, wA_list_e, wA_tup_e, wA_args_nil_e, wA_args_cons_e, wA_call_e, wA_sub_e, wA_isi_e, wA_upto_e, w2_add_e, w2_sub_e, w2_mod_e, w2_div_e, w2_mul_e, w2_pow_e, wC_lt_e, wC_le_e, wC_gt_e, wC_ge_e, List.length_nil, List.length_cons, List.length_map, exp_int, exp_bool, exp_none, aTruth, Option.some.injEq, exL_e, Int.reduceLE, Int.reduceLT, Int.reduceEq, Int.reduceNe, ne_eq, and_true, true_and, Nat.reduceLeDiff, Nat.reduceAdd, Int.reduceNeg, Nat.reduceLT, and_self, nzl_e, cell, ext_refl_e, ext_app_e, k0, k1, k2, k3, k4, k5]
  rw [w2_item new_get r1.1 e1]
  simp (maxDischargeDepth := 9) only [List.zip_cons_cons, List.zip_nil_right, List.zip_nil_left, bindE, wS_seq_e, wS_assign_e, wS_if_e, wS_nil_e, wS_ret_e, thenS, wA_bin_e, wA_int_e, wA_bool_e, wA_none_e, wA_cmp_e, wA_bcmp_e, wA_cmp2_e, wA_bcmp2_e, wA_bval_e, wA_bnot_e, wA_not_e, wA_neg_e, wA_band_nil_e, wA_band_cons_e, wA_bor_nil_e, wA_bor_cons_e, wA_vand1_e, wA_vand_e, wA_here_e, wA_there_e, str_eq_iff_e, String.reduceEq, not_false_eq_true, wA_list_e, wA_tup_e, wA_args_nil_e, wA_args_cons_e, wA_call_e, wA_sub_e, wA_isi_e, wA_upto_e, w2_add_e, w2_sub_e, w2_mod_e, w2_div_e, w2_mul_e, w2_pow_e, wC_lt_e, wC_le_e, wC_gt_e, wC_ge_e, List.length_nil, List.length_cons, List.length_map, exp_int, exp_bool, exp_none, aTruth, Option.some.injEq, exL_e, Int.reduceLE, Int.reduceLT, Int.reduceEq, Int.reduceNe, ne_eq, and_true, true_and, Nat.reduceLeDiff, Nat.reduceAdd, Int.reduceNeg, Nat.reduceLT, and_self, nzl_e, cell, ext_refl_e, ext_app_e, k0, k1, k2, k3, k4, k5, n1]
  rw [w2_item new_get r2.1 e2]
  simp (maxDischargeDepth := 9) only [List.zip_cons_cons, List.zip_nil_right, List.zip_nil_left, bindE, wS_seq_e, wS_assign_e, wS_if_e, wS_nil_e, wS_ret_e, thenS, wA_bin_e, wA_int_e, wA_bool_e, wA_none_e, wA_cmp_e, wA_bcmp_e, wA_cmp2_e, wA_bcmp2_e, wA_bval_e, wA_bnot_e, wA_not_e, wA_neg_e, wA_band_nil_e, wA_band_cons_e, wA_bor_nil_e, wA_bor_cons_e, wA_vand1_e, wA_vand_e, wA_here_e, wA_there_e, str_eq_iff_e, String.reduceEq, not_false_eq_true, wA_list_e, wA_tup_e, wA_args_nil_e, wA_args_cons_e, wA_call_e, wA_sub_e, wA_isi_e, wA_upto_e, w2_add_e, w2_sub_e, w2_mod_e, w2_div_e, w2_mul_e, w2_pow_e, wC_lt_e, wC_le_e, wC_gt_e, wC_ge_e, List.length_nil, List.length_cons, List.length_map, exp_int, exp_bool, exp_none, aTruth, Option.some.injEq, exL_e, Int.reduceLE, Int.reduceLT, Int.reduceEq, Int.reduceNe, ne_eq, and_true, true_and, Nat.reduceLeDiff, Nat.reduceAdd, Int.reduceNeg, Nat.reduceLT, and_self, nzl_e, cell, ext_refl_e, ext_app_e, k0, k1, k2, k3, k4, k5, n2, n3, wF_min]
  exact ⟨ext_app ext_self, _, _, exp_tup3, rfl, (_, _, _), rfl⟩
end Inn
end
section
set_option maxRecDepth 10000
set_option linter.unusedVariables false
set_option linter.unusedSimpArgs false
namespace Inn
open PySem PySem.W
theorem spans_ok {σ : Store} {i : Nat} {sc : List Int} {k many : Int} {c : Nat} (h : σ[i]? = some (.list (sc.map .int))) (hl : sc.length ≤ 1000) (hk : 0 ≤ k ∧ k < 1000) (hc : c ≤ 30) (hm : 0 < many) :
    wF sp_law_spans_by [.ref i, .int k, .int c, .int many] σ fun v s => ∃ kvs : List (Int × Sp), (kvs.map (·.1)).Nodup ∧ kvs.length ≤ c ∧ v = .ref σ.length ∧ s = σ ++ [.dict (spD kvs)] := by
  refine wF_fn rfl ?_
  refine wS_seq.2 ?_
  simp only [wS_assign_e, wA_dict0_e, thenS, List.zip_cons_cons, List.zip_nil_right, bindE]
  refine wS_cut (fun ρ' σ' => Ext σ σ' ∧ ρ' "_law_found" = some (.ref σ.length) ∧ ∃ kvs : List (Int × Sp), σ'[σ.length]? = some (.dict (spD kvs)) ∧ (kvs.map (·.1)).Nodup ∧ kvs.length ≤ c) ?_ ?_
  · refine wS_forN c (by omega) (fun n ρ' σ' => Ext σ σ' ∧ ρ' "_law_found" = some (.ref σ.length) ∧ ρ' "_law_script" = some (.ref i) ∧ ρ' "_law_k" = some (.int k) ∧ ρ' "_law_many" = some (.int many) ∧ ∃ kvs : List (Int × Sp), σ'[σ.length]? = some (.dict (spD kvs)) ∧ (kvs.map (·.1)).Nodup ∧ kvs.length ≤ n) ?_ ?_ ?_
    · simp (maxDischargeDepth := 9) only [List.zip_cons_cons, List.zip_nil_right, List.zip_nil_left, bindE, wS_seq_e, wS_assign_e, wS_if_e, wS_nil_e, wS_ret_e, thenS, wA_bin_e, wA_int_e, wA_bool_e, wA_none_e, wA_cmp_e, wA_bcmp_e, wA_cmp2_e, wA_bcmp2_e, wA_bval_e, wA_bnot_e, wA_not_e, wA_neg_e, wA_band_nil_e, wA_band_cons_e, wA_bor_nil_e, wA_bor_cons_e, wA_vand1_e, wA_vand_e, wA_here_e, wA_there_e, str_eq_iff_e, String.reduceEq, not_false_eq_true, wA_list_e, wA_tup_e, wA_args_nil_e, wA_args_cons_e, wA_call_e, wA_sub_e, wA_isi_e, wA_upto_e, w2_add_e, w2_sub_e, w2_mod_e, w2_div_e, w2_mul_e, w2_pow_e, wC_lt_e, wC_le_e, wC_gt_e, wC_ge_e, List.length_nil, List.length_cons, List.length_map, exp_int, exp_bool, exp_none, aTruth, Option.some.injEq, exL_e, Int.reduceLE, Int.reduceLT, Int.reduceEq, Int.reduceNe, ne_eq, and_true, true_and, Nat.reduceLeDiff, Nat.reduceAdd, Int.reduceNeg, Nat.reduceLT, and_self, nzl_e, wF_range1_e]
      exact ⟨ext_self, upd_same, by (first | ((repeat (first | exact upd_same | refine (upd_ne rfl).trans ?_)); done) | simp [upd, str_eq_iff]), by (first | ((repeat (first | exact upd_same | refine (upd_ne rfl).trans ?_)); done) | simp [upd, str_eq_iff]), by (first | ((repeat (first | exact upd_same | refine (upd_ne rfl).trans ?_)); done) | simp [upd, str_eq_iff]), [], by rw [new_get]; rfl, by simp, by simp⟩
    · rintro n ρ' σ' hn ⟨hx, e1, e2, e3, e4, kvs, e5, e6, e7⟩
      have cell : ∀ {σ' : Store} {k : Int} {Q}, Ext σ σ' → 0 ≤ k → k < 1000000 → (wF sp_law_cell [.ref i, .int k] σ' Q ↔ Q (.int (cellV sc k)) σ') := fun hτ h0 h1 => wF_cell (hτ.get h) h0 h1 hl
      have k0 := hk.1
      have k1 : k < 1000000 := by omega
      refine wS_cut (fun ρ1 σ1 => Ext σ' σ1 ∧ ∃ num : Int, ρ1 = upd (upd ρ' "_law_one" (.int n)) "_law_number" (.int num)) ?_ ?_
      · have hr := fmod_lt (cellV sc k) (b := 4) (by decide)
        have hp : ∃ q : Int, ([.int 0, .int 0, .int (-50), .int (10 ^ Int.toNat 20)] : List AV)[((cellV sc k).fmod 4).toNat]? = some (.int q) := by
          generalize (cellV sc k).fmod 4 = z at hr
          have : z = 0 ∨ z = 1 ∨ z = 2 ∨ z = 3 := by omega
          rcases this with rfl | rfl | rfl | rfl <;> exact ⟨_, rfl⟩
        obtain ⟨q, hq⟩ := hp
        have hs : smallI (n : Int) ∨ smallI 37 := .inr (by decide)
        simp (maxDischargeDepth := 9) only [List.zip_cons_cons, List.zip_nil_right, List.zip_nil_left, bindE, wS_seq_e, wS_assign_e, wS_if_e, wS_nil_e, wS_ret_e, thenS, wA_bin_e, wA_int_e, wA_bool_e, wA_none_e, wA_cmp_e, wA_bcmp_e, wA_cmp2_e, wA_bcmp2_e, wA_bval_e, wA_bnot_e, wA_not_e, wA_neg_e, wA_band_nil_e, wA_band_cons_e, wA_bor_nil_e, wA_bor_cons_e, wA_vand1_e, wA_vand_e, wA_here_e, wA_there_e, str_eq_iff_e, String.reduceEq, not_false_eq_true, wA_list_e, wA_tup_e, wA_args_nil_e, wA_args_cons_e, wA_call_e, wA_sub_e, wA_isi_e, wA_upto_e, w2_add_e, w2_sub_e, w2_mod_e, w2_div_e, w2_mul_e, w2_pow_e, wC_lt_e, wC_le_e, wC_gt_e, wC_ge_e, List.length_nil, List.length_cons, List.length_map, exp_int, exp_bool, exp_none, aTruth, Option.some.injEq, exL_e, Int.reduceLE, Int.reduceLT, Int.reduceEq, Int.reduceNe, ne_eq, and_true, true_and, Nat.reduceLeDiff, Nat.reduceAdd, Int.reduceNeg, Nat.reduceLT, and_self, nzl_e, wA_name e2, wA_name e3, cell, hx, ext_app_e, k0, k1, hs, AV.int.injEq]
        rw [w2_item new_get hr.1 hq]
        simp only [List.zip_cons_cons, List.zip_nil_right, List.zip_nil_left, bindE, wS_seq_e, wS_assign_e, wS_if_e, wS_nil_e, wS_ret_e, thenS, wA_bin_e, wA_int_e, wA_bool_e, wA_none_e, wA_cmp_e, wA_bcmp_e, wA_cmp2_e, wA_bcmp2_e, wA_bval_e, wA_bnot_e, wA_not_e, wA_neg_e, wA_band_nil_e, wA_band_cons_e, wA_bor_nil_e, wA_bor_cons_e, wA_vand1_e, wA_vand_e, wA_here_e, wA_there_e, str_eq_iff_e, String.reduceEq, not_false_eq_true, wA_list_e, wA_tup_e, wA_args_nil_e, wA_args_cons_e, wA_call_e, wA_sub_e, wA_isi_e, wA_upto_e, w2_add_e, w2_sub_e, w2_mod_e, w2_div_e, w2_mul_e, w2_pow_e, wC_lt_e, wC_le_e, wC_gt_e, wC_ge_e, List.length_nil, List.length_cons, List.length_map, exp_int, exp_bool, exp_none, aTruth, Option.some.injEq, exL_e, Int.reduceLE, Int.reduceLT, Int.reduceEq, Int.reduceNe, ne_eq, and_true, true_and, Nat.reduceLeDiff, Nat.reduceAdd, Int.reduceNeg, Nat.reduceLT, and_self, nzl_e]
        exact ⟨ext_self, _, rfl⟩
      · rintro ρ1 σ1 ⟨hx1, num, rfl⟩
        have hx2 := hx.trans hx1
        rw [wS_seq]
        refine wS_setItemD ?_
        have hs : smallI 3 ∨ smallI (n : Int) := .inl (by decide)
        simp (maxDischargeDepth := 9) only [List.zip_cons_cons, List.zip_nil_right, List.zip_nil_left, bindE, wS_seq_e, wS_assign_e, wS_if_e, wS_nil_e, wS_ret_e, thenS, wA_bin_e, wA_int_e, wA_bool_e, wA_none_e, wA_cmp_e, wA_bcmp_e, wA_cmp2_e, wA_bcmp2_e, wA_bval_e, wA_bnot_e, wA_not_e, wA_neg_e, wA_band_nil_e, wA_band_cons_e, wA_bor_nil_e, wA_bor_cons_e, wA_vand1_e, wA_vand_e, wA_here_e, wA_there_e, str_eq_iff_e, String.reduceEq, not_false_eq_true, wA_list_e, wA_tup_e, wA_args_nil_e, wA_args_cons_e, wA_call_e, wA_sub_e, wA_isi_e, wA_upto_e, w2_add_e, w2_sub_e, w2_mod_e, w2_div_e, w2_mul_e, w2_pow_e, wC_lt_e, wC_le_e, wC_gt_e, wC_ge_e, List.length_nil, List.length_cons, List.length_map, exp_int, exp_bool, exp_none, aTruth, Option.some.injEq, exL_e, Int.reduceLE, Int.reduceLT, Int.reduceEq, Int.reduceNe, ne_eq, and_true, true_and, Nat.reduceLeDiff, Nat.reduceAdd, Int.reduceNeg, Nat.reduceLT, and_self, nzl_e, wA_name e2, wA_name e3, wA_name e4, hs]
        refine (span_ok (hx2.get h) hl (by omega) hm).mono fun v s hv => ?_
        obtain ⟨rfl, sp, rfl⟩ := hv
        obtain ⟨kvs', hk'⟩ := put_spD kvs num sp
        have e5' := hx1.get e5
        have hlt := (List.getElem?_eq_some_iff.mp e5').1
        refine ⟨σ.length, by (first | ((repeat (first | exact e1 | refine (upd_ne rfl).trans ?_)); done) | simpa [upd, str_eq_iff] using e1), spD kvs, num, e5', rfl, Nat.le_refl _, by rw [spD_len]; omega, hx2.set (Nat.le_refl _), by (first | ((repeat (first | exact e1 | refine (upd_ne rfl).trans ?_)); done) | simpa [upd, str_eq_iff] using e1), by (first | ((repeat (first | exact e2 | refine (upd_ne rfl).trans ?_)); done) | simpa [upd, str_eq_iff] using e2), by (first | ((repeat (first | exact e3 | refine (upd_ne rfl).trans ?_)); done) | simpa [upd, str_eq_iff] using e3), by (first | ((repeat (first | exact e4 | refine (upd_ne rfl).trans ?_)); done) | simpa [upd, str_eq_iff] using e4), kvs', ?_, ?_, ?_⟩
        · rw [List.getElem?_set_self hlt, hk']
        · rw [← spD_keys, ← hk']; exact put_keys (by rw [spD_keys]; exact e6)
        · rw [← spD_len, ← hk']
          have := put_length (spD kvs) num (spV sp)
          rw [spD_len] at this
          omega
    · rintro ρ' σ' ⟨hx, e1, e2, e3, e4, kvs, e5, e6, e7⟩
      exact ⟨rfl, hx, e1, kvs, e5, e6, e7⟩
  · rintro ρ' σ' ⟨hx, e1, kvs, e5, e6, e7⟩
    simp (maxDischargeDepth := 9) only [List.zip_cons_cons, List.zip_nil_right, List.zip_nil_left, bindE, wS_seq_e, wS_assign_e, wS_if_e, wS_nil_e, wS_ret_e, thenS, wA_bin_e, wA_int_e, wA_bool_e, wA_none_e, wA_cmp_e, wA_bcmp_e, wA_cmp2_e, wA_bcmp2_e, wA_bval_e, wA_bnot_e, wA_not_e, wA_neg_e, wA_band_nil_e, wA_band_cons_e, wA_bor_nil_e, wA_bor_cons_e, wA_vand1_e, wA_vand_e, wA_here_e, wA_there_e, str_eq_iff_e, String.reduceEq, not_false_eq_true, wA_list_e, wA_tup_e, wA_args_nil_e, wA_args_cons_e, wA_call_e, wA_sub_e, wA_isi_e, wA_upto_e, w2_add_e, w2_sub_e, w2_mod_e, w2_div_e, w2_mul_e, w2_pow_e, wC_lt_e, wC_le_e, wC_gt_e, wC_ge_e, List.length_nil, List.length_cons, List.length_map, exp_int, exp_bool, exp_none, aTruth, Option.some.injEq, exL_e, Int.reduceLE, Int.reduceLT, Int.reduceEq, Int.reduceNe, ne_eq, and_true, true_and, Nat.reduceLeDiff, Nat.reduceAdd, Int.reduceNeg, Nat.reduceLT, and_self, nzl_e, wA_name e1]
    exact ⟨hx, _, _, exp_new (Nat.le_refl _) e5 (by simp [AO.closed, closed_spD]), kvs, e6, e7, rfl, rfl⟩
noncomputable def keysV (kvs : List (Int × Sp)) (t : Int) : List Int := (sortI (kvs.map (·.1))).filter fun n => onN (getS kvs n) t
noncomputable def wantsV (kvs : List (Int × Sp)) (t : Int) : List (Int × Int) := (keysV kvs t).map fun n => (n, (getS kvs n).2.2)
theorem keysV_nodup {kvs : List (Int × Sp)} (h : (kvs.map (·.1)).Nodup) (t : Int) : (keysV kvs t).Nodup := by
  unfold keysV
  exact ((sortI_perm _).nodup_iff.mpr h).filter _
theorem wantsV_keys (kvs : List (Int × Sp)) (t : Int) : (wantsV kvs t).map (·.1) = keysV kvs t := by
  unfold wantsV
  rw [List.map_map]
  conv => rhs; rw [← List.map_id (keysV kvs t)]
  rfl
theorem mem_sort {kvs : List (Int × Sp)} {n : Int} (h : n ∈ sortI (kvs.map (·.1))) : n ∈ kvs.map (·.1) := (sortI_perm _).mem_iff.mp h
theorem pairsL_map (f : Int → Int) : ∀ ns : List Int, pairsL (ns.map fun n => AV.tup [.int n, .int (f n)]) = some (ns.map fun n => (n, AV.int (f n)))
  | [] => rfl
  | n :: r => by simp [pairsL, pairsL_map f r]
theorem wants_eq {σ : Store} {i : Nat} {kvs : List (Int × Sp)} {t : Int} (h : σ[i]? = some (.dict (spD kvs))) (hl : kvs.length < 64) (hd : (kvs.map (·.1)).Nodup) :
    sp_law_wants [.ref i, .int t] σ = some (.ref σ.length, σ ++ [.dict (inD (wantsV kvs t))]) := by
  refine wF_get (wF_fn rfl ?_)
  simp only [List.zip_cons_cons, List.zip_nil_right, List.zip_nil_left, bindE, wS_seq_e, wS_assign_e, wS_if_e, wS_nil_e, wS_ret_e, thenS, wA_bin_e, wA_int_e, wA_bool_e, wA_none_e, wA_cmp_e, wA_bcmp_e, wA_cmp2_e, wA_bcmp2_e, wA_bval_e, wA_bnot_e, wA_not_e, wA_neg_e, wA_band_nil_e, wA_band_cons_e, wA_bor_nil_e, wA_bor_cons_e, wA_vand1_e, wA_vand_e, wA_here_e, wA_there_e, str_eq_iff_e, String.reduceEq, not_false_eq_true, wA_list_e, wA_tup_e, wA_args_nil_e, wA_args_cons_e, wA_call_e, wA_sub_e, wA_isi_e, wA_upto_e, w2_add_e, w2_sub_e, w2_mod_e, w2_div_e, w2_mul_e, w2_pow_e, wC_lt_e, wC_le_e, wC_gt_e, wC_ge_e, List.length_nil, List.length_cons, List.length_map, exp_int, exp_bool, exp_none, aTruth, Option.some.injEq, exL_e, Int.reduceLE, Int.reduceLT, Int.reduceEq, Int.reduceNe, ne_eq, and_true, true_and, Nat.reduceLeDiff, Nat.reduceAdd, Int.reduceNeg, Nat.reduceLT, and_self, nzl_e]
  refine wA_compI (fun n => onN (getS kvs n) t) (fun n => .tup [.int n, .int (getS kvs n).2.2]) ?_
  simp (maxDischargeDepth := 9) only [List.zip_cons_cons, List.zip_nil_right, List.zip_nil_left, bindE, wS_seq_e, wS_assign_e, wS_if_e, wS_nil_e, wS_ret_e, thenS, wA_bin_e, wA_int_e, wA_bool_e, wA_none_e, wA_cmp_e, wA_bcmp_e, wA_cmp2_e, wA_bcmp2_e, wA_bval_e, wA_bnot_e, wA_not_e, wA_neg_e, wA_band_nil_e, wA_band_cons_e, wA_bor_nil_e, wA_bor_cons_e, wA_vand1_e, wA_vand_e, wA_here_e, wA_there_e, str_eq_iff_e, String.reduceEq, not_false_eq_true, wA_list_e, wA_tup_e, wA_args_nil_e, wA_args_cons_e, wA_call_e, wA_sub_e, wA_isi_e, wA_upto_e, w2_add_e, w2_sub_e, w2_mod_e, w2_div_e, w2_mul_e, w2_pow_e, wC_lt_e, wC_le_e, wC_gt_e, wC_ge_e, List.length_nil, List.length_cons, List.length_map, exp_int, exp_bool, exp_none, aTruth, Option.some.injEq, exL_e, Int.reduceLE, Int.reduceLT, Int.reduceEq, Int.reduceNe, ne_eq, and_true, true_and, Nat.reduceLeDiff, Nat.reduceAdd, Int.reduceNeg, Nat.reduceLT, and_self, nzl_e, wF_listD h]
  rw [wF_sortedL new_get (by rw [spD_keys, List.length_map]; exact hl)]
  refine ⟨_, items_list new_get, fun n hn => ?_, ?_⟩
  · rw [spD_keys] at hn
    have hlk := spD_look (mem_sort hn)
    have hg := app_get (τ := [.list ((sortI ((spD kvs).map (·.1))).map .int)]) (app_get (τ := [.list (((spD kvs).map (·.1)).map .int)]) h)
    simp (maxDischargeDepth := 9) only [List.zip_cons_cons, List.zip_nil_right, List.zip_nil_left, bindE, wS_seq_e, wS_assign_e, wS_if_e, wS_nil_e, wS_ret_e, thenS, wA_bin_e, wA_int_e, wA_bool_e, wA_none_e, wA_cmp_e, wA_bcmp_e, wA_cmp2_e, wA_bcmp2_e, wA_bval_e, wA_bnot_e, wA_not_e, wA_neg_e, wA_band_nil_e, wA_band_cons_e, wA_bor_nil_e, wA_bor_cons_e, wA_vand1_e, wA_vand_e, wA_here_e, wA_there_e, str_eq_iff_e, String.reduceEq, not_false_eq_true, wA_list_e, wA_tup_e, wA_args_nil_e, wA_args_cons_e, wA_call_e, wA_sub_e, wA_isi_e, wA_upto_e, w2_add_e, w2_sub_e, w2_mod_e, w2_div_e, w2_mul_e, w2_pow_e, wC_lt_e, wC_le_e, wC_gt_e, wC_ge_e, List.length_nil, List.length_cons, List.length_map, exp_int, exp_bool, exp_none, aTruth, Option.some.injEq, exL_e, Int.reduceLE, Int.reduceLT, Int.reduceEq, Int.reduceNe, ne_eq, and_true, true_and, Nat.reduceLeDiff, Nat.reduceAdd, Int.reduceNeg, Nat.reduceLT, and_self, nzl_e, w2_get hg hlk]
    unfold spV
    simp only [List.zip_cons_cons, List.zip_nil_right, List.zip_nil_left, bindE, wS_seq_e, wS_assign_e, wS_if_e, wS_nil_e, wS_ret_e, thenS, wA_bin_e, wA_int_e, wA_bool_e, wA_none_e, wA_cmp_e, wA_bcmp_e, wA_cmp2_e, wA_bcmp2_e, wA_bval_e, wA_bnot_e, wA_not_e, wA_neg_e, wA_band_nil_e, wA_band_cons_e, wA_bor_nil_e, wA_bor_cons_e, wA_vand1_e, wA_vand_e, wA_here_e, wA_there_e, str_eq_iff_e, String.reduceEq, not_false_eq_true, wA_list_e, wA_tup_e, wA_args_nil_e, wA_args_cons_e, wA_call_e, wA_sub_e, wA_isi_e, wA_upto_e, w2_add_e, w2_sub_e, w2_mod_e, w2_div_e, w2_mul_e, w2_pow_e, wC_lt_e, wC_le_e, wC_gt_e, wC_ge_e, List.length_nil, List.length_cons, List.length_map, exp_int, exp_bool, exp_none, aTruth, Option.some.injEq, exL_e, Int.reduceLE, Int.reduceLT, Int.reduceEq, Int.reduceNe, ne_eq, and_true, true_and, Nat.reduceLeDiff, Nat.reduceAdd, Int.reduceNeg, Nat.reduceLT, and_self, nzl_e, w2_tup0_e, w2_tup1_e, w2_tup2_e]
    unfold onN
    by_cases h1 : (getS kvs n).1 ≤ t
    · by_cases h2 : t < (getS kvs n).2.1
      · simp only [List.zip_cons_cons, List.zip_nil_right, List.zip_nil_left, bindE, wS_seq_e, wS_assign_e, wS_if_e, wS_nil_e, wS_ret_e, thenS, wA_bin_e, wA_int_e, wA_bool_e, wA_none_e, wA_cmp_e, wA_bcmp_e, wA_cmp2_e, wA_bcmp2_e, wA_bval_e, wA_bnot_e, wA_not_e, wA_neg_e, wA_band_nil_e, wA_band_cons_e, wA_bor_nil_e, wA_bor_cons_e, wA_vand1_e, wA_vand_e, wA_here_e, wA_there_e, str_eq_iff_e, String.reduceEq, not_false_eq_true, wA_list_e, wA_tup_e, wA_args_nil_e, wA_args_cons_e, wA_call_e, wA_sub_e, wA_isi_e, wA_upto_e, w2_add_e, w2_sub_e, w2_mod_e, w2_div_e, w2_mul_e, w2_pow_e, wC_lt_e, wC_le_e, wC_gt_e, wC_ge_e, List.length_nil, List.length_cons, List.length_map, exp_int, exp_bool, exp_none, aTruth, Option.some.injEq, exL_e, Int.reduceLE, Int.reduceLT, Int.reduceEq, Int.reduceNe, ne_eq, and_true, true_and, Nat.reduceLeDiff, Nat.reduceAdd, Int.reduceNeg, Nat.reduceLT, and_self, nzl_e, w2_get hg hlk, spV, w2_tup0_e, w2_tup1_e, w2_tup2_e, decide_eq_true h1, decide_eq_true h2, if_true, Bool.and_self, AV.closed, closedL, forall_const]
      · simp only [List.zip_cons_cons, List.zip_nil_right, List.zip_nil_left, bindE, wS_seq_e, wS_assign_e, wS_if_e, wS_nil_e, wS_ret_e, thenS, wA_bin_e, wA_int_e, wA_bool_e, wA_none_e, wA_cmp_e, wA_bcmp_e, wA_cmp2_e, wA_bcmp2_e, wA_bval_e, wA_bnot_e, wA_not_e, wA_neg_e, wA_band_nil_e, wA_band_cons_e, wA_bor_nil_e, wA_bor_cons_e, wA_vand1_e, wA_vand_e, wA_here_e, wA_there_e, str_eq_iff_e, String.reduceEq, not_false_eq_true, wA_list_e, wA_tup_e, wA_args_nil_e, wA_args_cons_e, wA_call_e, wA_sub_e, wA_isi_e, wA_upto_e, w2_add_e, w2_sub_e, w2_mod_e, w2_div_e, w2_mul_e, w2_pow_e, wC_lt_e, wC_le_e, wC_gt_e, wC_ge_e, List.length_nil, List.length_cons, List.length_map, exp_int, exp_bool, exp_none, aTruth, Option.some.injEq, exL_e, Int.reduceLE, Int.reduceLT, Int.reduceEq, Int.reduceNe, ne_eq, and_true, true_and, Nat.reduceLeDiff, Nat.reduceAdd, Int.reduceNeg, Nat.reduceLT, and_self, nzl_e, w2_get hg hlk, spV, w2_tup0_e, w2_tup1_e, w2_tup2_e, decide_eq_true h1, decide_eq_false h2, if_true, Bool.and_false, Bool.false_eq_true, false_implies, if_false]
    · simp [h1]
  · have e : ∀ τ : Store, wF bDict [.ref τ.length] (τ ++ [.list (((sortI ((spD kvs).map (·.1))).filter fun n => onN (getS kvs n) t).map fun n => .tup [.int n, .int (getS kvs n).2.2])]) = fun Q => Q (.ref (τ ++ [AO.list (((sortI ((spD kvs).map (·.1))).filter fun n => onN (getS kvs n) t).map fun n => AV.tup [.int n, .int (getS kvs n).2.2])]).length) (τ ++ [.list (((sortI ((spD kvs).map (·.1))).filter fun n => onN (getS kvs n) t).map fun n => .tup [.int n, .int (getS kvs n).2.2])] ++ [.dict (inD (wantsV kvs t))]) := by
      intro τ
      funext Q
      refine propext (wF_eq ?_)
      simp only [bDict, new_get, pairsL_map, Option.map_some]
      rw [fold_put]
      · rw [spD_keys]
        simp only [List.nil_append, inD, wantsV, keysV, List.map_map]
        rfl
      · rw [spD_keys]
        simp only [List.nil_append, List.map_map]
        have := keysV_nodup hd t
        unfold keysV at this
        have e : ((sortI (kvs.map (·.1))).filter fun n => onN (getS kvs n) t).map ((fun p : Int × AV => p.1) ∘ fun n => (n, AV.int (getS kvs n).2.2)) = (sortI (kvs.map (·.1))).filter fun n => onN (getS kvs n) t := by
          conv => rhs; rw [← List.map_id ((sortI (kvs.map (·.1))).filter fun n => onN (getS kvs n) t)]
          rfl
        rw [e]; exact this
    rw [e]
    refine ⟨ext_app (ext_app (ext_app ext_self)), _, _, exp_new ?_ new_get (by simp [AO.closed, closed_inD]), rfl, rfl⟩
    simp only [List.length_append]; omega
theorem wF_wants {σ : Store} {i : Nat} {kvs : List (Int × Sp)} {t : Int} {Q} (h : σ[i]? = some (.dict (spD kvs))) (hl : kvs.length < 64) (hd : (kvs.map (·.1)).Nodup) :
    wF sp_law_wants [.ref i, .int t] σ Q ↔ Q (.ref σ.length) (σ ++ [.dict (inD (wantsV kvs t))]) := wF_eq (wants_eq h hl hd)
theorem wantsOn_eq {σ : Store} {i : Nat} {kvs : List (Int × Sp)} {t : Int} (h : σ[i]? = some (.dict (spD kvs))) (hl : kvs.length < 64) (hd : (kvs.map (·.1)).Nodup) :
    sp_wants_on [.ref i, .int t] σ = some (.ref σ.length, σ ++ [.dict (inD (wantsV kvs t))]) := by
  have hi := (List.getElem?_eq_some_iff.mp h).1
  refine wF_get (wF_fn rfl ?_)
  refine wS_seq.2 ?_
  simp only [wS_assign_e, wA_dict0_e, thenS, List.zip_cons_cons, List.zip_nil_right, bindE]
  refine wS_cut (fun ρ' σ' => Ext σ σ' ∧ ρ' "found" = some (.ref σ.length) ∧ σ'[σ.length]? = some (.dict (inD (wantsV kvs t)))) ?_ ?_
  · refine wS_forI (σ.length + 1) (sortI (kvs.map (·.1))) (fun d ρ' σ' => Ext σ σ' ∧ ρ' "found" = some (.ref σ.length) ∧ ρ' "stays" = some (.ref i) ∧ ρ' "night" = some (.int t) ∧ σ'[σ.length + 1]? = some (.list ((sortI (kvs.map (·.1))).map .int)) ∧ σ'[σ.length]? = some (.dict (inD ((d.filter fun n => onN (getS kvs n) t).map fun n => (n, (getS kvs n).2.2))))) ?_ ?_ ?_ ?_
    · have h1 := app_get (τ := [.dict []]) h
      simp (maxDischargeDepth := 9) only [List.zip_cons_cons, List.zip_nil_right, List.zip_nil_left, bindE, wS_seq_e, wS_assign_e, wS_if_e, wS_nil_e, wS_ret_e, thenS, wA_bin_e, wA_int_e, wA_bool_e, wA_none_e, wA_cmp_e, wA_bcmp_e, wA_cmp2_e, wA_bcmp2_e, wA_bval_e, wA_bnot_e, wA_not_e, wA_neg_e, wA_band_nil_e, wA_band_cons_e, wA_bor_nil_e, wA_bor_cons_e, wA_vand1_e, wA_vand_e, wA_here_e, wA_there_e, str_eq_iff_e, String.reduceEq, not_false_eq_true, wA_list_e, wA_tup_e, wA_args_nil_e, wA_args_cons_e, wA_call_e, wA_sub_e, wA_isi_e, wA_upto_e, w2_add_e, w2_sub_e, w2_mod_e, w2_div_e, w2_mul_e, w2_pow_e, wC_lt_e, wC_le_e, wC_gt_e, wC_ge_e, List.length_nil, List.length_cons, List.length_map, exp_int, exp_bool, exp_none, aTruth, Option.some.injEq, exL_e, Int.reduceLE, Int.reduceLT, Int.reduceEq, Int.reduceNe, ne_eq, and_true, true_and, Nat.reduceLeDiff, Nat.reduceAdd, Int.reduceNeg, Nat.reduceLT, and_self, nzl_e]
      rw [wF_sortedD h1 (by rw [spD_len]; exact hl), spD_keys]
      refine ⟨by simp, ext_app ext_self, upd_same, by (first | ((repeat (first | exact upd_same | refine (upd_ne rfl).trans ?_)); done) | simp [upd, str_eq_iff]), by (first | ((repeat (first | exact upd_same | refine (upd_ne rfl).trans ?_)); done) | simp [upd, str_eq_iff]), by simp, ?_⟩
      rw [app_get new_get]; rfl
    · rintro d ρ' σ' ⟨hx, e1, e2, e3, e4, e5⟩
      exact e4
    · rintro d n r ρ' σ' hsp ⟨hx, e1, e2, e3, e4, e5⟩
      have hn : n ∈ kvs.map (·.1) := mem_sort (by rw [hsp]; simp)
      have hlk := spD_look hn
      have hg := hx.get h
      have hlt := (List.getElem?_eq_some_iff.mp e5).1
      rw [wS_seq]
      refine wS_if_of (fun b σ1 => σ' = σ1 ∧ b = onN (getS kvs n) t) ?_ ?_ ?_
      · simp (maxDischargeDepth := 9) only [List.zip_cons_cons, List.zip_nil_right, List.zip_nil_left, bindE, wS_seq_e, wS_assign_e, wS_if_e, wS_nil_e, wS_ret_e, thenS, wA_bin_e, wA_int_e, wA_bool_e, wA_none_e, wA_cmp_e, wA_bcmp_e, wA_cmp2_e, wA_bcmp2_e, wA_bval_e, wA_bnot_e, wA_not_e, wA_neg_e, wA_band_nil_e, wA_band_cons_e, wA_bor_nil_e, wA_bor_cons_e, wA_vand1_e, wA_vand_e, wA_here_e, wA_there_e, str_eq_iff_e, String.reduceEq, not_false_eq_true, wA_list_e, wA_tup_e, wA_args_nil_e, wA_args_cons_e, wA_call_e, wA_sub_e, wA_isi_e, wA_upto_e, w2_add_e, w2_sub_e, w2_mod_e, w2_div_e, w2_mul_e, w2_pow_e, wC_lt_e, wC_le_e, wC_gt_e, wC_ge_e, List.length_nil, List.length_cons, List.length_map, exp_int, exp_bool, exp_none, aTruth, Option.some.injEq, exL_e, Int.reduceLE, Int.reduceLT, Int.reduceEq, Int.reduceNe, ne_eq, and_true, true_and, Nat.reduceLeDiff, Nat.reduceAdd, Int.reduceNeg, Nat.reduceLT, and_self, nzl_e, wA_name e2, wA_name e3, w2_get hg hlk, wF_hasNight_e]
      · rintro _ ⟨rfl, hb⟩
        rw [wS_seq]
        refine wS_setItemD ?_
        simp (maxDischargeDepth := 9) only [List.zip_cons_cons, List.zip_nil_right, List.zip_nil_left, bindE, wS_seq_e, wS_assign_e, wS_if_e, wS_nil_e, wS_ret_e, thenS, wA_bin_e, wA_int_e, wA_bool_e, wA_none_e, wA_cmp_e, wA_bcmp_e, wA_cmp2_e, wA_bcmp2_e, wA_bval_e, wA_bnot_e, wA_not_e, wA_neg_e, wA_band_nil_e, wA_band_cons_e, wA_bor_nil_e, wA_bor_cons_e, wA_vand1_e, wA_vand_e, wA_here_e, wA_there_e, str_eq_iff_e, String.reduceEq, not_false_eq_true, wA_list_e, wA_tup_e, wA_args_nil_e, wA_args_cons_e, wA_call_e, wA_sub_e, wA_isi_e, wA_upto_e, w2_add_e, w2_sub_e, w2_mod_e, w2_div_e, w2_mul_e, w2_pow_e, wC_lt_e, wC_le_e, wC_gt_e, wC_ge_e, List.length_nil, List.length_cons, List.length_map, exp_int, exp_bool, exp_none, aTruth, Option.some.injEq, exL_e, Int.reduceLE, Int.reduceLT, Int.reduceEq, Int.reduceNe, ne_eq, and_true, true_and, Nat.reduceLeDiff, Nat.reduceAdd, Int.reduceNeg, Nat.reduceLT, and_self, nzl_e, wA_name e2, w2_get hg hlk]
        unfold spV
        simp only [List.zip_cons_cons, List.zip_nil_right, List.zip_nil_left, bindE, wS_seq_e, wS_assign_e, wS_if_e, wS_nil_e, wS_ret_e, thenS, wA_bin_e, wA_int_e, wA_bool_e, wA_none_e, wA_cmp_e, wA_bcmp_e, wA_cmp2_e, wA_bcmp2_e, wA_bval_e, wA_bnot_e, wA_not_e, wA_neg_e, wA_band_nil_e, wA_band_cons_e, wA_bor_nil_e, wA_bor_cons_e, wA_vand1_e, wA_vand_e, wA_here_e, wA_there_e, str_eq_iff_e, String.reduceEq, not_false_eq_true, wA_list_e, wA_tup_e, wA_args_nil_e, wA_args_cons_e, wA_call_e, wA_sub_e, wA_isi_e, wA_upto_e, w2_add_e, w2_sub_e, w2_mod_e, w2_div_e, w2_mul_e, w2_pow_e, wC_lt_e, wC_le_e, wC_gt_e, wC_ge_e, List.length_nil, List.length_cons, List.length_map, exp_int, exp_bool, exp_none, aTruth, Option.some.injEq, exL_e, Int.reduceLE, Int.reduceLT, Int.reduceEq, Int.reduceNe, ne_eq, and_true, true_and, Nat.reduceLeDiff, Nat.reduceAdd, Int.reduceNeg, Nat.reduceLT, and_self, nzl_e, w2_tup2_e]
        have hfr : n ∉ (inD ((d.filter fun n => onN (getS kvs n) t).map fun n => (n, (getS kvs n).2.2))).map (·.1) := by
          have hnd : (sortI (kvs.map (·.1))).Nodup := (sortI_perm _).nodup_iff.mpr hd
          rw [hsp] at hnd
          have := (List.nodup_append.mp hnd).2.2
          intro hm
          simp only [inD, List.map_map, List.mem_map, List.mem_filter] at hm
          obtain ⟨m, ⟨hm1, _⟩, hm2⟩ := hm
          have : m = n := hm2
          subst this
          exact (List.nodup_append.mp hnd).2.2 _ hm1 _ (.head _) rfl
        have hle : (inD ((d.filter fun n => onN (getS kvs n) t).map fun n => (n, (getS kvs n).2.2))).length < 1000000 := by
          have h1 : (sortI (kvs.map (·.1))).length = kvs.length := by rw [(sortI_perm _).length_eq, List.length_map]
          have h2 : d.length ≤ kvs.length := by rw [← h1, hsp]; simp
          have h3 := List.length_filter_le (fun n => onN (getS kvs n) t) d
          rw [inD_len, List.length_map]; omega
        refine ⟨σ.length, by (first | ((repeat (first | exact e1 | refine (upd_ne rfl).trans ?_)); done) | simpa [upd, str_eq_iff] using e1), _, n, e5, rfl, Nat.le_refl _, hle, hx.set (Nat.le_refl _), by (first | ((repeat (first | exact e1 | refine (upd_ne rfl).trans ?_)); done) | simpa [upd, str_eq_iff] using e1), by (first | ((repeat (first | exact e2 | refine (upd_ne rfl).trans ?_)); done) | simpa [upd, str_eq_iff] using e2), by (first | ((repeat (first | exact e3 | refine (upd_ne rfl).trans ?_)); done) | simpa [upd, str_eq_iff] using e3), set_get_ne e4 (by omega), ?_⟩
        rw [List.getElem?_set_self hlt, put_fresh hfr, List.filter_append]
        simp [inD, ← hb]
      · rintro _ ⟨rfl, hb⟩
        simp only [wS_nil_e, thenS]
        refine ⟨hx, by (first | ((repeat (first | exact e1 | refine (upd_ne rfl).trans ?_)); done) | simpa [upd, str_eq_iff] using e1), by (first | ((repeat (first | exact e2 | refine (upd_ne rfl).trans ?_)); done) | simpa [upd, str_eq_iff] using e2), by (first | ((repeat (first | exact e3 | refine (upd_ne rfl).trans ?_)); done) | simpa [upd, str_eq_iff] using e3), e4, ?_⟩
        rw [List.filter_append]
        simpa [← hb] using e5
    · rintro ρ' σ' ⟨hx, e1, e2, e3, e4, e5⟩
      exact ⟨rfl, hx, e1, e5⟩
  · rintro ρ' σ' ⟨hx, e1, e5⟩
    simp (maxDischargeDepth := 9) only [List.zip_cons_cons, List.zip_nil_right, List.zip_nil_left, bindE, wS_seq_e, wS_assign_e, wS_if_e, wS_nil_e, wS_ret_e, thenS, wA_bin_e, wA_int_e, wA_bool_e, wA_none_e, wA_cmp_e, wA_bcmp_e, wA_cmp2_e, wA_bcmp2_e, wA_bval_e, wA_bnot_e, wA_not_e, wA_neg_e, wA_band_nil_e, wA_band_cons_e, wA_bor_nil_e, wA_bor_cons_e, wA_vand1_e, wA_vand_e, wA_here_e, wA_there_e, str_eq_iff_e, String.reduceEq, not_false_eq_true, wA_list_e, wA_tup_e, wA_args_nil_e, wA_args_cons_e, wA_call_e, wA_sub_e, wA_isi_e, wA_upto_e, w2_add_e, w2_sub_e, w2_mod_e, w2_div_e, w2_mul_e, w2_pow_e, wC_lt_e, wC_le_e, wC_gt_e, wC_ge_e, List.length_nil, List.length_cons, List.length_map, exp_int, exp_bool, exp_none, aTruth, Option.some.injEq, exL_e, Int.reduceLE, Int.reduceLT, Int.reduceEq, Int.reduceNe, ne_eq, and_true, true_and, Nat.reduceLeDiff, Nat.reduceAdd, Int.reduceNeg, Nat.reduceLT, and_self, nzl_e, wA_name e1]
    exact ⟨hx, _, _, exp_new (Nat.le_refl _) e5 (by simp [AO.closed, closed_inD]), rfl, rfl⟩
theorem wF_wantsOn {σ : Store} {i : Nat} {kvs : List (Int × Sp)} {t : Int} {Q} (h : σ[i]? = some (.dict (spD kvs))) (hl : kvs.length < 64) (hd : (kvs.map (·.1)).Nodup) :
    wF sp_wants_on [.ref i, .int t] σ Q ↔ Q (.ref σ.length) (σ ++ [.dict (inD (wantsV kvs t))]) := wF_eq (wantsOn_eq h hl hd)
end Inn
end
section
set_option maxRecDepth 10000
set_option linter.unusedVariables false
set_option linter.unusedSimpArgs false
namespace Inn
open PySem PySem.W
noncomputable def shutV (kvs : List (Int × Sp)) (t : Int) : List Int := ((kvs.map (·.1)).filter fun n => onN (getS kvs n) t).map fun n => (getS kvs n).2.2
noncomputable def opP (ns sh : List Int) (r : Int) : Bool := !(sh.any (· == (kindsO ns 0).getD r.toNat 0))
noncomputable def openV (ns sh : List Int) : List Int := (rgI 0 (kindsO ns 0).length).filter (opP ns sh)
theorem firstV_succ {ns : List Int} {k : Nat} {a : Int} (h : ns[k]? = some a) : firstV ns (k + 1) = firstV ns k + a := by
  unfold firstV
  rw [List.take_add_one, h]; simp
theorem open_step {ns sh : List Int} {k : Nat} {a : Int} (hn : ∀ n ∈ ns, 0 ≤ n) (h : ns[k]? = some a) :
    (rgI 0 (firstV ns (k + 1))).filter (opP ns sh) = (rgI 0 (firstV ns k)).filter (opP ns sh) ++ (if sh.any (· == (k : Int)) then [] else rgI (firstV ns k) (firstV ns k + a)) := by
  have hf := first_le hn h
  rw [firstV_succ h, rgI_app hf.1 (show firstV ns k ≤ firstV ns k + a by omega), List.filter_append]
  congr 1
  have hp : ∀ r ∈ rgI (firstV ns k) (firstV ns k + a), opP ns sh r = !(sh.any (· == (k : Int))) := by
    intro r hr
    have hm := rgI_mem hr
    have hget := kindsO_get ns 0 r.toNat hn (by omega)
    have e : ((r.toNat : Nat) : Int) = r := by omega
    rw [e] at hget
    have hki := (kindV_iff ns k a r hn h (by omega) (by omega)).2 (by omega)
    unfold opP
    rw [List.getD_eq_getElem?_getD, hget, hki]
    simp
  cases hs : sh.any (· == (k : Int)) with
  | true =>
    rw [if_pos rfl]
    exact List.filter_eq_nil_iff.mpr fun r hr => by rw [hp r hr, hs]; simp
  | false =>
    rw [if_neg (by simp)]
    exact List.filter_eq_self.mpr fun r hr => by rw [hp r hr, hs]; rfl
theorem open_all {ns sh : List Int} (hn : ∀ n ∈ ns, 0 ≤ n) : (rgI 0 (firstV ns ns.length)).filter (opP ns sh) = openV ns sh := by
  unfold openV
  have := kindsO_len ns 0 hn
  rw [this]; unfold firstV; rw [List.take_length]
theorem open_mem {ns sh : List Int} {r : Int} (hn : ∀ n ∈ ns, 0 ≤ n) (h : r ∈ openV ns sh) : 0 ≤ r ∧ r < ns.sum := by
  unfold openV at h
  have := rgI_mem (List.mem_filter.mp h).1
  have := kindsO_len ns 0 hn
  omega
theorem open_eq {σ : Store} {i j : Nat} {ns : List Int} {cl : List (Int × Sp)} {t : Int} (h : σ[i]? = some (.list (ns.map .int))) (hg : houseV ns = true) (hd : σ[j]? = some (.dict (spD cl))) :
    sp_law_open [.ref i, .ref j, .int t] σ = some (.ref σ.length, σ ++ [.list ((openV ns (shutV cl t)).map .int)]) := by
  obtain ⟨⟨g1, g2⟩, g3⟩ := house_iff.1 hg
  have hn : ∀ n ∈ ns, 0 ≤ n := fun n hn => (g3 n hn).1
  have hsum := sum_le g3
  have hklen := kindsO_len ns 0 hn
  refine wF_get (wF_fn rfl ?_)
  refine wS_cut (fun ρ' σ' => Ext σ σ' ∧ ρ' "_law_counts" = some (.ref i) ∧ ∃ k, ρ' "_law_shut" = some (.ref k) ∧ σ'[k]? = some (.list ((shutV cl t).map .int))) ?_ ?_
  · rw [wS_assign]
    refine wA_compI (fun n => onN (getS cl n) t) (fun n => .int (getS cl n).2.2) ?_
    simp (maxDischargeDepth := 9) only [List.zip_cons_cons, List.zip_nil_right, List.zip_nil_left, bindE, wS_seq_e, wS_assign_e, wS_if_e, wS_nil_e, wS_ret_e, thenS, wA_bin_e, wA_int_e, wA_bool_e, wA_none_e, wA_cmp_e, wA_bcmp_e, wA_cmp2_e, wA_bcmp2_e, wA_bval_e, wA_bnot_e, wA_not_e, wA_neg_e, wA_band_nil_e, wA_band_cons_e, wA_bor_nil_e, wA_bor_cons_e, wA_vand1_e, wA_vand_e, wA_here_e, wA_there_e, str_eq_iff_e, String.reduceEq, not_false_eq_true, wA_list_e, wA_tup_e, wA_args_nil_e, wA_args_cons_e, wA_call_e, wA_sub_e, wA_isi_e, wA_upto_e, w2_add_e, w2_sub_e, w2_mod_e, w2_div_e, w2_mul_e, w2_pow_e, wC_lt_e, wC_le_e, wC_gt_e, wC_ge_e, List.length_nil, List.length_cons, List.length_map, exp_int, exp_bool, exp_none, aTruth, Option.some.injEq, exL_e, Int.reduceLE, Int.reduceLT, Int.reduceEq, Int.reduceNe, ne_eq, and_true, true_and, Nat.reduceLeDiff, Nat.reduceAdd, Int.reduceNeg, Nat.reduceLT, and_self, nzl_e]
    refine ⟨cl.map (·.1), by rw [items_dict hd, spD_keys], fun n hn => ?_, ?_⟩
    · have hlk := spD_look hn
      simp (maxDischargeDepth := 9) only [List.zip_cons_cons, List.zip_nil_right, List.zip_nil_left, bindE, wS_seq_e, wS_assign_e, wS_if_e, wS_nil_e, wS_ret_e, thenS, wA_bin_e, wA_int_e, wA_bool_e, wA_none_e, wA_cmp_e, wA_bcmp_e, wA_cmp2_e, wA_bcmp2_e, wA_bval_e, wA_bnot_e, wA_not_e, wA_neg_e, wA_band_nil_e, wA_band_cons_e, wA_bor_nil_e, wA_bor_cons_e, wA_vand1_e, wA_vand_e, wA_here_e, wA_there_e, str_eq_iff_e, String.reduceEq, not_false_eq_true, wA_list_e, wA_tup_e, wA_args_nil_e, wA_args_cons_e, wA_call_e, wA_sub_e, wA_isi_e, wA_upto_e, w2_add_e, w2_sub_e, w2_mod_e, w2_div_e, w2_mul_e, w2_pow_e, wC_lt_e, wC_le_e, wC_gt_e, wC_ge_e, List.length_nil, List.length_cons, List.length_map, exp_int, exp_bool, exp_none, aTruth, Option.some.injEq, exL_e, Int.reduceLE, Int.reduceLT, Int.reduceEq, Int.reduceNe, ne_eq, and_true, true_and, Nat.reduceLeDiff, Nat.reduceAdd, Int.reduceNeg, Nat.reduceLT, and_self, nzl_e, w2_get hd hlk]
      unfold onN
      by_cases h1 : (getS cl n).1 ≤ t
      · by_cases h2 : t < (getS cl n).2.1
        · simp only [List.zip_cons_cons, List.zip_nil_right, List.zip_nil_left, bindE, wS_seq_e, wS_assign_e, wS_if_e, wS_nil_e, wS_ret_e, thenS, wA_bin_e, wA_int_e, wA_bool_e, wA_none_e, wA_cmp_e, wA_bcmp_e, wA_cmp2_e, wA_bcmp2_e, wA_bval_e, wA_bnot_e, wA_not_e, wA_neg_e, wA_band_nil_e, wA_band_cons_e, wA_bor_nil_e, wA_bor_cons_e, wA_vand1_e, wA_vand_e, wA_here_e, wA_there_e, str_eq_iff_e, String.reduceEq, not_false_eq_true, wA_list_e, wA_tup_e, wA_args_nil_e, wA_args_cons_e, wA_call_e, wA_sub_e, wA_isi_e, wA_upto_e, w2_add_e, w2_sub_e, w2_mod_e, w2_div_e, w2_mul_e, w2_pow_e, wC_lt_e, wC_le_e, wC_gt_e, wC_ge_e, List.length_nil, List.length_cons, List.length_map, exp_int, exp_bool, exp_none, aTruth, Option.some.injEq, exL_e, Int.reduceLE, Int.reduceLT, Int.reduceEq, Int.reduceNe, ne_eq, and_true, true_and, Nat.reduceLeDiff, Nat.reduceAdd, Int.reduceNeg, Nat.reduceLT, and_self, nzl_e, w2_get hd hlk, spV, w2_tup0_e, w2_tup1_e, w2_tup2_e, decide_eq_true h1, decide_eq_true h2, if_true, Bool.and_self, AV.closed, closedL, forall_const]
        · simp only [List.zip_cons_cons, List.zip_nil_right, List.zip_nil_left, bindE, wS_seq_e, wS_assign_e, wS_if_e, wS_nil_e, wS_ret_e, thenS, wA_bin_e, wA_int_e, wA_bool_e, wA_none_e, wA_cmp_e, wA_bcmp_e, wA_cmp2_e, wA_bcmp2_e, wA_bval_e, wA_bnot_e, wA_not_e, wA_neg_e, wA_band_nil_e, wA_band_cons_e, wA_bor_nil_e, wA_bor_cons_e, wA_vand1_e, wA_vand_e, wA_here_e, wA_there_e, str_eq_iff_e, String.reduceEq, not_false_eq_true, wA_list_e, wA_tup_e, wA_args_nil_e, wA_args_cons_e, wA_call_e, wA_sub_e, wA_isi_e, wA_upto_e, w2_add_e, w2_sub_e, w2_mod_e, w2_div_e, w2_mul_e, w2_pow_e, wC_lt_e, wC_le_e, wC_gt_e, wC_ge_e, List.length_nil, List.length_cons, List.length_map, exp_int, exp_bool, exp_none, aTruth, Option.some.injEq, exL_e, Int.reduceLE, Int.reduceLT, Int.reduceEq, Int.reduceNe, ne_eq, and_true, true_and, Nat.reduceLeDiff, Nat.reduceAdd, Int.reduceNeg, Nat.reduceLT, and_self, nzl_e, w2_get hd hlk, spV, w2_tup0_e, w2_tup1_e, w2_tup2_e, decide_eq_true h1, decide_eq_false h2, if_true, Bool.and_false, Bool.false_eq_true, false_implies, if_false]
      · simp only [List.zip_cons_cons, List.zip_nil_right, List.zip_nil_left, bindE, wS_seq_e, wS_assign_e, wS_if_e, wS_nil_e, wS_ret_e, thenS, wA_bin_e, wA_int_e, wA_bool_e, wA_none_e, wA_cmp_e, wA_bcmp_e, wA_cmp2_e, wA_bcmp2_e, wA_bval_e, wA_bnot_e, wA_not_e, wA_neg_e, wA_band_nil_e, wA_band_cons_e, wA_bor_nil_e, wA_bor_cons_e, wA_vand1_e, wA_vand_e, wA_here_e, wA_there_e, str_eq_iff_e, String.reduceEq, not_false_eq_true, wA_list_e, wA_tup_e, wA_args_nil_e, wA_args_cons_e, wA_call_e, wA_sub_e, wA_isi_e, wA_upto_e, w2_add_e, w2_sub_e, w2_mod_e, w2_div_e, w2_mul_e, w2_pow_e, wC_lt_e, wC_le_e, wC_gt_e, wC_ge_e, List.length_nil, List.length_cons, List.length_map, exp_int, exp_bool, exp_none, aTruth, Option.some.injEq, exL_e, Int.reduceLE, Int.reduceLT, Int.reduceEq, Int.reduceNe, ne_eq, and_true, true_and, Nat.reduceLeDiff, Nat.reduceAdd, Int.reduceNeg, Nat.reduceLT, and_self, nzl_e, w2_get hd hlk, spV, w2_tup0_e, w2_tup1_e, w2_tup2_e, decide_eq_false h1, Bool.false_and, Bool.false_eq_true, false_implies, if_false]
    · exact ⟨ext_self, by (first | ((repeat (first | exact upd_same | refine (upd_ne rfl).trans ?_)); done) | simp [upd, str_eq_iff]), _, upd_same, by rw [new_get]; simp [shutV]⟩
  · rintro ρ1 σ1 ⟨hx, e1, k, e2, e3⟩
    have hx2 : Ext σ (σ1 ++ [AO.list ((kindsO ns 0).map .int)]) := ext_app hx
    simp (maxDischargeDepth := 9) only [List.zip_cons_cons, List.zip_nil_right, List.zip_nil_left, bindE, wS_seq_e, wS_assign_e, wS_if_e, wS_nil_e, wS_ret_e, thenS, wA_bin_e, wA_int_e, wA_bool_e, wA_none_e, wA_cmp_e, wA_bcmp_e, wA_cmp2_e, wA_bcmp2_e, wA_bval_e, wA_bnot_e, wA_not_e, wA_neg_e, wA_band_nil_e, wA_band_cons_e, wA_bor_nil_e, wA_bor_cons_e, wA_vand1_e, wA_vand_e, wA_here_e, wA_there_e, str_eq_iff_e, String.reduceEq, not_false_eq_true, wA_list_e, wA_tup_e, wA_args_nil_e, wA_args_cons_e, wA_call_e, wA_sub_e, wA_isi_e, wA_upto_e, w2_add_e, w2_sub_e, w2_mod_e, w2_div_e, w2_mul_e, w2_pow_e, wC_lt_e, wC_le_e, wC_gt_e, wC_ge_e, List.length_nil, List.length_cons, List.length_map, exp_int, exp_bool, exp_none, aTruth, Option.some.injEq, exL_e, Int.reduceLE, Int.reduceLT, Int.reduceEq, Int.reduceNe, ne_eq, and_true, true_and, Nat.reduceLeDiff, Nat.reduceAdd, Int.reduceNeg, Nat.reduceLT, and_self, nzl_e, wA_name e1, wF_kinds (hx.get h) hg]
    refine wA_compI (opP ns (shutV cl t)) .int ?_
    simp (maxDischargeDepth := 9) only [List.zip_cons_cons, List.zip_nil_right, List.zip_nil_left, bindE, wS_seq_e, wS_assign_e, wS_if_e, wS_nil_e, wS_ret_e, thenS, wA_bin_e, wA_int_e, wA_bool_e, wA_none_e, wA_cmp_e, wA_bcmp_e, wA_cmp2_e, wA_bcmp2_e, wA_bval_e, wA_bnot_e, wA_not_e, wA_neg_e, wA_band_nil_e, wA_band_cons_e, wA_bor_nil_e, wA_bor_cons_e, wA_vand1_e, wA_vand_e, wA_here_e, wA_there_e, str_eq_iff_e, String.reduceEq, not_false_eq_true, wA_list_e, wA_tup_e, wA_args_nil_e, wA_args_cons_e, wA_call_e, wA_sub_e, wA_isi_e, wA_upto_e, w2_add_e, w2_sub_e, w2_mod_e, w2_div_e, w2_mul_e, w2_pow_e, wC_lt_e, wC_le_e, wC_gt_e, wC_ge_e, List.length_nil, List.length_cons, List.length_map, exp_int, exp_bool, exp_none, aTruth, Option.some.injEq, exL_e, Int.reduceLE, Int.reduceLT, Int.reduceEq, Int.reduceNe, ne_eq, and_true, true_and, Nat.reduceLeDiff, Nat.reduceAdd, Int.reduceNeg, Nat.reduceLT, and_self, nzl_e, wF_len new_get, wF_range1_e]
    refine ⟨rgI 0 (kindsO ns 0).length, items_rng (by omega), fun n hn' => ?_, ext_app hx2, _, _, exp_new (by have := hx2.len; omega) new_get (by simp [AO.closed, closedL_ints]), rfl, rfl⟩
    have hm := rgI_mem hn'
    have hit : ((kindsO ns 0).map AV.int)[n.toNat]? = some (.int ((kindsO ns 0).getD n.toNat 0)) := by
      have : n.toNat < (kindsO ns 0).length := by omega
      simp [this]
    have hnew : (σ1 ++ [AO.list ((kindsO ns 0).map AV.int)])[σ1.length]? = some (.list ((kindsO ns 0).map .int)) := new_get
    simp (maxDischargeDepth := 9) only [List.zip_cons_cons, List.zip_nil_right, List.zip_nil_left, bindE, wS_seq_e, wS_assign_e, wS_if_e, wS_nil_e, wS_ret_e, thenS, wA_bin_e, wA_int_e, wA_bool_e, wA_none_e, wA_cmp_e, wA_bcmp_e, wA_cmp2_e, wA_bcmp2_e, wA_bval_e, wA_bnot_e, wA_not_e, wA_neg_e, wA_band_nil_e, wA_band_cons_e, wA_bor_nil_e, wA_bor_cons_e, wA_vand1_e, wA_vand_e, wA_here_e, wA_there_e, str_eq_iff_e, String.reduceEq, not_false_eq_true, wA_list_e, wA_tup_e, wA_args_nil_e, wA_args_cons_e, wA_call_e, wA_sub_e, wA_isi_e, wA_upto_e, w2_add_e, w2_sub_e, w2_mod_e, w2_div_e, w2_mul_e, w2_pow_e, wC_lt_e, wC_le_e, wC_gt_e, wC_ge_e, List.length_nil, List.length_cons, List.length_map, exp_int, exp_bool, exp_none, aTruth, Option.some.injEq, exL_e, Int.reduceLE, Int.reduceLT, Int.reduceEq, Int.reduceNe, ne_eq, and_true, true_and, Nat.reduceLeDiff, Nat.reduceAdd, Int.reduceNeg, Nat.reduceLT, and_self, nzl_e, wA_name e2, w2_item hnew hm.1 hit, wC_notIn (app_get (τ := [.list ((kindsO ns 0).map .int)]) e3)]
    have hb : opP ns (shutV cl t) n = !((shutV cl t).any (· == (kindsO ns 0).getD n.toNat 0)) := rfl
    rw [hb]
    cases !((shutV cl t).any (· == (kindsO ns 0).getD n.toNat 0)) with
    | true => simp [AV.closed]
    | false => simp
theorem wF_open {σ : Store} {i j : Nat} {ns : List Int} {cl : List (Int × Sp)} {t : Int} {Q} (h : σ[i]? = some (.list (ns.map .int))) (hg : houseV ns = true) (hd : σ[j]? = some (.dict (spD cl))) :
    wF sp_law_open [.ref i, .ref j, .int t] σ Q ↔ Q (.ref σ.length) (σ ++ [.list ((openV ns (shutV cl t)).map .int)]) := wF_eq (open_eq h hg hd)
theorem roomsOn_eq {σ : Store} {i j : Nat} {ns : List Int} {cl : List (Int × Sp)} {t : Int} (h : σ[i]? = some (.list (ns.map .int))) (hg : houseV ns = true) (hd : σ[j]? = some (.dict (spD cl))) :
    sp_rooms_on [.ref i, .ref j, .int t] σ = some (.ref σ.length, σ ++ [.list ((openV ns (shutV cl t)).map .int)]) := by
  obtain ⟨⟨g1, g2⟩, g3⟩ := house_iff.1 hg
  have hn : ∀ n ∈ ns, 0 ≤ n := fun n hn => (g3 n hn).1
  have hb3 : ∀ n ∈ ns, 0 ≤ n ∧ n < 1000 := fun n hh => by have := g3 n hh; omega
  have hsum := sum_le g3
  have hklen := kindsO_len ns 0 hn
  refine wF_get (wF_fn rfl ?_)
  refine wS_cut (fun ρ' σ' => Ext σ σ' ∧ ρ' "counts" = some (.ref i) ∧ ∃ k, ρ' "shut" = some (.ref k) ∧ σ'[k]? = some (.list ((shutV cl t).map .int))) ?_ ?_
  · rw [wS_assignC]
    refine wA_compI (fun n => onN (getS cl n) t) (fun n => .int (getS cl n).2.2) ?_
    simp (maxDischargeDepth := 9) only [List.zip_cons_cons, List.zip_nil_right, List.zip_nil_left, bindE, wS_seq_e, wS_assign_e, wS_if_e, wS_nil_e, wS_ret_e, thenS, wA_bin_e, wA_int_e, wA_bool_e, wA_none_e, wA_cmp_e, wA_bcmp_e, wA_cmp2_e, wA_bcmp2_e, wA_bval_e, wA_bnot_e, wA_not_e, wA_neg_e, wA_band_nil_e, wA_band_cons_e, wA_bor_nil_e, wA_bor_cons_e, wA_vand1_e, wA_vand_e, wA_here_e, wA_there_e, str_eq_iff_e, String.reduceEq, not_false_eq_true, wA_list_e, wA_tup_e, wA_args_nil_e, wA_args_cons_e, wA_call_e, wA_sub_e, wA_isi_e, wA_upto_e, w2_add_e, w2_sub_e, w2_mod_e, w2_div_e, w2_mul_e, w2_pow_e, wC_lt_e, wC_le_e, wC_gt_e, wC_ge_e, List.length_nil, List.length_cons, List.length_map, exp_int, exp_bool, exp_none, aTruth, Option.some.injEq, exL_e, Int.reduceLE, Int.reduceLT, Int.reduceEq, Int.reduceNe, ne_eq, and_true, true_and, Nat.reduceLeDiff, Nat.reduceAdd, Int.reduceNeg, Nat.reduceLT, and_self, nzl_e]
    refine ⟨cl.map (·.1), by rw [items_dict hd, spD_keys], fun n hn => ?_, ?_⟩
    · have hlk := spD_look hn
      simp (maxDischargeDepth := 9) only [List.zip_cons_cons, List.zip_nil_right, List.zip_nil_left, bindE, wS_seq_e, wS_assign_e, wS_if_e, wS_nil_e, wS_ret_e, thenS, wA_bin_e, wA_int_e, wA_bool_e, wA_none_e, wA_cmp_e, wA_bcmp_e, wA_cmp2_e, wA_bcmp2_e, wA_bval_e, wA_bnot_e, wA_not_e, wA_neg_e, wA_band_nil_e, wA_band_cons_e, wA_bor_nil_e, wA_bor_cons_e, wA_vand1_e, wA_vand_e, wA_here_e, wA_there_e, str_eq_iff_e, String.reduceEq, not_false_eq_true, wA_list_e, wA_tup_e, wA_args_nil_e, wA_args_cons_e, wA_call_e, wA_sub_e, wA_isi_e, wA_upto_e, w2_add_e, w2_sub_e, w2_mod_e, w2_div_e, w2_mul_e, w2_pow_e, wC_lt_e, wC_le_e, wC_gt_e, wC_ge_e, List.length_nil, List.length_cons, List.length_map, exp_int, exp_bool, exp_none, aTruth, Option.some.injEq, exL_e, Int.reduceLE, Int.reduceLT, Int.reduceEq, Int.reduceNe, ne_eq, and_true, true_and, Nat.reduceLeDiff, Nat.reduceAdd, Int.reduceNeg, Nat.reduceLT, and_self, nzl_e, w2_get hd hlk, wF_hasNight_e]
      cases onN (getS cl n) t with
      | true => simp only [if_true, spV, w2_tup2_e, AV.closed, and_self, forall_const]
      | false => simp
    · exact ⟨ext_self, by (first | ((repeat (first | exact upd_same | refine (upd_ne rfl).trans ?_)); done) | simp [upd, str_eq_iff]), _, upd_same, by rw [new_get]; simp [shutV]⟩
  · rintro ρ1 σ1 ⟨hx, e1, k, e2, e3⟩
    refine wS_cut (fun ρ' σ' => Ext σ σ' ∧ ρ' "counts" = some (.ref i) ∧ ρ' "shut" = some (.ref k) ∧ σ'[k]? = some (.list ((shutV cl t).map .int)) ∧ ∃ f, ρ' "found" = some (.ref f) ∧ σ.length ≤ f ∧ σ'[f]? = some (.list (([] : List Int).map .int))) ?_ ?_
    · simp (maxDischargeDepth := 9) only [List.zip_cons_cons, List.zip_nil_right, List.zip_nil_left, bindE, wS_seq_e, wS_assign_e, wS_if_e, wS_nil_e, wS_ret_e, thenS, wA_bin_e, wA_int_e, wA_bool_e, wA_none_e, wA_cmp_e, wA_bcmp_e, wA_cmp2_e, wA_bcmp2_e, wA_bval_e, wA_bnot_e, wA_not_e, wA_neg_e, wA_band_nil_e, wA_band_cons_e, wA_bor_nil_e, wA_bor_cons_e, wA_vand1_e, wA_vand_e, wA_here_e, wA_there_e, str_eq_iff_e, String.reduceEq, not_false_eq_true, wA_list_e, wA_tup_e, wA_args_nil_e, wA_args_cons_e, wA_call_e, wA_sub_e, wA_isi_e, wA_upto_e, w2_add_e, w2_sub_e, w2_mod_e, w2_div_e, w2_mul_e, w2_pow_e, wC_lt_e, wC_le_e, wC_gt_e, wC_ge_e, List.length_nil, List.length_cons, List.length_map, exp_int, exp_bool, exp_none, aTruth, Option.some.injEq, exL_e, Int.reduceLE, Int.reduceLT, Int.reduceEq, Int.reduceNe, ne_eq, and_true, true_and, Nat.reduceLeDiff, Nat.reduceAdd, Int.reduceNeg, Nat.reduceLT, and_self, nzl_e]
      exact ⟨ext_app hx, by (first | ((repeat (first | exact e1 | refine (upd_ne rfl).trans ?_)); done) | simpa [upd, str_eq_iff] using e1), by (first | ((repeat (first | exact e2 | refine (upd_ne rfl).trans ?_)); done) | simpa [upd, str_eq_iff] using e2), app_get e3, _, upd_same, hx.len, by rw [new_get]; rfl⟩
    · rintro ρ2 σ2 ⟨hx2, a1, a2, a3, f, a4, a5, a6⟩
      refine wS_cut (fun ρ' σ' => Ext σ σ' ∧ ∃ f, ρ' "found" = some (.ref f) ∧ σ.length ≤ f ∧ σ'[f]? = some (.list ((openV ns (shutV cl t)).map .int))) ?_ ?_
      · refine wS_forN ns.length (by omega) (fun m ρ' σ' => Ext σ σ' ∧ ρ' "counts" = some (.ref i) ∧ ρ' "shut" = some (.ref k) ∧ σ'[k]? = some (.list ((shutV cl t).map .int)) ∧ ∃ f, ρ' "found" = some (.ref f) ∧ σ.length ≤ f ∧ σ'[f]? = some (.list (((rgI 0 (firstV ns m)).filter (opP ns (shutV cl t))).map .int))) ?_ ?_ ?_
        · simp (maxDischargeDepth := 9) only [List.zip_cons_cons, List.zip_nil_right, List.zip_nil_left, bindE, wS_seq_e, wS_assign_e, wS_if_e, wS_nil_e, wS_ret_e, thenS, wA_bin_e, wA_int_e, wA_bool_e, wA_none_e, wA_cmp_e, wA_bcmp_e, wA_cmp2_e, wA_bcmp2_e, wA_bval_e, wA_bnot_e, wA_not_e, wA_neg_e, wA_band_nil_e, wA_band_cons_e, wA_bor_nil_e, wA_bor_cons_e, wA_vand1_e, wA_vand_e, wA_here_e, wA_there_e, str_eq_iff_e, String.reduceEq, not_false_eq_true, wA_list_e, wA_tup_e, wA_args_nil_e, wA_args_cons_e, wA_call_e, wA_sub_e, wA_isi_e, wA_upto_e, w2_add_e, w2_sub_e, w2_mod_e, w2_div_e, w2_mul_e, w2_pow_e, wC_lt_e, wC_le_e, wC_gt_e, wC_ge_e, List.length_nil, List.length_cons, List.length_map, exp_int, exp_bool, exp_none, aTruth, Option.some.injEq, exL_e, Int.reduceLE, Int.reduceLT, Int.reduceEq, Int.reduceNe, ne_eq, and_true, true_and, Nat.reduceLeDiff, Nat.reduceAdd, Int.reduceNeg, Nat.reduceLT, and_self, nzl_e, wA_name a1, wF_len (hx2.get h), wF_range1_e]
          exact ⟨hx2, a1, a2, a3, f, a4, a5, a6⟩
        · rintro m ρ' σ' hm ⟨hx3, b1, b2, b3, f, b4, b5, b6⟩
          have hm' : ns[m]? = some ns[m] := by simp [hm]
          have hst := open_step (sh := shutV cl t) hn hm'
          have hfl := first_le hn hm'
          rw [wS_seq]
          refine wS_if_of (fun b σ1 => σ' = σ1 ∧ b = !((shutV cl t).any (· == (m : Int)))) ?_ ?_ ?_
          · simp (maxDischargeDepth := 9) only [List.zip_cons_cons, List.zip_nil_right, List.zip_nil_left, bindE, wS_seq_e, wS_assign_e, wS_if_e, wS_nil_e, wS_ret_e, thenS, wA_bin_e, wA_int_e, wA_bool_e, wA_none_e, wA_cmp_e, wA_bcmp_e, wA_cmp2_e, wA_bcmp2_e, wA_bval_e, wA_bnot_e, wA_not_e, wA_neg_e, wA_band_nil_e, wA_band_cons_e, wA_bor_nil_e, wA_bor_cons_e, wA_vand1_e, wA_vand_e, wA_here_e, wA_there_e, str_eq_iff_e, String.reduceEq, not_false_eq_true, wA_list_e, wA_tup_e, wA_args_nil_e, wA_args_cons_e, wA_call_e, wA_sub_e, wA_isi_e, wA_upto_e, w2_add_e, w2_sub_e, w2_mod_e, w2_div_e, w2_mul_e, w2_pow_e, wC_lt_e, wC_le_e, wC_gt_e, wC_ge_e, List.length_nil, List.length_cons, List.length_map, exp_int, exp_bool, exp_none, aTruth, Option.some.injEq, exL_e, Int.reduceLE, Int.reduceLT, Int.reduceEq, Int.reduceNe, ne_eq, and_true, true_and, Nat.reduceLeDiff, Nat.reduceAdd, Int.reduceNeg, Nat.reduceLT, and_self, nzl_e, wA_name b2, wC_notIn b3]
          · rintro _ ⟨rfl, hb⟩
            have hb' : (shutV cl t).any (· == (m : Int)) = false := by simpa using hb.symm
            simp (maxDischargeDepth := 9) only [List.zip_cons_cons, List.zip_nil_right, List.zip_nil_left, bindE, wS_seq_e, wS_assign_e, wS_if_e, wS_nil_e, wS_ret_e, thenS, wA_bin_e, wA_int_e, wA_bool_e, wA_none_e, wA_cmp_e, wA_bcmp_e, wA_cmp2_e, wA_bcmp2_e, wA_bval_e, wA_bnot_e, wA_not_e, wA_neg_e, wA_band_nil_e, wA_band_cons_e, wA_bor_nil_e, wA_bor_cons_e, wA_vand1_e, wA_vand_e, wA_here_e, wA_there_e, str_eq_iff_e, String.reduceEq, not_false_eq_true, wA_list_e, wA_tup_e, wA_args_nil_e, wA_args_cons_e, wA_call_e, wA_sub_e, wA_isi_e, wA_upto_e, w2_add_e, w2_sub_e, w2_mod_e, w2_div_e, w2_mul_e, w2_pow_e, wC_lt_e, wC_le_e, wC_gt_e, wC_ge_e, List.length_nil, List.length_cons, List.length_map, exp_int, exp_bool, exp_none, aTruth, Option.some.injEq, exL_e, Int.reduceLE, Int.reduceLT, Int.reduceEq, Int.reduceNe, ne_eq, and_true, true_and, Nat.reduceLeDiff, Nat.reduceAdd, Int.reduceNeg, Nat.reduceLT, and_self, nzl_e, wA_name b1, wA_name b4, wF_roomsOf (hx3.get h) hb3 (by omega) hm']
            have hl1 := List.length_filter_le (opP ns (shutV cl t)) (rgI 0 (firstV ns m))
            rw [rgI_length] at hl1
            rw [w2_addL (app_get b6) new_get (by simp only [List.length_map, rgI_length]; omega)]
            refine ⟨ext_app (ext_app hx3), by (first | ((repeat (first | exact b1 | refine (upd_ne rfl).trans ?_)); done) | simpa [upd, str_eq_iff] using b1), by (first | ((repeat (first | exact b2 | refine (upd_ne rfl).trans ?_)); done) | simpa [upd, str_eq_iff] using b2), app_get (app_get b3), _, upd_same, ?_, ?_⟩
            · have := hx3.len; simp; omega
            · rw [new_get, hst, hb', List.map_append]; rfl
          · rintro _ ⟨rfl, hb⟩
            have hb' : (shutV cl t).any (· == (m : Int)) = true := by simpa using hb.symm
            simp only [wS_nil_e, thenS]
            refine ⟨hx3, by (first | ((repeat (first | exact b1 | refine (upd_ne rfl).trans ?_)); done) | simpa [upd, str_eq_iff] using b1), by (first | ((repeat (first | exact b2 | refine (upd_ne rfl).trans ?_)); done) | simpa [upd, str_eq_iff] using b2), b3, f, by (first | ((repeat (first | exact b4 | refine (upd_ne rfl).trans ?_)); done) | simpa [upd, str_eq_iff] using b4), b5, ?_⟩
            rw [hst, hb', b6]; simp
        · rintro ρ' σ' ⟨hx3, b1, b2, b3, f, b4, b5, b6⟩
          rw [open_all hn] at b6
          exact ⟨rfl, hx3, f, b4, b5, b6⟩
      · rintro ρ' σ' ⟨hx3, f, b4, b5, b6⟩
        simp (maxDischargeDepth := 9) only [List.zip_cons_cons, List.zip_nil_right, List.zip_nil_left, bindE, wS_seq_e, wS_assign_e, wS_if_e, wS_nil_e, wS_ret_e, thenS, wA_bin_e, wA_int_e, wA_bool_e, wA_none_e, wA_cmp_e, wA_bcmp_e, wA_cmp2_e, wA_bcmp2_e, wA_bval_e, wA_bnot_e, wA_not_e, wA_neg_e, wA_band_nil_e, wA_band_cons_e, wA_bor_nil_e, wA_bor_cons_e, wA_vand1_e, wA_vand_e, wA_here_e, wA_there_e, str_eq_iff_e, String.reduceEq, not_false_eq_true, wA_list_e, wA_tup_e, wA_args_nil_e, wA_args_cons_e, wA_call_e, wA_sub_e, wA_isi_e, wA_upto_e, w2_add_e, w2_sub_e, w2_mod_e, w2_div_e, w2_mul_e, w2_pow_e, wC_lt_e, wC_le_e, wC_gt_e, wC_ge_e, List.length_nil, List.length_cons, List.length_map, exp_int, exp_bool, exp_none, aTruth, Option.some.injEq, exL_e, Int.reduceLE, Int.reduceLT, Int.reduceEq, Int.reduceNe, ne_eq, and_true, true_and, Nat.reduceLeDiff, Nat.reduceAdd, Int.reduceNeg, Nat.reduceLT, and_self, nzl_e, wA_name b4]
        exact ⟨hx3, _, _, exp_new b5 b6 (by simp [AO.closed, closedL_ints]), rfl, rfl⟩
theorem wF_roomsOn {σ : Store} {i j : Nat} {ns : List Int} {cl : List (Int × Sp)} {t : Int} {Q} (h : σ[i]? = some (.list (ns.map .int))) (hg : houseV ns = true) (hd : σ[j]? = some (.dict (spD cl))) :
    wF sp_rooms_on [.ref i, .ref j, .int t] σ Q ↔ Q (.ref σ.length) (σ ++ [.list ((openV ns (shutV cl t)).map .int)]) := wF_eq (roomsOn_eq h hg hd)
end Inn
end
section
set_option maxRecDepth 10000
set_option linter.unusedVariables false
set_option linter.unusedSimpArgs false
namespace Inn
open PySem PySem.W
theorem kind_eq {σ : Store} {i : Nat} {ns : List Int} {r : Int} (h : σ[i]? = some (.list (ns.map .int))) (hr : 0 ≤ r) (hs : r < ns.sum) (hl : ns.length < 1000) : sp_kind_of [.ref i, .int r] σ = some (.int (kindV ns r), σ) := by
  refine wF_get (wF_fn rfl ?_)
  simp only [List.zip_cons_cons, List.zip_nil_right, List.zip_nil_left, bindE, wS_seq_e, wS_assign_e, wS_if_e, wS_nil_e, wS_ret_e, thenS, wA_bin_e, wA_int_e, wA_bool_e, wA_none_e, wA_cmp_e, wA_bcmp_e, wA_cmp2_e, wA_bcmp2_e, wA_bval_e, wA_bnot_e, wA_not_e, wA_neg_e, wA_band_nil_e, wA_band_cons_e, wA_bor_nil_e, wA_bor_cons_e, wA_vand1_e, wA_vand_e, wA_here_e, wA_there_e, str_eq_iff_e, String.reduceEq, not_false_eq_true, wA_list_e, wA_tup_e, wA_args_nil_e, wA_args_cons_e, wA_call_e, wA_sub_e, wA_isi_e, wA_upto_e, w2_add_e, w2_sub_e, w2_mod_e, w2_div_e, w2_mul_e, w2_pow_e, wC_lt_e, wC_le_e, wC_gt_e, wC_ge_e, List.length_nil, List.length_cons, List.length_map, exp_int, exp_bool, exp_none, aTruth, Option.some.injEq, exL_e]
  refine wS_while (fun n ρ σ' => σ' = σ ∧ ∃ pre rest r', ns = pre ++ rest ∧ n = rest.length ∧ ρ "counts" = some (.ref i) ∧ ρ "room" = some (.int r') ∧ ρ "kind" = some (.int (pre.length : Int)) ∧ 0 ≤ r' ∧ r' < rest.sum ∧ kindV ns r = pre.length + kindV rest r') ?_ ns.length hl _ _ ?_
  · rintro n ρ σ' ⟨rfl, pre, rest, r', e1, e2, e3, e4, e5, e6, e7, e8⟩
    cases rest with
    | nil => simp at e7; omega
    | cons a rest =>
      have hit : (ns.map AV.int)[(pre.length : Int).toNat]? = some (.int a) := by rw [e1]; simp
      simp only [List.zip_cons_cons, List.zip_nil_right, List.zip_nil_left, bindE, wS_seq_e, wS_assign_e, wS_if_e, wS_nil_e, wS_ret_e, thenS, wA_bin_e, wA_int_e, wA_bool_e, wA_none_e, wA_cmp_e, wA_bcmp_e, wA_cmp2_e, wA_bcmp2_e, wA_bval_e, wA_bnot_e, wA_not_e, wA_neg_e, wA_band_nil_e, wA_band_cons_e, wA_bor_nil_e, wA_bor_cons_e, wA_vand1_e, wA_vand_e, wA_here_e, wA_there_e, str_eq_iff_e, String.reduceEq, not_false_eq_true, wA_list_e, wA_tup_e, wA_args_nil_e, wA_args_cons_e, wA_call_e, wA_sub_e, wA_isi_e, wA_upto_e, w2_add_e, w2_sub_e, w2_mod_e, w2_div_e, w2_mul_e, w2_pow_e, wC_lt_e, wC_le_e, wC_gt_e, wC_ge_e, List.length_nil, List.length_cons, List.length_map, exp_int, exp_bool, exp_none, aTruth, Option.some.injEq, exL_e, wA_name e3, wA_name e4, wA_name e5, w2_item h (Int.natCast_nonneg _) hit]
      by_cases ha : a ≤ r'
      · simp only [decide_eq_true ha, if_true]
        refine ⟨rest.length, by simp [e2], ?_⟩
        have f1 : (upd ρ "room" (.int (r' - a))) "kind" = some (.int (pre.length : Int)) := by (first | ((repeat (first | exact e5 | refine (upd_ne rfl).trans ?_)); done) | simpa [upd, str_eq_iff] using e5)
        refine ⟨trivial, pre ++ [a], rest, r' - a, by simp [e1], rfl, by (first | ((repeat (first | exact e3 | refine (upd_ne rfl).trans ?_)); done) | simpa [upd, str_eq_iff] using e3), by (first | ((repeat (first | exact upd_same | refine (upd_ne rfl).trans ?_)); done) | simp [upd, str_eq_iff]), by simp [upd], by omega, by simp at e7; omega, ?_⟩
        rw [e8, kindV, if_pos ha]; simp; omega
      · simp only [decide_eq_false ha, Bool.false_eq_true, if_false]
        refine ⟨⟨[], by simp⟩, _, _, rfl, ?_, rfl⟩
        rw [e8, kindV, if_neg ha]; simp
  · exact ⟨rfl, [], ns, r, by simp, rfl, by (first | ((repeat (first | exact upd_same | refine (upd_ne rfl).trans ?_)); done) | simp [upd, str_eq_iff]), by (first | ((repeat (first | exact upd_same | refine (upd_ne rfl).trans ?_)); done) | simp [upd, str_eq_iff]), by simp [upd], hr, hs, by simp⟩
theorem wF_kind {σ : Store} {i : Nat} {ns : List Int} {r : Int} {Q} (h : σ[i]? = some (.list (ns.map .int))) (hr : 0 ≤ r) (hs : r < ns.sum) (hl : ns.length < 1000) : wF sp_kind_of [.ref i, .int r] σ Q ↔ Q (.int (kindV ns r)) σ := wF_eq (kind_eq h hr hs hl)
noncomputable def kindI (ns : List Int) (r : Int) : Int := (kindV ns r : Int)
noncomputable def shortV (ns rs : List Int) (ws : List (Int × Int)) : Option Nat := (List.range ns.length).find? fun k => decide (atL (rs.map (kindI ns)) k < atL (ws.map (·.2)) k)
noncomputable def optV : Option Nat → AV
  | none => .none
  | some k => .int k
theorem atLeast_eq {σ : Store} {i : Nat} {l : List Int} {k : Int} (h : σ[i]? = some (.list (l.map .int))) : sp_law_at_least [.ref i, .int k] σ = some (.int (atL l k), σ) := by
  refine wF_get (wF_fn rfl ?_)
  simp only [List.zip_cons_cons, List.zip_nil_right, List.zip_nil_left, bindE, wS_seq_e, wS_assign_e, wS_if_e, wS_nil_e, wS_ret_e, thenS, wA_bin_e, wA_int_e, wA_bool_e, wA_none_e, wA_cmp_e, wA_bcmp_e, wA_cmp2_e, wA_bcmp2_e, wA_bval_e, wA_bnot_e, wA_not_e, wA_neg_e, wA_band_nil_e, wA_band_cons_e, wA_bor_nil_e, wA_bor_cons_e, wA_vand1_e, wA_vand_e, wA_here_e, wA_there_e, str_eq_iff_e, String.reduceEq, not_false_eq_true, wA_list_e, wA_tup_e, wA_args_nil_e, wA_args_cons_e, wA_call_e, wA_sub_e, wA_isi_e, wA_upto_e, w2_add_e, w2_sub_e, w2_mod_e, w2_div_e, w2_mul_e, w2_pow_e, wC_lt_e, wC_le_e, wC_gt_e, wC_ge_e, List.length_nil, List.length_cons, List.length_map, exp_int, exp_bool, exp_none, aTruth, Option.some.injEq, exL_e, Int.reduceLE, Int.reduceLT, Int.reduceEq, Int.reduceNe, ne_eq, and_true, true_and, Nat.reduceLeDiff, Nat.reduceAdd, Int.reduceNeg, Nat.reduceLT, and_self, nzl_e]
  refine wA_compI (fun n => decide (k ≤ n)) .int ?_
  simp only [List.zip_cons_cons, List.zip_nil_right, List.zip_nil_left, bindE, wS_seq_e, wS_assign_e, wS_if_e, wS_nil_e, wS_ret_e, thenS, wA_bin_e, wA_int_e, wA_bool_e, wA_none_e, wA_cmp_e, wA_bcmp_e, wA_cmp2_e, wA_bcmp2_e, wA_bval_e, wA_bnot_e, wA_not_e, wA_neg_e, wA_band_nil_e, wA_band_cons_e, wA_bor_nil_e, wA_bor_cons_e, wA_vand1_e, wA_vand_e, wA_here_e, wA_there_e, str_eq_iff_e, String.reduceEq, not_false_eq_true, wA_list_e, wA_tup_e, wA_args_nil_e, wA_args_cons_e, wA_call_e, wA_sub_e, wA_isi_e, wA_upto_e, w2_add_e, w2_sub_e, w2_mod_e, w2_div_e, w2_mul_e, w2_pow_e, wC_lt_e, wC_le_e, wC_gt_e, wC_ge_e, List.length_nil, List.length_cons, List.length_map, exp_int, exp_bool, exp_none, aTruth, Option.some.injEq, exL_e, Int.reduceLE, Int.reduceLT, Int.reduceEq, Int.reduceNe, ne_eq, and_true, true_and, Nat.reduceLeDiff, Nat.reduceAdd, Int.reduceNeg, Nat.reduceLT, and_self, nzl_e]
  refine ⟨l, items_list h, fun n hn => ?_, ?_⟩
  · by_cases hk : k ≤ n <;> simp [hk, AV.closed]
  · rw [wF_len new_get]
    simp only [List.zip_cons_cons, List.zip_nil_right, List.zip_nil_left, bindE, wS_seq_e, wS_assign_e, wS_if_e, wS_nil_e, wS_ret_e, thenS, wA_bin_e, wA_int_e, wA_bool_e, wA_none_e, wA_cmp_e, wA_bcmp_e, wA_cmp2_e, wA_bcmp2_e, wA_bval_e, wA_bnot_e, wA_not_e, wA_neg_e, wA_band_nil_e, wA_band_cons_e, wA_bor_nil_e, wA_bor_cons_e, wA_vand1_e, wA_vand_e, wA_here_e, wA_there_e, str_eq_iff_e, String.reduceEq, not_false_eq_true, wA_list_e, wA_tup_e, wA_args_nil_e, wA_args_cons_e, wA_call_e, wA_sub_e, wA_isi_e, wA_upto_e, w2_add_e, w2_sub_e, w2_mod_e, w2_div_e, w2_mul_e, w2_pow_e, wC_lt_e, wC_le_e, wC_gt_e, wC_ge_e, List.length_nil, List.length_cons, List.length_map, exp_int, exp_bool, exp_none, aTruth, Option.some.injEq, exL_e, Int.reduceLE, Int.reduceLT, Int.reduceEq, Int.reduceNe, ne_eq, and_true, true_and, Nat.reduceLeDiff, Nat.reduceAdd, Int.reduceNeg, Nat.reduceLT, and_self, nzl_e]
    exact ⟨ext_self, _, _, rfl, rfl, rfl⟩
theorem wF_atLeast {σ : Store} {i : Nat} {l : List Int} {k : Int} {Q} (h : σ[i]? = some (.list (l.map .int))) : wF sp_law_at_least [.ref i, .int k] σ Q ↔ Q (.int (atL l k)) σ := wF_eq (atLeast_eq h)
theorem lawShort_eq {σ : Store} {i j m : Nat} {ns rs : List Int} {ws : List (Int × Int)} (h : σ[i]? = some (.list (ns.map .int))) (hg : houseV ns = true) (hr : σ[j]? = some (.list (rs.map .int))) (hrs : ∀ r ∈ rs, 0 ≤ r ∧ r < ns.sum) (hw : σ[m]? = some (.dict (inD ws))) :
    sp_law_short [.ref i, .ref j, .ref m] σ = some (optV (shortV ns rs ws), σ) := by
  obtain ⟨⟨g1, g2⟩, g3⟩ := house_iff.1 hg
  have hn : ∀ n ∈ ns, 0 ≤ n := fun n hn => (g3 n hn).1
  refine wF_get (wF_fn rfl ?_)
  refine wS_cut (fun ρ' σ' => ρ' = upd (upd (upd (upd emp "_law_counts" (.ref i)) "_law_rooms" (.ref j)) "_law_wants_here" (.ref m)) "_law_kinds_here" (.ref σ.length) ∧ σ' = σ ++ [.list ((kindsO ns 0).map .int)]) ?_ ?_
  · simp (maxDischargeDepth := 9) only [List.zip_cons_cons, List.zip_nil_right, List.zip_nil_left, bindE, wS_seq_e, wS_assign_e, wS_if_e, wS_nil_e, wS_ret_e, thenS, wA_bin_e, wA_int_e, wA_bool_e, wA_none_e, wA_cmp_e, wA_bcmp_e, wA_cmp2_e, wA_bcmp2_e, wA_bval_e, wA_bnot_e, wA_not_e, wA_neg_e, wA_band_nil_e, wA_band_cons_e, wA_bor_nil_e, wA_bor_cons_e, wA_vand1_e, wA_vand_e, wA_here_e, wA_there_e, str_eq_iff_e, String.reduceEq, not_false_eq_true, wA_list_e, wA_tup_e, wA_args_nil_e, wA_args_cons_e, wA_call_e, wA_sub_e, wA_isi_e, wA_upto_e, w2_add_e, w2_sub_e, w2_mod_e, w2_div_e, w2_mul_e, w2_pow_e, wC_lt_e, wC_le_e, wC_gt_e, wC_ge_e, List.length_nil, List.length_cons, List.length_map, exp_int, exp_bool, exp_none, aTruth, Option.some.injEq, exL_e, Int.reduceLE, Int.reduceLT, Int.reduceEq, Int.reduceNe, ne_eq, and_true, true_and, Nat.reduceLeDiff, Nat.reduceAdd, Int.reduceNeg, Nat.reduceLT, and_self, nzl_e, wF_kinds h hg]
  rintro _ _ ⟨rfl, rfl⟩
  refine wS_seq.2 ?_
  refine wS_forN ns.length (by omega) (fun k ρ' σ' => Ext (σ ++ [.list ((kindsO ns 0).map .int)]) σ' ∧ ρ' "_law_rooms" = some (.ref j) ∧ ρ' "_law_wants_here" = some (.ref m) ∧ ρ' "_law_kinds_here" = some (.ref σ.length) ∧ ∀ q : Nat, q < k → decide (atL (rs.map (kindI ns)) q < atL (ws.map (·.2)) q) = false) ?_ ?_ ?_
  · simp (maxDischargeDepth := 9) only [List.zip_cons_cons, List.zip_nil_right, List.zip_nil_left, bindE, wS_seq_e, wS_assign_e, wS_if_e, wS_nil_e, wS_ret_e, thenS, wA_bin_e, wA_int_e, wA_bool_e, wA_none_e, wA_cmp_e, wA_bcmp_e, wA_cmp2_e, wA_bcmp2_e, wA_bval_e, wA_bnot_e, wA_not_e, wA_neg_e, wA_band_nil_e, wA_band_cons_e, wA_bor_nil_e, wA_bor_cons_e, wA_vand1_e, wA_vand_e, wA_here_e, wA_there_e, str_eq_iff_e, String.reduceEq, not_false_eq_true, wA_list_e, wA_tup_e, wA_args_nil_e, wA_args_cons_e, wA_call_e, wA_sub_e, wA_isi_e, wA_upto_e, w2_add_e, w2_sub_e, w2_mod_e, w2_div_e, w2_mul_e, w2_pow_e, wC_lt_e, wC_le_e, wC_gt_e, wC_ge_e, List.length_nil, List.length_cons, List.length_map, exp_int, exp_bool, exp_none, aTruth, Option.some.injEq, exL_e, Int.reduceLE, Int.reduceLT, Int.reduceEq, Int.reduceNe, ne_eq, and_true, true_and, Nat.reduceLeDiff, Nat.reduceAdd, Int.reduceNeg, Nat.reduceLT, and_self, nzl_e, wF_len (app_get (τ := [.list ((kindsO ns 0).map .int)]) h), wF_range1_e]
    exact ⟨ext_refl, by (first | ((repeat (first | exact upd_same | refine (upd_ne rfl).trans ?_)); done) | simp [upd, str_eq_iff]), by (first | ((repeat (first | exact upd_same | refine (upd_ne rfl).trans ?_)); done) | simp [upd, str_eq_iff]), upd_same, fun q hq => absurd hq (Nat.not_lt_zero _)⟩
  · rintro k ρ' σ' hk ⟨hx, e1, e2, e3, e4⟩
    have hx0 : Ext σ σ' := ext_self.trans hx
    rw [wS_seq]
    refine wS_if_of (fun b σ1 => Ext σ' σ1 ∧ b = decide (atL (rs.map (kindI ns)) k < atL (ws.map (·.2)) k)) ?_ ?_ ?_
    · simp (maxDischargeDepth := 9) only [List.zip_cons_cons, List.zip_nil_right, List.zip_nil_left, bindE, wS_seq_e, wS_assign_e, wS_if_e, wS_nil_e, wS_ret_e, thenS, wA_bin_e, wA_int_e, wA_bool_e, wA_none_e, wA_cmp_e, wA_bcmp_e, wA_cmp2_e, wA_bcmp2_e, wA_bval_e, wA_bnot_e, wA_not_e, wA_neg_e, wA_band_nil_e, wA_band_cons_e, wA_bor_nil_e, wA_bor_cons_e, wA_vand1_e, wA_vand_e, wA_here_e, wA_there_e, str_eq_iff_e, String.reduceEq, not_false_eq_true, wA_list_e, wA_tup_e, wA_args_nil_e, wA_args_cons_e, wA_call_e, wA_sub_e, wA_isi_e, wA_upto_e, w2_add_e, w2_sub_e, w2_mod_e, w2_div_e, w2_mul_e, w2_pow_e, wC_lt_e, wC_le_e, wC_gt_e, wC_ge_e, List.length_nil, List.length_cons, List.length_map, exp_int, exp_bool, exp_none, aTruth, Option.some.injEq, exL_e, Int.reduceLE, Int.reduceLT, Int.reduceEq, Int.reduceNe, ne_eq, and_true, true_and, Nat.reduceLeDiff, Nat.reduceAdd, Int.reduceNeg, Nat.reduceLT, and_self, nzl_e, wA_values (x := "_law_wants_here") (ρ := upd ρ' "_law_kind" (.int k)) (by (first | ((repeat (first | exact e2 | refine (upd_ne rfl).trans ?_)); done) | simpa [upd, str_eq_iff] using e2)) (hx0.get hw), wF_listV (hx0.get hw)]
      rw [inD_vals, wF_atLeast new_get]
      refine wA_compM (fun r => .int (kindI ns r)) ?_
      simp (maxDischargeDepth := 9) only [List.zip_cons_cons, List.zip_nil_right, List.zip_nil_left, bindE, wS_seq_e, wS_assign_e, wS_if_e, wS_nil_e, wS_ret_e, thenS, wA_bin_e, wA_int_e, wA_bool_e, wA_none_e, wA_cmp_e, wA_bcmp_e, wA_cmp2_e, wA_bcmp2_e, wA_bval_e, wA_bnot_e, wA_not_e, wA_neg_e, wA_band_nil_e, wA_band_cons_e, wA_bor_nil_e, wA_bor_cons_e, wA_vand1_e, wA_vand_e, wA_here_e, wA_there_e, str_eq_iff_e, String.reduceEq, not_false_eq_true, wA_list_e, wA_tup_e, wA_args_nil_e, wA_args_cons_e, wA_call_e, wA_sub_e, wA_isi_e, wA_upto_e, w2_add_e, w2_sub_e, w2_mod_e, w2_div_e, w2_mul_e, w2_pow_e, wC_lt_e, wC_le_e, wC_gt_e, wC_ge_e, List.length_nil, List.length_cons, List.length_map, exp_int, exp_bool, exp_none, aTruth, Option.some.injEq, exL_e, Int.reduceLE, Int.reduceLT, Int.reduceEq, Int.reduceNe, ne_eq, and_true, true_and, Nat.reduceLeDiff, Nat.reduceAdd, Int.reduceNeg, Nat.reduceLT, and_self, nzl_e, wA_name e1]
      refine ⟨rs, items_list (app_get (hx0.get hr)), fun r hrr => ?_, ?_⟩
      · have hb := hrs r hrr
        have hget := kindsO_get ns 0 r.toNat hn (by omega)
        have e : ((r.toNat : Nat) : Int) = r := by omega
        rw [e] at hget
        have hit : ((kindsO ns 0).map AV.int)[r.toNat]? = some (.int (kindI ns r)) := by simp [hget, kindI]
        have hK := app_get (τ := [.list ((ws.map (·.2)).map .int)]) (hx.get (new_get (σ := σ)))
        simp (maxDischargeDepth := 9) only [List.zip_cons_cons, List.zip_nil_right, List.zip_nil_left, bindE, wS_seq_e, wS_assign_e, wS_if_e, wS_nil_e, wS_ret_e, thenS, wA_bin_e, wA_int_e, wA_bool_e, wA_none_e, wA_cmp_e, wA_bcmp_e, wA_cmp2_e, wA_bcmp2_e, wA_bval_e, wA_bnot_e, wA_not_e, wA_neg_e, wA_band_nil_e, wA_band_cons_e, wA_bor_nil_e, wA_bor_cons_e, wA_vand1_e, wA_vand_e, wA_here_e, wA_there_e, str_eq_iff_e, String.reduceEq, not_false_eq_true, wA_list_e, wA_tup_e, wA_args_nil_e, wA_args_cons_e, wA_call_e, wA_sub_e, wA_isi_e, wA_upto_e, w2_add_e, w2_sub_e, w2_mod_e, w2_div_e, w2_mul_e, w2_pow_e, wC_lt_e, wC_le_e, wC_gt_e, wC_ge_e, List.length_nil, List.length_cons, List.length_map, exp_int, exp_bool, exp_none, aTruth, Option.some.injEq, exL_e, Int.reduceLE, Int.reduceLT, Int.reduceEq, Int.reduceNe, ne_eq, and_true, true_and, Nat.reduceLeDiff, Nat.reduceAdd, Int.reduceNeg, Nat.reduceLT, and_self, nzl_e, wA_name e3, w2_item hK hb.1 hit, AV.closed]
      · have hm : (rs.map fun r => AV.int (kindI ns r)) = (rs.map (kindI ns)).map .int := by simp
        rw [hm, wF_atLeast new_get]
        simp only [List.zip_cons_cons, List.zip_nil_right, List.zip_nil_left, bindE, wS_seq_e, wS_assign_e, wS_if_e, wS_nil_e, wS_ret_e, thenS, wA_bin_e, wA_int_e, wA_bool_e, wA_none_e, wA_cmp_e, wA_bcmp_e, wA_cmp2_e, wA_bcmp2_e, wA_bval_e, wA_bnot_e, wA_not_e, wA_neg_e, wA_band_nil_e, wA_band_cons_e, wA_bor_nil_e, wA_bor_cons_e, wA_vand1_e, wA_vand_e, wA_here_e, wA_there_e, str_eq_iff_e, String.reduceEq, not_false_eq_true, wA_list_e, wA_tup_e, wA_args_nil_e, wA_args_cons_e, wA_call_e, wA_sub_e, wA_isi_e, wA_upto_e, w2_add_e, w2_sub_e, w2_mod_e, w2_div_e, w2_mul_e, w2_pow_e, wC_lt_e, wC_le_e, wC_gt_e, wC_ge_e, List.length_nil, List.length_cons, List.length_map, exp_int, exp_bool, exp_none, aTruth, Option.some.injEq, exL_e, Int.reduceLE, Int.reduceLT, Int.reduceEq, Int.reduceNe, ne_eq, and_true, true_and, Nat.reduceLeDiff, Nat.reduceAdd, Int.reduceNeg, Nat.reduceLT, and_self, nzl_e]
        exact ⟨ext_app ext_self, by rw [decide_eq_decide]; omega⟩
    · rintro σ1 ⟨hx1, hb⟩
      simp (maxDischargeDepth := 9) only [List.zip_cons_cons, List.zip_nil_right, List.zip_nil_left, bindE, wS_seq_e, wS_assign_e, wS_if_e, wS_nil_e, wS_ret_e, thenS, wA_bin_e, wA_int_e, wA_bool_e, wA_none_e, wA_cmp_e, wA_bcmp_e, wA_cmp2_e, wA_bcmp2_e, wA_bval_e, wA_bnot_e, wA_not_e, wA_neg_e, wA_band_nil_e, wA_band_cons_e, wA_bor_nil_e, wA_bor_cons_e, wA_vand1_e, wA_vand_e, wA_here_e, wA_there_e, str_eq_iff_e, String.reduceEq, not_false_eq_true, wA_list_e, wA_tup_e, wA_args_nil_e, wA_args_cons_e, wA_call_e, wA_sub_e, wA_isi_e, wA_upto_e, w2_add_e, w2_sub_e, w2_mod_e, w2_div_e, w2_mul_e, w2_pow_e, wC_lt_e, wC_le_e, wC_gt_e, wC_ge_e, List.length_nil, List.length_cons, List.length_map, exp_int, exp_bool, exp_none, aTruth, Option.some.injEq, exL_e, Int.reduceLE, Int.reduceLT, Int.reduceEq, Int.reduceNe, ne_eq, and_true, true_and, Nat.reduceLeDiff, Nat.reduceAdd, Int.reduceNeg, Nat.reduceLT, and_self, nzl_e]
      refine ⟨hx0.trans hx1, _, _, rfl, ?_, rfl⟩
      rw [shortV, find_range_some e4 hb.symm hk]; rfl
    · rintro σ1 ⟨hx1, hb⟩
      simp only [wS_nil_e, thenS]
      refine ⟨hx.trans hx1, by (first | ((repeat (first | exact e1 | refine (upd_ne rfl).trans ?_)); done) | simpa [upd, str_eq_iff] using e1), by (first | ((repeat (first | exact e2 | refine (upd_ne rfl).trans ?_)); done) | simpa [upd, str_eq_iff] using e2), by (first | ((repeat (first | exact e3 | refine (upd_ne rfl).trans ?_)); done) | simpa [upd, str_eq_iff] using e3), fun q hq => ?_⟩
      by_cases hqk : q < k
      · exact e4 q hqk
      · have : q = k := by omega
        subst this; exact hb.symm
  · rintro ρ' σ' ⟨hx, e1, e2, e3, e4⟩
    simp only [List.zip_cons_cons, List.zip_nil_right, List.zip_nil_left, bindE, wS_seq_e, wS_assign_e, wS_if_e, wS_nil_e, wS_ret_e, thenS, wA_bin_e, wA_int_e, wA_bool_e, wA_none_e, wA_cmp_e, wA_bcmp_e, wA_cmp2_e, wA_bcmp2_e, wA_bval_e, wA_bnot_e, wA_not_e, wA_neg_e, wA_band_nil_e, wA_band_cons_e, wA_bor_nil_e, wA_bor_cons_e, wA_vand1_e, wA_vand_e, wA_here_e, wA_there_e, str_eq_iff_e, String.reduceEq, not_false_eq_true, wA_list_e, wA_tup_e, wA_args_nil_e, wA_args_cons_e, wA_call_e, wA_sub_e, wA_isi_e, wA_upto_e, w2_add_e, w2_sub_e, w2_mod_e, w2_div_e, w2_mul_e, w2_pow_e, wC_lt_e, wC_le_e, wC_gt_e, wC_ge_e, List.length_nil, List.length_cons, List.length_map, exp_int, exp_bool, exp_none, aTruth, Option.some.injEq, exL_e, Int.reduceLE, Int.reduceLT, Int.reduceEq, Int.reduceNe, ne_eq, and_true, true_and, Nat.reduceLeDiff, Nat.reduceAdd, Int.reduceNeg, Nat.reduceLT, and_self, nzl_e]
    refine ⟨ext_self.trans hx, _, _, rfl, ?_, rfl⟩
    rw [shortV, find_range_none e4]; rfl
theorem wF_lawShort {σ : Store} {i j m : Nat} {ns rs : List Int} {ws : List (Int × Int)} {Q} (h : σ[i]? = some (.list (ns.map .int))) (hg : houseV ns = true) (hr : σ[j]? = some (.list (rs.map .int))) (hrs : ∀ r ∈ rs, 0 ≤ r ∧ r < ns.sum) (hw : σ[m]? = some (.dict (inD ws))) :
    wF sp_law_short [.ref i, .ref j, .ref m] σ Q ↔ Q (optV (shortV ns rs ws)) σ := wF_eq (lawShort_eq h hg hr hrs hw)
noncomputable def spareV (ns rs : List Int) (ws : List (Int × Int)) (k : Int) : Int := atL (rs.map (kindI ns)) k - atL (ws.map (·.2)) k
theorem spare_eq {σ : Store} {i j m : Nat} {ns rs : List Int} {ws : List (Int × Int)} {k : Int} (h : σ[i]? = some (.list (ns.map .int))) (hl : ns.length < 1000) (hr : σ[j]? = some (.list (rs.map .int))) (hrs : ∀ r ∈ rs, 0 ≤ r ∧ r < ns.sum) (hw : σ[m]? = some (.dict (inD ws))) (hnd : (ws.map (·.1)).Nodup) :
    sp_spare_of [.ref i, .ref j, .ref m, .int k] σ = some (.int (spareV ns rs ws k), σ) := by
  refine wF_get (wF_fn rfl ?_)
  simp only [List.zip_cons_cons, List.zip_nil_right, List.zip_nil_left, bindE, wS_seq_e, wS_assign_e, wS_if_e, wS_nil_e, wS_ret_e, thenS, wA_bin_e, wA_int_e, wA_bool_e, wA_none_e, wA_cmp_e, wA_bcmp_e, wA_cmp2_e, wA_bcmp2_e, wA_bval_e, wA_bnot_e, wA_not_e, wA_neg_e, wA_band_nil_e, wA_band_cons_e, wA_bor_nil_e, wA_bor_cons_e, wA_vand1_e, wA_vand_e, wA_here_e, wA_there_e, str_eq_iff_e, String.reduceEq, not_false_eq_true, wA_list_e, wA_tup_e, wA_args_nil_e, wA_args_cons_e, wA_call_e, wA_sub_e, wA_isi_e, wA_upto_e, w2_add_e, w2_sub_e, w2_mod_e, w2_div_e, w2_mul_e, w2_pow_e, wC_lt_e, wC_le_e, wC_gt_e, wC_ge_e, List.length_nil, List.length_cons, List.length_map, exp_int, exp_bool, exp_none, aTruth, Option.some.injEq, exL_e, Int.reduceLE, Int.reduceLT, Int.reduceEq, Int.reduceNe, ne_eq, and_true, true_and, Nat.reduceLeDiff, Nat.reduceAdd, Int.reduceNeg, Nat.reduceLT, and_self, nzl_e]
  refine wA_compI (fun r => decide (k ≤ kindI ns r)) .int ?_
  simp only [List.zip_cons_cons, List.zip_nil_right, List.zip_nil_left, bindE, wS_seq_e, wS_assign_e, wS_if_e, wS_nil_e, wS_ret_e, thenS, wA_bin_e, wA_int_e, wA_bool_e, wA_none_e, wA_cmp_e, wA_bcmp_e, wA_cmp2_e, wA_bcmp2_e, wA_bval_e, wA_bnot_e, wA_not_e, wA_neg_e, wA_band_nil_e, wA_band_cons_e, wA_bor_nil_e, wA_bor_cons_e, wA_vand1_e, wA_vand_e, wA_here_e, wA_there_e, str_eq_iff_e, String.reduceEq, not_false_eq_true, wA_list_e, wA_tup_e, wA_args_nil_e, wA_args_cons_e, wA_call_e, wA_sub_e, wA_isi_e, wA_upto_e, w2_add_e, w2_sub_e, w2_mod_e, w2_div_e, w2_mul_e, w2_pow_e, wC_lt_e, wC_le_e, wC_gt_e, wC_ge_e, List.length_nil, List.length_cons, List.length_map, exp_int, exp_bool, exp_none, aTruth, Option.some.injEq, exL_e, Int.reduceLE, Int.reduceLT, Int.reduceEq, Int.reduceNe, ne_eq, and_true, true_and, Nat.reduceLeDiff, Nat.reduceAdd, Int.reduceNeg, Nat.reduceLT, and_self, nzl_e]
  refine ⟨rs, items_list hr, fun r hrr => ?_, ?_⟩
  · have hb := hrs r hrr
    simp only [List.zip_cons_cons, List.zip_nil_right, List.zip_nil_left, bindE, wS_seq_e, wS_assign_e, wS_if_e, wS_nil_e, wS_ret_e, thenS, wA_bin_e, wA_int_e, wA_bool_e, wA_none_e, wA_cmp_e, wA_bcmp_e, wA_cmp2_e, wA_bcmp2_e, wA_bval_e, wA_bnot_e, wA_not_e, wA_neg_e, wA_band_nil_e, wA_band_cons_e, wA_bor_nil_e, wA_bor_cons_e, wA_vand1_e, wA_vand_e, wA_here_e, wA_there_e, str_eq_iff_e, String.reduceEq, not_false_eq_true, wA_list_e, wA_tup_e, wA_args_nil_e, wA_args_cons_e, wA_call_e, wA_sub_e, wA_isi_e, wA_upto_e, w2_add_e, w2_sub_e, w2_mod_e, w2_div_e, w2_mul_e, w2_pow_e, wC_lt_e, wC_le_e, wC_gt_e, wC_ge_e, List.length_nil, List.length_cons, List.length_map, exp_int, exp_bool, exp_none, aTruth, Option.some.injEq, exL_e, Int.reduceLE, Int.reduceLT, Int.reduceEq, Int.reduceNe, ne_eq, and_true, true_and, Nat.reduceLeDiff, Nat.reduceAdd, Int.reduceNeg, Nat.reduceLT, and_self, nzl_e, wF_kind h hb.1 hb.2 hl]
    have e : (kindV ns r : Int) = kindI ns r := rfl
    rw [e]
    by_cases hk : k ≤ kindI ns r <;> simp [hk, AV.closed]
  · rw [wF_len new_get]
    simp only [List.zip_cons_cons, List.zip_nil_right, List.zip_nil_left, bindE, wS_seq_e, wS_assign_e, wS_if_e, wS_nil_e, wS_ret_e, thenS, wA_bin_e, wA_int_e, wA_bool_e, wA_none_e, wA_cmp_e, wA_bcmp_e, wA_cmp2_e, wA_bcmp2_e, wA_bval_e, wA_bnot_e, wA_not_e, wA_neg_e, wA_band_nil_e, wA_band_cons_e, wA_bor_nil_e, wA_bor_cons_e, wA_vand1_e, wA_vand_e, wA_here_e, wA_there_e, str_eq_iff_e, String.reduceEq, not_false_eq_true, wA_list_e, wA_tup_e, wA_args_nil_e, wA_args_cons_e, wA_call_e, wA_sub_e, wA_isi_e, wA_upto_e, w2_add_e, w2_sub_e, w2_mod_e, w2_div_e, w2_mul_e, w2_pow_e, wC_lt_e, wC_le_e, wC_gt_e, wC_ge_e, List.length_nil, List.length_cons, List.length_map, exp_int, exp_bool, exp_none, aTruth, Option.some.injEq, exL_e, Int.reduceLE, Int.reduceLT, Int.reduceEq, Int.reduceNe, ne_eq, and_true, true_and, Nat.reduceLeDiff, Nat.reduceAdd, Int.reduceNeg, Nat.reduceLT, and_self, nzl_e]
    refine wA_compI (fun n => decide (k ≤ getW ws n)) .int ?_
    simp only [List.zip_cons_cons, List.zip_nil_right, List.zip_nil_left, bindE, wS_seq_e, wS_assign_e, wS_if_e, wS_nil_e, wS_ret_e, thenS, wA_bin_e, wA_int_e, wA_bool_e, wA_none_e, wA_cmp_e, wA_bcmp_e, wA_cmp2_e, wA_bcmp2_e, wA_bval_e, wA_bnot_e, wA_not_e, wA_neg_e, wA_band_nil_e, wA_band_cons_e, wA_bor_nil_e, wA_bor_cons_e, wA_vand1_e, wA_vand_e, wA_here_e, wA_there_e, str_eq_iff_e, String.reduceEq, not_false_eq_true, wA_list_e, wA_tup_e, wA_args_nil_e, wA_args_cons_e, wA_call_e, wA_sub_e, wA_isi_e, wA_upto_e, w2_add_e, w2_sub_e, w2_mod_e, w2_div_e, w2_mul_e, w2_pow_e, wC_lt_e, wC_le_e, wC_gt_e, wC_ge_e, List.length_nil, List.length_cons, List.length_map, exp_int, exp_bool, exp_none, aTruth, Option.some.injEq, exL_e, Int.reduceLE, Int.reduceLT, Int.reduceEq, Int.reduceNe, ne_eq, and_true, true_and, Nat.reduceLeDiff, Nat.reduceAdd, Int.reduceNeg, Nat.reduceLT, and_self, nzl_e]
    have hw1 := app_get (τ := [.list ((rs.filter fun r => decide (k ≤ kindI ns r)).map .int)]) hw
    refine ⟨ws.map (·.1), by rw [items_dict hw1, inD_keys], fun n hn => ?_, ?_⟩
    · simp (maxDischargeDepth := 9) only [List.zip_cons_cons, List.zip_nil_right, List.zip_nil_left, bindE, wS_seq_e, wS_assign_e, wS_if_e, wS_nil_e, wS_ret_e, thenS, wA_bin_e, wA_int_e, wA_bool_e, wA_none_e, wA_cmp_e, wA_bcmp_e, wA_cmp2_e, wA_bcmp2_e, wA_bval_e, wA_bnot_e, wA_not_e, wA_neg_e, wA_band_nil_e, wA_band_cons_e, wA_bor_nil_e, wA_bor_cons_e, wA_vand1_e, wA_vand_e, wA_here_e, wA_there_e, str_eq_iff_e, String.reduceEq, not_false_eq_true, wA_list_e, wA_tup_e, wA_args_nil_e, wA_args_cons_e, wA_call_e, wA_sub_e, wA_isi_e, wA_upto_e, w2_add_e, w2_sub_e, w2_mod_e, w2_div_e, w2_mul_e, w2_pow_e, wC_lt_e, wC_le_e, wC_gt_e, wC_ge_e, List.length_nil, List.length_cons, List.length_map, exp_int, exp_bool, exp_none, aTruth, Option.some.injEq, exL_e, Int.reduceLE, Int.reduceLT, Int.reduceEq, Int.reduceNe, ne_eq, and_true, true_and, Nat.reduceLeDiff, Nat.reduceAdd, Int.reduceNeg, Nat.reduceLT, and_self, nzl_e, w2_get hw1 (inD_look hn)]
      by_cases hk : k ≤ getW ws n <;> simp [hk, AV.closed]
    · rw [wF_len new_get]
      simp only [List.zip_cons_cons, List.zip_nil_right, List.zip_nil_left, bindE, wS_seq_e, wS_assign_e, wS_if_e, wS_nil_e, wS_ret_e, thenS, wA_bin_e, wA_int_e, wA_bool_e, wA_none_e, wA_cmp_e, wA_bcmp_e, wA_cmp2_e, wA_bcmp2_e, wA_bval_e, wA_bnot_e, wA_not_e, wA_neg_e, wA_band_nil_e, wA_band_cons_e, wA_bor_nil_e, wA_bor_cons_e, wA_vand1_e, wA_vand_e, wA_here_e, wA_there_e, str_eq_iff_e, String.reduceEq, not_false_eq_true, wA_list_e, wA_tup_e, wA_args_nil_e, wA_args_cons_e, wA_call_e, wA_sub_e, wA_isi_e, wA_upto_e, w2_add_e, w2_sub_e, w2_mod_e, w2_div_e, w2_mul_e, w2_pow_e, wC_lt_e, wC_le_e, wC_gt_e, wC_ge_e, List.length_nil, List.length_cons, List.length_map, exp_int, exp_bool, exp_none, aTruth, Option.some.injEq, exL_e, Int.reduceLE, Int.reduceLT, Int.reduceEq, Int.reduceNe, ne_eq, and_true, true_and, Nat.reduceLeDiff, Nat.reduceAdd, Int.reduceNeg, Nat.reduceLT, and_self, nzl_e]
      refine ⟨ext_app ext_self, _, _, rfl, ?_, rfl⟩
      rw [spareV, atL_map, atL_wants hnd]
theorem wF_spare {σ : Store} {i j m : Nat} {ns rs : List Int} {ws : List (Int × Int)} {k : Int} {Q} (h : σ[i]? = some (.list (ns.map .int))) (hl : ns.length < 1000) (hr : σ[j]? = some (.list (rs.map .int))) (hrs : ∀ r ∈ rs, 0 ≤ r ∧ r < ns.sum) (hw : σ[m]? = some (.dict (inD ws))) (hnd : (ws.map (·.1)).Nodup) :
    wF sp_spare_of [.ref i, .ref j, .ref m, .int k] σ Q ↔ Q (.int (spareV ns rs ws k)) σ := wF_eq (spare_eq h hl hr hrs hw hnd)
theorem shortKind_eq {σ : Store} {i j m : Nat} {ns rs : List Int} {ws : List (Int × Int)} (h : σ[i]? = some (.list (ns.map .int))) (hl : ns.length < 1000) (hr : σ[j]? = some (.list (rs.map .int))) (hrs : ∀ r ∈ rs, 0 ≤ r ∧ r < ns.sum) (hw : σ[m]? = some (.dict (inD ws))) (hnd : (ws.map (·.1)).Nodup) :
    sp_short_kind [.ref i, .ref j, .ref m] σ = some (optV (shortV ns rs ws), σ) := by
  refine wF_get (wF_fn rfl ?_)
  refine wS_seq.2 ?_
  refine wS_forN ns.length (by omega) (fun k ρ' σ' => σ' = σ ∧ ρ' "counts" = some (.ref i) ∧ ρ' "rooms" = some (.ref j) ∧ ρ' "wants" = some (.ref m) ∧ ∀ q : Nat, q < k → decide (atL (rs.map (kindI ns)) q < atL (ws.map (·.2)) q) = false) ?_ ?_ ?_
  · simp (maxDischargeDepth := 9) only [List.zip_cons_cons, List.zip_nil_right, List.zip_nil_left, bindE, wS_seq_e, wS_assign_e, wS_if_e, wS_nil_e, wS_ret_e, thenS, wA_bin_e, wA_int_e, wA_bool_e, wA_none_e, wA_cmp_e, wA_bcmp_e, wA_cmp2_e, wA_bcmp2_e, wA_bval_e, wA_bnot_e, wA_not_e, wA_neg_e, wA_band_nil_e, wA_band_cons_e, wA_bor_nil_e, wA_bor_cons_e, wA_vand1_e, wA_vand_e, wA_here_e, wA_there_e, str_eq_iff_e, String.reduceEq, not_false_eq_true, wA_list_e, wA_tup_e, wA_args_nil_e, wA_args_cons_e, wA_call_e, wA_sub_e, wA_isi_e, wA_upto_e, w2_add_e, w2_sub_e, w2_mod_e, w2_div_e, w2_mul_e, w2_pow_e, wC_lt_e, wC_le_e, wC_gt_e, wC_ge_e, List.length_nil, List.length_cons, List.length_map, exp_int, exp_bool, exp_none, aTruth, Option.some.injEq, exL_e, Int.reduceLE, Int.reduceLT, Int.reduceEq, Int.reduceNe, ne_eq, and_true, true_and, Nat.reduceLeDiff, Nat.reduceAdd, Int.reduceNeg, Nat.reduceLT, and_self, nzl_e, wF_len h, wF_range1_e]
    exact ⟨by (first | ((repeat (first | exact upd_same | refine (upd_ne rfl).trans ?_)); done) | simp [upd, str_eq_iff]), by (first | ((repeat (first | exact upd_same | refine (upd_ne rfl).trans ?_)); done) | simp [upd, str_eq_iff]), by (first | ((repeat (first | exact upd_same | refine (upd_ne rfl).trans ?_)); done) | simp [upd, str_eq_iff]), fun q hq => absurd hq (Nat.not_lt_zero _)⟩
  · rintro k ρ' σ' hk ⟨rfl, e1, e2, e3, e4⟩
    have hb : decide (spareV ns rs ws k < 0) = decide (atL (rs.map (kindI ns)) k < atL (ws.map (·.2)) k) := by rw [decide_eq_decide, spareV]; omega
    simp (maxDischargeDepth := 9) only [List.zip_cons_cons, List.zip_nil_right, List.zip_nil_left, bindE, wS_seq_e, wS_assign_e, wS_if_e, wS_nil_e, wS_ret_e, thenS, wA_bin_e, wA_int_e, wA_bool_e, wA_none_e, wA_cmp_e, wA_bcmp_e, wA_cmp2_e, wA_bcmp2_e, wA_bval_e, wA_bnot_e, wA_not_e, wA_neg_e, wA_band_nil_e, wA_band_cons_e, wA_bor_nil_e, wA_bor_cons_e, wA_vand1_e, wA_vand_e, wA_here_e, wA_there_e, str_eq_iff_e, String.reduceEq, not_false_eq_true, wA_list_e, wA_tup_e, wA_args_nil_e, wA_args_cons_e, wA_call_e, wA_sub_e, wA_isi_e, wA_upto_e, w2_add_e, w2_sub_e, w2_mod_e, w2_div_e, w2_mul_e, w2_pow_e, wC_lt_e, wC_le_e, wC_gt_e, wC_ge_e, List.length_nil, List.length_cons, List.length_map, exp_int, exp_bool, exp_none, aTruth, Option.some.injEq, exL_e, Int.reduceLE, Int.reduceLT, Int.reduceEq, Int.reduceNe, ne_eq, and_true, true_and, Nat.reduceLeDiff, Nat.reduceAdd, Int.reduceNeg, Nat.reduceLT, and_self, nzl_e, wA_name e1, wA_name e2, wA_name e3, wF_spare h hl hr hrs hw hnd, hb]
    cases hc : decide (atL (rs.map (kindI ns)) k < atL (ws.map (·.2)) k) with
    | true =>
      simp (maxDischargeDepth := 9) only [List.zip_cons_cons, List.zip_nil_right, List.zip_nil_left, bindE, wS_seq_e, wS_assign_e, wS_if_e, wS_nil_e, wS_ret_e, thenS, wA_bin_e, wA_int_e, wA_bool_e, wA_none_e, wA_cmp_e, wA_bcmp_e, wA_cmp2_e, wA_bcmp2_e, wA_bval_e, wA_bnot_e, wA_not_e, wA_neg_e, wA_band_nil_e, wA_band_cons_e, wA_bor_nil_e, wA_bor_cons_e, wA_vand1_e, wA_vand_e, wA_here_e, wA_there_e, str_eq_iff_e, String.reduceEq, not_false_eq_true, wA_list_e, wA_tup_e, wA_args_nil_e, wA_args_cons_e, wA_call_e, wA_sub_e, wA_isi_e, wA_upto_e, w2_add_e, w2_sub_e, w2_mod_e, w2_div_e, w2_mul_e, w2_pow_e, wC_lt_e, wC_le_e, wC_gt_e, wC_ge_e, List.length_nil, List.length_cons, List.length_map, exp_int, exp_bool, exp_none, aTruth, Option.some.injEq, exL_e, Int.reduceLE, Int.reduceLT, Int.reduceEq, Int.reduceNe, ne_eq, and_true, true_and, Nat.reduceLeDiff, Nat.reduceAdd, Int.reduceNeg, Nat.reduceLT, and_self, nzl_e, if_true]
      refine ⟨ext_refl, _, _, rfl, ?_, rfl⟩
      rw [shortV, find_range_some e4 hc hk]; rfl
    | false =>
      simp (maxDischargeDepth := 9) only [List.zip_cons_cons, List.zip_nil_right, List.zip_nil_left, bindE, wS_seq_e, wS_assign_e, wS_if_e, wS_nil_e, wS_ret_e, thenS, wA_bin_e, wA_int_e, wA_bool_e, wA_none_e, wA_cmp_e, wA_bcmp_e, wA_cmp2_e, wA_bcmp2_e, wA_bval_e, wA_bnot_e, wA_not_e, wA_neg_e, wA_band_nil_e, wA_band_cons_e, wA_bor_nil_e, wA_bor_cons_e, wA_vand1_e, wA_vand_e, wA_here_e, wA_there_e, str_eq_iff_e, String.reduceEq, not_false_eq_true, wA_list_e, wA_tup_e, wA_args_nil_e, wA_args_cons_e, wA_call_e, wA_sub_e, wA_isi_e, wA_upto_e, w2_add_e, w2_sub_e, w2_mod_e, w2_div_e, w2_mul_e, w2_pow_e, wC_lt_e, wC_le_e, wC_gt_e, wC_ge_e, List.length_nil, List.length_cons, List.length_map, exp_int, exp_bool, exp_none, aTruth, Option.some.injEq, exL_e, Int.reduceLE, Int.reduceLT, Int.reduceEq, Int.reduceNe, ne_eq, and_true, true_and, Nat.reduceLeDiff, Nat.reduceAdd, Int.reduceNeg, Nat.reduceLT, and_self, nzl_e, Bool.false_eq_true, if_false]
      refine ⟨by (first | ((repeat (first | exact e1 | refine (upd_ne rfl).trans ?_)); done) | simpa [upd, str_eq_iff] using e1), by (first | ((repeat (first | exact e2 | refine (upd_ne rfl).trans ?_)); done) | simpa [upd, str_eq_iff] using e2), by (first | ((repeat (first | exact e3 | refine (upd_ne rfl).trans ?_)); done) | simpa [upd, str_eq_iff] using e3), fun q hq => ?_⟩
      by_cases hqk : q < k
      · exact e4 q hqk
      · have : q = k := by omega
        subst this; exact hc
  · rintro ρ' σ' ⟨rfl, e1, e2, e3, e4⟩
    simp only [List.zip_cons_cons, List.zip_nil_right, List.zip_nil_left, bindE, wS_seq_e, wS_assign_e, wS_if_e, wS_nil_e, wS_ret_e, thenS, wA_bin_e, wA_int_e, wA_bool_e, wA_none_e, wA_cmp_e, wA_bcmp_e, wA_cmp2_e, wA_bcmp2_e, wA_bval_e, wA_bnot_e, wA_not_e, wA_neg_e, wA_band_nil_e, wA_band_cons_e, wA_bor_nil_e, wA_bor_cons_e, wA_vand1_e, wA_vand_e, wA_here_e, wA_there_e, str_eq_iff_e, String.reduceEq, not_false_eq_true, wA_list_e, wA_tup_e, wA_args_nil_e, wA_args_cons_e, wA_call_e, wA_sub_e, wA_isi_e, wA_upto_e, w2_add_e, w2_sub_e, w2_mod_e, w2_div_e, w2_mul_e, w2_pow_e, wC_lt_e, wC_le_e, wC_gt_e, wC_ge_e, List.length_nil, List.length_cons, List.length_map, exp_int, exp_bool, exp_none, aTruth, Option.some.injEq, exL_e, Int.reduceLE, Int.reduceLT, Int.reduceEq, Int.reduceNe, ne_eq, and_true, true_and, Nat.reduceLeDiff, Nat.reduceAdd, Int.reduceNeg, Nat.reduceLT, and_self, nzl_e]
    refine ⟨ext_refl, _, _, rfl, ?_, rfl⟩
    rw [shortV, find_range_none e4]; rfl
theorem wF_shortKind {σ : Store} {i j m : Nat} {ns rs : List Int} {ws : List (Int × Int)} {Q} (h : σ[i]? = some (.list (ns.map .int))) (hl : ns.length < 1000) (hr : σ[j]? = some (.list (rs.map .int))) (hrs : ∀ r ∈ rs, 0 ≤ r ∧ r < ns.sum) (hw : σ[m]? = some (.dict (inD ws))) (hnd : (ws.map (·.1)).Nodup) :
    wF sp_short_kind [.ref i, .ref j, .ref m] σ Q ↔ Q (optV (shortV ns rs ws)) σ := wF_eq (shortKind_eq h hl hr hrs hw hnd)
end Inn
end
section
set_option maxRecDepth 10000
set_option linter.unusedVariables false
set_option linter.unusedSimpArgs false
namespace Inn
open PySem PySem.W
noncomputable def shN (ns : List Int) (cl st : List (Int × Sp)) (t : Nat) : Option Nat := shortV ns (openV ns (shutV cl t)) (wantsV st t)
noncomputable def nightV (ns : List Int) (cl st : List (Int × Sp)) : Option (Nat × Nat) := ((List.range 40).find? fun t => (shN ns cl st t).isSome).bind fun t => (shN ns cl st t).map fun k => (t, k)
noncomputable def nvV : Option (Nat × Nat) → AV
  | none => .none
  | some p => .tup [.int p.1, .int p.2]
theorem wantsV_nodup {st : List (Int × Sp)} (hd : (st.map (·.1)).Nodup) (t : Int) : ((wantsV st t).map (·.1)).Nodup := by rw [wantsV_keys]; exact keysV_nodup hd t
theorem shortNight_eq {σ : Store} {i j m : Nat} {ns : List Int} {cl st : List (Int × Sp)} (h : σ[i]? = some (.list (ns.map .int))) (hg : houseV ns = true) (hc : σ[j]? = some (.dict (spD cl))) (hs : σ[m]? = some (.dict (spD st))) (hl : st.length < 64) (hd : (st.map (·.1)).Nodup) :
    sp_short_night [.ref i, .ref j, .ref m] σ = some (nvV (nightV ns cl st), σ) := by
  obtain ⟨⟨g1, g2⟩, g3⟩ := house_iff.1 hg
  have hn : ∀ n ∈ ns, 0 ≤ n := fun n hn => (g3 n hn).1
  refine wF_get (wF_fn rfl ?_)
  refine wS_seq.2 ?_
  refine wS_forN 40 (by omega) (fun k ρ' σ' => Ext σ σ' ∧ ρ' "counts" = some (.ref i) ∧ ρ' "closings" = some (.ref j) ∧ ρ' "stays" = some (.ref m) ∧ ∀ q : Nat, q < k → (shN ns cl st q).isSome = false) ?_ ?_ ?_
  · simp (maxDischargeDepth := 9) only [List.zip_cons_cons, List.zip_nil_right, List.zip_nil_left, bindE, wS_seq_e, wS_assign_e, wS_if_e, wS_nil_e, wS_ret_e, thenS, wA_bin_e, wA_int_e, wA_bool_e, wA_none_e, wA_cmp_e, wA_bcmp_e, wA_cmp2_e, wA_bcmp2_e, wA_bval_e, wA_bnot_e, wA_not_e, wA_neg_e, wA_band_nil_e, wA_band_cons_e, wA_bor_nil_e, wA_bor_cons_e, wA_vand1_e, wA_vand_e, wA_here_e, wA_there_e, str_eq_iff_e, String.reduceEq, not_false_eq_true, wA_list_e, wA_tup_e, wA_args_nil_e, wA_args_cons_e, wA_call_e, wA_sub_e, wA_isi_e, wA_upto_e, w2_add_e, w2_sub_e, w2_mod_e, w2_div_e, w2_mul_e, w2_pow_e, wC_lt_e, wC_le_e, wC_gt_e, wC_ge_e, List.length_nil, List.length_cons, List.length_map, exp_int, exp_bool, exp_none, aTruth, Option.some.injEq, exL_e, Int.reduceLE, Int.reduceLT, Int.reduceEq, Int.reduceNe, ne_eq, and_true, true_and, Nat.reduceLeDiff, Nat.reduceAdd, Int.reduceNeg, Nat.reduceLT, and_self, nzl_e, wF_range1_e]
    exact ⟨by trivial, ext_refl, by (first | ((repeat (first | exact upd_same | refine (upd_ne rfl).trans ?_)); done) | simp [upd, str_eq_iff]), by (first | ((repeat (first | exact upd_same | refine (upd_ne rfl).trans ?_)); done) | simp [upd, str_eq_iff]), by (first | ((repeat (first | exact upd_same | refine (upd_ne rfl).trans ?_)); done) | simp [upd, str_eq_iff]), fun q hq => absurd hq (Nat.not_lt_zero _)⟩
  · rintro t ρ' σ' ht ⟨hx, e1, e2, e3, e4⟩
    refine wS_cut (fun ρ1 σ1 => ρ1 = upd (upd ρ' "night" (.int t)) "kind" (optV (shN ns cl st t)) ∧ Ext σ σ1) ?_ ?_
    · have hs1 := app_get (τ := [.list ((openV ns (shutV cl t)).map .int)]) (hx.get hs)
      have h1 := app_get (τ := [.dict (inD (wantsV st t))]) (app_get (τ := [.list ((openV ns (shutV cl t)).map .int)]) (hx.get h))
      simp (maxDischargeDepth := 9) only [List.zip_cons_cons, List.zip_nil_right, List.zip_nil_left, bindE, wS_seq_e, wS_assign_e, wS_if_e, wS_nil_e, wS_ret_e, thenS, wA_bin_e, wA_int_e, wA_bool_e, wA_none_e, wA_cmp_e, wA_bcmp_e, wA_cmp2_e, wA_bcmp2_e, wA_bval_e, wA_bnot_e, wA_not_e, wA_neg_e, wA_band_nil_e, wA_band_cons_e, wA_bor_nil_e, wA_bor_cons_e, wA_vand1_e, wA_vand_e, wA_here_e, wA_there_e, str_eq_iff_e, String.reduceEq, not_false_eq_true, wA_list_e, wA_tup_e, wA_args_nil_e, wA_args_cons_e, wA_call_e, wA_sub_e, wA_isi_e, wA_upto_e, w2_add_e, w2_sub_e, w2_mod_e, w2_div_e, w2_mul_e, w2_pow_e, wC_lt_e, wC_le_e, wC_gt_e, wC_ge_e, List.length_nil, List.length_cons, List.length_map, exp_int, exp_bool, exp_none, aTruth, Option.some.injEq, exL_e, Int.reduceLE, Int.reduceLT, Int.reduceEq, Int.reduceNe, ne_eq, and_true, true_and, Nat.reduceLeDiff, Nat.reduceAdd, Int.reduceNeg, Nat.reduceLT, and_self, nzl_e, wA_name e1, wA_name e2, wA_name e3, wF_roomsOn (hx.get h) hg (hx.get hc), wF_wantsOn hs1 hl hd]
      rw [wF_shortKind h1 (by omega) (app_get new_get) (fun r hr => open_mem hn hr) new_get (wantsV_nodup hd _)]
      exact ⟨rfl, ext_app (ext_app hx)⟩
    · rintro _ σ1 ⟨rfl, hx1⟩
      cases hsh : shN ns cl st t with
      | none =>
        simp (maxDischargeDepth := 9) only [List.zip_cons_cons, List.zip_nil_right, List.zip_nil_left, bindE, wS_seq_e, wS_assign_e, wS_if_e, wS_nil_e, wS_ret_e, thenS, wA_bin_e, wA_int_e, wA_bool_e, wA_none_e, wA_cmp_e, wA_bcmp_e, wA_cmp2_e, wA_bcmp2_e, wA_bval_e, wA_bnot_e, wA_not_e, wA_neg_e, wA_band_nil_e, wA_band_cons_e, wA_bor_nil_e, wA_bor_cons_e, wA_vand1_e, wA_vand_e, wA_here_e, wA_there_e, str_eq_iff_e, String.reduceEq, not_false_eq_true, wA_list_e, wA_tup_e, wA_args_nil_e, wA_args_cons_e, wA_call_e, wA_sub_e, wA_isi_e, wA_upto_e, w2_add_e, w2_sub_e, w2_mod_e, w2_div_e, w2_mul_e, w2_pow_e, wC_lt_e, wC_le_e, wC_gt_e, wC_ge_e, List.length_nil, List.length_cons, List.length_map, exp_int, exp_bool, exp_none, aTruth, Option.some.injEq, exL_e, Int.reduceLE, Int.reduceLT, Int.reduceEq, Int.reduceNe, ne_eq, and_true, true_and, Nat.reduceLeDiff, Nat.reduceAdd, Int.reduceNeg, Nat.reduceLT, and_self, nzl_e, optV, wC_isnt0_e, Bool.false_eq_true, if_false]
        refine ⟨hx1, by (first | ((repeat (first | exact e1 | refine (upd_ne rfl).trans ?_)); done) | simpa [upd, str_eq_iff] using e1), by (first | ((repeat (first | exact e2 | refine (upd_ne rfl).trans ?_)); done) | simpa [upd, str_eq_iff] using e2), by (first | ((repeat (first | exact e3 | refine (upd_ne rfl).trans ?_)); done) | simpa [upd, str_eq_iff] using e3), fun q hq => ?_⟩
        by_cases hqt : q < t
        · exact e4 q hqt
        · have : q = t := by omega
          subst this; rw [hsh]; rfl
      | some k =>
        simp (maxDischargeDepth := 9) only [List.zip_cons_cons, List.zip_nil_right, List.zip_nil_left, bindE, wS_seq_e, wS_assign_e, wS_if_e, wS_nil_e, wS_ret_e, thenS, wA_bin_e, wA_int_e, wA_bool_e, wA_none_e, wA_cmp_e, wA_bcmp_e, wA_cmp2_e, wA_bcmp2_e, wA_bval_e, wA_bnot_e, wA_not_e, wA_neg_e, wA_band_nil_e, wA_band_cons_e, wA_bor_nil_e, wA_bor_cons_e, wA_vand1_e, wA_vand_e, wA_here_e, wA_there_e, str_eq_iff_e, String.reduceEq, not_false_eq_true, wA_list_e, wA_tup_e, wA_args_nil_e, wA_args_cons_e, wA_call_e, wA_sub_e, wA_isi_e, wA_upto_e, w2_add_e, w2_sub_e, w2_mod_e, w2_div_e, w2_mul_e, w2_pow_e, wC_lt_e, wC_le_e, wC_gt_e, wC_ge_e, List.length_nil, List.length_cons, List.length_map, exp_int, exp_bool, exp_none, aTruth, Option.some.injEq, exL_e, Int.reduceLE, Int.reduceLT, Int.reduceEq, Int.reduceNe, ne_eq, and_true, true_and, Nat.reduceLeDiff, Nat.reduceAdd, Int.reduceNeg, Nat.reduceLT, and_self, nzl_e, optV, wC_isnt1_e, if_true]
        refine ⟨hx1, _, _, exp_tup2, ?_, rfl⟩
        rw [nightV, find_range_some e4 (by rw [hsh]; rfl) ht]
        simp [hsh, nvV]
  · rintro ρ' σ' ⟨hx, e1, e2, e3, e4⟩
    simp only [List.zip_cons_cons, List.zip_nil_right, List.zip_nil_left, bindE, wS_seq_e, wS_assign_e, wS_if_e, wS_nil_e, wS_ret_e, thenS, wA_bin_e, wA_int_e, wA_bool_e, wA_none_e, wA_cmp_e, wA_bcmp_e, wA_cmp2_e, wA_bcmp2_e, wA_bval_e, wA_bnot_e, wA_not_e, wA_neg_e, wA_band_nil_e, wA_band_cons_e, wA_bor_nil_e, wA_bor_cons_e, wA_vand1_e, wA_vand_e, wA_here_e, wA_there_e, str_eq_iff_e, String.reduceEq, not_false_eq_true, wA_list_e, wA_tup_e, wA_args_nil_e, wA_args_cons_e, wA_call_e, wA_sub_e, wA_isi_e, wA_upto_e, w2_add_e, w2_sub_e, w2_mod_e, w2_div_e, w2_mul_e, w2_pow_e, wC_lt_e, wC_le_e, wC_gt_e, wC_ge_e, List.length_nil, List.length_cons, List.length_map, exp_int, exp_bool, exp_none, aTruth, Option.some.injEq, exL_e, Int.reduceLE, Int.reduceLT, Int.reduceEq, Int.reduceNe, ne_eq, and_true, true_and, Nat.reduceLeDiff, Nat.reduceAdd, Int.reduceNeg, Nat.reduceLT, and_self, nzl_e]
    refine ⟨hx, _, _, rfl, ?_, rfl⟩
    rw [nightV, find_range_none e4]; rfl
theorem wF_shortNight {σ : Store} {i j m : Nat} {ns : List Int} {cl st : List (Int × Sp)} {Q} (h : σ[i]? = some (.list (ns.map .int))) (hg : houseV ns = true) (hc : σ[j]? = some (.dict (spD cl))) (hs : σ[m]? = some (.dict (spD st))) (hl : st.length < 64) (hd : (st.map (·.1)).Nodup) :
    wF sp_short_night [.ref i, .ref j, .ref m] σ Q ↔ Q (nvV (nightV ns cl st)) σ := wF_eq (shortNight_eq h hg hc hs hl hd)
theorem due_eq {σ : Store} {i j m : Nat} {ns : List Int} {cl st : List (Int × Sp)} (h : σ[i]? = some (.list (ns.map .int))) (hg : houseV ns = true) (hc : σ[j]? = some (.dict (spD cl))) (hs : σ[m]? = some (.dict (spD st))) (hl : st.length < 64) (hd : (st.map (·.1)).Nodup) :
    sp_law_due [.ref i, .ref j, .ref m] σ = some (nvV (nightV ns cl st), σ) := by
  obtain ⟨⟨g1, g2⟩, g3⟩ := house_iff.1 hg
  have hn : ∀ n ∈ ns, 0 ≤ n := fun n hn => (g3 n hn).1
  refine wF_get (wF_fn rfl ?_)
  refine wS_seq.2 ?_
  refine wS_forN 40 (by omega) (fun k ρ' σ' => Ext σ σ' ∧ ρ' "_law_counts" = some (.ref i) ∧ ρ' "_law_closings" = some (.ref j) ∧ ρ' "_law_stays" = some (.ref m) ∧ ∀ q : Nat, q < k → (shN ns cl st q).isSome = false) ?_ ?_ ?_
  · simp (maxDischargeDepth := 9) only [List.zip_cons_cons, List.zip_nil_right, List.zip_nil_left, bindE, wS_seq_e, wS_assign_e, wS_if_e, wS_nil_e, wS_ret_e, thenS, wA_bin_e, wA_int_e, wA_bool_e, wA_none_e, wA_cmp_e, wA_bcmp_e, wA_cmp2_e, wA_bcmp2_e, wA_bval_e, wA_bnot_e, wA_not_e, wA_neg_e, wA_band_nil_e, wA_band_cons_e, wA_bor_nil_e, wA_bor_cons_e, wA_vand1_e, wA_vand_e, wA_here_e, wA_there_e, str_eq_iff_e, String.reduceEq, not_false_eq_true, wA_list_e, wA_tup_e, wA_args_nil_e, wA_args_cons_e, wA_call_e, wA_sub_e, wA_isi_e, wA_upto_e, w2_add_e, w2_sub_e, w2_mod_e, w2_div_e, w2_mul_e, w2_pow_e, wC_lt_e, wC_le_e, wC_gt_e, wC_ge_e, List.length_nil, List.length_cons, List.length_map, exp_int, exp_bool, exp_none, aTruth, Option.some.injEq, exL_e, Int.reduceLE, Int.reduceLT, Int.reduceEq, Int.reduceNe, ne_eq, and_true, true_and, Nat.reduceLeDiff, Nat.reduceAdd, Int.reduceNeg, Nat.reduceLT, and_self, nzl_e, wF_range1_e]
    exact ⟨by trivial, ext_refl, by (first | ((repeat (first | exact upd_same | refine (upd_ne rfl).trans ?_)); done) | simp [upd, str_eq_iff]), by (first | ((repeat (first | exact upd_same | refine (upd_ne rfl).trans ?_)); done) | simp [upd, str_eq_iff]), by (first | ((repeat (first | exact upd_same | refine (upd_ne rfl).trans ?_)); done) | simp [upd, str_eq_iff]), fun q hq => absurd hq (Nat.not_lt_zero _)⟩
  · rintro t ρ' σ' ht ⟨hx, e1, e2, e3, e4⟩
    refine wS_cut (fun ρ1 σ1 => ρ1 = upd (upd ρ' "_law_night" (.int t)) "_law_kind" (optV (shN ns cl st t)) ∧ Ext σ σ1) ?_ ?_
    · have hs1 := app_get (τ := [.list ((openV ns (shutV cl t)).map .int)]) (hx.get hs)
      have h1 := app_get (τ := [.dict (inD (wantsV st t))]) (app_get (τ := [.list ((openV ns (shutV cl t)).map .int)]) (hx.get h))
      simp (maxDischargeDepth := 9) only [List.zip_cons_cons, List.zip_nil_right, List.zip_nil_left, bindE, wS_seq_e, wS_assign_e, wS_if_e, wS_nil_e, wS_ret_e, thenS, wA_bin_e, wA_int_e, wA_bool_e, wA_none_e, wA_cmp_e, wA_bcmp_e, wA_cmp2_e, wA_bcmp2_e, wA_bval_e, wA_bnot_e, wA_not_e, wA_neg_e, wA_band_nil_e, wA_band_cons_e, wA_bor_nil_e, wA_bor_cons_e, wA_vand1_e, wA_vand_e, wA_here_e, wA_there_e, str_eq_iff_e, String.reduceEq, not_false_eq_true, wA_list_e, wA_tup_e, wA_args_nil_e, wA_args_cons_e, wA_call_e, wA_sub_e, wA_isi_e, wA_upto_e, w2_add_e, w2_sub_e, w2_mod_e, w2_div_e, w2_mul_e, w2_pow_e, wC_lt_e, wC_le_e, wC_gt_e, wC_ge_e, List.length_nil, List.length_cons, List.length_map, exp_int, exp_bool, exp_none, aTruth, Option.some.injEq, exL_e, Int.reduceLE, Int.reduceLT, Int.reduceEq, Int.reduceNe, ne_eq, and_true, true_and, Nat.reduceLeDiff, Nat.reduceAdd, Int.reduceNeg, Nat.reduceLT, and_self, nzl_e, wA_name e1, wA_name e2, wA_name e3, wF_open (hx.get h) hg (hx.get hc), wF_wants hs1 hl hd]
      rw [wF_lawShort h1 hg (app_get new_get) (fun r hr => open_mem hn hr) new_get]
      exact ⟨rfl, ext_app (ext_app hx)⟩
    · rintro _ σ1 ⟨rfl, hx1⟩
      cases hsh : shN ns cl st t with
      | none =>
        simp (maxDischargeDepth := 9) only [List.zip_cons_cons, List.zip_nil_right, List.zip_nil_left, bindE, wS_seq_e, wS_assign_e, wS_if_e, wS_nil_e, wS_ret_e, thenS, wA_bin_e, wA_int_e, wA_bool_e, wA_none_e, wA_cmp_e, wA_bcmp_e, wA_cmp2_e, wA_bcmp2_e, wA_bval_e, wA_bnot_e, wA_not_e, wA_neg_e, wA_band_nil_e, wA_band_cons_e, wA_bor_nil_e, wA_bor_cons_e, wA_vand1_e, wA_vand_e, wA_here_e, wA_there_e, str_eq_iff_e, String.reduceEq, not_false_eq_true, wA_list_e, wA_tup_e, wA_args_nil_e, wA_args_cons_e, wA_call_e, wA_sub_e, wA_isi_e, wA_upto_e, w2_add_e, w2_sub_e, w2_mod_e, w2_div_e, w2_mul_e, w2_pow_e, wC_lt_e, wC_le_e, wC_gt_e, wC_ge_e, List.length_nil, List.length_cons, List.length_map, exp_int, exp_bool, exp_none, aTruth, Option.some.injEq, exL_e, Int.reduceLE, Int.reduceLT, Int.reduceEq, Int.reduceNe, ne_eq, and_true, true_and, Nat.reduceLeDiff, Nat.reduceAdd, Int.reduceNeg, Nat.reduceLT, and_self, nzl_e, optV, wC_isnt0_e, Bool.false_eq_true, if_false]
        refine ⟨hx1, by (first | ((repeat (first | exact e1 | refine (upd_ne rfl).trans ?_)); done) | simpa [upd, str_eq_iff] using e1), by (first | ((repeat (first | exact e2 | refine (upd_ne rfl).trans ?_)); done) | simpa [upd, str_eq_iff] using e2), by (first | ((repeat (first | exact e3 | refine (upd_ne rfl).trans ?_)); done) | simpa [upd, str_eq_iff] using e3), fun q hq => ?_⟩
        by_cases hqt : q < t
        · exact e4 q hqt
        · have : q = t := by omega
          subst this; rw [hsh]; rfl
      | some k =>
        simp (maxDischargeDepth := 9) only [List.zip_cons_cons, List.zip_nil_right, List.zip_nil_left, bindE, wS_seq_e, wS_assign_e, wS_if_e, wS_nil_e, wS_ret_e, thenS, wA_bin_e, wA_int_e, wA_bool_e, wA_none_e, wA_cmp_e, wA_bcmp_e, wA_cmp2_e, wA_bcmp2_e, wA_bval_e, wA_bnot_e, wA_not_e, wA_neg_e, wA_band_nil_e, wA_band_cons_e, wA_bor_nil_e, wA_bor_cons_e, wA_vand1_e, wA_vand_e, wA_here_e, wA_there_e, str_eq_iff_e, String.reduceEq, not_false_eq_true, wA_list_e, wA_tup_e, wA_args_nil_e, wA_args_cons_e, wA_call_e, wA_sub_e, wA_isi_e, wA_upto_e, w2_add_e, w2_sub_e, w2_mod_e, w2_div_e, w2_mul_e, w2_pow_e, wC_lt_e, wC_le_e, wC_gt_e, wC_ge_e, List.length_nil, List.length_cons, List.length_map, exp_int, exp_bool, exp_none, aTruth, Option.some.injEq, exL_e, Int.reduceLE, Int.reduceLT, Int.reduceEq, Int.reduceNe, ne_eq, and_true, true_and, Nat.reduceLeDiff, Nat.reduceAdd, Int.reduceNeg, Nat.reduceLT, and_self, nzl_e, optV, wC_isnt1_e, if_true]
        refine ⟨hx1, _, _, exp_tup2, ?_, rfl⟩
        rw [nightV, find_range_some e4 (by rw [hsh]; rfl) ht]
        simp [hsh, nvV]
  · rintro ρ' σ' ⟨hx, e1, e2, e3, e4⟩
    simp only [List.zip_cons_cons, List.zip_nil_right, List.zip_nil_left, bindE, wS_seq_e, wS_assign_e, wS_if_e, wS_nil_e, wS_ret_e, thenS, wA_bin_e, wA_int_e, wA_bool_e, wA_none_e, wA_cmp_e, wA_bcmp_e, wA_cmp2_e, wA_bcmp2_e, wA_bval_e, wA_bnot_e, wA_not_e, wA_neg_e, wA_band_nil_e, wA_band_cons_e, wA_bor_nil_e, wA_bor_cons_e, wA_vand1_e, wA_vand_e, wA_here_e, wA_there_e, str_eq_iff_e, String.reduceEq, not_false_eq_true, wA_list_e, wA_tup_e, wA_args_nil_e, wA_args_cons_e, wA_call_e, wA_sub_e, wA_isi_e, wA_upto_e, w2_add_e, w2_sub_e, w2_mod_e, w2_div_e, w2_mul_e, w2_pow_e, wC_lt_e, wC_le_e, wC_gt_e, wC_ge_e, List.length_nil, List.length_cons, List.length_map, exp_int, exp_bool, exp_none, aTruth, Option.some.injEq, exL_e, Int.reduceLE, Int.reduceLT, Int.reduceEq, Int.reduceNe, ne_eq, and_true, true_and, Nat.reduceLeDiff, Nat.reduceAdd, Int.reduceNeg, Nat.reduceLT, and_self, nzl_e]
    refine ⟨hx, _, _, rfl, ?_, rfl⟩
    rw [nightV, find_range_none e4]; rfl
theorem wF_due {σ : Store} {i j m : Nat} {ns : List Int} {cl st : List (Int × Sp)} {Q} (h : σ[i]? = some (.list (ns.map .int))) (hg : houseV ns = true) (hc : σ[j]? = some (.dict (spD cl))) (hs : σ[m]? = some (.dict (spD st))) (hl : st.length < 64) (hd : (st.map (·.1)).Nodup) :
    wF sp_law_due [.ref i, .ref j, .ref m] σ Q ↔ Q (nvV (nightV ns cl st)) σ := wF_eq (due_eq h hg hc hs hl hd)
theorem right_eq {σ : Store} {i j m : Nat} {ns : List Int} {cl st : List (Int × Sp)} (h : σ[i]? = some (.list (ns.map .int))) (hg : houseV ns = true) (hc : σ[j]? = some (.dict (spD cl))) (hs : σ[m]? = some (.dict (spD st))) (hl : st.length < 64) (hd : (st.map (·.1)).Nodup) :
    sp_law_right [.ref i, .ref j, .ref m] σ = some (.bool true, σ) := by
  refine wF_get (wF_fn rfl ?_)
  have hit : ∀ l s, isi "tuple" (.tup l) s = some true := fun _ _ => rfl
  simp (maxDischargeDepth := 9) only [List.zip_cons_cons, List.zip_nil_right, List.zip_nil_left, bindE, wS_seq_e, wS_assign_e, wS_if_e, wS_nil_e, wS_ret_e, thenS, wA_bin_e, wA_int_e, wA_bool_e, wA_none_e, wA_cmp_e, wA_bcmp_e, wA_cmp2_e, wA_bcmp2_e, wA_bval_e, wA_bnot_e, wA_not_e, wA_neg_e, wA_band_nil_e, wA_band_cons_e, wA_bor_nil_e, wA_bor_cons_e, wA_vand1_e, wA_vand_e, wA_here_e, wA_there_e, str_eq_iff_e, String.reduceEq, not_false_eq_true, wA_list_e, wA_tup_e, wA_args_nil_e, wA_args_cons_e, wA_call_e, wA_sub_e, wA_isi_e, wA_upto_e, w2_add_e, w2_sub_e, w2_mod_e, w2_div_e, w2_mul_e, w2_pow_e, wC_lt_e, wC_le_e, wC_gt_e, wC_ge_e, List.length_nil, List.length_cons, List.length_map, exp_int, exp_bool, exp_none, aTruth, Option.some.injEq, exL_e, Int.reduceLE, Int.reduceLT, Int.reduceEq, Int.reduceNe, ne_eq, and_true, true_and, Nat.reduceLeDiff, Nat.reduceAdd, Int.reduceNeg, Nat.reduceLT, and_self, nzl_e, wF_due h hg hc hs hl hd, wF_shortNight h hg hc hs hl hd]
  cases nightV ns cl st with
  | none =>
    simp (maxDischargeDepth := 9) only [List.zip_cons_cons, List.zip_nil_right, List.zip_nil_left, bindE, wS_seq_e, wS_assign_e, wS_if_e, wS_nil_e, wS_ret_e, thenS, wA_bin_e, wA_int_e, wA_bool_e, wA_none_e, wA_cmp_e, wA_bcmp_e, wA_cmp2_e, wA_bcmp2_e, wA_bval_e, wA_bnot_e, wA_not_e, wA_neg_e, wA_band_nil_e, wA_band_cons_e, wA_bor_nil_e, wA_bor_cons_e, wA_vand1_e, wA_vand_e, wA_here_e, wA_there_e, str_eq_iff_e, String.reduceEq, not_false_eq_true, wA_list_e, wA_tup_e, wA_args_nil_e, wA_args_cons_e, wA_call_e, wA_sub_e, wA_isi_e, wA_upto_e, w2_add_e, w2_sub_e, w2_mod_e, w2_div_e, w2_mul_e, w2_pow_e, wC_lt_e, wC_le_e, wC_gt_e, wC_ge_e, List.length_nil, List.length_cons, List.length_map, exp_int, exp_bool, exp_none, aTruth, Option.some.injEq, exL_e, Int.reduceLE, Int.reduceLT, Int.reduceEq, Int.reduceNe, ne_eq, and_true, true_and, Nat.reduceLeDiff, Nat.reduceAdd, Int.reduceNeg, Nat.reduceLT, and_self, nzl_e, nvV, wC_is0_e, if_true]
    exact ⟨ext_refl, _, _, rfl, rfl, rfl⟩
  | some p =>
    have hw : (σ ++ [AO.list [.int p.1, .int p.2]])[σ.length]? = some (.list (([(p.1 : Int), (p.2 : Int)] : List Int).map .int)) := new_get
    simp (maxDischargeDepth := 9) only [List.zip_cons_cons, List.zip_nil_right, List.zip_nil_left, bindE, wS_seq_e, wS_assign_e, wS_if_e, wS_nil_e, wS_ret_e, thenS, wA_bin_e, wA_int_e, wA_bool_e, wA_none_e, wA_cmp_e, wA_bcmp_e, wA_cmp2_e, wA_bcmp2_e, wA_bval_e, wA_bnot_e, wA_not_e, wA_neg_e, wA_band_nil_e, wA_band_cons_e, wA_bor_nil_e, wA_bor_cons_e, wA_vand1_e, wA_vand_e, wA_here_e, wA_there_e, str_eq_iff_e, String.reduceEq, not_false_eq_true, wA_list_e, wA_tup_e, wA_args_nil_e, wA_args_cons_e, wA_call_e, wA_sub_e, wA_isi_e, wA_upto_e, w2_add_e, w2_sub_e, w2_mod_e, w2_div_e, w2_mul_e, w2_pow_e, wC_lt_e, wC_le_e, wC_gt_e, wC_ge_e, List.length_nil, List.length_cons, List.length_map, exp_int, exp_bool, exp_none, aTruth, Option.some.injEq, exL_e, Int.reduceLE, Int.reduceLT, Int.reduceEq, Int.reduceNe, ne_eq, and_true, true_and, Nat.reduceLeDiff, Nat.reduceAdd, Int.reduceNeg, Nat.reduceLT, and_self, nzl_e, nvV, wC_is2_e, Bool.false_eq_true, if_false, hit, if_true, wF_listT (vs := [.int p.1, .int p.2]) (by simp), wF_wholes hw, wC_eq_of (aEq_pair (n := 4) (a := p.1) (b := p.2))]
    exact ⟨ext_self, _, _, rfl, rfl, rfl⟩
theorem wF_right {σ : Store} {i j m : Nat} {ns : List Int} {cl st : List (Int × Sp)} {Q} (h : σ[i]? = some (.list (ns.map .int))) (hg : houseV ns = true) (hc : σ[j]? = some (.dict (spD cl))) (hs : σ[m]? = some (.dict (spD st))) (hl : st.length < 64) (hd : (st.map (·.1)).Nodup) :
    wF sp_law_right [.ref i, .ref j, .ref m] σ Q ↔ Q (.bool true) σ := wF_eq (right_eq h hg hc hs hl hd)
theorem pairsL_sp (f : Int → Sp) : ∀ ns : List Int, pairsL (ns.map fun n => AV.tup [.int n, spV (f n)]) = some (ns.map fun n => (n, spV (f n)))
  | [] => rfl
  | n :: r => by simp [pairsL, pairsL_sp f r]
theorem aEq_spD {n : Nat} {σ : Store} {i j : Nat} {kvs : List (Int × Sp)} (h1 : σ[i]? = some (.dict (spD kvs))) (h2 : σ[j]? = some (.dict (spD kvs))) (hn : (kvs.map (·.1)).Nodup) : aEq (n + 3) σ (.ref i) (.ref j) = some true := by
  refine aEq_dict h1 h2 (by rw [spD_keys]; exact hn) fun p hp => ?_
  simp only [spD, List.mem_map] at hp
  obtain ⟨q, _, rfl⟩ := hp
  exact aEq_trip
theorem law_eq {σ : Store} {i : Nat} {sc : List Int} (h : σ[i]? = some (.list (sc.map .int))) (hl : sc.length ≤ 1000) : sp_law [.ref i] σ = some (.bool true, σ) := by
  have cell : ∀ {σ' : Store} {k : Int} {Q}, Ext σ σ' → 0 ≤ k → k < 1000000 → (wF sp_law_cell [.ref i, .int k] σ' Q ↔ Q (.int (cellV sc k)) σ') := fun hτ h0 h1 => wF_cell (hτ.get h) h0 h1 hl
  obtain ⟨v, s, e0, ns, hg, rfl, rfl⟩ := house_ok h hl
  obtain ⟨⟨g1, g2⟩, g3⟩ := house_iff.1 hg
  refine wF_get (wF_fn rfl ?_)
  refine wS_cut (fun ρ' σ' => ρ' "_law_script" = some (.ref i) ∧ ρ' "_law_counts" = some (.ref σ.length) ∧ Ext σ σ' ∧ σ'[σ.length]? = some (.list (ns.map .int))) ?_ ?_
  · simp (maxDischargeDepth := 9) only [List.zip_cons_cons, List.zip_nil_right, List.zip_nil_left, bindE, wS_seq_e, wS_assign_e, wS_if_e, wS_nil_e, wS_ret_e, thenS, wA_bin_e, wA_int_e, wA_bool_e, wA_none_e, wA_cmp_e, wA_bcmp_e, wA_cmp2_e, wA_bcmp2_e, wA_bval_e, wA_bnot_e, wA_not_e, wA_neg_e, wA_band_nil_e, wA_band_cons_e, wA_bor_nil_e, wA_bor_cons_e, wA_vand1_e, wA_vand_e, wA_here_e, wA_there_e, str_eq_iff_e, String.reduceEq, not_false_eq_true, wA_list_e, wA_tup_e, wA_args_nil_e, wA_args_cons_e, wA_call_e, wA_sub_e, wA_isi_e, wA_upto_e, w2_add_e, w2_sub_e, w2_mod_e, w2_div_e, w2_mul_e, w2_pow_e, wC_lt_e, wC_le_e, wC_gt_e, wC_ge_e, List.length_nil, List.length_cons, List.length_map, exp_int, exp_bool, exp_none, aTruth, Option.some.injEq, exL_e, Int.reduceLE, Int.reduceLT, Int.reduceEq, Int.reduceNe, ne_eq, and_true, true_and, Nat.reduceLeDiff, Nat.reduceAdd, Int.reduceNeg, Nat.reduceLT, and_self, nzl_e, wF_eq e0]
    exact ⟨by (first | ((repeat (first | exact upd_same | refine (upd_ne rfl).trans ?_)); done) | simp [upd, str_eq_iff]), upd_same, ext_self, new_get⟩
  rintro ρ1 σ1 ⟨a1, a2, a3, a4⟩
  refine wS_cut (fun ρ' σ' => ρ' "_law_script" = some (.ref i) ∧ ρ' "_law_counts" = some (.ref σ.length) ∧ Ext σ1 σ' ∧ ∃ d st, ρ' "_law_stays" = some (.ref d) ∧ σ'[d]? = some (.dict (spD st)) ∧ st.length < 64 ∧ (st.map (·.1)).Nodup) ?_ ?_
  · have hr := fmod_lt (cellV sc 2) (b := 21) (by decide)
    obtain ⟨c, hc⟩ : ∃ c : Nat, (cellV sc 2).fmod 21 = c := ⟨((cellV sc 2).fmod 21).toNat, by omega⟩
    obtain ⟨v, s, e1, st, n1, n2, rfl, rfl⟩ := spans_ok (σ := σ1) (k := 20) (many := ns.length) (c := c) (a3.get h) hl (by decide) (by omega) (by omega)
    simp (maxDischargeDepth := 9) only [List.zip_cons_cons, List.zip_nil_right, List.zip_nil_left, bindE, wS_seq_e, wS_assign_e, wS_if_e, wS_nil_e, wS_ret_e, thenS, wA_bin_e, wA_int_e, wA_bool_e, wA_none_e, wA_cmp_e, wA_bcmp_e, wA_cmp2_e, wA_bcmp2_e, wA_bval_e, wA_bnot_e, wA_not_e, wA_neg_e, wA_band_nil_e, wA_band_cons_e, wA_bor_nil_e, wA_bor_cons_e, wA_vand1_e, wA_vand_e, wA_here_e, wA_there_e, str_eq_iff_e, String.reduceEq, not_false_eq_true, wA_list_e, wA_tup_e, wA_args_nil_e, wA_args_cons_e, wA_call_e, wA_sub_e, wA_isi_e, wA_upto_e, w2_add_e, w2_sub_e, w2_mod_e, w2_div_e, w2_mul_e, w2_pow_e, wC_lt_e, wC_le_e, wC_gt_e, wC_ge_e, List.length_nil, List.length_cons, List.length_map, exp_int, exp_bool, exp_none, aTruth, Option.some.injEq, exL_e, Int.reduceLE, Int.reduceLT, Int.reduceEq, Int.reduceNe, ne_eq, and_true, true_and, Nat.reduceLeDiff, Nat.reduceAdd, Int.reduceNeg, Nat.reduceLT, and_self, nzl_e, wA_name a1, wA_name a2, cell, a3, wF_len a4, hc, wF_eq e1]
    exact ⟨by (first | ((repeat (first | exact a1 | refine (upd_ne rfl).trans ?_)); done) | simpa [upd, str_eq_iff] using a1), by (first | ((repeat (first | exact a2 | refine (upd_ne rfl).trans ?_)); done) | simpa [upd, str_eq_iff] using a2), ext_self, _, st, upd_same, new_get, by omega, n1⟩
  rintro ρ2 σ2 ⟨b1, b2, b3, d, st, b4, b5, b6, b7⟩
  have b8 := a3.trans b3
  refine wS_cut (fun ρ' σ' => ρ' "_law_script" = some (.ref i) ∧ ρ' "_law_counts" = some (.ref σ.length) ∧ ρ' "_law_stays" = some (.ref d) ∧ Ext σ2 σ' ∧ ∃ e cl, ρ' "_law_closings" = some (.ref e) ∧ σ'[e]? = some (.dict (spD cl)) ∧ (cl.map (·.1)).Nodup) ?_ ?_
  · have hr := fmod_lt (cellV sc 3) (b := 6) (by decide)
    obtain ⟨c, hc⟩ : ∃ c : Nat, (cellV sc 3).fmod 6 = c := ⟨((cellV sc 3).fmod 6).toNat, by omega⟩
    obtain ⟨v, s, e1, cl, n1, n2, rfl, rfl⟩ := spans_ok (σ := σ2) (k := 90) (many := ns.length) (c := c) (b8.get h) hl (by decide) (by omega) (by omega)
    simp (maxDischargeDepth := 9) only [List.zip_cons_cons, List.zip_nil_right, List.zip_nil_left, bindE, wS_seq_e, wS_assign_e, wS_if_e, wS_nil_e, wS_ret_e, thenS, wA_bin_e, wA_int_e, wA_bool_e, wA_none_e, wA_cmp_e, wA_bcmp_e, wA_cmp2_e, wA_bcmp2_e, wA_bval_e, wA_bnot_e, wA_not_e, wA_neg_e, wA_band_nil_e, wA_band_cons_e, wA_bor_nil_e, wA_bor_cons_e, wA_vand1_e, wA_vand_e, wA_here_e, wA_there_e, str_eq_iff_e, String.reduceEq, not_false_eq_true, wA_list_e, wA_tup_e, wA_args_nil_e, wA_args_cons_e, wA_call_e, wA_sub_e, wA_isi_e, wA_upto_e, w2_add_e, w2_sub_e, w2_mod_e, w2_div_e, w2_mul_e, w2_pow_e, wC_lt_e, wC_le_e, wC_gt_e, wC_ge_e, List.length_nil, List.length_cons, List.length_map, exp_int, exp_bool, exp_none, aTruth, Option.some.injEq, exL_e, Int.reduceLE, Int.reduceLT, Int.reduceEq, Int.reduceNe, ne_eq, and_true, true_and, Nat.reduceLeDiff, Nat.reduceAdd, Int.reduceNeg, Nat.reduceLT, and_self, nzl_e, wA_name b1, wA_name b2, cell, b8, wF_len (b3.get a4), hc, wF_eq e1]
    exact ⟨by (first | ((repeat (first | exact b1 | refine (upd_ne rfl).trans ?_)); done) | simpa [upd, str_eq_iff] using b1), by (first | ((repeat (first | exact b2 | refine (upd_ne rfl).trans ?_)); done) | simpa [upd, str_eq_iff] using b2), by (first | ((repeat (first | exact b4 | refine (upd_ne rfl).trans ?_)); done) | simpa [upd, str_eq_iff] using b4), ext_self, _, cl, upd_same, new_get, n1⟩
  rintro ρ3 σ3 ⟨c1, c2, c3, c4, e, cl, c5, c6, c7⟩
  have c8 := b8.trans c4
  have c9 := c4.get (b3.get a4)
  have c10 := c4.get b5
  refine wS_cut (fun ρ' σ' => ρ' "_law_counts" = some (.ref σ.length) ∧ ρ' "_law_stays" = some (.ref d) ∧ ρ' "_law_closings" = some (.ref e) ∧ Ext σ3 σ' ∧ ∃ q x y z, ρ' "_law_handed" = some (.ref q) ∧ σ'[q]? = some (.list [.ref x, .ref y, .ref z]) ∧ σ'[x]? = some (.list (ns.map .int)) ∧ σ'[y]? = some (.dict (spD cl)) ∧ σ'[z]? = some (.dict (spD st))) ?_ ?_
  · simp (maxDischargeDepth := 9) only [List.zip_cons_cons, List.zip_nil_right, List.zip_nil_left, bindE, wS_seq_e, wS_assign_e, wS_if_e, wS_nil_e, wS_ret_e, thenS, wA_bin_e, wA_int_e, wA_bool_e, wA_none_e, wA_cmp_e, wA_bcmp_e, wA_cmp2_e, wA_bcmp2_e, wA_bval_e, wA_bnot_e, wA_not_e, wA_neg_e, wA_band_nil_e, wA_band_cons_e, wA_bor_nil_e, wA_bor_cons_e, wA_vand1_e, wA_vand_e, wA_here_e, wA_there_e, str_eq_iff_e, String.reduceEq, not_false_eq_true, wA_list_e, wA_tup_e, wA_args_nil_e, wA_args_cons_e, wA_call_e, wA_sub_e, wA_isi_e, wA_upto_e, w2_add_e, w2_sub_e, w2_mod_e, w2_div_e, w2_mul_e, w2_pow_e, wC_lt_e, wC_le_e, wC_gt_e, wC_ge_e, List.length_nil, List.length_cons, List.length_map, exp_int, exp_bool, exp_none, aTruth, Option.some.injEq, exL_e, Int.reduceLE, Int.reduceLT, Int.reduceEq, Int.reduceNe, ne_eq, and_true, true_and, Nat.reduceLeDiff, Nat.reduceAdd, Int.reduceNeg, Nat.reduceLT, and_self, nzl_e, wA_name c2, wA_name c3, wA_name c5, wF_listL c9]
    rw [wF_dictD (app_get c6)]
    rw [wF_dictD (app_get (app_get c10))]
    refine ⟨by (first | ((repeat (first | exact c2 | refine (upd_ne rfl).trans ?_)); done) | simpa [upd, str_eq_iff] using c2), by (first | ((repeat (first | exact c3 | refine (upd_ne rfl).trans ?_)); done) | simpa [upd, str_eq_iff] using c3), by (first | ((repeat (first | exact c5 | refine (upd_ne rfl).trans ?_)); done) | simpa [upd, str_eq_iff] using c5), ext_app (ext_app (ext_app ext_self)), _, _, _, _, upd_same, new_get, app_get (app_get (app_get new_get)), app_get (app_get new_get), app_get new_get⟩
  rintro ρ4 σ4 ⟨d1, d2, d3, d4, q, x, y, z, d5, d6, d7, d8, d9⟩
  have d10 := d4.get c9
  have d11 := d4.get c10
  have d12 := d4.get c6
  have d13 := c8.trans d4
  have i0 : ([.ref x, .ref y, .ref z] : List AV)[(0 : Int).toNat]? = some (.ref x) := rfl
  have i1 : ([.ref x, .ref y, .ref z] : List AV)[(1 : Int).toNat]? = some (.ref y) := rfl
  have i2 : ([.ref x, .ref y, .ref z] : List AV)[(2 : Int).toNat]? = some (.ref z) := rfl
  refine wS_cut (fun ρ' σ' => ρ' = ρ4 ∧ Ext σ4 σ') ?_ ?_
  · have he : ∀ τ : Store, Ext σ4 τ → aEq 6 (τ ++ [.list [.ref σ.length, .ref e, .ref d]]) (.ref q) (.ref τ.length) = some true := fun τ hτ =>
      aEq_three (app_get (hτ.get d6)) new_get (aEq_list (n := 3) (app_get (hτ.get d7)) (app_get (hτ.get d10))) (aEq_spD (n := 2) (app_get (hτ.get d8)) (app_get (hτ.get d12)) c7) (aEq_spD (n := 2) (app_get (hτ.get d9)) (app_get (hτ.get d11)) b7)
    simp (maxDischargeDepth := 9) only [List.zip_cons_cons, List.zip_nil_right, List.zip_nil_left, bindE, wS_seq_e, wS_assign_e, wS_if_e, wS_nil_e, wS_ret_e, thenS, wA_bin_e, wA_int_e, wA_bool_e, wA_none_e, wA_cmp_e, wA_bcmp_e, wA_cmp2_e, wA_bcmp2_e, wA_bval_e, wA_bnot_e, wA_not_e, wA_neg_e, wA_band_nil_e, wA_band_cons_e, wA_bor_nil_e, wA_bor_cons_e, wA_vand1_e, wA_vand_e, wA_here_e, wA_there_e, str_eq_iff_e, String.reduceEq, not_false_eq_true, wA_list_e, wA_tup_e, wA_args_nil_e, wA_args_cons_e, wA_call_e, wA_sub_e, wA_isi_e, wA_upto_e, w2_add_e, w2_sub_e, w2_mod_e, w2_div_e, w2_mul_e, w2_pow_e, wC_lt_e, wC_le_e, wC_gt_e, wC_ge_e, List.length_nil, List.length_cons, List.length_map, exp_int, exp_bool, exp_none, aTruth, Option.some.injEq, exL_e, Int.reduceLE, Int.reduceLT, Int.reduceEq, Int.reduceNe, ne_eq, and_true, true_and, Nat.reduceLeDiff, Nat.reduceAdd, Int.reduceNeg, Nat.reduceLT, and_self, nzl_e, wA_name d1, wA_name d2, wA_name d3, wA_name d5, w2_item d6 (by decide) i0, w2_item d6 (by decide) i1, w2_item d6 (by decide) i2, wF_right d7 hg d8 d9 b6 b7, Bool.not_true, Bool.false_eq_true, if_false, wC_ne_of (he σ4 ext_refl)]
    exact ext_self
  rintro _ σ5 ⟨rfl, f1⟩
  have f2 := f1.get d10
  have f3 := f1.get d11
  have f4 := f1.get d12
  have f5 := d13.trans f1
  simp (maxDischargeDepth := 9) only [wS_seq_e, wS_assign_e, wA_call_e, wA_args_cons_e, wA_args_nil_e, wA_name d1, wA_name d2, wA_name d3, wF_due f2 hg f4 f3 b6 b7, thenS]
  cases nightV ns cl st with
  | none =>
    simp (maxDischargeDepth := 9) only [List.zip_cons_cons, List.zip_nil_right, List.zip_nil_left, bindE, wS_seq_e, wS_assign_e, wS_if_e, wS_nil_e, wS_ret_e, thenS, wA_bin_e, wA_int_e, wA_bool_e, wA_none_e, wA_cmp_e, wA_bcmp_e, wA_cmp2_e, wA_bcmp2_e, wA_bval_e, wA_bnot_e, wA_not_e, wA_neg_e, wA_band_nil_e, wA_band_cons_e, wA_bor_nil_e, wA_bor_cons_e, wA_vand1_e, wA_vand_e, wA_here_e, wA_there_e, str_eq_iff_e, String.reduceEq, not_false_eq_true, wA_list_e, wA_tup_e, wA_args_nil_e, wA_args_cons_e, wA_call_e, wA_sub_e, wA_isi_e, wA_upto_e, w2_add_e, w2_sub_e, w2_mod_e, w2_div_e, w2_mul_e, w2_pow_e, wC_lt_e, wC_le_e, wC_gt_e, wC_ge_e, List.length_nil, List.length_cons, List.length_map, exp_int, exp_bool, exp_none, aTruth, Option.some.injEq, exL_e, Int.reduceLE, Int.reduceLT, Int.reduceEq, Int.reduceNe, ne_eq, and_true, true_and, Nat.reduceLeDiff, Nat.reduceAdd, Int.reduceNeg, Nat.reduceLT, and_self, nzl_e, nvV, wC_is0_e, if_true]
    exact ⟨f5, _, _, rfl, rfl, rfl⟩
  | some p =>
    simp (maxDischargeDepth := 9) only [List.zip_cons_cons, List.zip_nil_right, List.zip_nil_left, bindE, wS_seq_e, wS_assign_e, wS_if_e, wS_nil_e, wS_ret_e, thenS, wA_bin_e, wA_int_e, wA_bool_e, wA_none_e, wA_cmp_e, wA_bcmp_e, wA_cmp2_e, wA_bcmp2_e, wA_bval_e, wA_bnot_e, wA_not_e, wA_neg_e, wA_band_nil_e, wA_band_cons_e, wA_bor_nil_e, wA_bor_cons_e, wA_vand1_e, wA_vand_e, wA_here_e, wA_there_e, str_eq_iff_e, String.reduceEq, not_false_eq_true, wA_list_e, wA_tup_e, wA_args_nil_e, wA_args_cons_e, wA_call_e, wA_sub_e, wA_isi_e, wA_upto_e, w2_add_e, w2_sub_e, w2_mod_e, w2_div_e, w2_mul_e, w2_pow_e, wC_lt_e, wC_le_e, wC_gt_e, wC_ge_e, List.length_nil, List.length_cons, List.length_map, exp_int, exp_bool, exp_none, aTruth, Option.some.injEq, exL_e, Int.reduceLE, Int.reduceLT, Int.reduceEq, Int.reduceNe, ne_eq, and_true, true_and, Nat.reduceLeDiff, Nat.reduceAdd, Int.reduceNeg, Nat.reduceLT, and_self, nzl_e, nvV, wC_is2_e, Bool.false_eq_true, if_false, wA_name d2, w2_pair0, wF_wants f3 b6 b7]
    refine wA_compI (fun n => !(look (inD (wantsV st p.1)) n).isSome || decide (getW (wantsV st p.1) n < p.2)) (fun n => .tup [.int n, spV (getS st n)]) ?_
    simp (maxDischargeDepth := 9) only [List.zip_cons_cons, List.zip_nil_right, List.zip_nil_left, bindE, wS_seq_e, wS_assign_e, wS_if_e, wS_nil_e, wS_ret_e, thenS, wA_bin_e, wA_int_e, wA_bool_e, wA_none_e, wA_cmp_e, wA_bcmp_e, wA_cmp2_e, wA_bcmp2_e, wA_bval_e, wA_bnot_e, wA_not_e, wA_neg_e, wA_band_nil_e, wA_band_cons_e, wA_bor_nil_e, wA_bor_cons_e, wA_vand1_e, wA_vand_e, wA_here_e, wA_there_e, str_eq_iff_e, String.reduceEq, not_false_eq_true, wA_list_e, wA_tup_e, wA_args_nil_e, wA_args_cons_e, wA_call_e, wA_sub_e, wA_isi_e, wA_upto_e, w2_add_e, w2_sub_e, w2_mod_e, w2_div_e, w2_mul_e, w2_pow_e, wC_lt_e, wC_le_e, wC_gt_e, wC_ge_e, List.length_nil, List.length_cons, List.length_map, exp_int, exp_bool, exp_none, aTruth, Option.some.injEq, exL_e, Int.reduceLE, Int.reduceLT, Int.reduceEq, Int.reduceNe, ne_eq, and_true, true_and, Nat.reduceLeDiff, Nat.reduceAdd, Int.reduceNeg, Nat.reduceLT, and_self, nzl_e, wA_name d2]
    have f6 := app_get (τ := [.dict (inD (wantsV st p.1))]) f3
    refine ⟨st.map (·.1), by rw [items_dict f6, spD_keys], fun n hn => ?_, ?_⟩
    · simp (maxDischargeDepth := 9) only [List.zip_cons_cons, List.zip_nil_right, List.zip_nil_left, bindE, wS_seq_e, wS_assign_e, wS_if_e, wS_nil_e, wS_ret_e, thenS, wA_bin_e, wA_int_e, wA_bool_e, wA_none_e, wA_cmp_e, wA_bcmp_e, wA_cmp2_e, wA_bcmp2_e, wA_bval_e, wA_bnot_e, wA_not_e, wA_neg_e, wA_band_nil_e, wA_band_cons_e, wA_bor_nil_e, wA_bor_cons_e, wA_vand1_e, wA_vand_e, wA_here_e, wA_there_e, str_eq_iff_e, String.reduceEq, not_false_eq_true, wA_list_e, wA_tup_e, wA_args_nil_e, wA_args_cons_e, wA_call_e, wA_sub_e, wA_isi_e, wA_upto_e, w2_add_e, w2_sub_e, w2_mod_e, w2_div_e, w2_mul_e, w2_pow_e, wC_lt_e, wC_le_e, wC_gt_e, wC_ge_e, List.length_nil, List.length_cons, List.length_map, exp_int, exp_bool, exp_none, aTruth, Option.some.injEq, exL_e, Int.reduceLE, Int.reduceLT, Int.reduceEq, Int.reduceNe, ne_eq, and_true, true_and, Nat.reduceLeDiff, Nat.reduceAdd, Int.reduceNeg, Nat.reduceLT, and_self, nzl_e, wA_name d2, wC_notInD new_get]
      by_cases hm : n ∈ (wantsV st p.1).map (·.1)
      · simp (maxDischargeDepth := 9) only [List.zip_cons_cons, List.zip_nil_right, List.zip_nil_left, bindE, wS_seq_e, wS_assign_e, wS_if_e, wS_nil_e, wS_ret_e, thenS, wA_bin_e, wA_int_e, wA_bool_e, wA_none_e, wA_cmp_e, wA_bcmp_e, wA_cmp2_e, wA_bcmp2_e, wA_bval_e, wA_bnot_e, wA_not_e, wA_neg_e, wA_band_nil_e, wA_band_cons_e, wA_bor_nil_e, wA_bor_cons_e, wA_vand1_e, wA_vand_e, wA_here_e, wA_there_e, str_eq_iff_e, String.reduceEq, not_false_eq_true, wA_list_e, wA_tup_e, wA_args_nil_e, wA_args_cons_e, wA_call_e, wA_sub_e, wA_isi_e, wA_upto_e, w2_add_e, w2_sub_e, w2_mod_e, w2_div_e, w2_mul_e, w2_pow_e, wC_lt_e, wC_le_e, wC_gt_e, wC_ge_e, List.length_nil, List.length_cons, List.length_map, exp_int, exp_bool, exp_none, aTruth, Option.some.injEq, exL_e, Int.reduceLE, Int.reduceLT, Int.reduceEq, Int.reduceNe, ne_eq, and_true, true_and, Nat.reduceLeDiff, Nat.reduceAdd, Int.reduceNeg, Nat.reduceLT, and_self, nzl_e, inD_look hm, Option.isSome_some, Bool.not_true, Bool.false_eq_true, if_false, w2_get new_get (inD_look hm), w2_pair1, w2_get f6 (spD_look hn), Bool.false_or]
        by_cases hlt : getW (wantsV st p.1) n < p.2
        · simp [hlt, AV.closed, closedL, closed_spV]
        · simp [hlt]
      · simp (maxDischargeDepth := 9) only [List.zip_cons_cons, List.zip_nil_right, List.zip_nil_left, bindE, wS_seq_e, wS_assign_e, wS_if_e, wS_nil_e, wS_ret_e, thenS, wA_bin_e, wA_int_e, wA_bool_e, wA_none_e, wA_cmp_e, wA_bcmp_e, wA_cmp2_e, wA_bcmp2_e, wA_bval_e, wA_bnot_e, wA_not_e, wA_neg_e, wA_band_nil_e, wA_band_cons_e, wA_bor_nil_e, wA_bor_cons_e, wA_vand1_e, wA_vand_e, wA_here_e, wA_there_e, str_eq_iff_e, String.reduceEq, not_false_eq_true, wA_list_e, wA_tup_e, wA_args_nil_e, wA_args_cons_e, wA_call_e, wA_sub_e, wA_isi_e, wA_upto_e, w2_add_e, w2_sub_e, w2_mod_e, w2_div_e, w2_mul_e, w2_pow_e, wC_lt_e, wC_le_e, wC_gt_e, wC_ge_e, List.length_nil, List.length_cons, List.length_map, exp_int, exp_bool, exp_none, aTruth, Option.some.injEq, exL_e, Int.reduceLE, Int.reduceLT, Int.reduceEq, Int.reduceNe, ne_eq, and_true, true_and, Nat.reduceLeDiff, Nat.reduceAdd, Int.reduceNeg, Nat.reduceLT, and_self, nzl_e, inD_miss hm, Option.isSome_none, Bool.not_false, if_true, w2_get f6 (spD_look hn), Bool.true_or, AV.closed, closedL, closed_spV, Bool.and_self, forall_const]
    · generalize hfw : ((st.map (·.1)).filter fun n => !(look (inD (wantsV st p.1)) n).isSome || decide (getW (wantsV st p.1) n < p.2)) = fw
      have hfn : fw.Nodup := by rw [← hfw]; exact b7.filter _
      have hfl : fw.length ≤ st.length := by
        rw [← hfw]
        have := List.length_filter_le (fun n => !(look (inD (wantsV st p.1)) n).isSome || decide (getW (wantsV st p.1) n < p.2)) (st.map (·.1))
        rwa [List.length_map] at this
      have hdk : (fw.map fun n => (n, getS st n)).map (·.1) = fw := by
        rw [List.map_map]
        conv => rhs; rw [← List.map_id fw]
        rfl
      have hdd : ∀ τ : Store, bDict [.ref τ.length] (τ ++ [.list (fw.map fun n => AV.tup [.int n, spV (getS st n)])]) = some (.ref (τ ++ [AO.list (fw.map fun n => AV.tup [.int n, spV (getS st n)])]).length, τ ++ [.list (fw.map fun n => AV.tup [.int n, spV (getS st n)])] ++ [.dict (spD (fw.map fun n => (n, getS st n)))]) := by
        intro τ
        simp only [bDict, new_get, pairsL_sp, Option.map_some]
        rw [fold_put]
        · simp only [List.nil_append, spD, List.map_map]; rfl
        · simp only [List.nil_append, List.map_map]
          have : fw.map ((fun p : Int × AV => p.1) ∘ fun n => (n, spV (getS st n))) = fw := by
            conv => rhs; rw [← List.map_id fw]
            rfl
          rw [this]; exact hfn
      rw [wF_eq (hdd _)]
      have k1 := fun τ1 τ2 τ3 => app_get (τ := τ3) (app_get (τ := τ2) (app_get (τ := τ1) f2))
      have k2 := fun τ1 τ2 τ3 => app_get (τ := τ3) (app_get (τ := τ2) (app_get (τ := τ1) f4))
      have k3 := fun τ1 τ2 τ3 => app_get (τ := τ3) (app_get (τ := τ2) (app_get (τ := τ1) f3))
      simp (maxDischargeDepth := 9) only [List.zip_cons_cons, List.zip_nil_right, List.zip_nil_left, bindE, wS_seq_e, wS_assign_e, wS_if_e, wS_nil_e, wS_ret_e, thenS, wA_bin_e, wA_int_e, wA_bool_e, wA_none_e, wA_cmp_e, wA_bcmp_e, wA_cmp2_e, wA_bcmp2_e, wA_bval_e, wA_bnot_e, wA_not_e, wA_neg_e, wA_band_nil_e, wA_band_cons_e, wA_bor_nil_e, wA_bor_cons_e, wA_vand1_e, wA_vand_e, wA_here_e, wA_there_e, str_eq_iff_e, String.reduceEq, not_false_eq_true, wA_list_e, wA_tup_e, wA_args_nil_e, wA_args_cons_e, wA_call_e, wA_sub_e, wA_isi_e, wA_upto_e, w2_add_e, w2_sub_e, w2_mod_e, w2_div_e, w2_mul_e, w2_pow_e, wC_lt_e, wC_le_e, wC_gt_e, wC_ge_e, List.length_nil, List.length_cons, List.length_map, exp_int, exp_bool, exp_none, aTruth, Option.some.injEq, exL_e, Int.reduceLE, Int.reduceLT, Int.reduceEq, Int.reduceNe, ne_eq, and_true, true_and, Nat.reduceLeDiff, Nat.reduceAdd, Int.reduceNeg, Nat.reduceLT, and_self, nzl_e, wA_name d1, wA_name d2, wA_name d3]
      rw [wF_right (k1 _ _ _) hg (k2 _ _ _) new_get (by simp; omega) (by rw [hdk]; exact hfn)]
      simp (maxDischargeDepth := 9) only [List.zip_cons_cons, List.zip_nil_right, List.zip_nil_left, bindE, wS_seq_e, wS_assign_e, wS_if_e, wS_nil_e, wS_ret_e, thenS, wA_bin_e, wA_int_e, wA_bool_e, wA_none_e, wA_cmp_e, wA_bcmp_e, wA_cmp2_e, wA_bcmp2_e, wA_bval_e, wA_bnot_e, wA_not_e, wA_neg_e, wA_band_nil_e, wA_band_cons_e, wA_bor_nil_e, wA_bor_cons_e, wA_vand1_e, wA_vand_e, wA_here_e, wA_there_e, str_eq_iff_e, String.reduceEq, not_false_eq_true, wA_list_e, wA_tup_e, wA_args_nil_e, wA_args_cons_e, wA_call_e, wA_sub_e, wA_isi_e, wA_upto_e, w2_add_e, w2_sub_e, w2_mod_e, w2_div_e, w2_mul_e, w2_pow_e, wC_lt_e, wC_le_e, wC_gt_e, wC_ge_e, List.length_nil, List.length_cons, List.length_map, exp_int, exp_bool, exp_none, aTruth, Option.some.injEq, exL_e, Int.reduceLE, Int.reduceLT, Int.reduceEq, Int.reduceNe, ne_eq, and_true, true_and, Nat.reduceLeDiff, Nat.reduceAdd, Int.reduceNeg, Nat.reduceLT, and_self, nzl_e, wA_name d1, wA_name d2, wA_name d3, if_true]
      rw [wF_right (k1 _ _ _) hg (k2 _ _ _) (k3 _ _ _) b6 b7]
      exact ⟨ext_app (ext_app (ext_app f5)), _, _, exp_bool, rfl, rfl⟩
end Inn
end

open PySem PySem.W PyProof.Rows
set_option maxRecDepth 100000 in
set_option maxHeartbeats 8000000 in
theorem PySem.Challenge.cw_uf040026_04_holds : PySem.Challenge.rw_uf040026_04.Holds := by
  refine hd4 ?_
  k_fill
  intro w s₀ s₁ mg mb G Y fa o pm cd doc dV kV ho hd hcd hD hmg hg args vals as hpre hlay hrd hwl hlo
  have KX := kIn_of Y
  refine Ground.open G ?_
  intro T B D TE TW
  have hmg' : mg "law" = some (.ref fa) := hmg
  have hk : mg "law" = some (.ref 150) := mg_of (K := hd4.heap_39 w.params) KX T.g (by k_is)
  rw [hk] at hmg'
  cases hmg'
  wrow_args hpre hlay hrd hwl hlo
  all_goals (
    rename Well _ _ _ _ => hW
    rename ¬ _ < _ => h63
    refine Inn.law_end (K := hd4.heap_39 w.params) (k := 6) Inn.ok_law (by decide) ⟨KX, T.nolimit, ⟨mg, T.g⟩, ⟨mb, T.b, T.builtins⟩⟩ hW (by omega) hg (fun σ i h => Inn.law_eq h (by omega)) (fun _ => rfl) ?_ (fun _ => trivial)
    wrow_post)
