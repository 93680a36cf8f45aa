import PyProof.Rows.All
import PyProof.CompFree
import PyProof.Cells
import PyProof.DictWalks
import PyProof.WalksMore
import PyProof.RangeFor
import PyProof.Rules3
import PyProof.AutoIntOps
import PyProof.PureInt
import PyProof.NoPylong
import PyProof.ListOps
import PyProof.ListIndex
import PyProof.ListMulRoad
import PyProof.LetGo
import PyProof.SliceList
import PyProof.SliceMore
import PyProof.TupleOps
import PyProof.DictStraight
import PyProof.RulesRaise
import PyProof.CallType
import PyProof.ConsumeWalk
import PyProof.SumWalk
import PyProof.ListCopy
import PyProof.ListRange
import PyProof.IsiPairs
import PyProof.IsiHeapPairs
import PyProof.WalkInts
import PyProof.DictTruth
import PyProof.Rows.RuleN_abs
import PyProof.Conv_int_bool
import PyProof.NeKinds
import PyProof.EqKinds
import KE.KEqDict
import KE.KDictList
import PyProof.ForAppend
import OpenK.KLine
import OpenK.KLaw
import Wide.BridgeG
import Wide.Well
import Wide.OfPy
import PySem.Challenge.RW_uf040026_01
set_option Elab.async false
set_option linter.unusedVariables false
set_option linter.unusedSimpArgs false
section
set_option maxRecDepth 10000
namespace Inn
open PySem

/-- abstract values -/
inductive AV where
  | none
  | bool (b : Bool)
  | int (i : Int)
  | tup (vs : List AV)
  | rng (lo hi : Int)
  | vals (i : Nat)
  | ref (i : Nat)

/-- abstract objects -/
inductive AO where
  | list (vs : List AV)
  | dict (kvs : List (Int × AV))

abbrev Store := List AO
abbrev AEnv := Str → Option AV
def upd (ρ : AEnv) (x : Str) (v : AV) : AEnv := fun y => if y = x then some v else ρ y

def HK (h h' : Heap) : Prop := ∀ b o, h.get? b = some o → h'.get? b = some o
theorem HK.refl (h : Heap) : HK h h := fun _ _ e => e
theorem HK.trans {a b c : Heap} (x : HK a b) (y : HK b c) : HK a c := fun p o e => y p o (x p o e)
theorem HK.push (h : Heap) (o : Obj) : HK h (h.push o) := fun _ _ e => Heap.get?_push_of_some o e

abbrev tupObj (items : List Value) : Obj := { cls := .type "tuple", data := .seq items.toArray }

mutual
inductive VR (h : Heap) (α : Nat → Addr) (n : Nat) : AV → Value → Prop
  | none : VR h α n .none .none
  | bool (b : Bool) : VR h α n (.bool b) (.bool b)
  | int (i : Int) (t : Tok) : VR h α n (.int i) (.int i t)
  | tup {vs : List AV} {a : Addr} {items : List Value} : h.get? a = some (tupObj items) → VRs h α n vs items → VR h α n (.tup vs) (.ref a)
  | rng {lo hi : Int} {a : Addr} {t u v : Tok} : IsRange h a lo hi 1 t u v → VR h α n (.rng lo hi) (.ref a)
  | vals {i : Nat} {a : Addr} : i < n → h.IsValuesView a (α i) → VR h α n (.vals i) (.ref a)
  | ref {i : Nat} : i < n → VR h α n (.ref i) (.ref (α i))
inductive VRs (h : Heap) (α : Nat → Addr) (n : Nat) : List AV → List Value → Prop
  | nil : VRs h α n [] []
  | cons {v : AV} {x : Value} {vs : List AV} {xs : List Value} : VR h α n v x → VRs h α n vs xs → VRs h α n (v :: vs) (x :: xs)
end

/-- objects that no statement of a function changes -/
def Fixed (o : Obj) : Prop := (∃ vs, o.data = .fields vs) ∨ (o.cls = .type "tuple" ∧ ∃ xs n, o.data = .seq xs n)
/-- those of them that a value shows -/
def Vis (o : Obj) : Prop := (o.cls = .type "tuple" ∧ ∃ xs n, o.data = .seq xs n) ∨ ((o.cls = .type "range" ∨ o.cls = .type "dict_values") ∧ ∃ vs, o.data = .fields vs)
theorem Vis.fixed {o : Obj} (h : Vis o) : Fixed o := h.elim .inr (fun h => .inl h.2)
def FK (h h' : Heap) : Prop := ∀ b o, h.get? b = some o → Fixed o → h'.get? b = some o
theorem FK.refl (h : Heap) : FK h h := fun _ _ e _ => e
theorem FK.trans {a b c : Heap} (x : FK a b) (y : FK b c) : FK a c := fun p o e f => y p o (x p o e f) f
theorem HK.fk {h h' : Heap} (x : HK h h') : FK h h' := fun b o e _ => x b o e
def VK (h h' : Heap) : Prop := ∀ b o, h.get? b = some o → Vis o → h'.get? b = some o
theorem VK.refl (h : Heap) : VK h h := fun _ _ e _ => e
theorem VK.trans {a b c : Heap} (x : VK a b) (y : VK b c) : VK a c := fun p o e f => y p o (x p o e f) f
theorem FK.vk {h h' : Heap} (x : FK h h') : VK h h' := fun b o e v => x b o e v.fixed
theorem HK.vk {h h' : Heap} (x : HK h h') : VK h h' := x.fk.vk

structure Up (h : Heap) (α : Nat → Addr) (n : Nat) (h' : Heap) (α' : Nat → Addr) (n' : Nat) : Prop where
  le : n ≤ n'
  agree : ∀ i, i < n → α' i = α i
  vk : VK h h'

theorem Up.refl (h : Heap) (α : Nat → Addr) (n : Nat) : Up h α n h α n := ⟨Nat.le_refl _, fun _ _ => rfl, VK.refl _⟩
theorem Up.trans {h h' h'' α α' α'' n n' n''} (x : Up h α n h' α' n') (y : Up h' α' n' h'' α'' n'') : Up h α n h'' α'' n'' :=
  ⟨Nat.le_trans x.le y.le, fun i hi => (y.agree i (Nat.lt_of_lt_of_le hi x.le)).trans (x.agree i hi), x.vk.trans y.vk⟩

mutual
theorem VR.up {h h' α α' n n'} (u : Up h α n h' α' n') {v : AV} {x : Value} (r : VR h α n v x) : VR h' α' n' v x := by
  cases r with
  | none => exact .none
  | bool b => exact .bool b
  | int i t => exact .int i t
  | tup e r => exact .tup (u.vk _ _ e (.inl ⟨rfl, _, _, rfl⟩)) (r.up u)
  | rng e => exact .rng (u.vk _ _ e (.inr ⟨.inl rfl, _, rfl⟩))
  | vals hi e =>
    refine .vals (Nat.lt_of_lt_of_le hi u.le) ?_
    rw [u.agree _ hi]
    obtain ⟨o, ho, hc, hd⟩ := e
    exact ⟨o, u.vk _ _ ho (.inr ⟨.inr hc, _, hd⟩), hc, hd⟩
  | ref hi =>
    rw [← u.agree _ hi]
    exact .ref (Nat.lt_of_lt_of_le hi u.le)
theorem VRs.up {h h' α α' n n'} (u : Up h α n h' α' n') {vs : List AV} {xs : List Value} (r : VRs h α n vs xs) : VRs h' α' n' vs xs := by
  cases r with
  | nil => exact .nil
  | cons a b => exact .cons (a.up u) (b.up u)
end

theorem VRs.length {h α n} : ∀ {vs : List AV} {xs : List Value}, VRs h α n vs xs → vs.length = xs.length
  | _, _, .nil => rfl
  | _, _, .cons _ r => by simp [r.length]
theorem VRs.get {h α n} : ∀ {vs : List AV} {xs : List Value}, VRs h α n vs xs → ∀ (i : Nat) v, vs[i]? = some v → ∃ x, xs[i]? = some x ∧ VR h α n v x
  | _, _, .nil, i, v, e => by simp at e
  | _, _, .cons a r, 0, v, e => by simp at e; subst e; exact ⟨_, rfl, a⟩
  | _, _, .cons a r, i + 1, v, e => by simp at e; simpa using r.get i v e
theorem VRs.append {h α n} : ∀ {vs : List AV} {xs : List Value} {ws ys}, VRs h α n vs xs → VRs h α n ws ys → VRs h α n (vs ++ ws) (xs ++ ys)
  | _, _, _, _, .nil, r => r
  | _, _, _, _, .cons a q, r => .cons a (q.append r)
theorem VRs.take {h α n} : ∀ {vs : List AV} {xs : List Value} (k : Nat), VRs h α n vs xs → VRs h α n (vs.take k) (xs.take k)
  | _, _, 0, _ => by simpa using VRs.nil
  | _, _, k + 1, .nil => by simpa using VRs.nil
  | _, _, k + 1, .cons a r => by simpa using VRs.cons a (r.take k)
theorem VRs.drop {h α n} : ∀ {vs : List AV} {xs : List Value} (k : Nat), VRs h α n vs xs → VRs h α n (vs.drop k) (xs.drop k)
  | _, _, 0, r => by simpa using r
  | _, _, k + 1, .nil => by simpa using VRs.nil
  | _, _, k + 1, .cons a r => by simpa using r.drop k

/-- a dict's pairs -/
inductive KR (h : Heap) (α : Nat → Addr) (n : Nat) : List (Int × AV) → List (Int × Value) → Prop
  | nil : KR h α n [] []
  | cons {k : Int} {v : AV} {x : Value} {vs xs} : VR h α n v x → KR h α n vs xs → KR h α n ((k, v) :: vs) ((k, x) :: xs)

theorem KR.up {h h' α α' n n'} (u : Up h α n h' α' n') : ∀ {vs xs}, KR h α n vs xs → KR h' α' n' vs xs
  | _, _, .nil => .nil
  | _, _, .cons a r => .cons (a.up u) (r.up u)

variable (prog : Program) (w : World)

inductive OR (h : Heap) (α : Nat → Addr) (n : Nat) : AO → Addr → Prop
  | list {vs : List AV} {a : Addr} {items : List Value} {ep : Nat} : h.get? a = some { cls := .type "list", data := .seq items.toArray ep } → VRs h α n vs items → items.length ≤ 1000000 → OR h α n (.list vs) a
  | dict {kvs : List (Int × AV)} {a : Addr} {xs : List (Int × Value)} : h.DictOf (intKind prog w) a xs → KR h α n kvs xs → a ≠ sysModules → xs.length ≤ 1000000 → OR h α n (.dict kvs) a


variable {prog w}
/-- nothing that is there is changed -/
theorem OR.up {h h' α α' n n'} (u : Up h α n h' α' n') {o : AO} {a : Addr} (k : ∀ ob, h.get? a = some ob → h'.get? a = some ob) (r : OR prog w h α n o a) : OR prog w h' α' n' o a := by
  cases r with
  | list e r hl => exact .list (k _ e) (r.up u) hl
  | dict e r ha hl =>
    refine .dict ?_ (r.up u) ha hl
    obtain ⟨ob, es, ep, ho, r⟩ := e
    exact ⟨ob, es, ep, k _ ho, r⟩

theorem OR.some {h α n} {o : AO} {a : Addr} (r : OR prog w h α n o a) : ∃ ob, h.get? a = some ob ∧ ¬ Fixed ob ∧ (∀ v, ob.data ≠ .cell v) := by
  cases r with
  | list e r => exact ⟨_, e, by simp [Fixed], fun _ => by simp⟩
  | dict e r =>
    obtain ⟨ob, es, ep, ho, hx, hd, _⟩ := e
    exact ⟨ob, ho, by simp [Fixed, hd, hx.1], fun _ => by simp [hd]⟩

/-- the store grows, the heap keeps all -/
structure Grow (prog : Program) (w : World) (h : Heap) (α : Nat → Addr) (σ : Store) (h' : Heap) (α' : Nat → Addr) (σ' : Store) : Prop where
  keep : HK h h'
  pre : ∃ τ, σ' = σ ++ τ
  agree : ∀ i, i < σ.length → α' i = α i
  objs : ∀ i o, σ.length ≤ i → σ'[i]? = some o → OR prog w h' α' σ'.length o (α' i)
  fresh : ∀ i, σ.length ≤ i → i < σ'.length → h.get? (α' i) = none
  inj : ∀ i j, σ.length ≤ i → i < σ'.length → σ.length ≤ j → j < σ'.length → α' i = α' j → i = j

theorem Grow.len {h α σ h' α' σ'} (g : Grow prog w h α σ h' α' σ') : σ.length ≤ σ'.length := by
  obtain ⟨τ, rfl⟩ := g.pre; simp
theorem Grow.up {h α σ h' α' σ'} (g : Grow prog w h α σ h' α' σ') : Up h α σ.length h' α' σ'.length := ⟨g.len, g.agree, g.keep.vk⟩

theorem Grow.refl (h : Heap) (α : Nat → Addr) (σ : Store) : Grow prog w h α σ h α σ :=
  ⟨HK.refl _, ⟨[], by simp⟩, fun _ _ => rfl, fun i o hi e => (by rw [List.getElem?_eq_none hi] at e; cases e), fun i hi hj => absurd hi (by omega), fun i j hi hj => absurd hi (by omega)⟩
theorem Grow.same {h h' : Heap} (k : HK h h') (α : Nat → Addr) (σ : Store) : Grow prog w h α σ h' α σ :=
  ⟨k, ⟨[], by simp⟩, fun _ _ => rfl, fun i o hi e => (by rw [List.getElem?_eq_none hi] at e; cases e), fun i hi hj => absurd hi (by omega), fun i j hi hj => absurd hi (by omega)⟩

theorem Grow.trans {h α σ h' α' σ' h'' α'' σ''} (x : Grow prog w h α σ h' α' σ') (y : Grow prog w h' α' σ' h'' α'' σ'') : Grow prog w h α σ h'' α'' σ'' := by
  have lx := x.len
  have ly := y.len
  have live : ∀ i, σ.length ≤ i → i < σ'.length → ∃ ob, h'.get? (α' i) = some ob := fun i h1 h2 => by
    obtain ⟨ob, ho, _⟩ := (x.objs i σ'[i] h1 (by simp [h2])).some
    exact ⟨ob, ho⟩
  refine ⟨x.keep.trans y.keep, ?_, fun i hi => (y.agree i (Nat.lt_of_lt_of_le hi lx)).trans (x.agree i hi), fun i o hi e => ?_, fun i hi hj => ?_, fun i j hi hi' hj hj' e => ?_⟩
  · obtain ⟨τ, rfl⟩ := x.pre; obtain ⟨τ', rfl⟩ := y.pre; exact ⟨τ ++ τ', by simp⟩
  · by_cases hlt : i < σ'.length
    · have e' : σ'[i]? = some o := by
        obtain ⟨τ', rfl⟩ := y.pre
        rwa [List.getElem?_append_left hlt] at e
      rw [y.agree i hlt]
      exact (x.objs i o hi e').up y.up (fun ob ho => y.keep _ _ ho)
    · exact y.objs i o (by omega) e
  · by_cases hlt : i < σ'.length
    · rw [y.agree i hlt]; exact x.fresh i hi hlt
    · have := y.fresh i (by omega) hj
      cases q : h.get? (α'' i) with
      | none => rfl
      | some ob => rw [x.keep _ _ q] at this; cases this
  · by_cases h1 : i < σ'.length <;> by_cases h2 : j < σ'.length
    · rw [y.agree i h1, y.agree j h2] at e; exact x.inj i j hi h1 hj h2 e
    · obtain ⟨ob, ho⟩ := live i hi h1
      rw [y.agree i h1] at e
      have := y.fresh j (by omega) hj'
      rw [← e, ho] at this; cases this
    · obtain ⟨ob, ho⟩ := live j hj h2
      rw [y.agree j h2] at e
      have := y.fresh i (by omega) hi'
      rw [e, ho] at this; cases this
    · exact y.inj i j (by omega) hi' (by omega) hj' e

/-- one new object -/
theorem Grow.one {h h' : Heap} {α : Nat → Addr} {σ : Store} {o : AO} {a : Addr} (k : HK h h') (hn : h.get? a = none)
    (r : OR prog w h' (fun i => if i = σ.length then a else α i) (σ.length + 1) o a) : Grow prog w h α σ h' (fun i => if i = σ.length then a else α i) (σ ++ [o]) := by
  refine ⟨k, ⟨[o], rfl⟩, fun i hi => by simp [Nat.ne_of_lt hi], fun i o' hi e => ?_, fun i hi hj => ?_, fun i j hi hi' hj hj' e => ?_⟩
  · simp only [List.length_append, List.length_cons, List.length_nil, Nat.zero_add]
    have hlt : i < (σ ++ [o]).length := (List.getElem?_eq_some_iff.mp e).1
    simp at hlt
    have : i = σ.length := by omega
    subst this
    simp at e; subst e
    simpa using r
  · simp at hj
    have : i = σ.length := by omega
    subst this; simpa using hn
  · simp at hi' hj'
    omega

/-- what is new is forgotten -/
theorem Grow.forget {h α σ h' α' σ'} (x : Grow prog w h α σ h' α' σ') : Grow prog w h α σ h' α σ := Grow.same x.keep α σ

structure Cx where
  A : Around
  env : Env
  h₀ : Heap
  n₀ : Nat

structure R (prog : Program) (w : World) (c : Cx) (α : Nat → Addr) (ρ : AEnv) (σ : Store) (h : Heap) : Prop where
  keep : HK c.h₀ h
  env : ∃ (m cm : Str → Option Value), h.Ns c.env.locals m ∧ (∀ x a, c.env.cells.lookup x = some a → h.IsCell a (cm x)) ∧
    (∀ x v, ρ x = some v → c.env.kindOf x = some .local → ∃ y, m x = some y ∧ VR h α σ.length v y) ∧
    (∀ x v, ρ x = some v → (c.env.kindOf x = some .cell ∨ c.env.kindOf x = some .free) → ∃ y, cm x = some y ∧ VR h α σ.length v y)
  dot : ρ ".0" = none
  objs : ∀ i o, σ[i]? = some o → OR prog w h α σ.length o (α i)
  inj : ∀ i j, i < σ.length → j < σ.length → α i = α j → i = j
  own : ∀ i, c.n₀ ≤ i → i < σ.length → c.h₀.get? (α i) = none
  apart : ∀ i, i < σ.length → α i ≠ c.env.locals

theorem R.live {c α ρ σ h} (r : R prog w c α ρ σ h) (i : Nat) (hi : i < σ.length) : ∃ ob, h.get? (α i) = some ob := by
  obtain ⟨ob, ho, _⟩ := (r.objs i σ[i] (by simp [hi])).some
  exact ⟨ob, ho⟩

theorem R.grow {c α ρ σ h α' σ' h'} (r : R prog w c α ρ σ h) (g : Grow prog w h α σ h' α' σ') : R prog w c α' ρ σ' h' := by
  have hl := g.len
  obtain ⟨m, cm, e1, e2, e3, e4⟩ := r.env
  refine ⟨r.keep.trans g.keep, ⟨m, cm, e1.keeps g.keep, fun x a hx => (e2 x a hx).keeps g.keep, fun x v hx hk => ?_, fun x v hx hk => ?_⟩, r.dot, fun i o e => ?_, fun i j hi hj e => ?_, fun i hi hj => ?_, fun i hi => ?_⟩
  · obtain ⟨y, hy, hv⟩ := e3 x v hx hk; exact ⟨y, hy, hv.up g.up⟩
  · obtain ⟨y, hy, hv⟩ := e4 x v hx hk; exact ⟨y, hy, hv.up g.up⟩
  · by_cases hlt : i < σ.length
    · have e' : σ[i]? = some o := by
        obtain ⟨τ', rfl⟩ := g.pre
        rwa [List.getElem?_append_left hlt] at e
      rw [g.agree i hlt]
      exact (r.objs i o e').up g.up (fun ob ho => g.keep _ _ ho)
    · exact g.objs i o (by omega) e
  · by_cases h1 : i < σ.length <;> by_cases h2 : j < σ.length
    · rw [g.agree i h1, g.agree j h2] at e; exact r.inj i j h1 h2 e
    · obtain ⟨ob, ho⟩ := r.live i h1
      rw [g.agree i h1] at e
      have := g.fresh j (by omega) hj
      rw [← e, ho] at this; cases this
    · obtain ⟨ob, ho⟩ := r.live j h2
      rw [g.agree j h2] at e
      have := g.fresh i (by omega) hi
      rw [e, ho] at this; cases this
    · exact g.inj i j (by omega) hi (by omega) hj e
  · by_cases hlt : i < σ.length
    · rw [g.agree i hlt]; exact r.own i hi hlt
    · have := g.fresh i (by omega) hj
      cases q : c.h₀.get? (α' i) with
      | none => rfl
      | some ob => rw [r.keep _ _ q] at this; cases this
  · by_cases hlt : i < σ.length
    · rw [g.agree i hlt]; exact r.apart i hlt
    · intro e
      have := g.fresh i (by omega) hi
      obtain ⟨ob, _, _, ho, _⟩ := e1
      rw [e, ho] at this; cases this

end Inn

end
section
set_option maxRecDepth 10000
set_option linter.unusedVariables false
namespace Inn
open PySem
variable {prog : Program} {w : World}

abbrev AM (β : Type) := AEnv → Store → Option (β × Store)

def SimG {β γ : Type} (P : Heap → (Nat → Addr) → Nat → β → γ → Prop) (prog : Program) (w : World) (c : Cx) (t : Sem γ) (m : AM β) : Prop :=
  ∀ (ρ : AEnv) (σ : Store) (v : β) (σ' : Store) (α : Nat → Addr) (s : Shared) (Q : γ → Shared → Prop) (E : Value → Shared → Prop), m ρ σ = some (v, σ') → R prog w c α ρ σ s.heap →
    (∀ x α' h' tk', Grow prog w s.heap α σ h' α' σ' → P h' α' σ'.length v x → Q x { s with heap := h', toks := tk' }) → wpAny (model prog w) c.A t Q E s
abbrev BR (_ : Heap) (_ : Nat → Addr) (_ : Nat) (a b : Bool) : Prop := a = b
abbrev Sim := SimG VR
abbrev SimB := SimG BR
abbrev SimL := SimG VRs

def abind {β γ : Type} (m : AM β) (k : β → AM γ) : AM γ := fun ρ σ => (m ρ σ).bind fun p => k p.1 ρ p.2
def apure {β : Type} (v : β) : AM β := fun _ σ => some (v, σ)

theorem abind_some {β γ : Type} {m : AM β} {k : β → AM γ} {ρ σ r} (h : abind m k ρ σ = some r) : ∃ v σ1, m ρ σ = some (v, σ1) ∧ k v ρ σ1 = some r := by
  unfold abind at h
  cases e : m ρ σ with
  | none => rw [e] at h; cases h
  | some p => rw [e] at h; exact ⟨p.1, p.2, rfl, h⟩

section
variable {c : Cx}

/-! ### constants -/
def aInt (i : Int) : AM AV := apure (.int i)
theorem sim_int {i k pos} : Sim prog w c (eval (.Constant (.int i) k pos) c.env) (aInt i) := by
  intro ρ σ v σ' α s Q E hm r q
  cases hm
  exact wpAny_Constant_int (q _ α s.heap _ (Grow.refl ..) (.int _ _))
def aBool (b : Bool) : AM AV := apure (.bool b)
theorem sim_bool {b k pos} : Sim prog w c (eval (.Constant (.bool b) k pos) c.env) (aBool b) := by
  intro ρ σ v σ' α s Q E hm r q
  cases hm
  exact wpAny_Constant_bool (q _ α s.heap s.toks (Grow.refl ..) (.bool _))
def aNone : AM AV := apure .none
theorem sim_none {k pos} : Sim prog w c (eval (.Constant .none k pos) c.env) aNone := by
  intro ρ σ v σ' α s Q E hm r q
  cases hm
  exact wpAny_Constant_none (q _ α s.heap s.toks (Grow.refl ..) .none)

/-! ### names -/
def aName (x : Str) : AM AV := fun ρ σ => (ρ x).map fun v => (v, σ)
theorem aName_some {x : Str} {ρ σ v σ'} (h : aName x ρ σ = some (v, σ')) : ρ x = some v ∧ σ' = σ := by
  unfold aName at h
  cases e : ρ x with
  | none => rw [e] at h; cases h
  | some p => rw [e] at h; cases h; exact ⟨rfl, rfl⟩

theorem sim_local {x : Str} {pos} (hk : c.env.scope.kind = .function) (hl : c.env.kindOf x = some .local) (hd : (x == ("__debug__" : Str)) = false) :
    Sim prog w c (eval (.Name x pos) c.env) (aName x) := by
  intro ρ σ v σ' α s Q E hm r q
  obtain ⟨hx, rfl⟩ := aName_some hm
  obtain ⟨m, cm, e1, e2, e3, e4⟩ := r.env
  obtain ⟨y, hy, hv⟩ := e3 x v hx hl
  exact wpAny_Name (wpAny_loadName_local hk hl e1 hy (q _ α s.heap s.toks (Grow.refl ..) hv)) hd

theorem sim_cell {x : Str} {pos} (hk : c.env.scope.kind = .function) (hl : c.env.kindOf x = some .cell) (hc : (c.env.cells.lookup x).isSome = true) (hd : (x == ("__debug__" : Str)) = false) :
    Sim prog w c (eval (.Name x pos) c.env) (aName x) := by
  intro ρ σ v σ' α s Q E hm r q
  obtain ⟨hx, rfl⟩ := aName_some hm
  obtain ⟨m, cm, e1, e2, e3, e4⟩ := r.env
  obtain ⟨y, hy, hv⟩ := e4 x v hx (.inl hl)
  obtain ⟨a, ha⟩ := Option.isSome_iff_exists.mp hc
  exact wpAny_Name (wpAny_loadName_cell hk hl ha (hy ▸ e2 x a ha) (q _ α s.heap s.toks (Grow.refl ..) hv)) hd

theorem sim_free {x : Str} {pos} (hk : c.env.scope.kind = .function) (hl : c.env.kindOf x = some .free) (hc : (c.env.cells.lookup x).isSome = true) (hd : (x == ("__debug__" : Str)) = false) (hn : (x == ("__classdict__" : Str)) = false) :
    Sim prog w c (eval (.Name x pos) c.env) (aName x) := by
  intro ρ σ v σ' α s Q E hm r q
  obtain ⟨hx, rfl⟩ := aName_some hm
  obtain ⟨m, cm, e1, e2, e3, e4⟩ := r.env
  obtain ⟨y, hy, hv⟩ := e4 x v hx (.inr hl)
  obtain ⟨a, ha⟩ := Option.isSome_iff_exists.mp hc
  exact wpAny_Name (wpAny_loadName_free hk hl ha (hy ▸ e2 x a ha) (q _ α s.heap s.toks (Grow.refl ..) hv) hn) hd

/-! ### two operands -/
def Op2 (prog : Program) (w : World) (c : Cx) (t : Value → Value → Sem Value) (f : AV → AV → Store → Option (AV × Store)) : Prop :=
  ∀ (a b : AV) (x y : Value) (α : Nat → Addr) (ρ : AEnv) (σ : Store) (v : AV) (σ' : Store) (s : Shared) (Q : Value → Shared → Prop) (E : Value → Shared → Prop), f a b σ = some (v, σ') → R prog w c α ρ σ s.heap →
    VR s.heap α σ.length a x → VR s.heap α σ.length b y →
    (∀ z α' h' tk', Grow prog w s.heap α σ h' α' σ' → VR h' α' σ'.length v z → Q z { s with heap := h', toks := tk' }) → wpAny (model prog w) c.A (t x y) Q E s

def aBin (f : AV → AV → Store → Option (AV × Store)) (a b : AM AV) : AM AV := abind a fun x => abind b fun y => fun _ σ => f x y σ

theorem sim_BinOp {l r : Expr} {op : Operator} {pos : Pos} {ml mr : AM AV} {f} (ho : Op2 prog w c (binaryOp op) f) (hl : Sim prog w c (eval l c.env) ml) (hr : Sim prog w c (eval r c.env) mr) :
    Sim prog w c (eval (.BinOp l op r pos) c.env) (aBin f ml mr) := by
  intro ρ σ v σ' α s Q E hm R₀ q
  obtain ⟨a, σ1, h1, hm⟩ := abind_some hm
  obtain ⟨b, σ2, h2, hm⟩ := abind_some hm
  refine wpAny_BinOp (hl _ _ _ _ _ _ _ _ h1 R₀ fun x α1 hh1 tk1 g1 v1 => ?_)
  refine hr _ _ _ _ _ { s with heap := hh1, toks := tk1 } _ _ h2 (R₀.grow g1) fun y α2 hh2 tk2 g2 v2 => ?_
  exact ho _ _ _ _ _ _ _ _ _ { s with heap := hh2, toks := tk2 } _ _ hm ((R₀.grow g1).grow g2) (v1.up g2.up) v2 fun z α3 hh3 tk3 g3 v3 => q z α3 hh3 tk3 ((g1.trans g2).trans g3) v3

def opSub : AV → AV → Store → Option (AV × Store)
  | .int a, .int b, σ => some (.int (a - b), σ)
  | _, _, _ => none
theorem op_sub : Op2 prog w c (binaryOp .Sub) opSub := by
  intro a b x y α ρ σ v σ' s Q E hf r ha hb q
  cases ha <;> cases hb <;> simp only [opSub, reduceCtorEq, Option.some.injEq, Prod.mk.injEq] at hf
  obtain ⟨rfl, rfl⟩ := hf
  exact AutoIntOps.sub_0 (q _ α s.heap _ (Grow.refl ..) (.int _ _))

def opMod : AV → AV → Store → Option (AV × Store)
  | .int a, .int b, σ => if b = 0 then none else some (.int (a.fmod b), σ)
  | _, _, _ => none
theorem op_mod : Op2 prog w c (binaryOp .Mod) opMod := by
  intro a b x y α ρ σ v σ' s Q E hf r ha hb q
  cases ha <;> cases hb <;> simp only [opMod, reduceCtorEq] at hf
  split at hf
  · cases hf
  · rename_i hb
    cases hf
    exact AutoIntOps.mod_1 (by simpa using hb) (q _ α s.heap _ (Grow.refl ..) (.int _ _))

def opDiv : AV → AV → Store → Option (AV × Store)
  | .int a, .int b, σ => if 0 < b ∧ b < 1000000000 then some (.int (a.fdiv b), σ) else none
  | _, _, _ => none
theorem op_div : Op2 prog w c (binaryOp .FloorDiv) opDiv := by
  intro a b x y α ρ σ v σ' s Q E hf r ha hb q
  cases ha <;> cases hb <;> simp only [opDiv, reduceCtorEq] at hf
  split at hf
  · rename_i hb
    cases hf
    exact AutoIntOps.floordiv_1 (by simp; omega) (by rw [PyProof.noPylong_small (by omega)]; simp) (q _ α s.heap _ (Grow.refl ..) (.int _ _))
  · cases hf

def opPow : AV → AV → Store → Option (AV × Store)
  | .int a, .int b, σ => if a = 10 ∧ 0 < b ∧ b < 1000 then some (.int (a ^ b.toNat), σ) else none
  | _, _, _ => none
theorem op_pow : Op2 prog w c (binaryOp .Pow) opPow := by
  intro a b x y α ρ σ v σ' s Q E hf r ha hb q
  cases ha <;> cases hb <;> simp only [opPow, reduceCtorEq] at hf
  split at hf
  · rename_i hb
    cases hf
    obtain ⟨rfl, h1, h2⟩ := hb
    refine AutoIntOps.pow_4 (by omega) (by simp; omega) (by decide) (by decide) ?_ (q _ α s.heap _ (Grow.refl ..) (.int _ _))
    have e : Builtin.Int.intBits 10 = 4 := by decide +kernel
    rw [e]
    unfold Builtin.Int.intTooBig
    simp only [decide_eq_true_eq]
    simp [bitsLine]
    omega
  · cases hf

/-- the bound of a factor -/
abbrev smallI (a : Int) : Prop := -(2 ^ 64) < a ∧ a < 2 ^ 64

def opMul : AV → AV → Store → Option (AV × Store)
  | .int a, .int b, σ => if smallI a ∨ smallI b then some (.int (a * b), σ) else none
  | .ref i, .int b, σ => match σ[i]? with
    | some (.list vs) => if 0 ≤ b ∧ (vs.length : Int) * b ≤ 1000000 ∧ b < 1000000 then some (.ref σ.length, σ ++ [.list (List.replicate b.toNat vs).flatten]) else none
    | _ => none
  | _, _, _ => none
def opAdd : AV → AV → Store → Option (AV × Store)
  | .int a, .int b, σ => some (.int (a + b), σ)
  | .ref i, .ref j, σ => match σ[i]?, σ[j]? with
    | some (.list vs), some (.list ws) => if vs.length + ws.length ≤ 1000000 then some (.ref σ.length, σ ++ [.list (vs ++ ws)]) else none
    | _, _ => none
  | _, _, _ => none

theorem le_sizeLine {n : Nat} (h : n ≤ 1000000) : n ≤ sizeLine := Nat.le_trans h (by decide)

/-- a new list -/
theorem grow_list {ρ : AEnv} {σ : Store} {α : Nat → Addr} {h h' : Heap} {vs : List AV} {items : List Value} {a : Addr} {ep : Nat} (r : R prog w c α ρ σ h) (k : HK h h') (hn : h.get? a = none)
    (ho : h'.get? a = some { cls := .type "list", data := .seq items.toArray ep }) (hv : VRs h α σ.length vs items) (hl : items.length ≤ 1000000) :
    ∃ α', Grow prog w h α σ h' α' (σ ++ [.list vs]) ∧ VR h' α' (σ ++ [AO.list vs]).length (.ref σ.length) (.ref a) := by
  have u : Up h α σ.length h' (fun i => if i = σ.length then a else α i) (σ.length + 1) := ⟨Nat.le_succ _, fun i hi => by simp [Nat.ne_of_lt hi], k.vk⟩
  refine ⟨_, Grow.one k hn (.list ho (hv.up u) hl), ?_⟩
  have := VR.ref (h := h') (α := fun i => if i = σ.length then a else α i) (n := (σ ++ [AO.list vs]).length) (i := σ.length) (by simp)
  simpa using this

theorem get?_size_none (h : Heap) : h.get? h.objs.size = none := by
  cases e : h.get? h.objs.size with
  | none => rfl
  | some o => exact absurd (Heap.lt_size e) (Nat.lt_irrefl _)

theorem R.list {ρ : AEnv} {σ : Store} {α : Nat → Addr} {h : Heap} {i : Nat} {vs : List AV} (r : R prog w c α ρ σ h) (e : σ[i]? = some (.list vs)) :
    ∃ items ep, h.get? (α i) = some { cls := .type "list", data := .seq (items : List Value).toArray ep } ∧ VRs h α σ.length vs items ∧ items.length ≤ 1000000 := by
  cases r.objs i _ e with
  | list a b c => exact ⟨_, _, a, b, c⟩

theorem op_add : Op2 prog w c (binaryOp .Add) opAdd := by
  intro a b x y α ρ σ v σ' s Q E hf r ha hb q
  cases ha <;> cases hb <;> simp only [opAdd, reduceCtorEq, Option.some.injEq, Prod.mk.injEq] at hf
  · obtain ⟨rfl, rfl⟩ := hf
    exact AutoIntOps.add_0 (q _ α s.heap _ (Grow.refl ..) (.int _ _))
  · split at hf
    · rename_i vs ws e1 e2
      split at hf
      · rename_i hlen
        cases hf
        obtain ⟨is, n1, g1, v1, l1⟩ := r.list e1
        obtain ⟨js, n2, g2, v2, l2⟩ := r.list e2
        have hl : (is ++ js).length ≤ 1000000 := by rw [List.length_append, ← v1.length, ← v2.length]; exact hlen
        refine P.add_list g1 g2 ?_ (by simp only [List.size_toArray]; rw [List.length_append] at hl; exact le_sizeLine hl)
        obtain ⟨α', g, v⟩ := grow_list (a := s.heap.objs.size) (ep := 0) (items := is ++ js) r (HK.push s.heap { cls := .type "list", data := .seq (is.toArray ++ js.toArray) }) (get?_size_none _) (by rw [Heap.get?_push_size _ rfl]; simp) (v1.append v2) hl
        exact q _ α' _ s.toks g v
      · cases hf
    · cases hf
end
end Inn

end
section
set_option maxRecDepth 10000
set_option linter.unusedVariables false
namespace Inn
open PySem
variable {prog : Program} {w : World}
section
variable {c : Cx}

/-! ### list times int -/
theorem foldl_app (items : List Value) : ∀ (k : Nat) (acc : Array Value), List.foldl (fun x1 x2 => x1 ++ x2) acc (List.replicate k items.toArray) = (acc.toList ++ (List.replicate k items).flatten).toArray
  | 0, acc => by simp
  | k + 1, acc => by
    rw [List.replicate_succ, List.foldl_cons, foldl_app items k]
    simp [List.replicate_succ]
theorem VRs.rep {h α n} {vs : List AV} {xs : List Value} (r : VRs h α n vs xs) : ∀ k : Nat, VRs h α n (List.replicate k vs).flatten (List.replicate k xs).flatten
  | 0 => by simpa using VRs.nil
  | k + 1 => by simpa [List.replicate_succ] using r.append (r.rep k)
theorem length_rep {β : Type} (vs : List β) (k : Nat) : (List.replicate k vs).flatten.length = k * vs.length := by
  induction k with
  | zero => simp
  | succ k ih => simp [List.replicate_succ, ih, Nat.succ_mul]; omega

theorem mul_fitsI {a b : Int} (h : smallI a ∨ smallI b) : IntMulOk a b :=
  h.elim (fun h => IntMulOk.of_left (intBits_le_64 h.1 h.2)) (fun h => IntMulOk.of_right (intBits_le_64 h.1 h.2))

theorem list_mul {A : Around} {E : Value → Shared → Prop} {s : Shared} {l : Addr} {items : Array Value} {k : Nat} {x : Int} {u : Tok} {Q : Value → Shared → Prop}
    (hl : s.heap.get? l = some { cls := .type "list", dict := none, data := .seq items k, slots := #[] })
    (hlo : -(2 ^ 63 : Int) ≤ x) (hhi : x < 2 ^ 63) (hsz : items.size * x.toNat ≤ 2 ^ 24)
    (h : Q (.ref s.heap.objs.size) { s with heap := s.heap.push { cls := .type "list", data := .seq (List.foldl (fun x1 x2 => x1 ++ x2) #[] (List.replicate (if items.isEmpty = true then 0 else x.toNat) items)) } }) :
    wpAny (model prog w) A (binaryOp .Mult (.ref l) (.int x u)) Q E s :=
  wpAny_binaryOp_repeat_ref (T := "list") (U := "int") (by decide) ⟨_, hl, rfl⟩ (fun s' => typeIs_int s' x u) noFill_list_mul F.fills_int_mul F.slot_int_rmul repeat_list F.slot_int_index.lookup
    (call_meets F.slot_int_rmul (typeIs_int s x u) F.entry_int_rmul (F.args_int_rmul_2 _ _) (int___rmul___int_list x u l items k)
      ⟨hl, rfl, ⟨_, hl, rfl⟩, call_meets F.slot_list_mul ⟨_, hl, rfl⟩ F.entry_list_mul (F.args_list_mul_2 _ _)
        (AutoListH.list___mul___list_int_3 l items k x u (by simp [Builtin.List.listFitsIndex]; omega) (by omega) (by simp [Builtin.List.listTooLong, sizeLine]; omega))
        ⟨hl, h⟩⟩)

theorem op_mul : Op2 prog w c (binaryOp .Mult) opMul := by
  intro a b x y α ρ σ v σ' s Q E hf r ha hb q
  cases ha <;> cases hb <;> simp only [opMul, reduceCtorEq] at hf
  · split at hf
    · rename_i hs
      cases hf
      exact AutoIntOps.mul_0 (q _ α s.heap _ (Grow.refl ..) (.int _ _)) (mul_fitsI hs)
    · cases hf
  · rename_i i hi b t
    split at hf
    · rename_i vs e1
      split at hf
      · rename_i hlen
        cases hf
        obtain ⟨is, n1, g1, v1, l1⟩ := r.list e1
        obtain ⟨b, rfl⟩ : ∃ k : Nat, b = k := ⟨b.toNat, by omega⟩
        have hle : is.length * b ≤ 1000000 := by
          rw [v1.length] at hlen
          have := hlen.2.1
          have e : ((is.length * b : Nat) : Int) = (is.length : Int) * (b : Int) := by push_cast; rfl
          omega
        refine list_mul g1 (by omega) (by omega) (by simp; omega) ?_
        have e2 : List.foldl (fun x1 x2 => x1 ++ x2) #[] (List.replicate (if is.toArray.isEmpty = true then 0 else (b : Int).toNat) is.toArray) = (List.replicate b is).flatten.toArray := by
          rw [foldl_app]
          cases is with
          | nil => simp
          | cons x xs => simp
        obtain ⟨α', g, v⟩ := grow_list (a := s.heap.objs.size) (ep := 0) (vs := (List.replicate b vs).flatten) (items := (List.replicate b is).flatten) r (HK.push s.heap { cls := .type "list", data := .seq (List.replicate b is).flatten.toArray }) (get?_size_none _) (by rw [Heap.get?_push_size _ rfl]) (v1.rep b) (by rw [length_rep, Nat.mul_comm]; exact hle)
        rw [e2]
        exact q _ α' _ s.toks g v
      · cases hf
    · cases hf

/-! ### comparisons -/
def Cmp2 (prog : Program) (w : World) (c : Cx) (t : Value → Value → Sem Value) (f : AV → AV → Store → Option Bool) : Prop :=
  ∀ (a b : AV) (x y : Value) (α : Nat → Addr) (ρ : AEnv) (σ : Store) (v : Bool) (s : Shared) (Q : Value → Shared → Prop) (E : Value → Shared → Prop), f a b σ = some v → R prog w c α ρ σ s.heap →
    VR s.heap α σ.length a x → VR s.heap α σ.length b y →
    (∀ tk', Q (.bool v) { s with toks := tk' }) → wpAny (model prog w) c.A (t x y) Q E s

def aCmp (f : AV → AV → Store → Option Bool) (a b : AM AV) : AM AV := abind a fun x => abind b fun y => fun _ σ => (f x y σ).map fun r => (.bool r, σ)
def bCmp (f : AV → AV → Store → Option Bool) (a b : AM AV) : AM Bool := abind a fun x => abind b fun y => fun _ σ => (f x y σ).map fun r => (r, σ)

theorem map_some' {β γ : Type} {o : Option β} {f : β → γ} {r : γ} (h : o.map f = some r) : ∃ v, o = some v ∧ f v = r := by
  cases o with
  | none => cases h
  | some v => exact ⟨v, rfl, by simpa using h⟩

theorem sim_Cmp1 {l r : Expr} {op : CmpOp} {pos : Pos} {ml mr : AM AV} {f} (ho : Cmp2 prog w c (compareOp op) f) (hm' : behindInMarks op r = false) (hl : Sim prog w c (eval l c.env) ml) (hr : Sim prog w c (eval r c.env) mr) :
    Sim prog w c (eval (.Compare l [op] [r] pos) c.env) (aCmp f ml mr) := by
  intro ρ σ v σ' α s Q E hm R₀ q
  obtain ⟨a, σ1, h1, hm⟩ := abind_some hm
  obtain ⟨b, σ2, h2, hm⟩ := abind_some hm
  obtain ⟨o, h3, hm⟩ := map_some' hm
  cases hm
  refine wpAny_Compare1 (hl _ _ _ _ _ _ _ _ h1 R₀ fun x α1 hh1 tk1 g1 v1 => ?_) hm'
  refine hr _ _ _ _ _ { s with heap := hh1, toks := tk1 } _ _ h2 (R₀.grow g1) fun y α2 hh2 tk2 g2 v2 => ?_
  exact ho _ _ _ _ _ _ _ _ { s with heap := hh2, toks := tk2 } _ _ h3 ((R₀.grow g1).grow g2) (v1.up g2.up) v2 fun tk3 => q _ α2 hh2 tk3 (g1.trans g2) (.bool _)

theorem simB_Cmp1 {l r : Expr} {op : CmpOp} {pos : Pos} {ml mr : AM AV} {f} {whole} (ho : Cmp2 prog w c (compareOp op) f) (hm' : behindInMarks op r = false) (hl : Sim prog w c (eval l c.env) ml) (hr : Sim prog w c (eval r c.env) mr) :
    SimB prog w c (isTrue (.Compare l [op] [r] pos) c.env whole) (bCmp f ml mr) := by
  intro ρ σ v σ' α s Q E hm R₀ q
  obtain ⟨a, σ1, h1, hm⟩ := abind_some hm
  obtain ⟨b, σ2, h2, hm⟩ := abind_some hm
  obtain ⟨o, h3, hm⟩ := map_some' hm
  cases hm
  refine wpAny_isTrue_Compare1 (hl _ _ _ _ _ _ _ _ h1 R₀ fun x α1 hh1 tk1 g1 v1 => ?_) hm'
  refine hr _ _ _ _ _ { s with heap := hh1, toks := tk1 } _ _ h2 (R₀.grow g1) fun y α2 hh2 tk2 g2 v2 => ?_
  exact ho _ _ _ _ _ _ _ _ { s with heap := hh2, toks := tk2 } _ _ h3 ((R₀.grow g1).grow g2) (v1.up g2.up) v2 fun tk3 => wpAny_truthy_bool (q _ α2 hh2 tk3 (g1.trans g2) rfl)

/-- a chain of two -/
def aCmp2 (f g : AV → AV → Store → Option Bool) (a b d : AM AV) : AM AV :=
  abind a fun x => abind b fun y => fun ρ σ => (f x y σ).bind fun t => if t then (abind d fun z => fun _ σ => (g y z σ).map fun r => (.bool r, σ)) ρ σ else some (.bool false, σ)
def bCmp2 (f g : AV → AV → Store → Option Bool) (a b d : AM AV) : AM Bool :=
  abind a fun x => abind b fun y => fun ρ σ => (f x y σ).bind fun t => if t then (abind d fun z => fun _ σ => (g y z σ).map fun r => (r, σ)) ρ σ else some (false, σ)

theorem bind_some' {β γ : Type} {o : Option β} {f : β → Option γ} {r : γ} (h : o.bind f = some r) : ∃ v, o = some v ∧ f v = some r := by
  cases o with
  | none => cases h
  | some v => exact ⟨v, rfl, by simpa using h⟩

theorem release_any {M : Model} {A : Around} {E : Value → Shared → Prop} {s : Shared} {vs keep : List Value} {Q : Unit → Shared → Prop} (h : Q () s) : wpAny M A (release vs keep) Q E s := fun Γ p _ => by rw [Sem.wp_release]; exact h
theorem operate_any {M : Model} {A : Around} {E : Value → Shared → Prop} {s : Shared} {vs : List Value} {m : Sem Value} {Q : Value → Shared → Prop} (h : wpAny M A m Q E s) : wpAny M A (operate vs m) Q E s := fun Γ p hΓ => by rw [Sem.wp_operate]; exact h Γ p hΓ

theorem marked2 {o1 o2 : CmpOp} {r1 r2 : Expr} {t1 t2 : Sem Value} (m1 : behindInMarks o1 r1 = false) (m2 : behindInMarks o2 r2 = false) : markedEach [o1, o2] [r1, r2] [t1, t2] = [t1, t2] := by
  simp [markedEach, lastMarks, markedBehindIn_of_false, m1, m2]

theorem wpAny_Compare2 {M : Model} {A : Around} {E : Value → Shared → Prop} {s : Shared} {env : Env} {l r1 r2 : Expr} {o1 o2 : CmpOp} {pos : Pos} {Q : Value → Shared → Prop} (m1 : behindInMarks o1 r1 = false) (m2 : behindInMarks o2 r2 = false)
    (h : wpAny M A (eval l env) (fun a s₁ => wpAny M A (eval r1 env) (fun b s₂ => wpAny M A (compareOp o1 a b) (fun d s₃ => wpAny M A (truthy d) (fun t s₄ => if t then wpAny M A (eval r2 env) (fun e s₅ => wpAny M A (compareOp o2 b e) Q E s₅) E s₄ else Q d s₄) E s₃) E s₂) E s₁) E s) :
    wpAny M A (eval (.Compare l [o1, o2] [r1, r2] pos) env) Q E s := by
  show wpAny M A (do compareChain pos (← eval l env) [o1, o2] (markedEach [o1, o2] [r1, r2] [eval r1 env, eval r2 env])) Q E s
  rw [marked2 m1 m2]
  refine wpAny_bind (wpAny_mono h (fun a s₁ h₁ => ?_) fun _ _ e => e)
  unfold compareChain
  refine wpAny_bind (wpAny_holding (wpAny_mono h₁ (fun b s₂ h₂ => wpAny_bind (wpAny_standAt ?_)) fun _ _ e => e))
  refine wpAny_bind (wpAny_holding (wpAny_mono h₂ (fun d s₃ h₃ => wpAny_bind (release_any ?_)) fun _ _ e => e))
  refine wpAny_bind (wpAny_holding (wpAny_mono h₃ (fun t s₄ h₄ => ?_) fun _ _ e => e))
  cases t with
  | false => exact wpAny_pure h₄
  | true =>
    simp only [if_true] at h₄ ⊢
    unfold compareChain
    exact wpAny_bind (wpAny_holding (wpAny_mono h₄ (fun e s₅ h₅ => wpAny_bind (wpAny_standAt (operate_any h₅))) fun _ _ e => e))

theorem wpAny_isTrue_Compare2 {M : Model} {A : Around} {E : Value → Shared → Prop} {s : Shared} {env : Env} {l r1 r2 : Expr} {o1 o2 : CmpOp} {pos : Pos} {whole : Sem Value} {Q : Bool → Shared → Prop} (m1 : behindInMarks o1 r1 = false) (m2 : behindInMarks o2 r2 = false)
    (h : wpAny M A (eval l env) (fun a s₁ => wpAny M A (eval r1 env) (fun b s₂ => wpAny M A (compareOp o1 a b) (fun d s₃ => wpAny M A (truthy d) (fun t s₄ => if t then wpAny M A (eval r2 env) (fun e s₅ => wpAny M A (compareOp o2 b e) (fun z s₆ => wpAny M A (truthy z) Q E s₆) E s₅) E s₄ else Q false s₄) E s₃) E s₂) E s₁) E s) :
    wpAny M A (isTrue (.Compare l [o1, o2] [r1, r2] pos) env whole) Q E s := by
  show wpAny M A (do testChain pos (← eval l env) [o1, o2] (markedEach [o1, o2] [r1, r2] [eval r1 env, eval r2 env])) Q E s
  rw [marked2 m1 m2]
  refine wpAny_bind (wpAny_mono h (fun a s₁ h₁ => ?_) fun _ _ e => e)
  unfold testChain
  refine wpAny_bind (wpAny_holding (wpAny_mono h₁ (fun b s₂ h₂ => wpAny_bind (wpAny_standAt ?_)) fun _ _ e => e))
  refine wpAny_bind (wpAny_holding (wpAny_mono h₂ (fun d s₃ h₃ => wpAny_bind (release_any ?_)) fun _ _ e => e))
  refine wpAny_bind (wpAny_holding (wpAny_mono h₃ (fun t s₄ h₄ => ?_) fun _ _ e => e))
  cases t with
  | false => exact wpAny_pure h₄
  | true =>
    simp only [if_true] at h₄ ⊢
    unfold testChain
    exact wpAny_bind (wpAny_holding (wpAny_mono h₄ (fun e s₅ h₅ => wpAny_bind (wpAny_standAt (wpAny_bind (operate_any (wpAny_mono h₅ (fun z s₆ h₆ => wpAny_holding h₆) fun _ _ e => e))))) fun _ _ e => e))

theorem sim_Cmp2 {l r1 r2 : Expr} {o1 o2 : CmpOp} {pos : Pos} {ml m1 m2 : AM AV} {f g} (ho1 : Cmp2 prog w c (compareOp o1) f) (ho2 : Cmp2 prog w c (compareOp o2) g) (e1 : behindInMarks o1 r1 = false) (e2 : behindInMarks o2 r2 = false)
    (hl : Sim prog w c (eval l c.env) ml) (h1 : Sim prog w c (eval r1 c.env) m1) (h2 : Sim prog w c (eval r2 c.env) m2) :
    Sim prog w c (eval (.Compare l [o1, o2] [r1, r2] pos) c.env) (aCmp2 f g ml m1 m2) := by
  intro ρ σ v σ' α s Q E hm R₀ q
  obtain ⟨a, σ1, q1, hm⟩ := abind_some hm
  obtain ⟨b, σ2, q2, hm⟩ := abind_some hm
  obtain ⟨t, q3, hm⟩ := bind_some' hm
  refine wpAny_Compare2 e1 e2 (hl _ _ _ _ _ _ _ _ q1 R₀ fun x α1 hh1 tk1 g1 v1 => ?_)
  refine h1 _ _ _ _ _ { s with heap := hh1, toks := tk1 } _ _ q2 (R₀.grow g1) fun y α2 hh2 tk2 g2 v2 => ?_
  refine ho1 _ _ _ _ _ _ _ _ { s with heap := hh2, toks := tk2 } _ _ q3 ((R₀.grow g1).grow g2) (v1.up g2.up) v2 fun tk3 => wpAny_truthy_bool ?_
  cases t with
  | false =>
    simp only [Bool.false_eq_true, if_false, Option.some.injEq, Prod.mk.injEq] at hm ⊢
    obtain ⟨rfl, rfl⟩ := hm
    exact q _ α2 hh2 tk3 (g1.trans g2) (.bool _)
  | true =>
    simp only [if_true] at hm ⊢
    obtain ⟨d, σ3, q4, hm⟩ := abind_some hm
    obtain ⟨o, q5, hm⟩ := map_some' hm
    cases hm
    refine h2 _ _ _ _ _ { s with heap := hh2, toks := tk3 } _ _ q4 ((R₀.grow g1).grow g2) fun z α4 hh4 tk4 g4 v4 => ?_
    exact ho2 _ _ _ _ _ _ _ _ { s with heap := hh4, toks := tk4 } _ _ q5 (((R₀.grow g1).grow g2).grow g4) (v2.up g4.up) v4 fun tk5 => q _ α4 hh4 tk5 ((g1.trans g2).trans g4) (.bool _)

theorem simB_Cmp2 {l r1 r2 : Expr} {o1 o2 : CmpOp} {pos : Pos} {ml m1 m2 : AM AV} {f g} {whole} (ho1 : Cmp2 prog w c (compareOp o1) f) (ho2 : Cmp2 prog w c (compareOp o2) g) (e1 : behindInMarks o1 r1 = false) (e2 : behindInMarks o2 r2 = false)
    (hl : Sim prog w c (eval l c.env) ml) (h1 : Sim prog w c (eval r1 c.env) m1) (h2 : Sim prog w c (eval r2 c.env) m2) :
    SimB prog w c (isTrue (.Compare l [o1, o2] [r1, r2] pos) c.env whole) (bCmp2 f g ml m1 m2) := by
  intro ρ σ v σ' α s Q E hm R₀ q
  obtain ⟨a, σ1, q1, hm⟩ := abind_some hm
  obtain ⟨b, σ2, q2, hm⟩ := abind_some hm
  obtain ⟨t, q3, hm⟩ := bind_some' hm
  refine wpAny_isTrue_Compare2 e1 e2 (hl _ _ _ _ _ _ _ _ q1 R₀ fun x α1 hh1 tk1 g1 v1 => ?_)
  refine h1 _ _ _ _ _ { s with heap := hh1, toks := tk1 } _ _ q2 (R₀.grow g1) fun y α2 hh2 tk2 g2 v2 => ?_
  refine ho1 _ _ _ _ _ _ _ _ { s with heap := hh2, toks := tk2 } _ _ q3 ((R₀.grow g1).grow g2) (v1.up g2.up) v2 fun tk3 => wpAny_truthy_bool ?_
  cases t with
  | false =>
    simp only [Bool.false_eq_true, if_false, Option.some.injEq, Prod.mk.injEq] at hm ⊢
    obtain ⟨rfl, rfl⟩ := hm
    exact q _ α2 hh2 tk3 (g1.trans g2) rfl
  | true =>
    simp only [if_true] at hm ⊢
    obtain ⟨d, σ3, q4, hm⟩ := abind_some hm
    obtain ⟨o, q5, hm⟩ := map_some' hm
    cases hm
    refine h2 _ _ _ _ _ { s with heap := hh2, toks := tk3 } _ _ q4 ((R₀.grow g1).grow g2) fun z α4 hh4 tk4 g4 v4 => ?_
    exact ho2 _ _ _ _ _ _ _ _ { s with heap := hh4, toks := tk4 } _ _ q5 (((R₀.grow g1).grow g2).grow g4) (v2.up g4.up) v4 fun tk5 => wpAny_truthy_bool (q _ α4 hh4 tk5 ((g1.trans g2).trans g4) rfl)

def cLt : AV → AV → Store → Option Bool
  | .int a, .int b, _ => some (decide (a < b))
  | _, _, _ => none
def cLe : AV → AV → Store → Option Bool
  | .int a, .int b, _ => some (decide (a ≤ b))
  | _, _, _ => none
def cGt : AV → AV → Store → Option Bool
  | .int a, .int b, _ => some (decide (b < a))
  | _, _, _ => none
def cGe : AV → AV → Store → Option Bool
  | .int a, .int b, _ => some (decide (b ≤ a))
  | _, _, _ => none
theorem cmp_lt : Cmp2 prog w c (compareOp .Lt) cLt := by
  intro a b x y α ρ σ v s Q E hf r ha hb q
  cases ha <;> cases hb <;> simp only [cLt, reduceCtorEq, Option.some.injEq] at hf
  subst hf
  exact P.lt_int (q s.toks)
theorem cmp_le : Cmp2 prog w c (compareOp .LtE) cLe := by
  intro a b x y α ρ σ v s Q E hf r ha hb q
  cases ha <;> cases hb <;> simp only [cLe, reduceCtorEq, Option.some.injEq] at hf
  subst hf
  exact P.le_int (q s.toks)
theorem cmp_gt : Cmp2 prog w c (compareOp .Gt) cGt := by
  intro a b x y α ρ σ v s Q E hf r ha hb q
  cases ha <;> cases hb <;> simp only [cGt, reduceCtorEq, Option.some.injEq] at hf
  subst hf
  exact P.gt_int (q s.toks)
theorem cmp_ge : Cmp2 prog w c (compareOp .GtE) cGe := by
  intro a b x y α ρ σ v s Q E hf r ha hb q
  cases ha <;> cases hb <;> simp only [cGe, reduceCtorEq, Option.some.injEq] at hf
  subst hf
  exact P.ge_int (q s.toks)

/-- «is None», «is not None» -/
def cIs : AV → AV → Store → Option Bool
  | .none, .none, _ => some true
  | .int _, .none, _ => some false
  | .tup _, .none, _ => some false
  | _, _, _ => none
def cIsNot : AV → AV → Store → Option Bool
  | .none, .none, _ => some false
  | .int _, .none, _ => some true
  | .tup _, .none, _ => some true
  | _, _, _ => none
theorem beqI (i : Int) (t : Tok) : (Value.int i t == Value.none) = false := beq_eq_false_iff_ne.mpr (by simp)
theorem beqR (a : Addr) : (Value.ref a == Value.none) = false := beq_eq_false_iff_ne.mpr (by simp)
theorem cmp_is : Cmp2 prog w c (compareOp .Is) cIs := by
  intro a b x y α ρ σ v s Q E hf r ha hb q
  cases ha <;> cases hb <;> simp only [cIs, reduceCtorEq, Option.some.injEq] at hf <;> subst hf <;> exact is_none (by simpa [beqI, beqR] using q s.toks)
theorem cmp_isNot : Cmp2 prog w c (compareOp .IsNot) cIsNot := by
  intro a b x y α ρ σ v s Q E hf r ha hb q
  cases ha <;> cases hb <;> simp only [cIsNot, reduceCtorEq, Option.some.injEq] at hf <;> subst hf <;> exact isNot_none (by simpa [beqI, beqR] using q s.toks)

/-! ### tests -/
def aTruth : AV → Option Bool
  | .bool b => some b
  | _ => none
def bVal (m : AM AV) : AM Bool := abind m fun v => fun _ σ => (aTruth v).map fun b => (b, σ)
theorem truth_any {M : Model} {A : Around} {E : Value → Shared → Prop} {s : Shared} {h α n v x b} {Q : Bool → Shared → Prop} (r : VR h α n v x) (e : aTruth v = some b) (q : Q b s) : wpAny M A (truthy x) Q E s := by
  cases r <;> simp only [aTruth, reduceCtorEq, Option.some.injEq] at e
  subst e; exact wpAny_truthy_bool q

theorem simB_val {e : Expr} {m : AM AV} (he : ∀ whole, isTrue e c.env whole = (do let v ← whole; standAt e.pos; holding [v] (truthy v))) (h : Sim prog w c (eval e c.env) m) : SimB prog w c (isTrue e c.env (eval e c.env)) (bVal m) := by
  intro ρ σ v σ' α s Q E hm R₀ q
  obtain ⟨a, σ1, h1, hm⟩ := abind_some hm
  obtain ⟨o, h3, hm⟩ := map_some' hm
  cases hm
  exact wpAny_isTrue_value (h _ _ _ _ _ _ _ _ h1 R₀ fun x α1 hh1 tk1 g1 v1 => truth_any v1 h3 (q _ α1 hh1 tk1 g1 rfl)) (he _)

def bNot (m : AM Bool) : AM Bool := abind m fun b => fun _ σ => some (!b, σ)
theorem simB_not {x : Expr} {pos : Pos} {whole} {m : AM Bool} (h : SimB prog w c (isTrue x c.env (eval x c.env)) m) : SimB prog w c (isTrue (.UnaryOp .Not x pos) c.env whole) (bNot m) := by
  intro ρ σ v σ' α s Q E hm R₀ q
  obtain ⟨a, σ1, h1, hm⟩ := abind_some hm
  cases hm
  exact wpAny_isTrue_Not (h _ _ _ _ _ _ _ _ h1 R₀ fun x α1 hh1 tk1 g1 v1 => by subst v1; exact q _ α1 hh1 tk1 g1 rfl)

def bAnd : List (AM Bool) → AM Bool
  | [] => apure true
  | m :: r => abind m fun b => if b then bAnd r else apure false
def bOr : List (AM Bool) → AM Bool
  | [] => apure false
  | m :: r => abind m fun b => if b then apure true else bOr r

def SimAnd (prog : Program) (w : World) (c : Cx) (es : List Expr) (ms : List (AM Bool)) : Prop := SimB prog w c (allTrue .And es c.env) (bAnd ms)
def SimOr (prog : Program) (w : World) (c : Cx) (es : List Expr) (ms : List (AM Bool)) : Prop := SimB prog w c (allTrue .Or es c.env) (bOr ms)
theorem simAnd_nil : SimAnd prog w c [] [] := by
  intro ρ σ v σ' α s Q E hm R₀ q
  cases hm
  exact wpAny_allTrue_And_nil (q _ α s.heap s.toks (Grow.refl ..) rfl)
theorem simOr_nil : SimOr prog w c [] [] := by
  intro ρ σ v σ' α s Q E hm R₀ q
  cases hm
  exact wpAny_allTrue_Or_nil (q _ α s.heap s.toks (Grow.refl ..) rfl)
theorem simAnd_cons {x : Expr} {rest m ms} (h : SimB prog w c (isTrue x c.env (eval x c.env)) m) (hr : SimAnd prog w c rest ms) : SimAnd prog w c (x :: rest) (m :: ms) := by
  intro ρ σ v σ' α s Q E hm R₀ q
  obtain ⟨a, σ1, h1, hm⟩ := abind_some hm
  refine wpAny_allTrue_And_cons (h _ _ _ _ _ _ _ _ h1 R₀ fun x α1 hh1 tk1 g1 v1 => ?_)
  subst v1
  cases a with
  | false => cases hm; exact q _ α1 hh1 tk1 g1 rfl
  | true => exact hr _ _ _ _ _ { s with heap := hh1, toks := tk1 } _ _ hm (R₀.grow g1) fun x α2 hh2 tk2 g2 v2 => q _ α2 hh2 tk2 (g1.trans g2) v2
theorem simOr_cons {x : Expr} {rest m ms} (h : SimB prog w c (isTrue x c.env (eval x c.env)) m) (hr : SimOr prog w c rest ms) : SimOr prog w c (x :: rest) (m :: ms) := by
  intro ρ σ v σ' α s Q E hm R₀ q
  obtain ⟨a, σ1, h1, hm⟩ := abind_some hm
  refine wpAny_allTrue_Or_cons (h _ _ _ _ _ _ _ _ h1 R₀ fun x α1 hh1 tk1 g1 v1 => ?_)
  subst v1
  cases a with
  | true => cases hm; exact q _ α1 hh1 tk1 g1 rfl
  | false => exact hr _ _ _ _ _ { s with heap := hh1, toks := tk1 } _ _ hm (R₀.grow g1) fun x α2 hh2 tk2 g2 v2 => q _ α2 hh2 tk2 (g1.trans g2) v2
theorem simB_and {es ms pos whole} (h : SimAnd prog w c es ms) : SimB prog w c (isTrue (.BoolOp .And es pos) c.env whole) (bAnd ms) := by
  intro ρ σ v σ' α s Q E hm R₀ q
  exact wpAny_isTrue_BoolOp (h _ _ _ _ _ _ _ _ hm R₀ q)
theorem simB_or {es ms pos whole} (h : SimOr prog w c es ms) : SimB prog w c (isTrue (.BoolOp .Or es pos) c.env whole) (bOr ms) := by
  intro ρ σ v σ' α s Q E hm R₀ q
  exact wpAny_isTrue_BoolOp (h _ _ _ _ _ _ _ _ hm R₀ q)

/-! ### and, or as values -/
def vAnd : List (AM AV) → AM AV
  | [] => fun _ _ => none
  | [m] => m
  | m :: r => abind m fun v => fun ρ σ => (aTruth v).bind fun b => if b then vAnd r ρ σ else some (v, σ)
def vOr : List (AM AV) → AM AV
  | [] => fun _ _ => none
  | [m] => m
  | m :: r => abind m fun v => fun ρ σ => (aTruth v).bind fun b => if b then some (v, σ) else vOr r ρ σ
def SimVAnd (prog : Program) (w : World) (c : Cx) (es : List Expr) (ms : List (AM AV)) : Prop := ∀ pos, Sim prog w c (boolOp pos .And (evalEach es c.env)) (vAnd ms)
def SimVOr (prog : Program) (w : World) (c : Cx) (es : List Expr) (ms : List (AM AV)) : Prop := ∀ pos, Sim prog w c (boolOp pos .Or (evalEach es c.env)) (vOr ms)
theorem simVAnd_one {e m} (h : Sim prog w c (eval e c.env) m) : SimVAnd prog w c [e] [m] := fun _ => h
theorem simVOr_one {e m} (h : Sim prog w c (eval e c.env) m) : SimVOr prog w c [e] [m] := fun _ => h
theorem simVAnd_cons {e e' es m m' ms} (h : Sim prog w c (eval e c.env) m) (hr : SimVAnd prog w c (e' :: es) (m' :: ms)) : SimVAnd prog w c (e :: e' :: es) (m :: m' :: ms) := by
  intro pos ρ σ v σ' α s Q E hm R₀ q
  obtain ⟨a, σ1, h1, hm⟩ := abind_some hm
  obtain ⟨b, h2, hm⟩ := bind_some' hm
  show wpAny _ _ (boolOp pos .And (eval e c.env :: eval e' c.env :: evalEach es c.env)) _ _ _
  unfold boolOp
  refine wpAny_bind (h _ _ _ _ _ _ _ _ h1 R₀ fun x α1 hh1 tk1 g1 v1 => wpAny_bind (wpAny_standAt (wpAny_bind (wpAny_holding (truth_any v1 h2 ?_)))))
  cases b with
  | false => cases hm; exact wpAny_pure (q _ α1 hh1 tk1 g1 v1)
  | true => exact hr pos _ _ _ _ _ { s with heap := hh1, toks := tk1 } _ _ hm (R₀.grow g1) fun x α2 hh2 tk2 g2 v2 => q _ α2 hh2 tk2 (g1.trans g2) v2
theorem simVOr_cons {e e' es m m' ms} (h : Sim prog w c (eval e c.env) m) (hr : SimVOr prog w c (e' :: es) (m' :: ms)) : SimVOr prog w c (e :: e' :: es) (m :: m' :: ms) := by
  intro pos ρ σ v σ' α s Q E hm R₀ q
  obtain ⟨a, σ1, h1, hm⟩ := abind_some hm
  obtain ⟨b, h2, hm⟩ := bind_some' hm
  show wpAny _ _ (boolOp pos .Or (eval e c.env :: eval e' c.env :: evalEach es c.env)) _ _ _
  unfold boolOp
  refine wpAny_bind (h _ _ _ _ _ _ _ _ h1 R₀ fun x α1 hh1 tk1 g1 v1 => wpAny_bind (wpAny_standAt (wpAny_bind (wpAny_holding (truth_any v1 h2 ?_)))))
  cases b with
  | true => cases hm; exact wpAny_pure (q _ α1 hh1 tk1 g1 v1)
  | false => exact hr pos _ _ _ _ _ { s with heap := hh1, toks := tk1 } _ _ hm (R₀.grow g1) fun x α2 hh2 tk2 g2 v2 => q _ α2 hh2 tk2 (g1.trans g2) v2
theorem sim_and {es ms pos} (h : SimVAnd prog w c es ms) : Sim prog w c (eval (.BoolOp .And es pos) c.env) (vAnd ms) := h pos
theorem sim_or {es ms pos} (h : SimVOr prog w c es ms) : Sim prog w c (eval (.BoolOp .Or es pos) c.env) (vOr ms) := h pos

/-! ### not, minus -/
def aNot (m : AM AV) : AM AV := abind m fun v => fun _ σ => (aTruth v).map fun b => (.bool (!b), σ)
theorem sim_not {x : Expr} {pos : Pos} {m : AM AV} (h : Sim prog w c (eval x c.env) m) : Sim prog w c (eval (.UnaryOp .Not x pos) c.env) (aNot m) := by
  intro ρ σ v σ' α s Q E hm R₀ q
  obtain ⟨a, σ1, h1, hm⟩ := abind_some hm
  obtain ⟨o, h3, hm⟩ := map_some' hm
  cases hm
  exact wpAny_UnaryOp (h _ _ _ _ _ _ _ _ h1 R₀ fun x α1 hh1 tk1 g1 v1 => not_value (truth_any v1 h3 (q _ α1 hh1 tk1 g1 (.bool _))))
end
end Inn

end
section
set_option maxRecDepth 10000
set_option linter.unusedVariables false
namespace Inn
open PySem
variable {prog : Program} {w : World}
section
variable {c : Cx}

def aNeg (m : AM AV) : AM AV := abind m fun v => fun _ σ => match v with
  | .int i => some (.int (-i), σ)
  | _ => none
theorem sim_neg {x : Expr} {pos : Pos} {m : AM AV} (h : Sim prog w c (eval x c.env) m) : Sim prog w c (eval (.UnaryOp .USub x pos) c.env) (aNeg m) := by
  intro ρ σ v σ' α s Q E hm R₀ q
  obtain ⟨a, σ1, h1, hm⟩ := abind_some hm
  refine wpAny_UnaryOp (h _ _ _ _ _ _ _ _ h1 R₀ fun x α1 hh1 tk1 g1 v1 => ?_)
  cases v1 <;> simp only [reduceCtorEq, Option.some.injEq, Prod.mk.injEq] at hm
  obtain ⟨rfl, rfl⟩ := hm
  exact P.neg_int (q _ α1 hh1 _ g1 (.int _ _))

/-! ### displays -/
def aArgs : List (AM AV) → AM (List AV)
  | [] => apure []
  | m :: r => abind m fun v => abind (aArgs r) fun vs => apure (v :: vs)
def SimA (prog : Program) (w : World) (c : Cx) (es : List Expr) (ms : List (AM AV)) : Prop := ∀ pos, SimL prog w c (spliced (backTo pos (starEach es c.env))) (aArgs ms)
theorem simA_nil : SimA prog w c [] [] := by
  intro pos ρ σ v σ' α s Q E hm R₀ q
  cases hm
  exact wpAny_items_nil (q _ α s.heap s.toks (Grow.refl ..) .nil)
theorem simA_cons {e es m ms} (h : Sim prog w c (eval e c.env) m) (hr : SimA prog w c es ms) (he : starEach (e :: es) c.env = (false, eval e c.env) :: starEach es c.env := by rfl) : SimA prog w c (e :: es) (m :: ms) := by
  intro pos ρ σ v σ' α s Q E hm R₀ q
  obtain ⟨a, σ1, h1, hm⟩ := abind_some hm
  obtain ⟨b, σ2, h2, hm⟩ := abind_some hm
  cases hm
  refine wpAny_items_cons (h _ _ _ _ _ _ _ _ h1 R₀ fun x α1 hh1 tk1 g1 v1 => ?_) he
  exact hr pos _ _ _ _ _ { s with heap := hh1, toks := tk1 } _ _ h2 (R₀.grow g1) fun y α2 hh2 tk2 g2 v2 => q _ α2 hh2 tk2 (g1.trans g2) (.cons (v1.up g2.up) v2)

def aList (ms : List (AM AV)) : AM AV := abind (aArgs ms) fun vs => fun _ σ => if vs.length ≤ 1000000 then some (.ref σ.length, σ ++ [.list vs]) else none
theorem sim_List {es pos ms} (h : SimA prog w c es ms) : Sim prog w c (eval (.List es pos) c.env) (aList ms) := by
  intro ρ σ v σ' α s Q E hm R₀ q
  obtain ⟨a, σ1, h1, hm⟩ := abind_some hm
  split at hm
  · rename_i hl
    cases hm
    refine wpAny_List (h pos _ _ _ _ _ _ _ _ h1 R₀ fun xs α1 hh1 tk1 g1 v1 => ?_)
    have hl' : xs.length ≤ 1000000 := by rw [← v1.length]; exact hl
    refine ⟨le_sizeLine hl', ?_⟩
    obtain ⟨α', g, v⟩ := grow_list (a := hh1.objs.size) (ep := 0) (R₀.grow g1) (HK.push hh1 { cls := .type "list", data := .seq xs.toArray }) (get?_size_none _) (by rw [Heap.get?_push_size _ rfl]) v1 hl'
    exact q _ α' _ tk1 (g1.trans g) v
  · cases hm

def aTup (ms : List (AM AV)) : AM AV := abind (aArgs ms) fun vs => fun _ σ => if vs.length ≤ 1000000 then some (.tup vs, σ) else none
theorem sim_Tuple {es k pos ms} (h : SimA prog w c es ms) : Sim prog w c (eval (.Tuple es k pos) c.env) (aTup ms) := by
  intro ρ σ v σ' α s Q E hm R₀ q
  obtain ⟨a, σ1, h1, hm⟩ := abind_some hm
  split at hm
  · rename_i hl
    cases hm
    refine wpAny_Tuple (h pos _ _ _ _ _ _ _ _ h1 R₀ fun xs α1 hh1 tk1 g1 v1 => ?_)
    refine ⟨le_sizeLine (by rw [← v1.length]; exact hl), ?_⟩
    have k : HK hh1 (hh1.push (tupObj xs)) := HK.push hh1 _
    exact q _ α1 _ tk1 (g1.trans (Grow.same k α1 _)) (.tup (Heap.get?_push_size _ rfl) (v1.up ⟨Nat.le_refl _, fun _ _ => rfl, k.vk⟩))
  · cases hm

/-! ### items -/
theorem wpAny_Subscript_any {A : Around} {E : Value → Shared → Prop} {s : Shared} {env : Env} {value slice : Expr} {pos : Pos} {Q : Value → Shared → Prop}
    (hs : ∀ o i, subscripted slice false o i = operate [o, i] (getItem o i))
    (h : wpAny (model prog w) A (eval value env) (fun o s₁ => wpAny (model prog w) A (eval slice env) (fun i s₂ => SubscriptOn (model prog w) A o i Q E s₂) E s₁) E s) :
    wpAny (model prog w) A (eval (.Subscript value slice pos) env) Q E s := by
  rw [eval_Subscript]
  refine wpAny_bind (wpAny_mono h (fun o s₁ h₁ => wpAny_bind (wpAny_holding (wpAny_mono h₁ (fun i s₂ h₂ => wpAny_bind (wpAny_standAt ?_)) fun _ _ x => x)))
    fun _ _ x => x)
  obtain ⟨T, id, hl, hT, hg⟩ := h₂
  refine wpAny_bind ?_
  rw [getitemInPython_of_ne hT.not_modules]
  refine wpAny_bind (wpAny_specialOf hT hl ?_)
  refine wpAny_pure ?_
  show wpAny _ _ (subscripted slice false o i >>= _) _ _ _
  rw [hs]
  exact wpAny_bind (wpAny_operating (wpAny_mono hg (fun r s₃ h₃ => wpAny_bind (wpAny_letTemporaryGo (wpAny_pure h₃))) fun _ _ x => x))

def look (kvs : List (Int × AV)) (k : Int) : Option AV := (kvs.find? fun kv => decide (kv.1 = k)).map (·.2)

def getI : AV → AV → Store → Option (AV × Store)
  | .ref i, .int k, σ => match σ[i]? with
    | some (.list vs) => if 0 ≤ k then (vs[k.toNat]?).map fun v => (v, σ) else none
    | some (.dict kvs) => (look kvs k).map fun v => (v, σ)
    | none => none
  | .tup vs, .int k, σ => if 0 ≤ k ∧ k < 1000000 then (vs[k.toNat]?).map fun v => (v, σ) else none
  | _, _, _ => none

theorem KR.look {h α n} : ∀ {vs xs}, KR h α n vs xs → ∀ {k : Int} {v : AV}, look vs k = some v → ∃ x, valueAt xs k = some x ∧ VR h α n v x
  | _, _, .nil, k, v, e => by simp [Inn.look] at e
  | _, _, .cons (k := k') (v := v') (x := x') a r, k, v, e => by
    by_cases hk : k' = k
    · subst hk
      simp [Inn.look] at e
      subst e
      exact ⟨x', by simp [valueAt], a⟩
    · rename_i vs' _
      have e' : Inn.look vs' k = some v := by
        simp only [Inn.look, List.find?_cons, hk, decide_false] at e
        exact e
      obtain ⟨x, hx, hv⟩ := r.look e'
      refine ⟨x, ?_, hv⟩
      simp only [valueAt, List.find?_cons, hk, decide_false]
      exact hx

theorem R.dict {ρ : AEnv} {σ : Store} {α : Nat → Addr} {h : Heap} {i : Nat} {kvs : List (Int × AV)} (r : R prog w c α ρ σ h) (e : σ[i]? = some (.dict kvs)) :
    ∃ xs, h.DictOf (intKind prog w) (α i) xs ∧ KR h α σ.length kvs xs ∧ α i ≠ sysModules ∧ xs.length ≤ 1000000 := by
  cases r.objs i _ e with
  | dict a b c d => exact ⟨_, a, b, c, d⟩

theorem KR.length {h α n} : ∀ {vs xs}, KR h α n vs xs → vs.length = xs.length
  | _, _, .nil => rfl
  | _, _, .cons _ r => by simp [r.length]

theorem mapOf_of_dictOf {h : Heap} {a : Addr} {kvs : List (Int × Value)} (d : h.DictOf (intKind prog w) a kvs) : h.MapOf (intKind prog w) a (valueAt kvs) := by
  obtain ⟨o, es, ep, ho, hx, hd, hk, hp, hn⟩ := d
  refine ⟨o, es, ep, ho, hx, hd, hk, fun k => ?_⟩
  rw [← hp.find k]
  cases es
  simp [findBy]

theorem get_lt {β : Type} {xs : List β} {k : Int} {v : β} (h0 : 0 ≤ k) (e : xs[k.toNat]? = some v) : k < xs.length := by
  have := (List.getElem?_eq_some_iff.mp e).1
  omega

theorem getI_any {ρ : AEnv} {σ σ' : Store} {α : Nat → Addr} {s : Shared} {a b v : AV} {x y : Value} {Q : Value → Shared → Prop} {E : Value → Shared → Prop} (hm : getI a b σ = some (v, σ')) (r : R prog w c α ρ σ s.heap)
    (va : VR s.heap α σ.length a x) (vb : VR s.heap α σ.length b y) (q : ∀ z tk', σ = σ' → VR s.heap α σ.length v z → Q z { s with toks := tk' }) : SubscriptOn (model prog w) c.A x y Q E s := by
  cases va with
  | tup e r' =>
    cases vb <;> simp only [getI, reduceCtorEq] at hm
    split at hm
    · rename_i h0
      obtain ⟨v', e1, hm⟩ := map_some' hm
      cases hm
      obtain ⟨z, hz, hv⟩ := r'.get _ _ e1
      refine ⟨"tuple", _, F.slot_tuple_getitem.lookup, ⟨_, e, rfl⟩, ?_⟩
      have hlt := get_lt h0.1 hz
      exact P.getItem_tuple (k := Int.toNat _) e (by omega) (by omega) (seqIndex_of h0.1 (by simpa using hlt)) (by simpa using hz) (q z s.toks rfl hv)
    · cases hm
  | ref hi =>
    cases vb <;> simp only [getI, reduceCtorEq] at hm
    split at hm
    · rename_i vs e1
      split at hm
      · rename_i h0
        obtain ⟨v', e2, hm⟩ := map_some' hm
        cases hm
        obtain ⟨is, n1, g1, v1, l1⟩ := r.list e1
        obtain ⟨z, hz, hv⟩ := v1.get _ _ e2
        have hlt := get_lt h0 hz
        refine ⟨"list", _, slot_list_getitem.lookup, ⟨_, g1, rfl⟩, wpAny_getItem_list ⟨_, g1, rfl, _, rfl⟩ h0 (by omega) (by simpa using hz) (q z s.toks rfl hv)⟩
      · cases hm
    · rename_i kvs e1
      obtain ⟨v', e2, hm⟩ := map_some' hm
      cases hm
      obtain ⟨xs, hd, hk, hne, hl⟩ := r.dict e1
      obtain ⟨z, hz, hv⟩ := hk.look e2
      refine ⟨"dict", _, F.slot_dict_getitem.lookup, hd.typeIs, wpAny_getItem_of (knd := intKind prog w) (k := _) (by simp [intKind, Value.isInt]) (mapOf_of_dictOf hd) hz (q z _ rfl hv)⟩
    · cases hm
  | _ => cases vb <;> simp only [getI, reduceCtorEq] at hm

def aSub (a b : AM AV) : AM AV := aBin getI a b
theorem sim_Sub {e i : Expr} {pos : Pos} {ma mb : AM AV} (hs : ∀ o x, subscripted i false o x = operate [o, x] (getItem o x)) (ha : Sim prog w c (eval e c.env) ma) (hb : Sim prog w c (eval i c.env) mb) :
    Sim prog w c (eval (.Subscript e i pos) c.env) (aSub ma mb) := by
  intro ρ σ v σ' α s Q E hm R₀ q
  unfold aSub aBin at hm
  obtain ⟨a, σ1, h1, hm⟩ := abind_some (m := ma) hm
  obtain ⟨b, σ2, h2, hm⟩ := abind_some (m := mb) hm
  refine wpAny_Subscript_any hs (ha _ _ _ _ _ _ _ _ h1 R₀ fun x α1 hh1 tk1 g1 v1 => ?_)
  refine hb _ _ _ _ _ { s with heap := hh1, toks := tk1 } _ _ h2 (R₀.grow g1) fun y α2 hh2 tk2 g2 v2 => ?_
  exact getI_any (s := { s with heap := hh2, toks := tk2 }) hm ((R₀.grow g1).grow g2) (v1.up g2.up) v2 fun z tk3 e hv => by subst e; exact q z α2 hh2 tk3 (g1.trans g2) hv

/-! ### xs[:k] -/
def aUpto (a b : AM AV) : AM AV := aBin (fun x y σ => match x, y with
  | .ref i, .int k => (match σ[i]? with
    | some (.list vs) => if 0 ≤ k then some (.ref σ.length, σ ++ [.list (vs.take k.toNat)]) else none
    | _ => none)
  | _, _ => none) a b
theorem sim_upto {e i : Expr} {p pos : Pos} {ma mb : AM AV} (ha : Sim prog w c (eval e c.env) ma) (hb : Sim prog w c (eval i c.env) mb) (ht : ∀ o r, letTemporaryGo e o r = pure ()) :
    Sim prog w c (eval (.Subscript e (.Slice none (some i) none p) pos) c.env) (aUpto ma mb) := by
  intro ρ σ v σ' α s Q E hm R₀ q
  unfold aUpto aBin at hm
  obtain ⟨a, σ1, h1, hm⟩ := abind_some (m := ma) hm
  obtain ⟨b, σ2, h2, hm⟩ := abind_some (m := mb) hm
  refine wpAny_Subscript_list_slice (ha _ _ _ _ _ _ _ _ h1 R₀ fun x α1 hh1 tk1 g1 v1 => ?_) ht
  rw [evalPart_none, evalPart_some]
  refine wpAny_pure ?_
  refine hb _ _ _ _ _ { s with heap := hh1, toks := tk1 } _ _ h2 (R₀.grow g1) fun y α2 hh2 tk2 g2 v2 => ?_
  have r2 := (R₀.grow g1).grow g2
  have v1' := v1.up g2.up
  cases v1' <;> cases v2 <;> simp only [reduceCtorEq] at hm
  rename_i i hi k t
  split at hm
  · rename_i vs e1
    split at hm
    · rename_i h0
      cases hm
      obtain ⟨is, n1, g1', v1', l1⟩ := r2.list e1
      refine ⟨_, _, none, some k, rfl, ⟨_, g1', rfl, _, rfl⟩, le_sizeLine (by simpa using l1), .none, .int _ _, ?_⟩
      obtain ⟨k, rfl⟩ : ∃ j : Nat, k = j := ⟨k.toNat, by omega⟩
      rw [slicePick_upto']
      have kk : HK hh2 ((hh2.push { cls := .type "slice", data := .fields #[.none, .int k t, .none] }).push { cls := .type "list", data := .seq (is.take k).toArray }) := HK.trans (HK.push _ _) (HK.push _ _)
      have e3 : (hh2.push { cls := .type "slice", data := .fields #[.none, .int k t, .none] }).objs.size = hh2.objs.size + 1 := Heap.size_push ..
      obtain ⟨α', g, v⟩ := grow_list (a := hh2.objs.size + 1) (ep := 0) (items := is.take k) r2 kk (by
          cases e : hh2.get? (hh2.objs.size + 1) with
          | none => rfl
          | some o => exact absurd (Heap.lt_size e) (Nat.not_lt.mpr (Nat.le_succ _))) (by rw [← e3, Heap.get?_push_size _ rfl]) (v1'.take k) (by rw [List.length_take]; omega)
      exact q _ α' _ tk2 ((g1.trans g2).trans g) v
    · cases hm
  · cases hm
end
end Inn

end
section
set_option maxRecDepth 10000
set_option linter.unusedVariables false
namespace Inn
open PySem
variable {prog : Program} {w : World}

structure Ok (c : Cx) : Prop where
  fn : c.env.scope.kind = .function
  freshL : c.h₀.get? c.env.locals = none
  freshC : ∀ x a, c.env.cells.lookup x = some a → c.h₀.get? a = none
  apartC : ∀ x y a, c.env.cells.lookup x = some a → c.env.cells.lookup y = some a → x = y
  hand : c.A.handled = none

inductive AF where
  | next
  | ret (v : AV)
inductive FR (h : Heap) (α : Nat → Addr) (n : Nat) : AF → Flow → Prop
  | next : FR h α n .next .next
  | ret {v x} : VR h α n v x → FR h α n (.ret v) (.ret x)
abbrev AS := AEnv → Store → Option (AF × AEnv × Store)

def SimS (prog : Program) (w : World) (c : Cx) (t : Sem Flow) (m : AS) : Prop :=
  ∀ (ρ : AEnv) (σ : Store) (f : AF) (ρ' : AEnv) (σ' : Store) (α : Nat → Addr) (s : Shared) (Q : Flow → Shared → Prop) (E : Value → Shared → Prop), m ρ σ = some (f, ρ', σ') → R prog w c α ρ σ s.heap →
    (∀ x α' h' tk', R prog w c α' ρ' σ' h' → Up s.heap α σ.length h' α' σ'.length → FK s.heap h' → FR h' α' σ'.length f x → Q x { s with heap := h', toks := tk' }) → wpAny (model prog w) c.A t Q E s

section
variable {c : Cx}

theorem Grow.fk {h α σ h' α' σ'} (g : Grow prog w h α σ h' α' σ') : FK h h' := g.keep.fk

/-- all but the frame's own names is kept -/
def OffK (c : Cx) (h h' : Heap) : Prop := ∀ b o, h.get? b = some o → b ≠ c.env.locals → (∀ z, c.env.cells.lookup z ≠ some b) → h'.get? b = some o

/-- one address is written -/
theorem R.sameBut {α ρ ρ' σ h h'} {a : Addr} (ok : Ok c) (r : R prog w c α ρ σ h) (hs : ∀ b o, b ≠ a → h.get? b = some o → h'.get? b = some o) (h0 : c.h₀.get? a = none) (ha : ∀ i, i < σ.length → α i ≠ a)
    (hfx : ∀ o, h.get? a = some o → ¬ Fixed o)
    (henv : ∃ (m cm : Str → Option Value), h'.Ns c.env.locals m ∧ (∀ x a, c.env.cells.lookup x = some a → h'.IsCell a (cm x)) ∧
      (∀ x v, ρ' x = some v → c.env.kindOf x = some .local → ∃ y, m x = some y ∧ VR h α σ.length v y) ∧
      (∀ x v, ρ' x = some v → (c.env.kindOf x = some .cell ∨ c.env.kindOf x = some .free) → ∃ y, cm x = some y ∧ VR h α σ.length v y))
    (hd : ρ' ".0" = none) : R prog w c α ρ' σ h' ∧ Up h α σ.length h' α σ.length ∧ FK h h' := by
  have fk : FK h h' := fun b o e f => hs b o (fun q => hfx o (q ▸ e) f) e
  have u : Up h α σ.length h' α σ.length := ⟨Nat.le_refl _, fun _ _ => rfl, fk.vk⟩
  refine ⟨⟨fun b o e => hs b o (fun q => by subst q; rw [h0] at e; cases e) (r.keep b o e), ?_, hd, fun i o e => ?_, r.inj, r.own, r.apart⟩, u, fk⟩
  · obtain ⟨m, cm, e1, e2, e3, e4⟩ := henv
    exact ⟨m, cm, e1, e2, fun x v hx hk => let ⟨y, hy, hv⟩ := e3 x v hx hk; ⟨y, hy, hv.up u⟩, fun x v hx hk => let ⟨y, hy, hv⟩ := e4 x v hx hk; ⟨y, hy, hv.up u⟩⟩
  · have hi : i < σ.length := (List.getElem?_eq_some_iff.mp e).1
    exact (r.objs i o e).up u fun ob ho => hs _ _ (ha i hi) ho

theorem store_local {α ρ σ} {s : Shared} {x : Str} {v : AV} {y : Value} {Q : Unit → Shared → Prop} {E} (ok : Ok c) (r : R prog w c α ρ σ s.heap) (hl : c.env.kindOf x = some .local) (hx : x ≠ ".0") (hv : VR s.heap α σ.length v y)
    (q : ∀ h' tk', R prog w c α (upd ρ x v) σ h' → Up s.heap α σ.length h' α σ.length → FK s.heap h' → (∀ b o, b ≠ c.env.locals → s.heap.get? b = some o → h'.get? b = some o) → Q () { s with heap := h', toks := tk' }) : wpAny (model prog w) c.A (storeName c.env x y) Q E s := by
  obtain ⟨m, cm, e1, e2, e3, e4⟩ := r.env
  refine wpAny_storeName_local hl e1 (fun h' hn hs => ?_) (by rw [ok.fn]; rfl)
  obtain ⟨ob, es, ep, ho, hdt, _⟩ := id e1
  have hc : ∀ z a, c.env.cells.lookup z = some a → a ≠ c.env.locals := fun z a hz q => by
    obtain ⟨o', ho', hd'⟩ := e2 z a hz
    rw [q, ho] at ho'; cases ho'; rw [hdt] at hd'; cases hd'
  have henv : ∃ (m cm : Str → Option Value), h'.Ns c.env.locals m ∧ (∀ x a, c.env.cells.lookup x = some a → h'.IsCell a (cm x)) ∧
      (∀ z v', upd ρ x v z = some v' → c.env.kindOf z = some .local → ∃ y, m z = some y ∧ VR s.heap α σ.length v' y) ∧
      (∀ z v', upd ρ x v z = some v' → (c.env.kindOf z = some .cell ∨ c.env.kindOf z = some .free) → ∃ y, cm z = some y ∧ VR s.heap α σ.length v' y) := by
    refine ⟨_, cm, hn, fun z a hz => (e2 z a hz).sameBut hs (hc z a hz), fun z v' hz hk => ?_, fun z v' hz hk => ?_⟩
    · by_cases hzx : z = x
      · subst hzx
        simp only [upd, if_true, Option.some.injEq] at hz
        subst hz
        exact ⟨y, by simp, hv⟩
      · simp only [upd, hzx, if_false] at hz ⊢
        exact e3 z v' hz hk
    · have hzx : z ≠ x := fun e => by subst e; rw [hl] at hk; simp at hk
      simp only [upd, hzx, if_false] at hz
      exact e4 z v' hz hk
  obtain ⟨r', u, fk⟩ := R.sameBut (ρ' := upd ρ x v) (a := c.env.locals) ok r (fun b o hb e => hs.extBut b o hb e) ok.freshL (fun i hi => r.apart i hi) (fun o e f => by
      rw [ho] at e; cases e
      rcases f with ⟨vs, f⟩ | ⟨_, xs, n, f⟩ <;> rw [hdt] at f <;> cases f) henv (by
      have : ¬ ((".0" : Str) = x) := fun e => hx e.symm
      simp only [upd, this, if_false]; exact r.dot)
  exact q h' _ r' u fk fun b o hb e => hs.extBut b o hb e

theorem store_cell {α ρ σ} {s : Shared} {x : Str} {v : AV} {y : Value} {Q : Unit → Shared → Prop} {E} (ok : Ok c) (r : R prog w c α ρ σ s.heap) (hl : c.env.kindOf x = some .cell) (hcx : (c.env.cells.lookup x).isSome = true) (hx : x ≠ ".0") (hv : VR s.heap α σ.length v y)
    (q : ∀ h' tk', R prog w c α (upd ρ x v) σ h' → Up s.heap α σ.length h' α σ.length → FK s.heap h' → OffK c s.heap h' → Q () { s with heap := h', toks := tk' }) : wpAny (model prog w) c.A (storeName c.env x y) Q E s := by
  obtain ⟨m, cm, e1, e2, e3, e4⟩ := r.env
  obtain ⟨a, ha⟩ := Option.isSome_iff_exists.mp hcx
  have hca := e2 x a ha
  refine wpAny_storeName_cell ok.fn hl ha hca (fun h' hc' hs => ?_)
  obtain ⟨oa, hoa, hda⟩ := id hca
  have hLa : c.env.locals ≠ a := fun e => by
    obtain ⟨ob, es, ep, ho, hdt, _⟩ := e1
    rw [e, hoa] at ho; cases ho; rw [hda] at hdt; cases hdt
  have henv : ∃ (m cm : Str → Option Value), h'.Ns c.env.locals m ∧ (∀ x a, c.env.cells.lookup x = some a → h'.IsCell a (cm x)) ∧
      (∀ z v', upd ρ x v z = some v' → c.env.kindOf z = some .local → ∃ y, m z = some y ∧ VR s.heap α σ.length v' y) ∧
      (∀ z v', upd ρ x v z = some v' → (c.env.kindOf z = some .cell ∨ c.env.kindOf z = some .free) → ∃ y, cm z = some y ∧ VR s.heap α σ.length v' y) := by
    refine ⟨m, fun z => if z = x then some y else cm z, e1.sameBut hs hLa, fun z b hz => ?_, fun z v' hz hk => ?_, fun z v' hz hk => ?_⟩
    · by_cases hzx : z = x
      · subst hzx
        rw [ha] at hz; cases hz
        simpa using hc'
      · simp only [hzx, if_false]
        exact (e2 z b hz).sameBut hs fun e => hzx (ok.apartC z x a (e ▸ hz) ha)
    · have hzx : z ≠ x := fun e => by subst e; rw [hl] at hk; simp at hk
      simp only [upd, hzx, if_false] at hz
      exact e3 z v' hz hk
    · by_cases hzx : z = x
      · subst hzx
        simp only [upd, if_true, Option.some.injEq] at hz
        subst hz
        exact ⟨y, by simp, hv⟩
      · simp only [upd, hzx, if_false] at hz ⊢
        exact e4 z v' hz hk
  obtain ⟨r', u, fk⟩ := R.sameBut (ρ' := upd ρ x v) (a := a) ok r (fun b o hb e => hs.extBut b o hb e) (ok.freshC x a ha) (fun i hi e => by
      obtain ⟨ob, ho, _, hnc⟩ := (r.objs i σ[i] (by simp [hi])).some
      rw [e, hoa] at ho; cases ho; exact hnc _ hda) (fun o e f => by
      rw [hoa] at e; cases e
      rcases f with ⟨vs, f⟩ | ⟨_, xs, n, f⟩ <;> rw [hda] at f <;> cases f) henv (by
      have : ¬ ((".0" : Str) = x) := fun e => hx e.symm
      simp only [upd, this, if_false]; exact r.dot)
  exact q h' _ r' u fk fun b o e _ hb => hs.extBut b o (fun e' => hb x (e' ▸ ha)) e

/-- a name that may be stored -/
def Storable (c : Cx) (x : Str) : Prop := x ≠ ".0" ∧ (c.env.kindOf x = some .local ∨ (c.env.kindOf x = some .cell ∧ (c.env.cells.lookup x).isSome = true))
theorem store_any {α ρ σ} {s : Shared} {x : Str} {v : AV} {y : Value} {Q : Unit → Shared → Prop} {E} (ok : Ok c) (st : Storable c x) (r : R prog w c α ρ σ s.heap) (hv : VR s.heap α σ.length v y)
    (q : ∀ h' tk', R prog w c α (upd ρ x v) σ h' → Up s.heap α σ.length h' α σ.length → FK s.heap h' → OffK c s.heap h' → Q () { s with heap := h', toks := tk' }) : wpAny (model prog w) c.A (storeName c.env x y) Q E s :=
  st.2.elim (fun h => store_local ok r h st.1 hv fun h' tk' r' u k o => q h' tk' r' u k fun b ob e hb _ => o b ob hb e) fun h => store_cell ok r h.1 h.2 st.1 hv q

/-! ### statements -/
def sAssign (x : Str) (m : AM AV) : AS := fun ρ σ => (m ρ σ).bind fun p => some (.next, upd ρ x p.1, p.2)
theorem simS_Assign {x : Str} {pos' : Pos} {value : Expr} {pos : Pos} {m : AM AV} (ok : Ok c) (st : Storable c x) (hs : swapsWith value (some (.Name x pos')) pos.line c.env = pure false) (h : Sim prog w c (eval value c.env) m) :
    SimS prog w c (exec (.Assign [.Name x pos'] value pos) c.env) (sAssign x m) := by
  intro ρ σ f ρ' σ' α s Q E hm r q
  obtain ⟨⟨v, σ1⟩, h1, hm⟩ := bind_some' hm
  cases hm
  refine wpAny_Assign_Name (h _ _ _ _ _ _ _ _ h1 r fun x α1 hh1 tk1 g1 v1 => ?_) hs
  exact store_any (s := { s with heap := hh1, toks := tk1 }) ok st (r.grow g1) v1 fun h' tk' r' u fk _ => q _ α1 h' tk' r' (g1.up.trans u) (g1.fk.trans fk) .next

def sRet (m : AM AV) : AS := fun ρ σ => (m ρ σ).bind fun p => some (.ret p.1, ρ, p.2)
theorem simS_Return {e : Expr} {pos : Pos} {m : AM AV} (h : Sim prog w c (eval e c.env) m) : SimS prog w c (exec (.Return (some e) pos) c.env) (sRet m) := by
  intro ρ σ f ρ' σ' α s Q E hm r q
  obtain ⟨⟨v, σ1⟩, h1, hm⟩ := bind_some' hm
  cases hm
  exact wpAny_Return_some (h _ _ _ _ _ _ _ _ h1 r fun x α1 hh1 tk1 g1 v1 => q _ α1 hh1 tk1 (r.grow g1) g1.up g1.fk (.ret v1))

def sSeq (a b : AS) : AS := fun ρ σ => (a ρ σ).bind fun p => match p with
  | (.next, ρ', σ') => b ρ' σ'
  | (.ret v, ρ', σ') => some (.ret v, ρ', σ')
def sNil : AS := fun ρ σ => some (.next, ρ, σ)
theorem simS_nil : SimS prog w c (execs [] c.env) sNil := by
  intro ρ σ f ρ' σ' α s Q E hm r q
  cases hm
  exact wpAny_execs_nil (q _ α s.heap s.toks r (Up.refl ..) (FK.refl _) .next)
theorem simS_cons {st : Stmt} {rest : List Stmt} {a b : AS} (h : SimS prog w c (exec st c.env) a) (hr : SimS prog w c (execs rest c.env) b) : SimS prog w c (execs (st :: rest) c.env) (sSeq a b) := by
  intro ρ σ f ρ' σ' α s Q E hm r q
  obtain ⟨⟨f1, ρ1, σ1⟩, h1, hm⟩ := bind_some' hm
  refine wpAny_execs_cons (h _ _ _ _ _ _ _ _ _ h1 r fun x α1 hh1 tk1 r1 u1 k1 v1 => ?_)
  cases v1 with
  | next => exact hr _ _ _ _ _ _ { s with heap := hh1, toks := tk1 } _ _ hm r1 fun x α2 hh2 tk2 r2 u2 k2 v2 => q _ α2 hh2 tk2 r2 (u1.trans u2) (k1.trans k2) v2
  | ret v => cases hm; exact q _ α1 hh1 tk1 r1 u1 k1 (.ret v)

def sIf (t : AM Bool) (a b : AS) : AS := fun ρ σ => (t ρ σ).bind fun p => if p.1 then a ρ p.2 else b ρ p.2
theorem simS_If {test : Expr} {body orelse : List Stmt} {pos : Pos} {t : AM Bool} {a b : AS} (ht : SimB prog w c (isTrue test c.env (eval test c.env)) t) (ha : SimS prog w c (execs body c.env) a) (hb : SimS prog w c (execs orelse c.env) b) :
    SimS prog w c (exec (.If test body orelse pos) c.env) (sIf t a b) := by
  intro ρ σ f ρ' σ' α s Q E hm r q
  obtain ⟨⟨v, σ1⟩, h1, hm⟩ := bind_some' hm
  refine wpAny_If (ht _ _ _ _ _ _ _ _ h1 r fun x α1 hh1 tk1 g1 v1 => ?_)
  subst v1
  cases v with
  | true => exact ha _ _ _ _ _ _ { s with heap := hh1, toks := tk1 } _ _ hm (r.grow g1) fun x α2 hh2 tk2 r2 u2 k2 v2 => q _ α2 hh2 tk2 r2 (g1.up.trans u2) (g1.fk.trans k2) v2
  | false => exact hb _ _ _ _ _ _ { s with heap := hh1, toks := tk1 } _ _ hm (r.grow g1) fun x α2 hh2 tk2 r2 u2 k2 v2 => q _ α2 hh2 tk2 r2 (g1.up.trans u2) (g1.fk.trans k2) v2

/-! ### a while -/
def whileN (t : AM Bool) (b : AS) : Nat → AS
  | 0 => fun _ _ => none
  | n + 1 => fun ρ σ => (t ρ σ).bind fun p => if p.1 then (b ρ p.2).bind fun
      | (.next, ρ', σ') => whileN t b n ρ' σ'
      | (.ret v, ρ', σ') => some (.ret v, ρ', σ')
    else some (.next, ρ, p.2)
def sWhile (t : AM Bool) (b : AS) : AS := whileN t b 1000
end
end Inn

end
section
set_option maxRecDepth 10000
set_option linter.unusedVariables false
namespace Inn
open PySem
variable {prog : Program} {w : World}
section
variable {c : Cx}

theorem simS_While {test : Expr} {body : List Stmt} {pos : Pos} {t : AM Bool} {b : AS} (ht : SimB prog w c (isTrue test c.env (eval test c.env)) t) (hb : SimS prog w c (execs body c.env) b) :
    SimS prog w c (exec (.While test body [] pos) c.env) (sWhile t b) := by
  intro ρ₀ σ₀ f ρ' σ' α₀ s₀ Q E hm r₀ q
  refine wpAny_While (codeAny_whileLoop (fun n s => ∃ α ρ σ h tk, s = { s₀ with heap := h, toks := tk } ∧ whileN t b n ρ σ = some (f, ρ', σ') ∧ R prog w c α ρ σ h ∧ Up s₀.heap α₀ σ₀.length h α σ.length ∧ FK s₀.heap h) ?_ 1000
    ⟨α₀, ρ₀, σ₀, s₀.heap, s₀.toks, rfl, hm, r₀, Up.refl .., FK.refl _⟩)
  rintro n s ⟨α, ρ, σ, h, tk, rfl, hm, r, u, k⟩
  cases n with
  | zero => cases hm
  | succ n =>
    obtain ⟨⟨v, σ1⟩, h1, hm⟩ := bind_some' hm
    refine ht _ _ _ _ _ { s₀ with heap := h, toks := tk } _ _ h1 r fun x α1 hh1 tk1 g1 v1 => ?_
    subst v1
    cases v with
    | false =>
      cases hm
      simp only [Bool.false_eq_true, if_false]
      exact wpAny_execs_nil (q _ α1 hh1 tk1 (r.grow g1) (u.trans g1.up) (k.trans g1.fk) .next)
    | true =>
      simp only [if_true] at hm ⊢
      obtain ⟨⟨f1, ρ1, σ2⟩, h2, hm⟩ := bind_some' hm
      refine hb _ _ _ _ _ _ { s₀ with heap := hh1, toks := tk1 } _ _ h2 (r.grow g1) fun x α2 hh2 tk2 r2 u2 k2 v2 => ?_
      cases v2 with
      | next => exact ⟨n, Nat.lt_succ_self _, α2, ρ1, σ2, hh2, tk2, rfl, hm, r2, (u.trans g1.up).trans u2, (k.trans g1.fk).trans k2⟩
      | ret v => cases hm; exact q _ α2 hh2 tk2 r2 ((u.trans g1.up).trans u2) ((k.trans g1.fk).trans k2) (.ret v)

/-! ### for -/
def forR (x : Str) (b : AS) : List AV → AS
  | [] => sNil
  | v :: rest => fun ρ σ => (b (upd ρ x v) σ).bind fun
      | (.next, ρ', σ') => forR x b rest ρ' σ'
      | (.ret u, ρ', σ') => some (.ret u, ρ', σ')
open Classical in
noncomputable def forL (i : Nat) (vs : List AV) (x : Str) (b : AS) : List AV → AS
  | [] => fun ρ σ => if σ[i]? = some (.list vs) then some (.next, ρ, σ) else none
  | v :: rest => fun ρ σ => if σ[i]? = some (.list vs) then (b (upd ρ x v) σ).bind fun
      | (.next, ρ', σ') => forL i vs x b rest ρ' σ'
      | (.ret u, ρ', σ') => some (.ret u, ρ', σ')
    else none
def rngL (lo hi : Int) : List AV := (List.range (hi - lo).toNat).map fun k : Nat => AV.int (lo + (k : Int))
abbrev rangeOk (lo hi : Int) : Prop := -(2 ^ 62) ≤ lo ∧ lo < 2 ^ 62 ∧ -(2 ^ 62) ≤ hi ∧ hi < 2 ^ 62
noncomputable def sFor (x : Str) (src : AM AV) (b : AS) : AS := fun ρ σ => (src ρ σ).bind fun p => match p.1 with
  | .rng lo hi => if rangeOk lo hi then forR x b (rngL lo hi) ρ p.2 else none
  | .ref i => (match p.2[i]? with
    | some (.list vs) => forL i vs x b vs ρ p.2
    | _ => none)
  | _ => none

/-- an iterator is turned -/
theorem R.iter {α ρ σ h h'} {I : Addr} {o : Obj} {vs : Array Value} {T : String} (r : R prog w c α ρ σ h) (hI : h.get? I = some o) (hd : o.data = .fields vs) (hc : o.cls = .type T) (hT : T ≠ "tuple" ∧ T ≠ "range" ∧ T ≠ "dict_values") (h0 : c.h₀.get? I = none)
    (hs : ∀ b ob, b ≠ I → h.get? b = some ob → h'.get? b = some ob) : R prog w c α ρ σ h' ∧ VK h h' := by
  have vk : VK h h' := fun b ob e f => hs b ob (fun q => by
    subst q; rw [hI] at e; cases e
    rcases f with ⟨f, _⟩ | ⟨f | f, _⟩ <;> rw [hc] at f <;> injection f with f
    · exact hT.1 f
    · exact hT.2.1 f
    · exact hT.2.2 f) e
  have u : Up h α σ.length h' α σ.length := ⟨Nat.le_refl _, fun _ _ => rfl, vk⟩
  have hne : ∀ b ob, h.get? b = some ob → (∀ vs, ob.data ≠ .fields vs) → b ≠ I := fun b ob e f q => by
    subst q; rw [hI] at e; cases e; exact f _ hd
  obtain ⟨m, cm, e1, e2, e3, e4⟩ := r.env
  refine ⟨⟨fun b ob e => hs b ob (fun q => by subst q; rw [h0] at e; cases e) (r.keep b ob e), ⟨m, cm, ?_, fun x a hx => ?_, fun x v hx hk => let ⟨y, hy, hv⟩ := e3 x v hx hk; ⟨y, hy, hv.up u⟩, fun x v hx hk => let ⟨y, hy, hv⟩ := e4 x v hx hk; ⟨y, hy, hv.up u⟩⟩, r.dot, fun i ob e => ?_, r.inj, r.own, r.apart⟩, vk⟩
  · obtain ⟨ob, es, ep, ho, hdt, rest⟩ := e1
    exact ⟨ob, es, ep, hs _ _ (hne _ _ ho (fun vs => by rw [hdt]; simp)) ho, hdt, rest⟩
  · obtain ⟨ob, ho, hdt⟩ := e2 x a hx
    exact ⟨ob, hs _ _ (hne _ _ ho (fun vs => by rw [hdt]; simp)) ho, hdt⟩
  · refine (r.objs i ob e).up u fun ob' ho => hs _ _ (fun q => ?_) ho
    obtain ⟨ob2, ho2, hf, _⟩ := (r.objs i ob e).some
    rw [q, hI] at ho2; cases ho2
    exact hf (.inl ⟨_, hd⟩)

theorem R.h0_none {α ρ σ h} (r : R prog w c α ρ σ h) : c.h₀.get? h.objs.size = none := by
  cases e : c.h₀.get? h.objs.size with
  | none => rfl
  | some o => exact absurd (Heap.lt_size (r.keep _ _ e)) (Nat.lt_irrefl _)
theorem FK.off {h h' h'' : Heap} {I : Addr} (k : FK h h') (hn : h.get? I = none) (hs : ∀ b ob, b ≠ I → h'.get? b = some ob → h''.get? b = some ob) : FK h h'' := fun b o e f => hs b o (fun q => by subst q; rw [hn] at e; cases e) (k b o e f)

theorem for_range {x : Str} {px : Pos} {body : List Stmt} {b : AS} {I : Addr} (ok : Ok c) (st : Storable c x) (hb : SimS prog w c (execs body c.env) b)
    {ρ₀ : AEnv} {σ₀ : Store} {f : AF} {ρ' : AEnv} {σ' : Store} {α₀ : Nat → Addr} {s₀ : Shared} {h₁ : Heap} {tk₁ : Nat} {lo : Int} {n : Nat} {RR : Result → Shared → Prop}
    (hm : forR x b ((List.range n).map fun k : Nat => AV.int (lo + (k : Int))) ρ₀ σ₀ = some (f, ρ', σ')) (r₀ : R prog w c α₀ ρ₀ σ₀ h₁) (hn : s₀.heap.get? I = none) (hn0 : c.h₀.get? I = none) (u₀ : Up s₀.heap α₀ σ₀.length h₁ α₀ σ₀.length) (k₀ : FK s₀.heap h₁) (hI : IsRangeIter h₁ I lo n 1)
    (q : ∀ x α' h' tk', R prog w c α' ρ' σ' h' → Up s₀.heap α₀ σ₀.length h' α' σ'.length → FK s₀.heap h' → FR h' α' σ'.length f x → RR (.ok x) { s₀ with heap := h', toks := tk' }) :
    codeAny (model prog w) c.A (.forLoop (.Name x px) (.ref I) body [] c.env) RR { s₀ with heap := h₁, toks := tk₁ } := by
  refine codeAny_forLoop (fun k s => ∃ α ρ σ h tk j, s = { s₀ with heap := h, toks := tk } ∧ n = j + k ∧ forR x b (((List.range n).map fun k : Nat => AV.int (lo + (k : Int))).drop j) ρ σ = some (f, ρ', σ') ∧ R prog w c α ρ σ h ∧ Up s₀.heap α₀ σ₀.length h α σ.length ∧ FK s₀.heap h ∧ IsRangeIter h I (lo + j) k 1) ?_ n
    ⟨α₀, ρ₀, σ₀, h₁, tk₁, 0, rfl, by omega, by simpa using hm, r₀, u₀, k₀, by simpa using hI⟩
  rintro k s ⟨α, ρ, σ, h, tk, j, rfl, hj, hm, r, u, fk, hI⟩
  cases k with
  | zero =>
    refine wpAny_pyNext_range_end ok.hand hI (by simp) fun h' hs => ?_
    have hd : ((List.range n).map fun k : Nat => AV.int (lo + (k : Int))).drop j = [] := by simp; omega
    rw [hd] at hm
    cases hm
    obtain ⟨r', vk⟩ := r.iter hI rfl rfl (by decide) hn0 (fun b ob hb e => hs b ob hb e)
    exact wpAny_execs_nil (q _ α h' tk r' (u.trans ⟨Nat.le_refl _, fun _ _ => rfl, vk⟩) (fk.off hn fun b ob hb e => hs b ob hb e) .next)
  | succ k =>
    refine wpAny_pyNext_range_item hI (by omega) fun h' hI' hs => ?_
    have hd : ((List.range n).map fun k : Nat => AV.int (lo + (k : Int))).drop j = AV.int (lo + j) :: ((List.range n).map fun k : Nat => AV.int (lo + (k : Int))).drop (j + 1) := by
      rw [List.drop_eq_getElem_cons (by simp; omega)]; simp
    rw [hd] at hm
    obtain ⟨⟨f1, ρ1, σ1⟩, h2, hm⟩ := bind_some' hm
    obtain ⟨r', vk⟩ := r.iter hI rfl rfl (by decide) hn0 (fun b ob hb e => hs.extBut b ob hb e)
    have fk' := fk.off hn fun b ob hb e => hs.extBut b ob hb e
    have u' := u.trans ⟨Nat.le_refl _, fun _ _ => rfl, vk⟩
    refine wpAny_assign_Name (store_any (s := { s₀ with heap := h', toks := tk + 1 }) ok st r' (.int (lo + j) _) fun h2' tk2 r2 u2 k2 _ => ?_)
    refine hb _ _ _ _ _ _ { s₀ with heap := h2', toks := tk2 } _ _ h2 r2 fun y α3 h3 tk3 r3 u3 k3 v3 => ?_
    cases v3 with
    | next =>
      refine ⟨k, Nat.lt_succ_self _, α3, ρ1, σ1, h3, tk3, j + 1, rfl, by omega, hm, r3, (u'.trans u2).trans u3, (fk'.trans k2).trans k3, ?_⟩
      have e1 : lo + ((j + 1 : Nat) : Int) = lo + j + 1 := by push_cast; omega
      have e2 : ((k + 1 : Nat) : Int) - 1 = (k : Int) := by push_cast; omega
      rw [e1]
      rw [e2] at hI'
      exact k3 _ _ (k2 _ _ hI' (.inl ⟨_, rfl⟩)) (.inl ⟨_, rfl⟩)
    | ret v => cases hm; exact q _ α3 h3 tk3 r3 ((u'.trans u2).trans u3) ((fk'.trans k2).trans k3) (.ret v)

theorem for_list {x : Str} {px : Pos} {body : List Stmt} {b : AS} {I : Addr} {i : Nat} {vs : List AV} (ok : Ok c) (st : Storable c x) (hb : SimS prog w c (execs body c.env) b)
    {ρ₀ : AEnv} {σ₀ : Store} {f : AF} {ρ' : AEnv} {σ' : Store} {α₀ : Nat → Addr} {s₀ : Shared} {h₁ : Heap} {tk₁ : Nat} {RR : Result → Shared → Prop} (hi : i < σ₀.length)
    (hm : forL i vs x b vs ρ₀ σ₀ = some (f, ρ', σ')) (r₀ : R prog w c α₀ ρ₀ σ₀ h₁) (hn : s₀.heap.get? I = none) (hn0 : c.h₀.get? I = none) (u₀ : Up s₀.heap α₀ σ₀.length h₁ α₀ σ₀.length) (k₀ : FK s₀.heap h₁) (hI : h₁.IsListIter I (α₀ i) 0)
    (q : ∀ x α' h' tk', R prog w c α' ρ' σ' h' → Up s₀.heap α₀ σ₀.length h' α' σ'.length → FK s₀.heap h' → FR h' α' σ'.length f x → RR (.ok x) { s₀ with heap := h', toks := tk' }) :
    codeAny (model prog w) c.A (.forLoop (.Name x px) (.ref I) body [] c.env) RR { s₀ with heap := h₁, toks := tk₁ } := by
  refine codeAny_forLoop (fun k s => ∃ α ρ σ h tk j, s = { s₀ with heap := h, toks := tk } ∧ vs.length = j + k ∧ forL i vs x b (vs.drop j) ρ σ = some (f, ρ', σ') ∧ R prog w c α ρ σ h ∧ Up s₀.heap α₀ σ₀.length h α σ.length ∧ FK s₀.heap h ∧ h.IsListIter I (α₀ i) j) ?_ vs.length
    ⟨α₀, ρ₀, σ₀, h₁, tk₁, 0, rfl, by omega, by simpa using hm, r₀, u₀, k₀, hI⟩
  rintro k s ⟨α, ρ, σ, h, tk, j, rfl, hj, hm, r, u, fk, hI⟩
  have hα : α i = α₀ i := u.agree i hi
  obtain ⟨oI, gI, cI, dI⟩ := id hI
  cases k with
  | zero =>
    have hd : vs.drop j = [] := by simp; omega
    rw [hd] at hm
    unfold forL at hm
    split at hm
    · rename_i e1
      cases hm
      obtain ⟨is, n1, g1, v1, l1⟩ := r.list e1
      rw [hα] at g1
      refine wpAny_pyNext_list_end ok.hand hI ⟨_, g1, rfl, _, rfl⟩ (by have := v1.length; simp; omega) fun h' hs => ?_
      obtain ⟨r', vk⟩ := r.iter gI dI cI (by decide) hn0 (fun b ob hb e => hs b ob hb e)
      exact wpAny_execs_nil (q _ α h' tk r' (u.trans ⟨Nat.le_refl _, fun _ _ => rfl, vk⟩) (fk.off hn fun b ob hb e => hs b ob hb e) .next)
    · cases hm
  | succ k =>
    have hlt : j < vs.length := by omega
    rw [List.drop_eq_getElem_cons hlt] at hm
    unfold forL at hm
    split at hm
    · rename_i e1
      obtain ⟨is, n1, g1, v1, l1⟩ := r.list e1
      rw [hα] at g1
      obtain ⟨y, hy, hv⟩ := v1.get j vs[j] (by simp [hlt])
      refine wpAny_pyNext_list_item hI ⟨_, g1, rfl, _, rfl⟩ (x := y) (by simpa using hy) fun h' hI' hs => ?_
      obtain ⟨⟨f1, ρ1, σ1⟩, h2, hm⟩ := bind_some' hm
      obtain ⟨r', vk⟩ := r.iter gI dI cI (by decide) hn0 (fun b ob hb e => hs.extBut b ob hb e)
      have fk' := fk.off hn fun b ob hb e => hs.extBut b ob hb e
      have u' := u.trans ⟨Nat.le_refl _, fun _ _ => rfl, vk⟩
      refine wpAny_assign_Name (store_any (s := { s₀ with heap := h', toks := tk }) ok st r' (hv.up ⟨Nat.le_refl _, fun _ _ => rfl, vk⟩) fun h2' tk2 r2 u2 k2 _ => ?_)
      refine hb _ _ _ _ _ _ { s₀ with heap := h2', toks := tk2 } _ _ h2 r2 fun y α3 h3 tk3 r3 u3 k3 v3 => ?_
      cases v3 with
      | next =>
        refine ⟨k, Nat.lt_succ_self _, α3, ρ1, σ1, h3, tk3, j + 1, rfl, by omega, hm, r3, (u'.trans u2).trans u3, (fk'.trans k2).trans k3, ?_⟩
        obtain ⟨o, g, cc, d⟩ := hI'
        exact ⟨o, k3 _ _ (k2 _ _ g (.inl ⟨_, d⟩)) (.inl ⟨_, d⟩), cc, d⟩
      | ret v => cases hm; exact q _ α3 h3 tk3 r3 ((u'.trans u2).trans u3) ((fk'.trans k2).trans k3) (.ret v)
    · cases hm

theorem simS_For {x : Str} {px pos : Pos} {iter : Expr} {body : List Stmt} {src : AM AV} {b : AS} (ok : Ok c) (st : Storable c x) (hs : ∀ v, foldedSetIterable iter c.env v = pure v) (hsrc : Sim prog w c (eval iter c.env) src) (hb : SimS prog w c (execs body c.env) b) :
    SimS prog w c (exec (.For (.Name x px) iter body [] pos) c.env) (sFor x src b) := by
  intro ρ σ f ρ' σ' α s Q E hm r q
  obtain ⟨⟨v, σ1⟩, h1, hm⟩ := bind_some' hm
  refine wpAny_For (hsrc _ _ _ _ _ _ _ _ h1 r fun y α1 hh1 tk1 g1 v1 => ?_) hs
  have r1 := r.grow g1
  have fin : ∀ x α' h' tk', R prog w c α' ρ' σ' h' → Up hh1 α1 σ1.length h' α' σ'.length → FK hh1 h' → FR h' α' σ'.length f x → Q x { s with heap := h', toks := tk' } :=
    fun x α' h' tk' r' u' k' v' => q x α' h' tk' r' (g1.up.trans u') (g1.fk.trans k') v'
  cases v1 with
  | rng hr =>
    simp only at hm
    split at hm
    · rename_i lo hi a t u v hok
      obtain ⟨o1, o2, o3, o4⟩ := hok
      refine wpAny_pyIter_range hr (small_one o1 o2 o3 o4) ?_
      have k : HK hh1 (hh1.push { cls := .type "range_iterator", data := .fields #[rawInt lo, rawInt (Builtin.Range.rangeSize lo hi 1), rawInt 1] }) := HK.push _ _
      have e : Builtin.Range.rangeSize lo hi 1 = ((hi - lo).toNat : Int) := by rw [rangeSize_one]; split <;> omega
      refine for_range (s₀ := { s with heap := hh1, toks := tk1 }) (lo := lo) (n := (hi - lo).toNat) ok st hb hm (r1.grow (Grow.same k α1 σ1)) (get?_size_none _) r1.h0_none ⟨Nat.le_refl _, fun _ _ => rfl, k.vk⟩ k.fk (by
        show Heap.get? _ _ = _
        rw [Heap.get?_push_size _ rfl, e]) fin
    · cases hm
  | ref hi =>
    simp only at hm
    split at hm
    · rename_i i _ vs e1
      obtain ⟨is, n1, g1', v1', l1⟩ := r1.list e1
      refine wpAny_pyIter_list (items := is.toArray) ⟨_, g1', rfl, _, rfl⟩ ?_
      have k : HK hh1 (hh1.push { cls := .type "list_iterator", data := .fields #[.ref (α1 i), .int 0 0] }) := HK.push _ _
      exact for_list (s₀ := { s with heap := hh1, toks := tk1 }) ok st hb hi hm (r1.grow (Grow.same k α1 σ1)) (get?_size_none _) r1.h0_none ⟨Nat.le_refl _, fun _ _ => rfl, k.vk⟩ k.fk
        ⟨_, Heap.get?_push_size _ rfl, rfl, rfl⟩ fin
    · cases hm
  | _ => cases hm
end
end Inn

end
section
set_option maxRecDepth 10000
set_option linter.unusedVariables false
namespace Inn
open PySem
variable {prog : Program} {w : World}

/-! ### what a call hands back -/
mutual
def AV.closed (n : Nat) : AV → Bool
  | .ref i => decide (i < n)
  | .vals i => decide (i < n)
  | .tup vs => closedL n vs
  | _ => true
def closedL (n : Nat) : List AV → Bool
  | [] => true
  | v :: vs => v.closed n && closedL n vs
end
def closedK (n : Nat) : List (Int × AV) → Bool
  | [] => true
  | kv :: r => kv.2.closed n && closedK n r
def AO.closed (n : Nat) : AO → Bool
  | .list vs => closedL n vs
  | .dict kvs => closedK n kvs

mutual
theorem VR.restrict {h α α' n n' m} {v : AV} {x : Value} (r : VR h α n v x) (hc : v.closed m = true) (ha : ∀ i, i < m → α' i = α i) (hn : m ≤ n') : VR h α' n' v x := by
  cases r with
  | none => exact .none
  | bool b => exact .bool b
  | int i t => exact .int i t
  | tup e r => exact .tup e (r.restrict (by simpa [AV.closed] using hc) ha hn)
  | rng e => exact .rng e
  | vals hi e =>
    have hi' := by simpa [AV.closed] using hc
    refine .vals (Nat.lt_of_lt_of_le hi' hn) ?_
    rw [ha _ hi']; exact e
  | ref hi =>
    have hi' := by simpa [AV.closed] using hc
    rw [← ha _ hi']
    exact .ref (Nat.lt_of_lt_of_le hi' hn)
theorem VRs.restrict {h α α' n n' m} {vs : List AV} {xs : List Value} (r : VRs h α n vs xs) (hc : closedL m vs = true) (ha : ∀ i, i < m → α' i = α i) (hn : m ≤ n') : VRs h α' n' vs xs := by
  cases r with
  | nil => exact .nil
  | cons a b =>
    simp only [closedL, Bool.and_eq_true] at hc
    exact .cons (a.restrict hc.1 ha hn) (b.restrict hc.2 ha hn)
end
theorem KR.restrict {h α α' n n' m} (ha : ∀ i, i < m → α' i = α i) (hn : m ≤ n') : ∀ {vs xs}, KR h α n vs xs → closedK m vs = true → KR h α' n' vs xs
  | _, _, .nil, _ => .nil
  | _, _, .cons a r, hc => by
    simp only [closedK, Bool.and_eq_true] at hc
    exact .cons (a.restrict hc.1 ha hn) (r.restrict ha hn hc.2)
theorem OR.restrict {h α α' n n' m} {o : AO} {a : Addr} (r : OR prog w h α n o a) (hc : o.closed m = true) (ha : ∀ i, i < m → α' i = α i) (hn : m ≤ n') : OR prog w h α' n' o a := by
  cases r with
  | list e r l => exact .list e (r.restrict (by simpa [AO.closed] using hc) ha hn) l
  | dict e r l l' => exact .dict e (r.restrict ha hn (by simpa [AO.closed] using hc)) l l'

def exportV (σ : Store) (v : AV) (σ' : Store) : Option (AV × Store) :=
  if v.closed σ.length then some (v, σ) else
  match v with
  | .ref i => (match σ'[i]? with
    | some o => if o.closed σ.length then some (.ref σ.length, σ ++ [o]) else none
    | none => none)
  | _ => none

def emp : AEnv := fun _ => none
def bindE : List (Str × AV) → AEnv → AEnv
  | [], ρ => ρ
  | (n, v) :: r, ρ => bindE r (upd ρ n v)

open Classical in
noncomputable def aFn (params : List Str) (m : Nat → AS) (args : List AV) (σ : Store) : Option (AV × Store) :=
  if args.length = params.length then
    (m σ.length (bindE (params.zip args) emp) σ).bind fun p =>
      if p.2.2.take σ.length = σ then exportV σ (match p.1 with | .ret v => v | .next => .none) p.2.2 else none
  else none

/-- room for k calls below -/
def Lvl (k : Nat) (A : Around) : Prop := A.handled = none ∧ A.depth + k < recursionLimit ∧ A.units + 100 * (k + 1) < cLine
theorem Lvl.deeper {k : Nat} {A : Around} (h : Lvl (k + 1) A) (env : Env) : Lvl k (A.deeper env) := by
  obtain ⟨h1, h2, h3⟩ := h
  refine ⟨h1, ?_, ?_⟩
  · show A.depth + 1 + k < _; omega
  · show A.units + 3 + 100 * (k + 1) < _; omega
theorem Lvl.mono {k j : Nat} {A : Around} (h : Lvl k A) (hj : j ≤ k) : Lvl j A := by
  obtain ⟨h1, h2, h3⟩ := h
  have : 100 * (j + 1) ≤ 100 * (k + 1) := Nat.mul_le_mul_left _ (by omega)
  exact ⟨h1, by omega, by omega⟩

structure SR (prog : Program) (w : World) (α : Nat → Addr) (σ : Store) (h : Heap) : Prop where
  objs : ∀ i o, σ[i]? = some o → OR prog w h α σ.length o (α i)
  inj : ∀ i j, i < σ.length → j < σ.length → α i = α j → i = j
theorem R.sr {c α ρ σ h} (r : R prog w c α ρ σ h) : SR prog w α σ h := ⟨r.objs, r.inj⟩

abbrev FnM := List AV → Store → Option (AV × Store)
def FnOk (prog : Program) (w : World) (G : Heap → Prop) (k : Nat) (f : Addr) (F : FnM) : Prop :=
  ∀ (A : Around) (s : Shared) (args : List AV) (xs : List Value) (σ : Store) (α : Nat → Addr) (v : AV) (σ' : Store) (Q : Value → Shared → Prop) (E : Value → Shared → Prop),
    Lvl k A → G s.heap → SR prog w α σ s.heap → VRs s.heap α σ.length args xs → F args σ = some (v, σ') →
    (∀ x α' h' tk', Grow prog w s.heap α σ h' α' σ' → VR h' α' σ'.length v x → Q x { s with heap := h', toks := tk' }) → wpAny (model prog w) A (call (.ref f) xs) Q E s

/-- a function that is asked for less -/
theorem FnOk.less {G k f F F'} (h : FnOk prog w G k f F) (hF : ∀ args σ r, F' args σ = some r → F args σ = some r) : FnOk prog w G k f F' :=
  fun A s args xs σ α v σ' Q E hl hg hs hv hm q => h A s args xs σ α v σ' Q E hl hg hs hv (hF _ _ _ hm) q

theorem bind_env {h α n} (kindOf : Str → Option NameKind) : ∀ (params : List Str) (args : List AV) (xs : List Value) (ρ : AEnv) (m cm : Str → Option Value), VRs h α n args xs →
    (∀ x v, ρ x = some v → kindOf x = some .local → ∃ y, m x = some y ∧ VR h α n v y) → (∀ x v, ρ x = some v → (kindOf x = some .cell ∨ kindOf x = some .free) → ∃ y, cm x = some y ∧ VR h α n v y) →
    (∀ x v, bindE (params.zip args) ρ x = some v → kindOf x = some .local → ∃ y, bindL kindOf (params.zip xs) m x = some y ∧ VR h α n v y) ∧
    (∀ x v, bindE (params.zip args) ρ x = some v → (kindOf x = some .cell ∨ kindOf x = some .free) → ∃ y, bindC kindOf (params.zip xs) cm x = some y ∧ VR h α n v y)
  | [], args, xs, ρ, m, cm, _, h1, h2 => by simpa [bindE, bindL, bindC] using ⟨h1, h2⟩
  | p :: params, _, _, ρ, m, cm, .nil, h1, h2 => by simpa [bindE, bindL, bindC] using ⟨h1, h2⟩
  | p :: params, v :: args, x :: xs, ρ, m, cm, .cons hv hr, h1, h2 => by
    simp only [List.zip_cons_cons, bindE, bindL, bindC]
    refine bind_env kindOf params args xs _ _ _ hr ?_ ?_
    · intro z u hz hk
      by_cases hzp : z = p
      · subst hzp
        simp only [upd, if_true, Option.some.injEq] at hz
        subst hz
        exact ⟨x, by simp [hk], hv⟩
      · simp only [upd, hzp, if_false] at hz
        obtain ⟨y, hy, hvy⟩ := h1 z u hz hk
        refine ⟨y, ?_, hvy⟩
        split
        · simp [hzp, hy]
        · exact hy
    · intro z u hz hk
      by_cases hzp : z = p
      · subst hzp
        simp only [upd, if_true, Option.some.injEq] at hz
        subst hz
        have hnl : ¬ kindOf z = some .local := fun e => by rw [e] at hk; simp at hk
        exact ⟨x, by simp [hnl], hv⟩
      · simp only [upd, hzp, if_false] at hz
        obtain ⟨y, hy, hvy⟩ := h2 z u hz hk
        refine ⟨y, ?_, hvy⟩
        split
        · exact hy
        · simp [hzp, hy]

theorem bindE_dot : ∀ (l : List (Str × AV)) (ρ : AEnv), (∀ p ∈ l, p.1 ≠ ".0") → ρ ".0" = none → bindE l ρ ".0" = none
  | [], ρ, _, h => h
  | (n, v) :: r, ρ, hp, h => by
    refine bindE_dot r _ (fun p hm => hp p (.tail _ hm)) ?_
    have : ¬ ((".0" : Str) = n) := fun e => hp (n, v) (.head _) e.symm
    simp only [upd, this, if_false]; exact h

structure FnAt (f : Addr) (fd : FuncData) (h : Heap) : Prop where
  fn : ∃ o, h.get? f = some o ∧ o.data = .func fd
  lim : h.NoLimit
  code : h.CodeRec fd.code fd.qualname

theorem fn_ok {G : Heap → Prop} {k : Nat} {f : Addr} {fd : FuncData} {body : List Stmt} {params : List Str} {m : Nat → AS}
    (hG : ∀ h h', HK h h' → G h → G h') (hf : ∀ h, G h → FnAt f fd h) (hbody : fd.body = .stmts body) (hclo : fd.closure = [])
    (hbind : ∀ xs : List Value, xs.length = params.length → bindArgs fd ⟨xs, []⟩ = pure (params.zip xs))
    (hkind : ∀ p ∈ params, p ≠ ".0" ∧ (fd.scope.names.lookup p = some .local ∨ fd.scope.names.lookup p = some .cell))
    (hcell : ∀ n x, fd.scope.names.lookup x = some .cell → ((cellsFrom n fd.scope.names []).lookup x).isSome = true)
    (hco : fd.scope.isCoroutine = false) (hgen : fd.scope.isGenerator = false) (hk : fd.scope.kind = .function)
    (hb : ∀ A L h₀ n₀, Lvl k A → G h₀ → Ok ⟨A, callEnvC fd L f, h₀, n₀⟩ → SimS prog w ⟨A, callEnvC fd L f, h₀, n₀⟩ (execs body (callEnvC fd L f)) (m n₀)) :
    FnOk prog w G (k + 1) f (aFn params m) := by
  intro A s args xs σ α v σ' Q E hl hg sr hv hm q
  unfold aFn at hm
  split at hm
  case isFalse => cases hm
  case isTrue hlen =>
  obtain ⟨⟨fl, ρ1, σ1⟩, h1, hm⟩ := bind_some' hm
  split at hm
  case isFalse => cases hm
  case isTrue htake =>
  obtain ⟨⟨o, ho, hd⟩, hlim, hcode⟩ := hf _ hg
  have hxl : xs.length = params.length := by rw [← hv.length]; exact hlen
  refine wpAny_call (codeAny_call_cells (hroom := by have := hl.2.1; omega) ho hd hlim hcode hbody (hbind xs hxl) hclo ?_ ?_ hco hgen hk)
  · intro x hx
    have hp : x.1 ∈ params := (List.of_mem_zip hx).1
    rcases (hkind _ hp).2 with e | e
    · exact .inl e
    · exact .inr ⟨e, hcell _ _ e⟩
  · intro s₁ x
    obtain ⟨ic, cell, apart, above⟩ := x
    obtain ⟨h₁, tk₁, rfl⟩ := ic.same
    have hlen' : s.heap.objs.size ≤ (callEnvC fd s.heap.objs.size f).locals := Nat.le_refl _
    have fresh : ∀ a, s.heap.objs.size ≤ a → s.heap.get? a = none := fun a ha => by
      cases e : s.heap.get? a with
      | none => rfl
      | some o => exact absurd (Heap.lt_size e) (Nat.not_lt.mpr ha)
    have ok : Ok ⟨A.deeper (callEnvC fd s.heap.objs.size f), callEnvC fd s.heap.objs.size f, s.heap, σ.length⟩ := by
      refine ⟨hk, fresh _ (Nat.le_refl _), fun x a hx => fresh _ (Nat.le_of_lt (above x a (mem_of_lookup hx))), fun x y a hx hy => name_of_addr apart (mem_of_lookup hx) (mem_of_lookup hy), hl.1⟩
    have hkp : HK s.heap h₁ := ic.keep
    have u : Up s.heap α σ.length h₁ α σ.length := ⟨Nat.le_refl _, fun _ _ => rfl, hkp.vk⟩
    have be := bind_env (h := h₁) (α := α) (n := σ.length) (callEnvC fd s.heap.objs.size f).kindOf params args xs emp (fun _ => none) (fun _ => none) (hv.up u) (fun x v hx => by cases hx) (fun x v hx => by cases hx)
    have r : R prog w ⟨A.deeper (callEnvC fd s.heap.objs.size f), callEnvC fd s.heap.objs.size f, s.heap, σ.length⟩ α (bindE (params.zip args) emp) σ h₁ := by
      refine ⟨hkp, ⟨_, _, ic.ns, cell, be.1, be.2⟩, bindE_dot _ _ (fun p hp => (hkind _ (List.of_mem_zip hp).1).1) rfl, fun i o e => (sr.objs i o e).up u fun ob ho => hkp _ _ ho, sr.inj, fun i h1 h2 => absurd h1 (Nat.not_le.mpr h2), fun i hi e => ?_⟩
      obtain ⟨ob, hob, _⟩ := (sr.objs i σ[i] (by simp [hi])).some
      have := Heap.lt_size hob
      rw [e] at this
      exact absurd this (Nat.lt_irrefl _)
    have sim := hb (A.deeper (callEnvC fd s.heap.objs.size f)) s.heap.objs.size s.heap σ.length (hl.deeper _) hg ok
    refine sim _ _ _ _ _ _ { s with heap := h₁, toks := tk₁ } _ _ h1 r fun x α2 h2 tk2 r2 u2 k2 v2 => ?_
    have hlen2 : σ.length ≤ σ1.length := u2.le
    have hpre : ∀ i, i < σ.length → σ1[i]? = σ[i]? := fun i hi => by
      conv => rhs; rw [← htake]
      rw [List.getElem?_take]; simp [hi]
    have fin : ∀ (u : AV) (x' : Value), VR h2 α2 σ1.length u x' → exportV σ u σ1 = some (v, σ') → Q x' { s with heap := h2, toks := tk2 } := by
      intro u x' hvr hm
      unfold exportV at hm
      split at hm
      · rename_i hcl
        cases hm
        refine q x' α2 h2 tk2 ⟨r2.keep, ⟨[], by simp⟩, u2.agree, fun i o hi e => ?_, fun i hi hj => absurd hi (Nat.not_le.mpr hj), fun i j hi hj => absurd hi (Nat.not_le.mpr hj)⟩ (hvr.restrict hcl (fun _ _ => rfl) (Nat.le_refl _))
        rw [List.getElem?_eq_none hi] at e; cases e
      · rename_i hncl
        split at hm
        · rename_i i
          split at hm
          · rename_i o eo
            split at hm
            · rename_i hoc
              cases hm
              have hin : σ.length ≤ i := by
                simp only [AV.closed, decide_eq_true_eq] at hncl; omega
              have hi1 : i < σ1.length := (List.getElem?_eq_some_iff.mp eo).1
              cases hvr with
              | ref _ =>
              have hag : ∀ j, j < σ.length → (fun j => if j = σ.length then α2 i else α j) j = α2 j := fun j hj => by simp [Nat.ne_of_lt hj, u2.agree j hj]
              refine q _ (fun j => if j = σ.length then α2 i else α j) h2 tk2 (Grow.one r2.keep (r2.own i hin hi1) ((r2.objs i o eo).restrict hoc hag (Nat.le_succ _))) ?_
              have := VR.ref (h := h2) (α := fun j => if j = σ.length then α2 i else α j) (n := (σ ++ [o]).length) (i := σ.length) (by simp)
              simpa using this
            · cases hm
          · cases hm
        · cases hm
    cases v2 with
    | next => exact fin _ _ .none hm
    | ret hv => exact fin _ _ hv hm
end Inn

end
section
set_option maxRecDepth 10000
set_option linter.unusedVariables false
namespace Inn
open PySem
variable {prog : Program} {w : World}

structure CxG (G : Heap → Prop) (k : Nat) (c : Cx) : Prop where
  ok : Ok c
  gl : c.env.globals = mainGlobals
  bl : c.env.builtins = builtinsNs
  lv : Lvl k c.A
  g : G c.h₀
  mono : ∀ h h', HK h h' → G h → G h'
  cells : ∀ x, (c.env.kindOf x = some .cell ∨ c.env.kindOf x = some .free) → (c.env.cells.lookup x).isSome = true

/-- what a global name holds -/
def Gl (G : Heap → Prop) (x : Str) (v : Value) : Prop := ∀ h, G h → ∃ mg, h.Ns mainGlobals mg ∧ (mg x = some v ∨ (mg x = none ∧ ∃ mb, h.Ns builtinsNs mb ∧ mb x = some v))

section
variable {c : Cx} {G : Heap → Prop} {k : Nat}

theorem CxG.here {α ρ σ h} (cx : CxG G k c) (r : R prog w c α ρ σ h) : G h := cx.mono _ _ r.keep cx.g

/-- a name of the frame's -/
def isVar : Option NameKind → Bool
  | some .local | some .cell | some .free => true
  | _ => false
def okName (x : Str) : Bool := !(x == ("__debug__" : Str)) && !(x == ("__classdict__" : Str))
theorem sim_name {x : Str} {pos : Pos} (cx : CxG G k c) (hv : isVar (c.env.kindOf x) = true) (hn : okName x = true) : Sim prog w c (eval (.Name x pos) c.env) (aName x) := by
  simp only [okName, Bool.and_eq_true, Bool.not_eq_true'] at hn
  cases hk : c.env.kindOf x with
  | none => rw [hk] at hv; cases hv
  | some kd =>
    cases kd with
    | «local» => exact sim_local cx.ok.fn hk hn.1
    | cell => exact sim_cell cx.ok.fn hk (cx.cells x (.inl hk)) hn.1
    | free => exact sim_free cx.ok.fn hk (cx.cells x (.inr hk)) hn.1 hn.2
    | _ => rw [hk] at hv; cases hv
def isSto : Option NameKind → Bool
  | some .local | some .cell => true
  | _ => false
theorem storable {x : Str} (cx : CxG G k c) (hv : isSto (c.env.kindOf x) = true) (h0 : (x == (".0" : Str)) = false) : Storable c x := by
  refine ⟨by simpa using h0, ?_⟩
  cases hk : c.env.kindOf x with
  | none => rw [hk] at hv; cases hv
  | some kd =>
    cases kd with
    | «local» => exact .inl rfl
    | cell => exact .inr ⟨rfl, cx.cells x (.inl hk)⟩
    | _ => rw [hk] at hv; cases hv

theorem load_gl {α ρ σ} {s : Shared} {x : Str} {pos : Pos} {v : Value} {Q : Value → Shared → Prop} {E} (cx : CxG G k c) (hx : c.env.kindOf x = some .globalImplicit) (hd : (x == ("__debug__" : Str)) = false) (g : Gl G x v)
    (r : R prog w c α ρ σ s.heap) (q : Q v s) : wpAny (model prog w) c.A (eval (.Name x pos) c.env) Q E s := by
  refine Calls.Name_function_global cx.ok.fn hx ?_ hd
  obtain ⟨mg, h1, h2⟩ := g _ (cx.here r)
  rw [← cx.gl] at h1
  rcases h2 with h2 | ⟨h2, mb, h3, h4⟩
  · exact Calls.loadGlobal_global h1 h2 q
  · rw [← cx.bl] at h3
    exact Calls.loadGlobal_builtin h1 h2 h3 h4 q

theorem sim_glob {x : Str} {pos : Pos} {i : Int} {t : Tok} (cx : CxG G k c) (hx : c.env.kindOf x = some .globalImplicit) (hd : (x == ("__debug__" : Str)) = false) (g : Gl G x (.int i t)) :
    Sim prog w c (eval (.Name x pos) c.env) (aInt i) := by
  intro ρ σ v σ' α s Q E hm r q
  cases hm
  exact load_gl cx hx hd g r (q _ α s.heap s.toks (Grow.refl ..) (.int _ _))

/-! ### calls -/
inductive Callee (G : Heap → Prop) : Value → Prop
  | builtin (id : String) : Callee G (.builtin id)
  | type (T : String) : Callee G (.type T)
  | fn {f : Addr} {o : Obj} {fd : FuncData} : (∀ h, G h → h.get? f = some o) → o.data = .func fd → Callee G (.ref f)

theorem callWith_any {A : Around} {E : Value → Shared → Prop} {s : Shared} {fv : Value} {pos : Pos} {args : List (Bool × Sem Value)} {Q : Value → Shared → Prop} (hc : Callee G fv) (hplain : args.any (·.1) = false)
    (h : wpAny (model prog w) A (evalArgs fv true args []) (fun a s₁ => G s₁.heap ∧ wpAny (model prog w) A (call fv a.pos a.kw) Q E s₁) E s) : wpAny (model prog w) A (callWith pos fv [] args []) Q E s := by
  cases hc with
  | builtin id => exact Calls.callWith_builtin hplain (wpAny_mono h (fun a s₁ h => h.2) fun _ _ e => e)
  | type T => exact PySem.callWith_type hplain (wpAny_mono h (fun a s₁ h => h.2) fun _ _ e => e)
  | fn hf hd => exact Calls.callWith_function (wpAny_mono h (fun a s₁ h => ⟨⟨hf _ h.1, hd⟩, h.2⟩) fun _ _ e => e)

def OpN (prog : Program) (w : World) (c : Cx) (t : List Value → Sem Value) (F : FnM) : Prop :=
  ∀ (vs : List AV) (xs : List Value) (α : Nat → Addr) (ρ : AEnv) (σ : Store) (v : AV) (σ' : Store) (s : Shared) (Q : Value → Shared → Prop) (E : Value → Shared → Prop), F vs σ = some (v, σ') → R prog w c α ρ σ s.heap →
    VRs s.heap α σ.length vs xs → (∀ z α' h' tk', Grow prog w s.heap α σ h' α' σ' → VR h' α' σ'.length v z → Q z { s with heap := h', toks := tk' }) → wpAny (model prog w) c.A (t xs) Q E s

def aCall (F : FnM) (ms : List (AM AV)) : AM AV := abind (aArgs ms) fun vs => fun _ σ => F vs σ

theorem sim_call {x : Str} {np pos : Pos} {e : Expr} {es : List Expr} {m : AM AV} {ms : List (AM AV)} {fv : Value} {F : FnM} (cx : CxG G k c) (hx : c.env.kindOf x = some .globalImplicit) (hd : (x == ("__debug__" : Str)) = false)
    (g : Gl G x fv) (hc : Callee G fv) (op : OpN prog w c (fun xs => call fv xs) F) (ha : SimA prog w c (e :: es) (m :: ms)) (he : starEach (e :: es) c.env = (false, eval e c.env) :: starEach es c.env := by rfl) (hp : ∀ pos, (backTo pos (starEach es c.env)).any (·.1) = false := by intro _; rfl) :
    Sim prog w c (eval (.Call (.Name x np) (e :: es) [] pos) c.env) (aCall F (m :: ms)) := by
  intro ρ σ v σ' α s Q E hm r q
  obtain ⟨vs, σ1, h1, hm⟩ := abind_some hm
  refine wpAny_Call_ofName (load_gl cx hx hd g r ?_)
  show wpAny _ _ (callWith pos fv [] (backTo pos (starEach (e :: es) c.env)) []) _ _ _
  have hplain : (backTo pos (starEach (e :: es) c.env)).any (·.1) = false := by
    rw [he]
    show ((false : Bool) || (backTo pos (starEach es c.env)).any (·.1)) = false
    rw [hp]; rfl
  refine callWith_any hc hplain ?_
  have hb : backTo pos (starEach (e :: es) c.env) = (false, eval e c.env) :: backTo pos (starEach es c.env) := by rw [he]; rfl
  have key := ha pos _ _ _ _ _ _ (fun xs s₁ => G s₁.heap ∧ wpAny (model prog w) c.A (call fv xs) Q E s₁) E h1 r fun xs α1 hh1 tk1 g1 v1 =>
    ⟨cx.here (r.grow g1), op _ _ _ _ _ _ _ { s with heap := hh1, toks := tk1 } _ _ hm (r.grow g1) v1 fun z α2 hh2 tk2 g2 v2 => q z α2 hh2 tk2 (g1.trans g2) v2⟩
  rw [hb] at key ⊢
  exact Calls.evalArgs_plain key

theorem op_fn {f : Addr} {F : FnM} (cx : CxG G k c) (hF : FnOk prog w G k f F) : OpN prog w c (fun xs => call (.ref f) xs) F :=
  fun vs xs α ρ σ v σ' s Q E hm r hv q => hF _ _ _ _ _ _ _ _ _ _ cx.lv (cx.here r) r.sr hv hm q

/-! ### built-ins -/
def bLen : FnM
  | [.ref i], σ => match σ[i]? with
    | some (.list vs) => some (.int vs.length, σ)
    | some (.dict kvs) => some (.int kvs.length, σ)
    | none => none
  | _, _ => none
theorem op_len : OpN prog w c (fun xs => call (.builtin "len") xs) bLen := by
  intro vs xs α ρ σ v σ' s Q E hm r hv q
  unfold bLen at hm
  split at hm
  · rename_i i
    cases hv with
    | cons hv hn =>
    cases hn
    cases hv with
    | ref hi =>
    split at hm
    · rename_i vs e1
      cases hm
      obtain ⟨is, n1, g1, v1, l1⟩ := r.list e1
      refine Calls.call_len_list ⟨_, g1, rfl, _, rfl⟩ (by simp; omega) (q _ α s.heap _ (Grow.refl ..) ?_)
      rw [v1.length]; simpa using VR.int _ _
    · rename_i kvs e1
      cases hm
      obtain ⟨xs, hd, hk, hne, hl⟩ := r.dict e1
      refine call_len_dict (by simpa using hne) hd (by omega) (q _ α s.heap _ (Grow.refl ..) ?_)
      rw [hk.length]; exact .int _ _
    · cases hm
  · cases hm

def bools : List AV → Option (List Bool)
  | [] => some []
  | .bool b :: r => (bools r).map (b :: ·)
  | _ => none
def bAll : FnM
  | [.ref i], σ => match σ[i]? with
    | some (.list vs) => (bools vs).map fun bs => (.bool (bs.all id), σ)
    | _ => none
  | _, _ => none
def bAny : FnM
  | [.ref i], σ => match σ[i]? with
    | some (.list vs) => (bools vs).map fun bs => (.bool (bs.any id), σ)
    | _ => none
  | _, _ => none
theorem bools_get {h α n} : ∀ {vs : List AV} {xs : List Value} {bs : List Bool}, VRs h α n vs xs → bools vs = some bs → xs = bs.map .bool
  | _, _, _, .nil, e => by cases e; rfl
  | _, _, _, .cons a r, e => by
    cases a <;> simp only [bools, reduceCtorEq] at e
    obtain ⟨bs, e1, rfl⟩ := map_some' e
    simp [bools_get r e1]
theorem all_range (bs : List Bool) : (List.range bs.length).all (fun i => bs.getD i false) = bs.all id := by
  rw [Bool.eq_iff_iff, List.all_eq_true, List.all_eq_true]
  constructor
  · intro h b hb
    obtain ⟨i, hi, rfl⟩ := List.mem_iff_getElem.mp hb
    have := h i (by simp [hi])
    simpa [hi] using this
  · intro h i hi
    simp at hi
    have := h bs[i] (by simp)
    simpa [hi] using this
theorem any_range (bs : List Bool) : (List.range bs.length).any (fun i => bs.getD i false) = bs.any id := by
  rw [Bool.eq_iff_iff, List.any_eq_true, List.any_eq_true]
  constructor
  · rintro ⟨i, hi, h⟩
    simp at hi
    exact ⟨bs[i], by simp, by simpa [hi] using h⟩
  · rintro ⟨b, hb, h⟩
    obtain ⟨i, hi, rfl⟩ := List.mem_iff_getElem.mp hb
    exact ⟨i, by simp [hi], by simpa [hi] using h⟩
theorem off_size {h h1 h' : Heap} {I : Addr} {wr : List Addr} (k : HK h h1) (hn : h.get? I = none) (hs : ∀ b o, b ∉ [I] → h1.get? b = some o → h'.get? b = some o) : HK h h' := fun b o e =>
  hs b o (by
    intro hb
    rw [List.mem_singleton] at hb
    subst hb
    rw [hn] at e; cases e) (k b o e)
theorem op_all (lv : Lvl k c.A) : OpN prog w c (fun xs => call (.builtin "all") xs) bAll := by
  intro vs xs α ρ σ v σ' s Q E hm r hv q
  unfold bAll at hm
  split at hm
  · rename_i i
    cases hv with
    | cons hv hn =>
    cases hn
    cases hv with
    | ref hi =>
    split at hm
    · rename_i vs e1
      obtain ⟨bs, e2, hm⟩ := map_some' hm
      cases hm
      obtain ⟨is, n1, g1, v1, l1⟩ := r.list e1
      have eb := bools_get v1 e2
      refine call_all_walk (wpAny_pyIter_list ⟨_, g1, rfl, _, rfl⟩ ?_)
      have hne : α i ≠ s.heap.objs.size := Nat.ne_of_lt (Heap.lt_size g1)
      refine ⟨s.heap.objs.size, _, _, _, _, _, fun i => bs.getD i false, rfl, Walks.list (A := c.A.in1) lv.1 s.heap.objs.size (α i) hne is.toArray, ⟨⟨_, Heap.get?_push_size _ rfl, rfl, rfl⟩, ⟨_, Heap.get?_push_of_some _ g1, rfl, _, rfl⟩⟩, ?_, fun h' tk hs => ?_⟩
      · intro j y s' Q' E' hy hQ
        subst eb
        have hy' : (bs.map Value.bool)[j]? = some y := by simpa using hy
        rw [List.getElem?_map] at hy'
        obtain ⟨b, hb, rfl⟩ := map_some' hy'
        have : bs.getD j false = b := by simp [List.getD, hb]
        dsimp only at hQ
        rw [this] at hQ
        exact wpAny_truthy_bool hQ
      · have hsz : is.toArray.size = bs.length := by rw [eb]; simp
        rw [hsz, all_range]
        exact q _ α h' tk (Grow.same (off_size (wr := []) (HK.push _ _) (get?_size_none _) hs) α σ) (.bool _)
    · cases hm
  · cases hm
theorem op_any (lv : Lvl k c.A) : OpN prog w c (fun xs => call (.builtin "any") xs) bAny := by
  intro vs xs α ρ σ v σ' s Q E hm r hv q
  unfold bAny at hm
  split at hm
  · rename_i i
    cases hv with
    | cons hv hn =>
    cases hn
    cases hv with
    | ref hi =>
    split at hm
    · rename_i vs e1
      obtain ⟨bs, e2, hm⟩ := map_some' hm
      cases hm
      obtain ⟨is, n1, g1, v1, l1⟩ := r.list e1
      have eb := bools_get v1 e2
      refine call_any_walk (wpAny_pyIter_list ⟨_, g1, rfl, _, rfl⟩ ?_)
      have hne : α i ≠ s.heap.objs.size := Nat.ne_of_lt (Heap.lt_size g1)
      refine ⟨s.heap.objs.size, _, _, _, _, _, fun i => bs.getD i false, rfl, Walks.list (A := c.A.in1) lv.1 s.heap.objs.size (α i) hne is.toArray, ⟨⟨_, Heap.get?_push_size _ rfl, rfl, rfl⟩, ⟨_, Heap.get?_push_of_some _ g1, rfl, _, rfl⟩⟩, ?_, fun h' tk hs => ?_⟩
      · intro j y s' Q' E' hy hQ
        subst eb
        have hy' : (bs.map Value.bool)[j]? = some y := by simpa using hy
        rw [List.getElem?_map] at hy'
        obtain ⟨b, hb, rfl⟩ := map_some' hy'
        have : bs.getD j false = b := by simp [List.getD, hb]
        dsimp only at hQ
        rw [this] at hQ
        exact wpAny_truthy_bool hQ
      · have hsz : is.toArray.size = bs.length := by rw [eb]; simp
        rw [hsz, any_range]
        exact q _ α h' tk (Grow.same (off_size (wr := []) (HK.push _ _) (get?_size_none _) hs) α σ) (.bool _)
    · cases hm
  · cases hm

/-- the ints of a list -/
def intsOf : List AV → Option (List Int)
  | [] => some []
  | .int i :: r => (intsOf r).map (i :: ·)
  | _ => none
theorem intsOf_get {h α n} : ∀ {vs : List AV} {xs : List Value} {ns : List Int}, VRs h α n vs xs → intsOf vs = some ns → ∀ (j : Nat) y, xs[j]? = some y → ∃ t, y = .int (ns.getD j 0) t
  | _, _, _, .nil, e, j, y, hy => by simp at hy
  | _, _, _, .cons a r, e, j, y, hy => by
    cases a <;> simp only [intsOf, reduceCtorEq] at e
    obtain ⟨ns, e1, rfl⟩ := map_some' e
    cases j with
    | zero => simp at hy; subst hy; exact ⟨_, rfl⟩
    | succ j => simp at hy; simpa using intsOf_get r e1 j y hy
theorem intsOf_length : ∀ {vs : List AV} {ns : List Int}, intsOf vs = some ns → vs.length = ns.length
  | [], _, e => by cases e; rfl
  | v :: vs, _, e => by
    cases v <;> simp only [intsOf, reduceCtorEq] at e
    obtain ⟨ns, e1, rfl⟩ := map_some' e
    simp [intsOf_length e1]

def bSum : FnM
  | [.ref i], σ => match σ[i]? with
    | some (.list vs) => (intsOf vs).bind fun ns => if ns.all (fun n => decide (0 ≤ n ∧ n < 1000000)) then some (.int ns.sum, σ) else none
    | _ => none
  | _, _ => none
theorem preSum_eq (ns : List Int) : ∀ j, j ≤ ns.length → preSum (fun i => ns.getD i 0) j = (ns.take j).sum
  | 0, _ => by simp [preSum]
  | j + 1, h => by
    have e : ns.take (j + 1) = ns.take j ++ [ns[j]] := by
      rw [List.take_add_one, List.getElem?_eq_getElem (by omega)]; rfl
    rw [preSum, preSum_eq ns j (by omega), e, List.sum_append]
    have : ns[j]? = some ns[j] := by simp
    simp [List.getD, this]
theorem sum_bound (ns : List Int) (h : ∀ n ∈ ns, 0 ≤ n ∧ n < 1000000) : 0 ≤ ns.sum ∧ ns.sum ≤ 1000000 * ns.length := by
  induction ns with
  | nil => simp
  | cons a r ih =>
    have := h a (.head _)
    have := ih fun n hn => h n (.tail _ hn)
    simp only [List.sum_cons, List.length_cons]
    push_cast
    omega
theorem op_sum (lv : Lvl k c.A) : OpN prog w c (fun xs => call (.builtin "sum") xs) bSum := by
  intro vs xs α ρ σ v σ' s Q E hm r hv q
  unfold bSum at hm
  split at hm
  · rename_i i
    cases hv with
    | cons hv hn =>
    cases hn
    cases hv with
    | ref hi =>
    split at hm
    · rename_i vs e1
      obtain ⟨ns, e2, hm⟩ := bind_some' hm
      split at hm
      · rename_i hb
        cases hm
        obtain ⟨is, n1, g1, v1, l1⟩ := r.list e1
        have hin : ∀ n ∈ ns, 0 ≤ n ∧ n < 1000000 := fun n hn => of_decide_eq_true (List.all_eq_true.mp hb n hn)
        have hlen : is.length = ns.length := by rw [← v1.length, intsOf_length e2]
        refine call_sum_walk (wpAny_pyIter_list ⟨_, g1, rfl, _, rfl⟩ ?_)
        have hne : α i ≠ s.heap.objs.size := Nat.ne_of_lt (Heap.lt_size g1)
        refine ⟨s.heap.objs.size, _, _, _, _, _, fun i => ns.getD i 0, rfl, Walks.list (A := c.A.in1) lv.1 s.heap.objs.size (α i) hne is.toArray, ⟨⟨_, Heap.get?_push_size _ rfl, rfl, rfl⟩, ⟨_, Heap.get?_push_of_some _ g1, rfl, _, rfl⟩⟩, ?_, ?_, ?_, fun h' tk t' hs => ?_⟩
        · intro b hb
          rw [Heap.size_push]
          simp only [List.mem_cons, List.not_mem_nil, or_false] at hb
          rcases hb with rfl | rfl
          · exact Nat.lt_succ_self _
          · exact Nat.lt_succ_of_lt (Heap.lt_size g1)
        · intro j y hy
          exact intsOf_get v1 e2 j y (by simpa using hy)
        · intro j hj
          have hj' : j < ns.length := by simpa [hlen] using hj
          have h1 : ns.getD j 0 = ns[j] := by simp [List.getD, hj']
          have h2 := hin ns[j] (by simp)
          rw [preSum_eq ns (j + 1) (by omega)]
          dsimp only
          rw [h1]
          have h3 := sum_bound (ns.take (j + 1)) fun n hn => hin n (List.mem_of_mem_take hn)
          have h4 : (ns.take (j + 1)).length ≤ 1000000 := by rw [List.length_take]; omega
          unfold InLong
          omega
        · have hsz : is.toArray.size = ns.length := by simp [hlen]
          rw [hsz, preSum_eq ns _ (Nat.le_refl _), List.take_length]
          exact q _ α h' tk (Grow.same (off_size (wr := []) (HK.push _ _) (get?_size_none _) hs) α σ) (.int _ _)
      · cases hm
    · cases hm
  · cases hm

def bAbs : FnM
  | [.int a], σ => some (.int (if a < 0 then -a else a), σ)
  | _, _ => none
theorem op_abs : OpN prog w c (fun xs => call (.builtin "abs") xs) bAbs := by
  intro vs xs α ρ σ v σ' s Q E hm r hv q
  unfold bAbs at hm
  split at hm
  · cases hm
    cases hv with
    | cons hv hn =>
    cases hn
    cases hv
    exact PyProof.Rows.call_abs_int fun u tk => q _ α s.heap tk (Grow.refl ..) (.int _ _)
  · cases hm

def bMin : FnM
  | [.int a, .int b], σ => some (.int (if b < a then b else a), σ)
  | _, _ => none
def bMax : FnM
  | [.int a, .int b], σ => some (.int (if b > a then b else a), σ)
  | _, _ => none
theorem op_min (lv : Lvl k c.A) : OpN prog w c (fun xs => call (.builtin "min") xs) bMin := by
  intro vs xs α ρ σ v σ' s Q E hm r hv q
  unfold bMin at hm
  split at hm
  · cases hm
    cases hv with
    | cons hv hn =>
    cases hn with
    | cons hv' hn =>
    cases hn
    cases hv; cases hv'
    refine min_two_ints lv.1 fun h' tk k => q _ α h' tk (Grow.same k α σ) ?_
    split <;> exact .int _ _
  · cases hm
theorem op_max (lv : Lvl k c.A) : OpN prog w c (fun xs => call (.builtin "max") xs) bMax := by
  intro vs xs α ρ σ v σ' s Q E hm r hv q
  unfold bMax at hm
  split at hm
  · cases hm
    cases hv with
    | cons hv hn =>
    cases hn with
    | cons hv' hn =>
    cases hn
    cases hv; cases hv'
    refine max_two_ints lv.1 fun h' tk k => q _ α h' tk (Grow.same k α σ) ?_
    split <;> exact .int _ _
  · cases hm

def bInt : FnM
  | [.bool b], σ => some (.int (if b then 1 else 0), σ)
  | _, _ => none
theorem op_int : OpN prog w c (fun xs => call (.type "int") xs) bInt := by
  intro vs xs α ρ σ v σ' s Q E hm r hv q
  unfold bInt at hm
  split at hm
  · cases hm
    cases hv with
    | cons hv hn =>
    cases hn
    cases hv
    exact call_int_bool (q _ α s.heap _ (Grow.refl ..) (.int _ _))
  · cases hm

def bRange : FnM
  | [.int b], σ => some (.rng 0 b, σ)
  | [.int a, .int b], σ => some (.rng a b, σ)
  | _, _ => none
theorem op_range : OpN prog w c (fun xs => call (.type "range") xs) bRange := by
  intro vs xs α ρ σ v σ' s Q E hm r hv q
  unfold bRange at hm
  split at hm
  · cases hm
    cases hv with
    | cons hv hn =>
    cases hn
    cases hv
    refine call_range_1 (q _ α _ _ (Grow.same (HK.push _ _) α σ) (.rng (IsRange.new ..)))
  · cases hm
    cases hv with
    | cons hv hn =>
    cases hn with
    | cons hv' hn =>
    cases hn
    cases hv; cases hv'
    refine call_range_2 (q _ α _ _ (Grow.same (HK.push _ _) α σ) (.rng (IsRange.new ..)))
  · cases hm
end
end Inn

end
section
set_option maxRecDepth 10000
set_option linter.unusedVariables false
namespace Inn
open PySem
variable {prog : Program} {w : World}

/-! ### comprehensions -/
theorem rel_lookup {env : Env} : ∀ (names : List (Str × NameKind)) (x : Str),
    (names.map fun (n, k) => if (k == NameKind.free && env.scope.kind == .function && env.kindOf n == some .cell) then (n, NameKind.cell) else (n, k)).lookup x =
      (names.lookup x).map fun k => if (k == NameKind.free && env.scope.kind == .function && env.kindOf x == some .cell) then NameKind.cell else k
  | [], x => rfl
  | (n, k) :: r, x => by
    have ih := rel_lookup (env := env) r x
    by_cases hx : x = n
    · subst hx
      simp only [List.map_cons, List.lookup_cons, beq_self_eq_true, Option.map_some]
      split <;> simp_all
    · have hb : (x == n) = false := by simpa using hx
      simp only [List.map_cons, List.lookup_cons, hb]
      split <;> simp only [List.lookup_cons, hb] <;> exact ih

theorem closure_ok {scope : Scope} {env : Env} (h : ∀ p ∈ scope.names, p.2 = .free → (env.cells.lookup p.1).isSome = true) :
    ∃ cl, closureFor scope env = pure cl ∧ (∀ y a, cl.lookup y = some a → env.cells.lookup y = some a) ∧ (∀ p ∈ scope.names, p.2 = .free → (cl.lookup p.1).isSome = true) := by
  have key : ∀ (names : List (Str × NameKind)) (acc : List (Str × Addr)), (∀ p ∈ names, p.2 = .free → (env.cells.lookup p.1).isSome = true) → (∀ y a, acc.lookup y = some a → env.cells.lookup y = some a) →
      ∃ cl, (forIn names acc fun (p : Str × NameKind) (cs : List (Str × Addr)) => (if (p.2 == NameKind.free) = true then do
          let a ← cellOf env p.1
          pure (ForInStep.yield ((p.1, a) :: cs)) else pure (ForInStep.yield cs) : Sem (ForInStep (List (Str × Addr))))) = pure cl ∧ (∀ y a, cl.lookup y = some a → env.cells.lookup y = some a) ∧
        (∀ p ∈ names, p.2 = .free → (cl.lookup p.1).isSome = true) ∧ (∀ y, (acc.lookup y).isSome = true → (cl.lookup y).isSome = true) := by
    intro names
    induction names with
    | nil => intro acc _ ha; exact ⟨acc, rfl, ha, fun p hp => (nomatch hp), fun _ h => h⟩
    | cons p r ih =>
      intro acc hp ha
      rw [List.forIn_cons]
      by_cases hk : (p.2 == NameKind.free) = true
      · obtain ⟨a, ea⟩ := Option.isSome_iff_exists.mp (hp p (.head _) (by simpa using hk))
        obtain ⟨cl, e1, e2, e3, e4⟩ := ih ((p.1, a) :: acc) (fun q hq => hp q (.tail _ hq)) (fun y b hy => by
          by_cases hyp : y = p.1
          · subst hyp; simp at hy; subst hy; exact ea
          · have : (y == p.1) = false := by simpa using hyp
            rw [List.lookup_cons, this] at hy; exact ha y b hy)
        refine ⟨cl, ?_, e2, fun q hq hf => ?_, fun y hy => e4 y ?_⟩
        · rw [if_pos hk]
          unfold cellOf
          rw [ea]
          exact e1
        · rcases List.mem_cons.mp hq with rfl | hq
          · exact e4 _ (by simp)
          · exact e3 q hq hf
        · rw [List.lookup_cons]
          split
          · rfl
          · exact hy
      · obtain ⟨cl, e1, e2, e3, e4⟩ := ih acc (fun q hq => hp q (.tail _ hq)) ha
        refine ⟨cl, ?_, e2, fun q hq hf => ?_, e4⟩
        · rw [if_neg hk]; exact e1
        · rcases List.mem_cons.mp hq with rfl | hq
          · exact absurd (by simpa using hf) hk
          · exact e3 q hq hf
  obtain ⟨cl, e1, e2, e3, _⟩ := key scope.names [] h (fun y a hy => by simp at hy)
  refine ⟨cl, ?_, e2, e3⟩
  show ((forIn scope.names ([] : List (Str × Addr)) fun (p : Str × NameKind) (cs : List (Str × Addr)) => (if (p.2 == NameKind.free) = true then do
          let a ← cellOf env p.1
          pure (ForInStep.yield ((p.1, a) :: cs)) else pure (ForInStep.yield cs) : Sem (ForInStep (List (Str × Addr))))) >>= fun cs => pure cs) = pure cl
  rw [e1]
  rfl

/-- the tests -/
def SimT (prog : Program) (w : World) (c : Cx) (ifs : List Expr) (ms : List (AM Bool)) : Prop :=
  SimB prog w c (forIn ifs true fun e r => if r = true then do let ok ← isTrue e c.env (eval e c.env); pure (ForInStep.yield ok) else pure (ForInStep.yield r)) (bAnd ms)
theorem simT_nil {c : Cx} : SimT prog w c [] [] := by
  intro ρ σ v σ' α s Q E hm r q
  cases hm
  exact wpAny_pure (q _ α s.heap s.toks (Grow.refl ..) rfl)
theorem simT_one {c : Cx} {e m} (h : SimB prog w c (isTrue e c.env (eval e c.env)) m) : SimT prog w c [e] [m] := by
  intro ρ σ v σ' α s Q E hm r q
  obtain ⟨a, σ1, h1, hm⟩ := abind_some hm
  have e2 : v = a ∧ σ' = σ1 := by cases a <;> cases hm <;> exact ⟨rfl, rfl⟩
  obtain ⟨rfl, rfl⟩ := e2
  rw [List.forIn_cons]
  refine wpAny_bind ?_
  simp only [if_true]
  exact wpAny_bind (h _ _ _ _ _ _ _ _ h1 r fun x α1 hh1 tk1 g1 v1 => wpAny_pure (wpAny_pure (q _ α1 hh1 tk1 g1 v1)))

def itemsOf (v : AV) (σ : Store) : Option (List AV) := match v with
  | .rng lo hi => if rangeOk lo hi ∧ hi - lo ≤ 1000000 then some (rngL lo hi) else none
  | .ref i => (match σ[i]? with
    | some (.list vs) => some vs
    | some (.dict kvs) => some (kvs.map fun kv => .int kv.1)
    | none => none)
  | _ => none
def compItems (x : Str) (t : AM Bool) (m : AM AV) (ρ : AEnv) (σ : Store) : List AV → Option (List AV)
  | [] => some []
  | v :: vs => (t (upd ρ x v) σ).bind fun p => if p.1 then (m (upd ρ x v) p.2).bind fun q => if q.1.closed σ.length then (compItems x t m ρ σ vs).map (q.1 :: ·) else none
    else compItems x t m ρ σ vs
def aComp (x : Str) (src : AM AV) (t : AM Bool) (m : AM AV) : AM AV := abind src fun v => fun ρ σ => (itemsOf v σ).bind fun vs => (compItems x t m ρ σ vs).bind fun us => some (.ref σ.length, σ ++ [.list us])

theorem compItems_length {x t m ρ σ} : ∀ {vs us : List AV}, compItems x t m ρ σ vs = some us → us.length ≤ vs.length
  | [], us, h => by cases h; exact Nat.le_refl _
  | v :: vs, us, h => by
    obtain ⟨p, h1, h⟩ := bind_some' h
    split at h
    · obtain ⟨q, h2, h⟩ := bind_some' h
      split at h
      · obtain ⟨us', h3, rfl⟩ := map_some' h
        have := compItems_length h3
        simp; omega
      · cases h
    · have := compItems_length h
      simp; omega

abbrev subCx (c : Cx) (scope : Scope) (cl : List (Str × Addr)) (C : Addr) : Cx := ⟨c.A, compEnvC scope cl C c.env, c.h₀, c.n₀⟩

structure CompOk (c : Cx) (scope : Scope) (x : Str) : Prop where
  cell : ∀ y ∈ scope.names, y.2 ≠ .cell
  kind : scope.kind = .function
  hx : scope.names.lookup x = some .local
  x0 : x ≠ ".0"
  names : ∀ y ∈ scope.names, y.2 = .local → scope.names.lookup y.1 = some .local
  loc : ∀ y ∈ scope.names, y.2 = .local → y.1 = x ∨ y.1 = ".0"
  free : ∀ y ∈ scope.names, y.2 = .free → isVar (c.env.kindOf y.1) = true ∧ c.env.kindOf y.1 ≠ some .local

section
variable {c : Cx} {G : Heap → Prop} {k : Nat} {scope : Scope} {x : Str} {cl : List (Str × Addr)}

theorem sub_local {C : Addr} {y : Str} (co : CompOk c scope x) (h : (subCx c scope cl C).env.kindOf y = some .local) : y = x ∨ y = ".0" := by
  have h' : (relabel scope c.env).names.lookup y = some .local := h
  unfold relabel at h'
  rw [rel_lookup] at h'
  obtain ⟨kd, h1, h2⟩ := map_some' h'
  have : kd = .local := by split at h2 <;> first | exact h2 | cases h2
  subst this
  exact co.loc (y, .local) (mem_of_lookup h1) rfl
theorem sub_free {C : Addr} {y : Str} (co : CompOk c scope x) (h : (subCx c scope cl C).env.kindOf y = some .cell ∨ (subCx c scope cl C).env.kindOf y = some .free) : (y, NameKind.free) ∈ scope.names := by
  have h' : (relabel scope c.env).names.lookup y = some .cell ∨ (relabel scope c.env).names.lookup y = some .free := h
  unfold relabel at h'
  rw [rel_lookup] at h'
  have : ∃ kd, scope.names.lookup y = some kd ∧ (kd = .cell ∨ kd = .free) := by
    rcases h' with h' | h' <;> obtain ⟨kd, h1, h2⟩ := map_some' h' <;> refine ⟨kd, h1, ?_⟩ <;> split at h2
    · rename_i hc
      simp only [Bool.and_eq_true, beq_iff_eq] at hc
      exact .inr hc.1.1
    · exact .inl h2
    · cases h2
    · exact .inr h2
  obtain ⟨kd, h1, h2⟩ := this
  have hm := mem_of_lookup h1
  rcases h2 with rfl | rfl
  · exact absurd rfl (co.cell _ hm)
  · exact hm

theorem sub_cx {C : Addr} (cx : CxG G k c) (co : CompOk c scope x) (hC : c.h₀.get? C = none) (hA : ∀ y a, cl.lookup y = some a → c.env.cells.lookup y = some a) (hB : ∀ p ∈ scope.names, p.2 = .free → (cl.lookup p.1).isSome = true) :
    CxG G k (subCx c scope cl C) :=
  ⟨⟨co.kind, hC, fun y a hy => cx.ok.freshC y a (hA y a hy), fun y z a hy hz => cx.ok.apartC y z a (hA y a hy) (hA z a hz), cx.ok.hand⟩, cx.gl, cx.bl, cx.lv, cx.g, cx.mono, fun y hy => hB _ (sub_free co hy) rfl⟩

structure IterAt (h : Heap) (I : Addr) : Prop where
  ex : ∃ o vs T, h.get? I = some o ∧ o.data = .fields vs ∧ o.cls = .type T ∧ (T ≠ "tuple" ∧ T ≠ "range" ∧ T ≠ "dict_values")

set_option maxHeartbeats 800000 in
theorem comp_core {elt iter : Expr} {px pos : Pos} {ifs : List Expr} {t : AM Bool} {m : AM AV} {I : Addr} {fp : List Addr} {n : Nat} {P : Nat → Value → Prop} {St : Nat → Heap → Prop} {α : Nat → Addr} {ρ : AEnv} {σ : Store} {s : Shared} {h₁ : Heap} {tk₁ : Nat} {vs us : List AV} {ts : List (AM Bool)}
    {E : Value → Shared → Prop} {RR : Value → Addr → Result → Shared → Prop}
    (cx : CxG G k c) (co : CompOk c scope x) (hA : ∀ y a, cl.lookup y = some a → c.env.cells.lookup y = some a) (hB : ∀ p ∈ scope.names, p.2 = .free → (cl.lookup p.1).isSome = true)
    (ht : ∀ C, CxG G k (subCx c scope cl C) → SimT prog w (subCx c scope cl C) ifs ts) (htt : t = bAnd ts)
    (he : ∀ C, CxG G k (subCx c scope cl C) → Sim prog w (subCx c scope cl C) (eval elt (compEnvC scope cl C c.env)) m)
    (r : R prog w c α ρ σ s.heap) (W : Walks prog w c.A I fp [I] n P St) (hI : s.heap.get? I = none) (k₁ : HK s.heap h₁) (hst : St 0 h₁) (hfp : ∀ b ∈ fp, b < h₁.objs.size) (hIf : ∀ i h, St i h → IterAt h I)
    (hP : ∀ j y, j < vs.length → P j y → ∃ v, vs[j]? = some v ∧ VR s.heap α σ.length v y) (hn : n = vs.length) (hn' : n ≤ 1000000) (hm : compItems x t m ρ σ vs = some us)
    (fin : ∀ D C h' tk' m' ys ep, s.heap.get? D = none → s.heap.get? C = none → D ≠ C → HK s.heap h' → h'.Ns C m' → h'.get? D = some { cls := .type "list", data := .seq ys.toArray ep } → VRs h' α σ.length us ys → ys.length ≤ 1000000 →
      RR (.ref D) C (.ok .next) { s with heap := h', toks := tk' }) :
    wpAny (model prog w) c.A (newList []) (fun acc s₃ => wpAny (model prog w) c.A (newFunctionEnv scope c.env.globals cl [] c.env.qual none .none (some c.env)) (fun cenv s₄ =>
      codeAny (model prog w) c.A (.compStart (.ListComp elt [⟨.Name x px, iter, ifs, 0⟩] scope pos) 0 (.ref I) acc { cenv with scope := relabel scope c.env }) (RR acc cenv.locals) s₄) E s₃) E { s with heap := h₁, toks := tk₁ } := by
  refine wpAny_newObj_type (wpAny_newFunctionEnv co.cell (by intro y hy; simp at hy) (fun h₂ hns₁ hsb₁ => ?_) co.kind)
  dsimp only at hns₁ hsb₁ ⊢
  generalize hH2 : h₁.push { cls := .type "list", dict := none, data := .seq ([] : List Value).toArray } = H2 at hns₁ hsb₁ ⊢
  have hC : H2.objs.size = h₁.objs.size + 1 := by rw [← hH2, Heap.size_push]
  have hDC : h₁.objs.size ≠ H2.objs.size := by rw [hC]; exact Nat.ne_of_lt (Nat.lt_succ_self _)
  have below : ∀ b, b < h₁.objs.size → b ≠ H2.objs.size ∧ b ≠ h₁.objs.size := fun b hb => ⟨by rw [hC]; exact Nat.ne_of_lt (Nat.lt_succ_of_lt hb), Nat.ne_of_lt hb⟩
  have hDf : h₁.objs.size ∉ fp := fun hm => Nat.lt_irrefl _ (hfp _ hm)
  have hCf : H2.objs.size ∉ fp := fun hm => by have := hfp _ hm; rw [hC] at this; exact Nat.lt_irrefl _ (Nat.lt_of_succ_lt this)
  have old : HK h₁ h₂ := fun b o e => hsb₁.extBut b o (below b (Heap.lt_size e)).1 (Heap.get?_push_of_some _ (hH2 ▸ Heap.get?_push_of_some _ e))
  have hacc : h₂.get? h₁.objs.size = some { cls := .type "list", data := .seq ([] : List Value).toArray } := hsb₁.extBut _ _ hDC (Heap.get?_push_of_some _ (hH2 ▸ Heap.get?_push_size _ rfl))
  have hst₁ : St 0 h₂ := W.frame _ _ _ hst fun b _ o e => old b o e
  have fresh : ∀ a, h₁.objs.size ≤ a → s.heap.get? a = none := fun a ha => by
    cases e : s.heap.get? a with
    | none => rfl
    | some o' => exact absurd (Heap.lt_size (k₁ _ _ e)) (Nat.not_lt.mpr ha)
  have hD0 := fresh h₁.objs.size (Nat.le_refl _)
  have hC0 := fresh H2.objs.size (by rw [hC]; exact Nat.le_succ _)
  have none0 : ∀ a, s.heap.get? a = none → c.h₀.get? a = none := fun a ha => by
    cases e : c.h₀.get? a with
    | none => rfl
    | some o => rw [r.keep _ _ e] at ha; cases ha
  have cx' : CxG G k (subCx c scope cl H2.objs.size) := sub_cx cx co (none0 _ hC0) hA hB
  have live : ∀ i, i < σ.length → ∃ ob, s.heap.get? (α i) = some ob := fun i hi => r.live i hi
  have kk : HK s.heap h₂ := k₁.trans old
  -- the relation in the comprehension's own frame
  have r0 : R prog w (subCx c scope cl H2.objs.size) α (fun y => if y = x then none else ρ y) σ h₂ := by
    have g := r.grow (Grow.same kk α σ)
    obtain ⟨m0, cm, e1, e2, e3, e4⟩ := g.env
    refine ⟨g.keep, ⟨_, cm, hns₁, fun y a hy => e2 y a (hA y a hy), fun y v hy hk => ?_, fun y v hy hk => ?_⟩, ?_, g.objs, g.inj, g.own, fun i hi e => ?_⟩
    · rcases sub_local co hk with rfl | rfl
      · simp at hy
      · by_cases h0 : (".0" : Str) = x
        · rw [if_pos h0] at hy; cases hy
        · rw [if_neg h0, r.dot] at hy; cases hy
    · have hyf := sub_free co hk
      by_cases h0 : y = x
      · rw [if_pos h0] at hy; cases hy
      · rw [if_neg h0] at hy
        have := co.free _ hyf rfl
        refine e4 y v hy ?_
        have h1 := this.1
        have h2 := this.2
        dsimp only at h1 h2
        cases hkd : c.env.kindOf y with
        | none => rw [hkd] at h1; cases h1
        | some kd => cases kd <;> simp_all [isVar]
    · by_cases h0 : (".0" : Str) = x
      · rw [if_pos h0]
      · rw [if_neg h0]; exact r.dot
    · obtain ⟨ob, ho⟩ := live i hi
      rw [show α i = H2.objs.size from e] at ho
      rw [hC0] at ho; cases ho
  have updx : ∀ v, upd (fun y => if y = x then none else ρ y) x v = upd ρ x v := fun v => by
    funext y
    unfold upd
    by_cases hy : y = x <;> simp [hy]
  have hkx : (subCx c scope cl H2.objs.size).env.kindOf x = some .local := lookup_relabel_local co.hx
  have loop : ∀ s₃ : Shared, s₃ = { s with heap := h₂, toks := tk₁ + ([] : List (Str × Value)).length } →
      codeAny (model prog w) c.A (.compLoop (.ListComp elt [⟨.Name x px, iter, ifs, 0⟩] scope pos) 0 (.ref I) (.ref h₁.objs.size) (compEnvC scope cl H2.objs.size c.env))
        (RR (.ref h₁.objs.size) H2.objs.size) s₃ := by
    rintro s₃ rfl
    refine codeAny_compLoop_tests
      (fun kk s' => ∃ h' tk' ρ' j ys ep, s' = { s with heap := h', toks := tk' } ∧ kk = n + 1 - j ∧ j ≤ n ∧ St j h' ∧ HK s.heap h' ∧ R prog w (subCx c scope cl H2.objs.size) α ρ' σ h' ∧ (∀ v, upd ρ' x v = upd ρ x v) ∧
        h'.get? h₁.objs.size = some { cls := .type "list", data := .seq (ys : List Value).toArray ep } ∧ ys.length ≤ j ∧ ∃ us₀ us₁, us = us₀ ++ us₁ ∧ VRs h' α σ.length us₀ ys ∧ compItems x t m ρ σ (vs.drop j) = some us₁) ?_ (n + 1)
      ⟨h₂, _, _, 0, [], 0, rfl, rfl, Nat.zero_le _, hst₁, kk, r0, updx, hacc, Nat.le_refl _, [], us, rfl, .nil, by simpa using hm⟩
    rintro q s' ⟨h', tk', ρ', j, ys, ep, rfl, rfl, hj, hst', hk', r', hu', hD', hyl, us₀, us₁, rfl, hvr, hm'⟩
    obtain ⟨oI, vI, TI, gI, dI, cI, tI⟩ := (hIf _ _ hst').ex
    by_cases hlt : j < n
    · refine W.item j _ _ _ hlt hst' fun y h3 tk3 hPy hst3 hs3 => ?_
      obtain ⟨v, hv, hvy⟩ := hP j y (by omega) hPy
      have off3 : ∀ b ob, b ≠ I → h'.get? b = some ob → h3.get? b = some ob := fun b ob hb e => hs3 b ob (by simpa using hb) e
      obtain ⟨r3, vk3⟩ := r'.iter gI dI cI tI (none0 _ hI) off3
      have hk3 : HK s.heap h3 := fun b o e => off3 b o (fun hb => by subst hb; rw [hI] at e; cases e) (hk' b o e)
      have hDI : h₁.objs.size ≠ I := fun e => by
        have hf : I ∈ fp := W.sub I (by simp)
        exact hDf (e ▸ hf)
      have hCI : H2.objs.size ≠ I := fun e => by
        have hf : I ∈ fp := W.sub I (by simp)
        exact hCf (e ▸ hf)
      have hD3 := off3 _ _ hDI hD'
      have hv3 : VR h3 α σ.length v y := hvy.up ⟨Nat.le_refl _, fun _ _ => rfl, hk3.vk⟩
      have hvr3 : VRs h3 α σ.length us₀ ys := hvr.up ⟨Nat.le_refl _, fun _ _ => rfl, vk3⟩
      refine wpAny_assign_Name (store_local (c := subCx c scope cl H2.objs.size) (s := { s with heap := h3, toks := tk3 }) cx'.ok r3 hkx co.x0 hv3 fun h4 tk4 r4 u4 fk4 off4 => ?_)
      rw [hu' v] at r4
      have hk4 : HK s.heap h4 := fun b o e => off4 b o (fun hb => by
          rw [show b = H2.objs.size from hb, hC0] at e; cases e) (hk3 b o e)
      have hst4 : St (j + 1) h4 := W.frame _ _ _ hst3 fun b hb o e => off4 b o (fun hb' => hCf ((show b = H2.objs.size from hb') ▸ hb)) e
      have hD4 := off4 _ _ hDC hD3
      have hvr4 : VRs h4 α σ.length us₀ ys := hvr3.up u4
      rw [List.drop_eq_getElem_cons (by omega)] at hm'
      have hvj : vs[j]'(by omega) = v := by
        have := List.getElem?_eq_some_iff.mp hv
        exact this.2
      rw [hvj] at hm'
      obtain ⟨⟨b, σ5⟩, h5, hm5⟩ := bind_some' hm'
      rw [htt] at h5
      refine ht _ cx' _ _ _ _ _ { s with heap := h4, toks := tk4 } _ _ h5 r4 fun b' α5 hh5 tk5 g5 v5 => ?_
      subst v5
      have hk5 : HK s.heap hh5 := hk4.trans g5.keep
      have hst5 : St (j + 1) hh5 := W.frame _ _ _ hst4 fun b _ o e => g5.keep b o e
      cases b with
      | false =>
        simp only [Bool.false_eq_true, if_false] at hm5 ⊢
        refine ⟨n + 1 - (j + 1), by omega, hh5, tk5, _, j + 1, ys, ep, rfl, rfl, hlt, hst5, hk5, r4.grow g5.forget, fun u => ?_, g5.keep _ _ hD4, by omega, us₀, us₁, rfl, hvr4.up ⟨Nat.le_refl _, fun _ _ => rfl, g5.keep.vk⟩, hm5⟩
        funext z; unfold upd; by_cases hz : z = x <;> simp [hz]
      | true =>
        simp only [if_true] at hm5 ⊢
        obtain ⟨⟨u, σ6⟩, h6, hm6⟩ := bind_some' hm5
        split at hm6
        case isFalse => cases hm6
        case isTrue hcl =>
        obtain ⟨us₂, hm7, e7⟩ := map_some' hm6
        refine he _ cx' _ _ _ _ _ { s with heap := hh5, toks := tk5 } _ _ h6 (r4.grow g5) fun z α6 hh6 tk6 g6 v6 => ?_
        have g56 := g5.trans g6
        have hk6 : HK s.heap hh6 := hk4.trans g56.keep
        have hst6 : St (j + 1) hh6 := W.frame _ _ _ hst4 fun b _ o e => g56.keep b o e
        have hD6 := g56.keep _ _ hD4
        have r6 : R prog w (subCx c scope cl H2.objs.size) α (upd ρ x v) σ hh6 := r4.grow g56.forget
        have hvr6 : VRs hh6 α σ.length us₀ ys := hvr4.up ⟨Nat.le_refl _, fun _ _ => rfl, g56.keep.vk⟩
        have hv6 : VR hh6 α σ.length u z := v6.restrict hcl (fun i hi => (g56.agree i hi).symm) (Nat.le_refl _)
        refine wpAny_list_append_plain (items := ys.toArray) ⟨_, hD6⟩ (fun h7 hl7 hs7 => ?_) (le_sizeLine (by simp; omega))
        obtain ⟨ep7, hD7⟩ := hl7
        obtain ⟨m8, cm8, e18, e28, e38, e48⟩ := r6.env
        have hk7 : HK s.heap h7 := fun b o e => hs7.extBut b o (fun hb => by rw [hb, hD0] at e; cases e) (hk6 b o e)
        have henv : ∃ (m cm : Str → Option Value), h7.Ns (subCx c scope cl H2.objs.size).env.locals m ∧ (∀ x a, (subCx c scope cl H2.objs.size).env.cells.lookup x = some a → h7.IsCell a (cm x)) ∧
            (∀ y v', upd ρ x v y = some v' → (subCx c scope cl H2.objs.size).env.kindOf y = some .local → ∃ y', m y = some y' ∧ VR hh6 α σ.length v' y') ∧
            (∀ y v', upd ρ x v y = some v' → ((subCx c scope cl H2.objs.size).env.kindOf y = some .cell ∨ (subCx c scope cl H2.objs.size).env.kindOf y = some .free) → ∃ y', cm y = some y' ∧ VR hh6 α σ.length v' y') := by
          refine ⟨m8, cm8, e18.sameBut hs7 (Ne.symm hDC), fun y a hy => (e28 y a hy).sameBut hs7 fun e => ?_, e38, e48⟩
          obtain ⟨ob, ho, hd⟩ := e28 y a hy
          rw [e, hD6] at ho; cases ho; cases hd
        obtain ⟨r7, u7, fk7⟩ := R.sameBut (a := h₁.objs.size) cx'.ok r6 (fun b o hb e => hs7.extBut b o hb e) (none0 _ hD0) (fun i hi e => by
            obtain ⟨ob, ho⟩ := live i hi
            rw [e, hD0] at ho; cases ho) (fun o e f => by
            rw [hD6] at e; cases e
            rcases f with ⟨_, f⟩ | ⟨f, _⟩ <;> simp at f) henv r6.dot
        refine ⟨n + 1 - (j + 1), by omega, h7, tk6, _, j + 1, ys ++ [z], ep7, rfl, rfl, hlt, W.frame _ _ _ hst6 fun b hb o e => hs7.extBut b o (fun hb' => hDf (hb' ▸ hb)) e, hk7, r7, fun u => ?_, ?_, ?_, us₀ ++ [u], us₂, ?_, (hvr6.append (.cons hv6 .nil)).up u7, hm7⟩
        · funext z; unfold upd; by_cases hz : z = x <;> simp [hz]
        · simpa using hD7
        · simp; omega
        · rw [← e7]; simp
    · have hjn : j = n := by omega
      subst hjn
      refine W.done _ _ _ hst' fun h3 tk3 hs3 => ?_
      have off3 : ∀ b ob, b ≠ I → h'.get? b = some ob → h3.get? b = some ob := fun b ob hb e => hs3 b ob (by simpa using hb) e
      obtain ⟨r3, vk3⟩ := r'.iter gI dI cI tI (none0 _ hI) off3
      have hk3 : HK s.heap h3 := fun b o e => off3 b o (fun hb => by subst hb; rw [hI] at e; cases e) (hk' b o e)
      have hDI : h₁.objs.size ≠ I := fun e => by
        have hf : I ∈ fp := W.sub I (by simp)
        exact hDf (e ▸ hf)
      rw [List.drop_of_length_le (by omega)] at hm'
      cases hm'
      obtain ⟨m8, cm8, e18, _⟩ := r3.env
      rw [List.append_nil] at fin
      exact fin _ _ h3 tk3 m8 ys ep hD0 hC0 hDC hk3 e18 (off3 _ _ hDI hD') (hvr.up ⟨Nat.le_refl _, fun _ _ => rfl, vk3⟩) (by omega)
  exact codeAny_compStart_list (loop _ rfl) (W.self 0 _ _ _ hst₁ (loop _ rfl))
end
end Inn

end
section
set_option maxRecDepth 10000
set_option linter.unusedVariables false
namespace Inn
open PySem
variable {prog : Program} {w : World}
section
variable {c : Cx} {G : Heap → Prop} {k : Nat}

theorem intKind_is {kk : Int} {v : Value} (h : (intKind prog w).is kk v = true) : ∃ t, v = .int kk t := by
  cases v <;> simp [intKind, Value.isInt] at h
  subst h; exact ⟨_, rfl⟩

theorem iter_walk {α ρ σ} {s : Shared} {v : AV} {y : Value} {vs : List AV} {Q : Value → Shared → Prop} {E : Value → Shared → Prop} (hh : c.A.handled = none) (r : R prog w c α ρ σ s.heap) (hv : VR s.heap α σ.length v y) (hi : itemsOf v σ = some vs)
    (q : ∀ I fp P St h₁, s.heap.get? I = none → HK s.heap h₁ → Walks prog w c.A I fp [I] vs.length P St → St 0 h₁ → (∀ b ∈ fp, b < h₁.objs.size) → (∀ i h, St i h → IterAt h I) →
      (∀ j z, j < vs.length → P j z → ∃ v, vs[j]? = some v ∧ VR s.heap α σ.length v z) → vs.length ≤ 1000000 → Q (.ref I) { s with heap := h₁ }) : wpAny (model prog w) c.A (pyIter y) Q E s := by
  cases hv <;> simp only [itemsOf, reduceCtorEq] at hi
  · rename_i lo hi' a t u z hr
    split at hi
    · rename_i hok
      cases hi
      obtain ⟨⟨o1, o2, o3, o4⟩, o5⟩ := hok
      refine wpAny_pyIter_range hr (small_one o1 o2 o3 o4) ?_
      have e : Builtin.Range.rangeSize lo hi' 1 = ((hi' - lo).toNat : Int) := by rw [rangeSize_one]; split <;> omega
      have hl : (rngL lo hi').length = (hi' - lo).toNat := by simp [rngL]
      refine q s.heap.objs.size _ _ _ _ (get?_size_none _) (HK.push _ _) (by rw [hl]; exact Walks.range hh s.heap.objs.size lo 1 (hi' - lo).toNat) ?_ ?_ ?_ ?_ (by rw [hl]; omega)
      · show Heap.get? _ _ = _
        rw [Heap.get?_push_size _ rfl, e]; simp
      · intro b hb
        rw [List.mem_singleton.mp hb, Heap.size_push]; exact Nat.lt_succ_self _
      · intro i h hst
        exact ⟨_, _, _, hst, rfl, rfl, by decide⟩
      · rintro j z hj ⟨tk, rfl⟩
        rw [hl] at hj
        refine ⟨.int (lo + j), ?_, ?_⟩
        · simp [rngL, hj]
        · simpa using VR.int _ _
    · cases hi
  · rename_i i hlt
    split at hi
    · rename_i vs' e1
      cases hi
      obtain ⟨is, n1, g1, v1, l1⟩ := r.list e1
      refine wpAny_pyIter_list ⟨_, g1, rfl, _, rfl⟩ ?_
      have hne : α i ≠ s.heap.objs.size := Nat.ne_of_lt (Heap.lt_size g1)
      have hsz : is.toArray.size = vs.length := by simp [v1.length]
      refine q s.heap.objs.size _ _ _ _ (get?_size_none _) (HK.push _ _) (by rw [← hsz]; exact Walks.list hh s.heap.objs.size (α i) hne is.toArray) ?_ ?_ ?_ ?_ (by rw [v1.length]; exact l1)
      · exact ⟨⟨_, Heap.get?_push_size _ rfl, rfl, rfl⟩, ⟨_, Heap.get?_push_of_some _ g1, rfl, _, rfl⟩⟩
      · intro b hb
        rw [Heap.size_push]
        simp only [List.mem_cons, List.not_mem_nil, or_false] at hb
        rcases hb with rfl | rfl
        · exact Nat.lt_succ_self _
        · exact Nat.lt_succ_of_lt (Heap.lt_size g1)
      · rintro i h ⟨⟨o, ho, hc, hd⟩, _⟩
        exact ⟨_, _, _, ho, hd, hc, by decide⟩
      · intro j z _ hz
        have hz' : is[j]? = some z := by simpa using hz
        have hj : j < vs.length := by
          have := (List.getElem?_eq_some_iff.mp hz').1
          rw [v1.length]; exact this
        obtain ⟨z', e2, hv⟩ := v1.get j vs[j] (by simp [hj])
        rw [hz'] at e2; cases e2
        exact ⟨_, by simp [hj], hv⟩
    · rename_i kvs e1
      cases hi
      obtain ⟨xs, hd, hk, hne, hl⟩ := r.dict e1
      obtain ⟨ep, hdat⟩ := hd.dictAt
      refine wpAny_pyIter_dict (knd := intKind prog w) (by simpa using hne) hdat ?_
      have hne' : α i ≠ s.heap.objs.size := Nat.ne_of_lt hdat.lt_size
      have hsz : (kvs.map fun kv => AV.int kv.1).length = xs.length := by simp [hk.length]
      refine q s.heap.objs.size _ _ _ _ (get?_size_none _) (HK.push _ _) (by rw [hsz]; exact Walks.dictKeys (knd := intKind prog w) hh s.heap.objs.size (α i) hne' xs ep) ?_ ?_ ?_ ?_ (by rw [hsz]; exact hl)
      · exact ⟨⟨_, Heap.get?_push_size _ rfl, rfl, rfl⟩, hdat.push _⟩
      · intro b hb
        rw [Heap.size_push]
        simp only [List.mem_cons, List.not_mem_nil, or_false] at hb
        rcases hb with rfl | rfl
        · exact Nat.lt_succ_self _
        · exact Nat.lt_succ_of_lt hdat.lt_size
      · rintro i h ⟨⟨o, ho, hc, hd⟩, _⟩
        exact ⟨_, _, _, ho, hd, hc, by decide⟩
      · rintro j z _ ⟨kk, xx, hx, his⟩
        obtain ⟨t, rfl⟩ := intKind_is his
        have key : ∀ {kvs xs} (hk : KR s.heap α σ.length kvs xs) (j : Nat), xs[j]? = some (kk, xx) → (kvs.map fun kv => AV.int kv.1)[j]? = some (.int kk) := by
          intro kvs xs hk
          induction hk with
          | nil => intro j h; simp at h
          | cons a r ih =>
            intro j h
            cases j with
            | zero => simp at h; simp [h.1]
            | succ j => simp at h; simpa using ih j h
        exact ⟨_, key hk j hx, .int _ _⟩
    · cases hi

theorem off_vk {h h' : Heap} {C : Addr} {m : Str → Option Value} (hn : h.Ns C m) (hs : Heap.SameBut C h h') : VK h h' := fun b o e v => hs.extBut b o (fun hb => by
  subst hb
  obtain ⟨o', es, ep, ho, hd, _⟩ := hn
  rw [ho] at e; cases e
  rcases v with ⟨_, _, _, v⟩ | ⟨_, _, v⟩ <;> rw [hd] at v <;> cases v) e

theorem grow_list' {σ : Store} {α : Nat → Addr} {h h' : Heap} {vs : List AV} {items : List Value} {a : Addr} {ep : Nat} (k : HK h h') (hn : h.get? a = none)
    (ho : h'.get? a = some { cls := .type "list", data := .seq items.toArray ep }) (hv : VRs h' α σ.length vs items) (hl : items.length ≤ 1000000) :
    ∃ α', Grow prog w h α σ h' α' (σ ++ [.list vs]) ∧ VR h' α' (σ ++ [AO.list vs]).length (.ref σ.length) (.ref a) := by
  have u : Up h' α σ.length h' (fun i => if i = σ.length then a else α i) (σ.length + 1) := ⟨Nat.le_succ _, fun i hi => by simp [Nat.ne_of_lt hi], VK.refl _⟩
  refine ⟨_, Grow.one k hn (.list ho (hv.up u) hl), ?_⟩
  have := VR.ref (h := h') (α := fun i => if i = σ.length then a else α i) (n := (σ ++ [AO.list vs]).length) (i := σ.length) (by simp)
  simpa using this

theorem sim_ListComp {elt iter : Expr} {x : Str} {px pos : Pos} {ifs : List Expr} {scope : Scope} {src : AM AV} {ts : List (AM Bool)} {m : AM AV} (cx : CxG G k c) (co : CompOk c scope x) (hs : ∀ v, foldedSetIterable iter c.env v = pure v)
    (hsrc : Sim prog w c (eval iter c.env) src)
    (ht : ∀ cl C, CxG G k (subCx c scope cl C) → SimT prog w (subCx c scope cl C) ifs ts)
    (he : ∀ cl C, CxG G k (subCx c scope cl C) → Sim prog w (subCx c scope cl C) (eval elt (compEnvC scope cl C c.env)) m) :
    Sim prog w c (eval (.ListComp elt [⟨.Name x px, iter, ifs, 0⟩] scope pos) c.env) (aComp x src (bAnd ts) m) := by
  intro ρ σ v σ' α s Q E hm r q
  obtain ⟨a, σ1, h1, hm⟩ := abind_some hm
  obtain ⟨vs, h2, hm⟩ := bind_some' hm
  obtain ⟨us, h3, hm⟩ := bind_some' hm
  cases hm
  obtain ⟨cl, ecl, hA, hB⟩ := closure_ok (scope := scope) (env := c.env) (fun p hp hf => by
    have := co.free p hp hf
    refine cx.cells _ ?_
    cases hkd : c.env.kindOf p.1 with
    | none => rw [hkd] at this; cases this.1
    | some kd => rw [hkd] at this; cases kd <;> simp_all [isVar])
  rw [eval_ListComp]
  refine wpAny_comprehension_free (use := none) rfl hs ecl co.kind co.names ?_
  refine hsrc _ _ _ _ _ _ _ _ h1 r fun y α1 hh1 tk1 g1 v1 => ?_
  have r1 := r.grow g1
  refine iter_walk (s := { s with heap := hh1, toks := tk1 }) cx.ok.hand r1 v1 h2 fun I fp P St h₁ hI k₁ W hst hfp hIf hP hl => ?_
  refine comp_core (s := { s with heap := hh1, toks := tk1 }) (RR := fun acc C => compPost (model prog w) c.A E none Q acc C) cx co hA hB (ht cl) rfl (he cl) r1 W hI k₁ hst hfp hIf hP rfl hl h3 ?_
  intro D C h' tk' m' ys ep hD hC hDC hk hn hd hv hyl
  refine ⟨m', hn, fun h'' hs'' => ?_⟩
  have hk'' : HK hh1 h'' := fun b o e => hs''.extBut b o (fun hb => by subst hb; rw [hC] at e; cases e) (hk b o e)
  have hd'' := hs''.extBut _ _ hDC hd
  have vk : VK h' h'' := off_vk hn hs''
  obtain ⟨α', g, v⟩ := grow_list' (h := hh1) (a := D) hk'' hD hd'' (hv.up ⟨Nat.le_refl _, fun _ _ => rfl, vk⟩) hyl
  exact q _ α' h'' tk' (g1.trans g) v

/-- «y = [.. for x in ..]» -/
def sAssignC (y : Str) (x : Str) (src : AM AV) (t : AM Bool) (m : AM AV) : AS := sAssign y (aComp x src t m)
theorem simS_AssignComp {elt iter : Expr} {x y : Str} {px py pos spos : Pos} {ifs : List Expr} {scope : Scope} {src : AM AV} {ts : List (AM Bool)} {m : AM AV} (cx : CxG G k c) (st : Storable c y) (co : CompOk c scope x) (hs : ∀ v, foldedSetIterable iter c.env v = pure v)
    (hsw : swapsWith (.ListComp elt [⟨.Name x px, iter, ifs, 0⟩] scope pos) (some (.Name y py)) spos.line c.env = pure true)
    (hsrc : Sim prog w c (eval iter c.env) src)
    (ht : ∀ cl C, CxG G k (subCx c scope cl C) → SimT prog w (subCx c scope cl C) ifs ts)
    (he : ∀ cl C, CxG G k (subCx c scope cl C) → Sim prog w (subCx c scope cl C) (eval elt (compEnvC scope cl C c.env)) m) :
    SimS prog w c (exec (.Assign [.Name y py] (.ListComp elt [⟨.Name x px, iter, ifs, 0⟩] scope pos) spos) c.env) (sAssignC y x src (bAnd ts) m) := by
  intro ρ σ f ρ' σ' α s Q E hm r q
  obtain ⟨⟨v, σ2⟩, hm1, hm2⟩ := bind_some' hm
  cases hm2
  clear hm
  obtain ⟨a, σ1, h1, hm⟩ := abind_some hm1
  obtain ⟨vs, h2, hm⟩ := bind_some' hm
  obtain ⟨us, h3, hm⟩ := bind_some' hm
  cases hm
  obtain ⟨cl, ecl, hA, hB⟩ := closure_ok (scope := scope) (env := c.env) (fun p hp hf => by
    have := co.free p hp hf
    refine cx.cells _ ?_
    cases hkd : c.env.kindOf p.1 with
    | none => rw [hkd] at this; cases this.1
    | some kd => rw [hkd] at this; cases kd <;> simp_all [isVar])
  rw [exec_Assign_Name_used _ _ _ _ hsw]
  refine wpAny_bind (wpAny_standAt (wpAny_bind ?_))
  show wpAny _ _ (do let _ ← comprehension (.ListComp elt [⟨.Name x px, iter, ifs, 0⟩] scope pos) scope c.env _ (newList []) false (eval iter c.env) (some (assign (.Name y py) c.env))) _ _ s
  refine wpAny_bind (wpAny_mono (wpAny_comprehension_free (use := some (assign (.Name y py) c.env)) (Q := fun _ s' => Q .next s') rfl hs ecl co.kind co.names ?_) (fun _ s' hq => wpAny_pure (wpAny_pure hq)) fun _ _ e => e)
  refine hsrc _ _ _ _ _ _ _ _ h1 r fun y1 α1 hh1 tk1 g1 v1 => ?_
  have r1 := r.grow g1
  refine iter_walk (s := { s with heap := hh1, toks := tk1 }) cx.ok.hand r1 v1 h2 fun I fp P St h₁ hI k₁ W hst hfp hIf hP hl => ?_
  refine comp_core (s := { s with heap := hh1, toks := tk1 }) (RR := fun acc C => compPost (model prog w) c.A E (some (assign (.Name y py) c.env)) (fun _ s' => Q .next s') acc C) cx co hA hB (ht cl) rfl (he cl) r1 W hI k₁ hst hfp hIf hP rfl hl h3 ?_
  intro D C h' tk' m' ys ep hD hC hDC hk hn hd hv hyl
  obtain ⟨α', g, v⟩ := grow_list' (h := hh1) (a := D) hk hD hd hv hyl
  have r2 := r1.grow g
  show wpAny _ _ (assign (.Name y py) c.env (.ref D)) _ _ _
  have hCr : ∀ b o, hh1.get? b = some o → b ≠ C := fun b o e hb => by subst hb; rw [hC] at e; cases e
  obtain ⟨m1, cm1, e11, e21, _⟩ := id r1.env
  have hLC : C ≠ c.env.locals := fun e => by
    obtain ⟨o, _, _, ho, _⟩ := e11
    exact hCr _ _ ho e.symm
  have hcC : ∀ z, c.env.cells.lookup z ≠ some C := fun z hz => by
    obtain ⟨o, ho, _⟩ := e21 z C hz
    exact hCr _ _ ho rfl
  refine wpAny_assign_Name (store_any (s := { s with heap := h', toks := tk' }) cx.ok st r2 v fun h3 tk3 r3 u3 fk3 off3 => ?_)
  have hn3 : h3.Ns C m' := by
    obtain ⟨o, es, ep, ho, rest⟩ := hn
    exact ⟨o, es, ep, off3 _ _ ho hLC hcC, rest⟩
  refine ⟨m', hn3, fun h4 hs4 => ?_⟩
  obtain ⟨oC, esC, epC, hoC, hdC, _⟩ := id hn3
  have hne : ∀ b o, h3.get? b = some o → (∀ es ep, o.data ≠ .dict es ep) → b ≠ C := fun b o e hd hb => by
    subst hb; rw [hoC] at e; cases e; exact hd _ _ hdC
  obtain ⟨m3, cm3, e13, e23, e33, e43⟩ := r3.env
  have henv : ∃ (m cm : Str → Option Value), h4.Ns c.env.locals m ∧ (∀ x a, c.env.cells.lookup x = some a → h4.IsCell a (cm x)) ∧
      (∀ z v', upd ρ y (.ref σ1.length) z = some v' → c.env.kindOf z = some .local → ∃ y, m z = some y ∧ VR h3 α' (σ1 ++ [AO.list us]).length v' y) ∧
      (∀ z v', upd ρ y (.ref σ1.length) z = some v' → (c.env.kindOf z = some .cell ∨ c.env.kindOf z = some .free) → ∃ y, cm z = some y ∧ VR h3 α' (σ1 ++ [AO.list us]).length v' y) :=
    ⟨m3, cm3, e13.sameBut hs4 (Ne.symm hLC), fun z a hz => (e23 z a hz).sameBut hs4 fun e => hcC z (e ▸ hz), e33, e43⟩
  have hαC : ∀ i, i < (σ1 ++ [AO.list us]).length → α' i ≠ C := fun i hi e => by
    by_cases hlt : i < σ1.length
    · rw [g.agree i hlt] at e
      obtain ⟨ob, ho⟩ := r1.live i hlt
      exact hCr _ _ ho e
    · have : i = σ1.length := by simp at hi; omega
      subst this
      cases v with
      | ref hi => exact hDC e
  have h0C : c.h₀.get? C = none := by
    cases e : c.h₀.get? C with
    | none => rfl
    | some o => exact absurd rfl (hCr _ _ (r1.keep _ _ e))
  obtain ⟨r4, u4, fk4⟩ := R.sameBut (a := C) cx.ok r3 (fun b o hb e => hs4.extBut b o hb e) h0C hαC (fun o e f => by
      rw [hoC] at e; cases e
      rcases f with ⟨_, f⟩ | ⟨_, _, _, f⟩ <;> rw [hdC] at f <;> cases f) henv r3.dot
  exact q _ α' h4 tk3 r4 (((g1.up.trans g.up).trans u3).trans u4) (((g1.fk.trans g.fk).trans fk3).trans fk4) .next
end
end Inn

end
section
set_option maxRecDepth 10000
set_option linter.unusedVariables false
namespace Inn
open PySem PySem.SeqAt
variable {prog : Program} {w : World}

/-! ### == -/
def pairsEq (f : AV → AV → Option Bool) : List AV → List AV → Option Bool
  | v :: vs, u :: us => (f v u).bind fun a => (pairsEq f vs us).map fun b => a && b
  | _, _ => some true
def dictEq (f : AV → AV → Option Bool) (kws : List (Int × AV)) : List (Int × AV) → Option Bool
  | [] => some true
  | (k, v) :: r => match look kws k with
    | none => some false
    | some u => (f v u).bind fun a => (dictEq f kws r).map fun b => a && b
def aEq : Nat → Store → AV → AV → Option Bool
  | 0, _, _, _ => none
  | n + 1, σ, v, u => match v, u with
    | .int a, .int b => some (a == b)
    | .bool a, .bool b => some (a == b)
    | .none, .none => some true
    | .none, .int _ => some false
    | .int _, .none => some false
    | .tup vs, .tup us => (pairsEq (aEq n σ) vs us).map fun b => b && vs.length == us.length
    | .ref i, .ref j => (match σ[i]?, σ[j]? with
      | some (.list vs), some (.list us) => if vs.length = us.length then pairsEq (aEq n σ) vs us else some false
      | some (.dict ka), some (.dict kb) => if ka.length = kb.length then dictEq (aEq n σ) kb ka else some false
      | _, _ => none)
    | _, _ => none

theorem pairs_any {p w p' w'} {es : List DictEntry} {kvs : List (Int × Value)} (h : Pairs (intKind p w) es kvs) : Pairs (intKind p' w') es kvs := by
  induction h with
  | nil => exact .nil
  | cons a b _ ih => exact .cons a b ih
theorem dictOf_any {p w p' w'} {h : Heap} {a : Addr} {kvs : List (Int × Value)} (d : h.DictOf (intKind p w) a kvs) : h.DictOf (intKind p' w') a kvs := by
  obtain ⟨o, es, ep, ho, hx, hd, hk, hp, hn⟩ := d
  exact ⟨o, es, ep, ho, hx, hd, hk, pairs_any hp, hn⟩

theorem VR.inv_ref {h α n i x} (r : VR h α n (.ref i) x) : i < n ∧ x = .ref (α i) := by cases r with | ref hi => exact ⟨hi, rfl⟩
theorem VR.inv_int {h α n i x} (r : VR h α n (.int i) x) : ∃ t, x = .int i t := by cases r with | int _ t => exact ⟨t, rfl⟩
theorem VR.inv_bool {h α n b x} (r : VR h α n (.bool b) x) : x = .bool b := by cases r; rfl
theorem VR.inv_none {h α n x} (r : VR h α n .none x) : x = .none := by cases r; rfl
theorem VR.inv_tup {h α n vs x} (r : VR h α n (.tup vs) x) : ∃ a items, x = .ref a ∧ h.get? a = some (tupObj items) ∧ VRs h α n vs items := by cases r with | tup e r => exact ⟨_, _, rfl, e, r⟩

theorem SR.list {α σ h i vs} (r : SR prog w α σ h) (e : σ[i]? = some (.list vs)) :
    ∃ items ep, h.get? (α i) = some { cls := .type "list", data := .seq (items : List Value).toArray ep } ∧ VRs h α σ.length vs items ∧ items.length ≤ 1000000 := by
  cases r.objs i _ e with
  | list a b c => exact ⟨_, _, a, b, c⟩
theorem SR.dict {α σ h i kvs} (r : SR prog w α σ h) (e : σ[i]? = some (.dict kvs)) :
    ∃ xs, h.DictOf (intKind prog w) (α i) xs ∧ KR h α σ.length kvs xs ∧ α i ≠ sysModules ∧ xs.length ≤ 1000000 := by
  cases r.objs i _ e with
  | dict a b c d => exact ⟨_, a, b, c, d⟩

theorem KR.keys {h α n} : ∀ {vs xs}, KR h α n vs xs → vs.map (·.1) = xs.map (·.1)
  | _, _, .nil => rfl
  | _, _, .cons _ r => by simp [r.keys]
theorem look_self {kvs : List (Int × AV)} (hn : (kvs.map (·.1)).Nodup) : ∀ p ∈ kvs, look kvs p.1 = some p.2 := by
  induction kvs with
  | nil => intro p hp; cases hp
  | cons a r ih =>
    intro p hp
    simp only [List.map_cons, List.nodup_cons] at hn
    rcases List.mem_cons.mp hp with rfl | hp
    · simp [look]
    · have hne : ¬ a.1 = p.1 := fun e => hn.1 (e ▸ List.mem_map_of_mem hp)
      simp only [look, List.find?_cons, hne, decide_false]
      exact ih hn.2 p hp
theorem KR.mem {h α n} : ∀ {vs xs}, KR h α n vs xs → ∀ p ∈ vs, ∃ x, VR h α n p.2 x
  | _, _, .nil, p, hp => by cases hp
  | _, _, .cons a r, p, hp => by
    rcases List.mem_cons.mp hp with rfl | hp
    · exact ⟨_, a⟩
    · exact r.mem p hp

theorem same_true {α σ h} (sr : SR prog w α σ h) : ∀ (n : Nat) (v u : AV) (x : Value) (b : Bool), aEq n σ v u = some b → VR h α σ.length v x → VR h α σ.length u x → b = true
  | 0, v, u, x, b, e, _, _ => by cases e
  | n + 1, v, u, x, b, e, hv, hu => by
    have pl : ∀ (vs us : List AV) (xs : List Value) (b : Bool), VRs h α σ.length vs xs → VRs h α σ.length us xs → pairsEq (aEq n σ) vs us = some b → b = true := by
      intro vs
      induction vs with
      | nil => intro us xs b _ _ e; cases us <;> (cases e; rfl)
      | cons v vs ih =>
        intro us xs b h1 h2 e
        cases h1 with
        | cons a1 r1 =>
        cases h2 with
        | cons a2 r2 =>
        obtain ⟨b1, e1, e⟩ := bind_some' e
        obtain ⟨b2, e2, e⟩ := map_some' e
        rw [← e, same_true sr n _ _ _ _ e1 a1 a2, ih _ _ _ r1 r2 e2]; rfl
    unfold aEq at e
    split at e <;> try simp only [Option.some.injEq] at e
    · obtain ⟨t, rfl⟩ := hv.inv_int; obtain ⟨t', hx⟩ := hu.inv_int; cases hx; rw [← e]; simp
    · have := hv.inv_bool; subst this; have := hu.inv_bool; cases this; rw [← e]; simp
    · exact e.symm
    · have := hv.inv_none; subst this; obtain ⟨t', hx⟩ := hu.inv_int; cases hx
    · have := hu.inv_none; subst this; obtain ⟨t', hx⟩ := hv.inv_int; cases hx
    · obtain ⟨a, items, rfl, g1, r1⟩ := hv.inv_tup
      obtain ⟨a', items', hx, g2, r2⟩ := hu.inv_tup
      cases hx
      rw [g1] at g2
      have : items = items' := by injection g2 with g2; injection g2 with _ _ g2; injection g2 with g2; simpa using g2
      subst this
      obtain ⟨b1, e1, e⟩ := map_some' e
      rw [← e, pl _ _ _ _ r1 r2 e1, r1.length, r2.length]; simp
    · rename_i i j
      obtain ⟨hi, rfl⟩ := hv.inv_ref
      obtain ⟨hj, hx⟩ := hu.inv_ref
      injection hx with hx
      have : i = j := sr.inj i j hi hj hx
      subst this
      split at e
      · rename_i vs us e1 e2
        rw [e1] at e2; cases e2
        obtain ⟨is, n1, g1, v1, l1⟩ := sr.list e1
        rw [if_pos rfl] at e
        exact pl _ _ _ _ v1 v1 e
      · rename_i ka kb e1 e2
        rw [e1] at e2; cases e2
        rw [if_pos rfl] at e
        obtain ⟨xs, hd, hk, _⟩ := sr.dict e1
        have hnd : (ka.map (·.1)).Nodup := by
          rw [hk.keys]
          obtain ⟨_, _, _, _, _, _, _, _, hn⟩ := hd
          exact hn
        have key : ∀ (r : List (Int × AV)) (b : Bool), (∀ p ∈ r, p ∈ ka) → dictEq (aEq n σ) ka r = some b → b = true := by
          intro r
          induction r with
          | nil => intro b _ e; cases e; rfl
          | cons p r ih =>
            intro b hsub e
            unfold dictEq at e
            rw [look_self hnd p (hsub p (.head _))] at e
            obtain ⟨b1, e1, e⟩ := bind_some' e
            obtain ⟨b2, e2, e⟩ := map_some' e
            obtain ⟨x, hx⟩ := hk.mem p (hsub p (.head _))
            rw [← e, same_true sr n _ _ _ _ e1 hx hx, ih _ (fun q hq => hsub q (.tail _ hq)) e2]; rfl
        exact key _ _ (fun _ h => h) e
      · cases e
    · cases e

theorem pairs_all {f : AV → AV → Option Bool} : ∀ {vs us : List AV} {b : Bool}, pairsEq f vs us = some b →
    (∀ (j : Nat) v u, vs[j]? = some v → us[j]? = some u → ∃ bj, f v u = some bj) ∧ b = (List.range (min vs.length us.length)).all (fun j => (f (vs.getD j .none) (us.getD j .none)).getD false)
  | [], us, b, e => by
    cases e
    exact ⟨fun j v u hv => by simp at hv, by simp⟩
  | v :: vs, [], b, e => by
    cases e
    exact ⟨fun j v u _ hu => by simp at hu, by simp⟩
  | v :: vs, u :: us, b, e => by
    obtain ⟨b1, e1, e⟩ := bind_some' e
    obtain ⟨b2, e2, e⟩ := map_some' e
    obtain ⟨h1, h2⟩ := pairs_all e2
    refine ⟨fun j v' u' hv hu => ?_, ?_⟩
    · cases j with
      | zero => simp at hv hu; subst hv hu; exact ⟨_, e1⟩
      | succ j => simp at hv hu; exact h1 j v' u' hv hu
    · have hmin : min (v :: vs).length (u :: us).length = min vs.length us.length + 1 := by simp only [List.length_cons]; omega
      rw [hmin, List.range_succ_eq_map, List.all_cons, List.all_map, ← e, h2]
      simp only [List.getD_cons_zero, e1, Option.getD_some]
      rfl

theorem KR.look_none {h α n} : ∀ {vs xs}, KR h α n vs xs → ∀ {k : Int}, Inn.look vs k = none → valueAt xs k = none
  | _, _, .nil, k, e => rfl
  | _, _, .cons (k := k') (v := v') (x := x') a r, k, e => by
    by_cases hk : k' = k
    · subst hk
      simp [Inn.look] at e
    · rename_i vs' _
      have e' : Inn.look vs' k = none := by
        simp only [Inn.look, List.find?_cons, hk, decide_false] at e
        exact e
      simp only [valueAt, List.find?_cons, hk, decide_false]
      exact r.look_none e'

theorem eq_at {α σ} : ∀ (n : Nat) (v u : AV) (x y : Value) (b : Bool) (A : Around) (s : Shared), SR prog w α σ s.heap → aEq n σ v u = some b → VR s.heap α σ.length v x → VR s.heap α σ.length u y → A.units + n < cLine →
    EqAt A s x y b ∧ RcAt A s x y b ∧ RcNeAt A s x y (!b)
  | 0, v, u, x, y, b, A, s, sr, e, _, _, _ => by cases e
  | n + 1, v, u, x, y, b, A, s, sr, e, hv, hu, hA => by
    have e₀ := e
    have hu0 : A.units < cLine := by omega
    have hin : A.in1.units + n < cLine := by show A.units + 1 + n < cLine; omega
    have ofRc : ∀ {l l' : Addr} {k : Bool}, x = .ref l → y = .ref l' → RcAt A s x y b → EqAt A s x y b := by
      intro l l' k hx hy h
      subst hx hy
      by_cases hne : l = l'
      · subst hne
        have := same_true sr (n + 1) v u _ b e₀ hv hu
        subst this
        exact EqAt.same _
      · exact EqAt.of_refs hne h
    have pl : ∀ {vs us : List AV} {xs ys : List Value} {b : Bool}, VRs s.heap α σ.length vs xs → VRs s.heap α σ.length us ys → pairsEq (aEq n σ) vs us = some b →
        ∀ j (h1 : j < xs.toArray.size) (h2 : j < ys.toArray.size), EqAt A.in1 s xs.toArray[j] ys.toArray[j] ((aEq n σ (vs.getD j .none) (us.getD j .none)).getD false) := by
      intro vs us xs ys b h1 h2 e j hj1 hj2
      have hj1' : j < vs.length := by rw [h1.length]; simpa using hj1
      have hj2' : j < us.length := by rw [h2.length]; simpa using hj2
      obtain ⟨bj, ebj⟩ := (pairs_all e).1 j vs[j] us[j] (by simp [hj1']) (by simp [hj2'])
      obtain ⟨x', ex, vx⟩ := h1.get j vs[j] (by simp [hj1'])
      obtain ⟨y', ey, vy⟩ := h2.get j us[j] (by simp [hj2'])
      have e1 : vs.getD j .none = vs[j] := by simp [List.getD, hj1']
      have e2 : us.getD j .none = us[j] := by simp [List.getD, hj2']
      rw [e1, e2, ebj]
      have e3 : xs.toArray[j] = x' := by
        have := (List.getElem?_eq_some_iff.mp ex).2
        simpa using this
      have e4 : ys.toArray[j] = y' := by
        have := (List.getElem?_eq_some_iff.mp ey).2
        simpa using this
      rw [e3, e4]
      exact (eq_at n _ _ _ _ _ _ _ sr ebj vx vy hin).1
    unfold aEq at e
    split at e <;> try simp only [Option.some.injEq] at e
    · obtain ⟨t, rfl⟩ := hv.inv_int; obtain ⟨t', rfl⟩ := hu.inv_int
      subst e
      exact ⟨EqAt.int_int _ _ _ _, RcAt.int_int _ _ _ _, RcNeAt.int_int _ _ _ _⟩
    · have := hv.inv_bool; subst this; have := hu.inv_bool; subst this
      subst e
      exact ⟨EqAt.bool_bool _ _, RcAt.bool_bool _ _, RcNeAt.bool_bool _ _⟩
    · have := hv.inv_none; subst this; have := hu.inv_none; subst this
      subst e
      exact ⟨EqAt.same _, RcAt.none_none, RcNeAt.none_none⟩
    · have := hv.inv_none; subst this; obtain ⟨t', rfl⟩ := hu.inv_int
      subst e
      exact ⟨EqAt.none_int _ _, RcAt.none_int _ _, RcNeAt.none_int _ _⟩
    · have := hu.inv_none; subst this; obtain ⟨t', rfl⟩ := hv.inv_int
      subst e
      exact ⟨EqAt.int_none _ _, RcAt.int_none _ _, RcNeAt.int_none _ _⟩
    · rename_i vs us
      obtain ⟨a, items, hx, g1, r1⟩ := hv.inv_tup
      obtain ⟨a', items', hy, g2, r2⟩ := hu.inv_tup
      obtain ⟨b1, e1, e⟩ := map_some' e
      have hb : b = ((List.range (min items.toArray.size items'.toArray.size)).all (fun j => (aEq n σ (vs.getD j .none) (us.getD j .none)).getD false) && items.toArray.size == items'.toArray.size) := by
        rw [← e, (pairs_all e1).2, r1.length, r2.length]
        simp
      have hl : s.heap.IsTuple a items.toArray := ⟨_, g1, rfl, _, rfl⟩
      have hl' : s.heap.IsTuple a' items'.toArray := ⟨_, g2, rfl, _, rfl⟩
      have rc : RcAt A s x y b := by rw [hx, hy, hb]; exact RcAt.tuples hl hl' hu0 (pl r1 r2 e1)
      refine ⟨ofRc (k := true) hx hy rc, rc, ?_⟩
      rw [hx, hy, hb]; exact RcNeAt.tuples hl hl' hu0 (pl r1 r2 e1)
    · rename_i i j
      obtain ⟨hi, hx⟩ := hv.inv_ref
      obtain ⟨hj, hy⟩ := hu.inv_ref
      split at e
      · rename_i vs us e1 e2
        obtain ⟨is, n1, g1, v1, l1⟩ := sr.list e1
        obtain ⟨js, n2, g2, v2, l2⟩ := sr.list e2
        have hl : s.heap.IsList (α i) is.toArray := ⟨_, g1, rfl, _, rfl⟩
        have hl' : s.heap.IsList (α j) js.toArray := ⟨_, g2, rfl, _, rfl⟩
        split at e
        · rename_i hlen
          have hsz : is.toArray.size = js.toArray.size := by simp only [List.size_toArray]; rw [← v1.length, ← v2.length]; exact hlen
          have hb : b = (List.range is.toArray.size).all (fun j => (aEq n σ (vs.getD j .none) (us.getD j .none)).getD false) := by
            rw [(pairs_all e).2, List.size_toArray, ← v1.length, ← hlen, Nat.min_self]
          have rc : RcAt A s x y b := by rw [hx, hy, hb]; exact RcAt.lists hl hl' hsz hu0 (pl v1 v2 e)
          refine ⟨ofRc (k := true) hx hy rc, rc, ?_⟩
          rw [hx, hy, hb]; exact RcNeAt.lists hl hl' hsz hu0 (pl v1 v2 e)
        · rename_i hlen
          cases e
          have hsz : (is.toArray.size != js.toArray.size) = true := by simp only [List.size_toArray]; rw [← v1.length, ← v2.length]; simpa using hlen
          have rc : RcAt A s x y false := by rw [hx, hy]; exact RcAt.lists_lengths hl hl' hsz hu0
          refine ⟨ofRc (k := true) hx hy rc, rc, ?_⟩
          rw [hx, hy]; exact RcNeAt.lists_lengths hl hl' hsz hu0
      · rename_i ka kb e1 e2
        obtain ⟨xa, da, hka, hna, hla⟩ := sr.dict e1
        obtain ⟨xb, db, hkb, hnb, hlb⟩ := sr.dict e2
        have hits : ∀ {r xr b}, KR s.heap α σ.length r xr → dictEq (aEq n σ) kb r = some b → PySem.W.KeqHits A.in1 s xb xr b := by
          intro r xr b hr
          induction hr generalizing b with
          | nil => intro e; cases e; exact .nil
          | cons hv hr ih =>
            intro e
            unfold dictEq at e
            split at e
            · rename_i hnone
              cases e
              exact .miss (hkb.look_none hnone)
            · rename_i u' hsome
              obtain ⟨b1, e1, e⟩ := bind_some' e
              obtain ⟨b2, e2, e⟩ := map_some' e
              obtain ⟨y', hy', vy'⟩ := hkb.look hsome
              rw [← e]
              exact .hit hy' (eq_at n _ _ _ _ _ _ _ sr e1 hv vy' hin).1 (ih e2)
        have hma : (α i == sysModules) = false := by simpa using hna
        have hmb : (α j == sysModules) = false := by simpa using hnb
        have key : ∃ r, (xa.length = xb.length → PySem.W.KeqHits A.in1 s xb xa r) ∧ b = (xa.length == xb.length && r) := by
          have hl : ka.length = xa.length := hka.length
          have hl' : kb.length = xb.length := hkb.length
          split at e
          · rename_i hlen
            exact ⟨b, fun _ => hits hka e, by rw [← hl, ← hl', hlen]; simp⟩
          · rename_i hlen
            cases e
            exact ⟨true, fun h => absurd (by rw [hl, hl']; exact h) hlen, by rw [← hl, ← hl']; simpa using hlen⟩
        obtain ⟨r, hr, hb⟩ := key
        have rc : RcAt A s x y b := by
          rw [hx, hy, hb]
          intro p' w' E Q h
          exact PySem.W.keq_eq (knd := intKind p' w') hma hmb (dictOf_any da) (dictOf_any db) hu0 hr h
        refine ⟨ofRc (k := true) hx hy rc, rc, ?_⟩
        rw [hx, hy, hb]
        intro p' w' E Q h
        exact PySem.W.keq_ne (knd := intKind p' w') hma hmb (dictOf_any da) (dictOf_any db) hu0 hr h
      · cases e
    · cases e

def cEq (a b : AV) (σ : Store) : Option Bool := aEq 6 σ a b
def cNe (a b : AV) (σ : Store) : Option Bool := (aEq 6 σ a b).map (!·)
theorem cmp_eq {c : Cx} {k : Nat} (lv : Lvl k c.A) : Cmp2 prog w c (compareOp .Eq) cEq := by
  intro a b x y α ρ σ v s Q E hf r ha hb q
  exact (eq_at 6 _ _ _ _ _ _ _ r.sr hf ha hb (by have := lv.2.2; omega)).2.1 prog w E Q (q s.toks)
theorem cmp_ne {c : Cx} {k : Nat} (lv : Lvl k c.A) : Cmp2 prog w c (compareOp .NotEq) cNe := by
  intro a b x y α ρ σ v s Q E hf r ha hb q
  obtain ⟨b', e1, rfl⟩ := map_some' hf
  exact (eq_at 6 _ _ _ _ _ _ _ r.sr e1 ha hb (by have := lv.2.2; omega)).2.2 prog w E Q (q s.toks)
end Inn

end
section
set_option maxRecDepth 10000
set_option linter.unusedVariables false
namespace Inn
open PySem
variable {prog : Program} {w : World}
section
variable {c : Cx} {G : Heap → Prop} {k : Nat}

/-! ### list(..) -/
def bList : FnM
  | [.ref i], σ => (match σ[i]? with
    | some (.list vs) => some (.ref σ.length, σ ++ [.list vs])
    | some (.dict kvs) => some (.ref σ.length, σ ++ [.list (kvs.map fun kv => .int kv.1)])
    | none => none)
  | [.vals i], σ => (match σ[i]? with
    | some (.dict kvs) => some (.ref σ.length, σ ++ [.list (kvs.map (·.2))])
    | _ => none)
  | [.rng lo hi], σ => if rangeOk lo hi ∧ hi - lo ≤ 1000000 then some (.ref σ.length, σ ++ [.list (rngL lo hi)]) else none
  | [.tup vs], σ => if vs.length ≤ 1000000 then some (.ref σ.length, σ ++ [.list vs]) else none
  | _, _ => none

theorem vrs_of {h α n} : ∀ (vs : List AV) (xs : List Value), vs.length = xs.length → (∀ (j : Nat) x, xs[j]? = some x → ∃ v, vs[j]? = some v ∧ VR h α n v x) → VRs h α n vs xs
  | [], [], _, _ => .nil
  | v :: vs, x :: xs, hl, hp => by
    refine .cons ?_ (vrs_of vs xs (by simpa using hl) fun j y hy => ?_)
    · obtain ⟨v', e, h⟩ := hp 0 x rfl
      simp at e; subst e; exact h
    · obtain ⟨v', e, h⟩ := hp (j + 1) y (by simpa using hy)
      exact ⟨v', by simpa using e, h⟩

theorem KR.keysOf {h α n} : ∀ {vs xs}, KR h α n vs xs → vs.map (·.1) = xs.map (·.1)
  | _, _, .nil => rfl
  | _, _, .cons _ r => by simp [r.keysOf]
theorem KR.key {h α n} : ∀ {kvs xs}, KR h α n kvs xs → ∀ (j : Nat) (kk : Int) (xx : Value), xs[j]? = some (kk, xx) → ∃ v, kvs[j]? = some (kk, v) ∧ VR h α n v xx
  | _, _, .nil, j, kk, xx, e => by simp at e
  | _, _, .cons a r, 0, kk, xx, e => by simp at e; obtain ⟨rfl, rfl⟩ := e; exact ⟨_, rfl, a⟩
  | _, _, .cons a r, j + 1, kk, xx, e => by simp at e; simpa using r.key j kk xx e

theorem op_list (lv : Lvl k c.A) : OpN prog w c (fun xs => call (.type "list") xs) bList := by
  intro vs xs α ρ σ v σ' s Q E hm r hv q
  unfold bList at hm
  split at hm
  · cases hv with
    | cons hv hn =>
    cases hn
    cases hv with
    | ref hi =>
    split at hm
    · rename_i vs e1
      cases hm
      obtain ⟨is, n1, g1, v1, l1⟩ := r.list e1
      refine call_list_seq _ (.inl rfl) g1 rfl rfl (fun h' c' k hg => ?_) (le_sizeLine (by simpa using l1))
      obtain ⟨α', g, v⟩ := grow_list (a := s.heap.objs.size) r k (get?_size_none _) hg v1 l1
      exact q _ α' h' s.toks g v
    · rename_i kvs e1
      cases hm
      obtain ⟨ys, hd, hk, hne, hl⟩ := r.dict e1
      obtain ⟨ep, hdat⟩ := hd.dictAt
      refine PySem.W.kdl_call (PySem.W.kdl_dict (knd := intKind prog w) (kvs := ys) (ep := ep) (by simpa using hne)) lv.1 hdat (le_sizeLine hl) fun h' tk acc c' k hg hit => ?_
      have hv : VRs s.heap α σ.length (kvs.map fun kv => AV.int kv.1) acc.toList := by
        refine vrs_of _ _ (by have := hit.1; simp [hk.length]; omega) fun j x hx => ?_
        obtain ⟨kk, xx, e2, his⟩ := hit.2 j x (by simpa using hx)
        obtain ⟨t, rfl⟩ := intKind_is his
        obtain ⟨v, e3, _⟩ := hk.key j kk xx e2
        exact ⟨.int kk, by simp [e3], .int _ _⟩
      obtain ⟨α', g, v⟩ := grow_list (a := s.heap.objs.size) (ep := c') (items := acc.toList) r k (get?_size_none _) (by simpa using hg) hv (by have := hit.1; simp; omega)
      exact q _ α' h' tk g v
    · cases hm
  · cases hv with
    | cons hv hn =>
    cases hn
    cases hv with
    | vals hi hw =>
    split at hm
    · rename_i kvs e1
      cases hm
      obtain ⟨ys, hd, hk, hne, hl⟩ := r.dict e1
      obtain ⟨ep, hdat⟩ := hd.dictAt
      refine PySem.W.kdl_call (PySem.W.kdl_values (knd := intKind prog w) (kvs := ys) (ep := ep)) lv.1 ⟨hw, hdat⟩ (le_sizeLine hl) fun h' tk acc c' k hg hit => ?_
      have hv : VRs s.heap α σ.length (kvs.map (·.2)) acc.toList := by
        refine vrs_of _ _ (by have := hit.1; simp [hk.length]; omega) fun j x hx => ?_
        obtain ⟨kk, e2⟩ := hit.2 j x (by simpa using hx)
        obtain ⟨v, e3, hvx⟩ := hk.key j kk x e2
        exact ⟨v, by simp [e3], hvx⟩
      obtain ⟨α', g, v⟩ := grow_list (a := s.heap.objs.size) (ep := c') (items := acc.toList) r k (get?_size_none _) (by simpa using hg) hv (by have := hit.1; simp; omega)
      exact q _ α' h' tk g v
    · cases hm
  · rename_i lo hi
    split at hm
    · rename_i hok
      cases hm
      cases hv with
      | cons hv hn =>
      cases hn
      cases hv with
      | rng hr =>
      obtain ⟨⟨o1, o2, o3, o4⟩, o5⟩ := hok
      have e : Builtin.Range.rangeSize lo hi 1 = ((hi - lo).toNat : Int) := by rw [rangeSize_one]; split <;> omega
      refine call_list_range lv.1 hr (small_one o1 o2 o3 o4) e (by omega) fun h' tk acc c' k hg hit => ?_
      have hv : VRs s.heap α σ.length (rngL lo hi) acc.toList := by
        refine vrs_of _ _ (by have := hit.1; simp [rngL]; omega) fun j x hx => ?_
        have hj : j < (hi - lo).toNat := by
          have := (List.getElem?_eq_some_iff.mp hx).1
          have := hit.1
          simp at *; omega
        obtain ⟨t, rfl⟩ := hit.2 j x (by simpa using hx)
        exact ⟨.int (lo + j), by simp [rngL, hj], by simpa using VR.int _ _⟩
      obtain ⟨α', g, v⟩ := grow_list (a := s.heap.objs.size) (ep := c') (items := acc.toList) r k (get?_size_none _) (by simpa using hg) hv (by have := hit.1; simp; omega)
      exact q _ α' h' tk g v
    · cases hm
  · split at hm
    · rename_i hlen
      cases hm
      cases hv with
      | cons hv hn =>
      cases hn
      cases hv with
      | tup e1 v1 =>
      have l1 := hlen
      rw [v1.length] at l1
      refine call_list_seq _ (.inr rfl) e1 rfl rfl (fun h' c' k hg => ?_) (le_sizeLine (by simpa using l1))
      obtain ⟨α', g, v⟩ := grow_list (a := s.heap.objs.size) r k (get?_size_none _) hg v1 l1
      exact q _ α' h' s.toks g v
    · cases hm
  · cases hm

/-! ### isinstance(.., T) -/
def isi (T : String) (v : AV) (σ : Store) : Option Bool := match v with
  | .int _ => if T = "int" then some true else if T = "bool" then some false else none
  | .bool _ => if T = "int" then some true else if T = "bool" then some true else none
  | .tup _ => if T = "tuple" then some true else none
  | .ref i => (match σ[i]? with
    | some (.list _) => if T = "list" then some true else none
    | some (.dict _) => if T = "dict" then some true else none
    | none => none)
  | _ => none
def aIsi (T : String) (m : AM AV) : AM AV := abind m fun v => fun _ σ => (isi T v σ).map fun b => (.bool b, σ)

theorem isi_any {α ρ σ} {s : Shared} {T : String} {v : AV} {x : Value} {b : Bool} {Q : Value → Shared → Prop} {E : Value → Shared → Prop} (hm : isi T v σ = some b) (r : R prog w c α ρ σ s.heap) (hv : VR s.heap α σ.length v x)
    (q : ∀ tk', Q (.bool b) { s with toks := tk' }) : wpAny (model prog w) c.A (call (.builtin "isinstance") [x, .type T]) Q E s := by
  unfold isi at hm
  split at hm
  · cases hv
    split at hm
    · rename_i h; subst h; cases hm; exact IsiPair.int_int (q s.toks)
    · split at hm
      · rename_i h; subst h; cases hm; exact IsiPair.int_bool (q _)
      · cases hm
  · cases hv
    split at hm
    · rename_i h; subst h; cases hm; exact IsiPair.bool_int (q s.toks)
    · split at hm
      · rename_i h; subst h; cases hm; exact IsiPair.bool_bool (q s.toks)
      · cases hm
  · cases hv with
    | tup e1 _ =>
    split at hm
    · rename_i h; subst h; cases hm; exact IsiPair.tuple_tuple e1 rfl (q s.toks)
    · cases hm
  · cases hv with
    | ref hi =>
    split at hm
    · rename_i vs e1
      split at hm
      · rename_i h; subst h; cases hm
        obtain ⟨is, n1, g1, v1, l1⟩ := r.list e1
        exact IsiPair.list_list g1 rfl (q s.toks)
      · cases hm
    · rename_i kvs e1
      split at hm
      · rename_i h; subst h; cases hm
        obtain ⟨ys, ⟨o, _, _, ho, hx, _⟩, _⟩ := r.dict e1
        exact IsiPair.dict_dict ho hx.1 (q s.toks)
      · cases hm
    · cases hm
  · cases hm

theorem sim_isinstance {np tp pos : Pos} {e : Expr} {T : String} {tn : Str} {m : AM AV} (cx : CxG G k c) (hx : c.env.kindOf "isinstance" = some .globalImplicit) (ht : c.env.kindOf tn = some .globalImplicit) (hd : (tn == ("__debug__" : Str)) = false)
    (g : Gl G "isinstance" (.builtin "isinstance")) (gt : Gl G tn (.type T)) (h : Sim prog w c (eval e c.env) m) (he : ∀ r, starEach (e :: r) c.env = (false, eval e c.env) :: starEach r c.env) :
    Sim prog w c (eval (.Call (.Name "isinstance" np) [e, .Name tn tp] [] pos) c.env) (aIsi T m) := by
  intro ρ σ v σ' α s Q E hm r q
  obtain ⟨a, σ1, h1, hm⟩ := abind_some hm
  obtain ⟨b, h2, hm⟩ := map_some' hm
  cases hm
  refine wpAny_Call_ofName (load_gl cx hx (by decide) g r ?_)
  have hb : backTo pos (starEach [e, .Name tn tp] c.env) = [(false, eval e c.env), (false, eval (.Name tn tp) c.env)] := by rw [he]; rfl
  show wpAny _ _ (callWith pos (.builtin "isinstance") [] (backTo pos (starEach [e, .Name tn tp] c.env)) []) _ _ _
  rw [hb]
  refine Calls.callWith_builtin rfl (Calls.evalArgs_plain (Calls.spliced_cons (h _ _ _ _ _ _ _ _ h1 r fun x α1 hh1 tk1 g1 v1 => ?_)))
  refine Calls.spliced_cons (load_gl (s := { s with heap := hh1, toks := tk1 }) cx ht hd gt (r.grow g1) (Calls.spliced_nil ?_))
  exact isi_any (s := { s with heap := hh1, toks := tk1 }) h2 (r.grow g1) v1 fun tk2 => q _ α1 hh1 tk2 g1 (.bool _)

/-! ### changes of an own object -/
theorem R.change {α ρ σ h h'} {i : Nat} {o : AO} (ok : Ok c) (r : R prog w c α ρ σ h) (hi : i < σ.length) (h0 : c.n₀ ≤ i) (hs : Heap.SameBut (α i) h h') (ho : OR prog w h' α σ.length o (α i)) :
    R prog w c α ρ (σ.set i o) h' ∧ Up h α σ.length h' α (σ.set i o).length ∧ FK h h' := by
  obtain ⟨ob, hob, hnf, hnc⟩ := (r.objs i σ[i] (by simp [hi])).some
  obtain ⟨m, cm, e1, e2, e3, e4⟩ := r.env
  have fk : FK h h' := fun b o e f => hs.extBut b o (fun q => by subst q; rw [hob] at e; cases e; exact hnf f) e
  have u : Up h α σ.length h' α (σ.set i o).length := ⟨by simp, fun _ _ => rfl, fk.vk⟩
  refine ⟨⟨fun b ob' e => hs.extBut b ob' (fun q => by
      subst q
      have := r.own i h0 hi
      rw [this] at e; cases e) (r.keep b ob' e), ⟨m, cm, e1.sameBut hs (fun q => r.apart i hi q.symm), fun x a hx => (e2 x a hx).sameBut hs (fun q => by
      obtain ⟨o', ho', hd'⟩ := e2 x a hx
      rw [q, hob] at ho'; cases ho'; exact hnc _ hd'), fun x v hx hk => let ⟨y, hy, hv⟩ := e3 x v hx hk; ⟨y, hy, hv.up u⟩, fun x v hx hk => let ⟨y, hy, hv⟩ := e4 x v hx hk; ⟨y, hy, hv.up u⟩⟩, r.dot, fun j o' e => ?_, ?_, ?_, ?_⟩, u, fk⟩
  · rw [List.length_set]
    by_cases hj : j = i
    · subst hj
      rw [List.getElem?_set_self hi] at e
      cases e
      exact ho
    · rw [List.getElem?_set_ne (Ne.symm hj)] at e
      have hjl : j < σ.length := (List.getElem?_eq_some_iff.mp e).1
      have hne : α j ≠ α i := fun q => hj (r.inj j i hjl hi q)
      refine (r.objs j o' e).up ⟨Nat.le_refl _, fun _ _ => rfl, fk.vk⟩ fun ob' ho' => hs.extBut _ _ hne ho'
  · simpa using r.inj
  · simpa using r.own
  · simpa using r.apart

/-- a dict with one more key, or another value -/
def put (kvs : List (Int × AV)) (k : Int) (v : AV) : List (Int × AV) :=
  if kvs.any (fun kv => decide (kv.1 = k)) then kvs.map (fun kv => if kv.1 = k then (kv.1, v) else kv) else kvs ++ [(k, v)]
theorem KR.append {h α n} : ∀ {a x b y}, KR h α n a x → KR h α n b y → KR h α n (a ++ b) (x ++ y)
  | _, _, _, _, .nil, r => r
  | _, _, _, _, .cons p q, r => .cons p (q.append r)
theorem KR.put {h α n} {kvs xs} {k : Int} {v : AV} {x : Value} (r : KR h α n kvs xs) (hv : VR h α n v x) : KR h α n (Inn.put kvs k v) (stored xs k x) := by
  have hany : kvs.any (fun kv => decide (kv.1 = k)) = xs.any (fun kv => decide (kv.1 = k)) := by
    have := congrArg (fun l : List Int => l.any fun a => decide (a = k)) r.keysOf
    simpa [List.any_map, Function.comp_def] using this
  unfold Inn.put stored
  rw [hany]
  split
  · clear hany
    rename_i h0; clear h0
    induction r with
    | nil => exact .nil
    | @cons k' v' x' vs xs a _ ih =>
      simp only [List.map_cons]
      by_cases hk : k' = k
      · rw [if_pos hk, if_pos hk]; exact .cons hv ih
      · rw [if_neg hk, if_neg hk]; exact .cons a ih
  · exact r.append (.cons hv .nil)

/-- «x.append(e)» as a statement; the list is the function's own -/
def sAppend (n₀ : Nat) (x : Str) (m : AM AV) : AS := fun ρ σ => (ρ x).bind fun v => match v with
  | .ref i => (match σ[i]? with
    | some (.list vs) => (m ρ σ).bind fun p => if n₀ ≤ i ∧ vs.length < 1000000 then some (.next, ρ, p.2.set i (.list (vs ++ [p.1]))) else none
    | _ => none)
  | _ => none
theorem simS_append {x : Str} {np apos pos spos : Pos} {e : Expr} {m : AM AV} (cx : CxG G k c) (hv : isVar (c.env.kindOf x) = true) (hn : okName x = true) (hint : interactive c.env = false) (hsw : swapsWith (.Call (.Attribute (.Name x np) "append" apos) [e] [] pos) none spos.line c.env = pure false) (hline : (apos.endLine == pos.line) = true)
    (he : starEach [e] c.env = [(false, eval e c.env)]) (h : Sim prog w c (eval e c.env) m) :
    SimS prog w c (exec (.Expr (.Call (.Attribute (.Name x np) "append" apos) [e] [] pos) spos) c.env) (sAppend c.n₀ x m) := by
  intro ρ σ f ρ' σ' α s Q E hm r q
  obtain ⟨v, h1, hm⟩ := bind_some' hm
  split at hm
  · rename_i i
    split at hm
    · rename_i vs e1
      obtain ⟨⟨u, σ1⟩, h2, hm⟩ := bind_some' hm
      split at hm
      · rename_i hb
        cases hm
        refine wpAny_Expr_any ?_ hint hsw
        have ht : backTo pos (starEach [e] c.env) = [(false, eval e c.env)] := by rw [he]; rfl
        refine wpAny_Call_append rfl (by rw [ht]; rfl) hline ht ?_
        refine sim_name (c := c) (prog := prog) (w := w) cx hv hn ρ σ (.ref i) σ α s _ _ (by simp [aName, h1]) r fun y α1 hh1 tk1 g1 v1 => ?_
        obtain ⟨hi1, rfl⟩ : i < σ.length ∧ y = .ref (α1 i) := by cases v1 with | ref hi => exact ⟨hi, rfl⟩
        have r1 := r.grow g1
        obtain ⟨is, n1, o1, v1', l1⟩ := r1.list e1
        refine ⟨α1 i, is.toArray, rfl, ⟨_, _, o1, rfl, rfl, rfl⟩, ?_⟩
        refine h _ _ _ _ _ { s with heap := hh1, toks := tk1 } _ _ h2 r1 fun z α2 hh2 tk2 g2 v2 => ?_
        have r2 := r1.grow g2
        have o2 := g2.keep _ _ o1
        have hα : α2 i = α1 i := g2.agree i hi1
        refine wpAny_list_append_plain (items := is.toArray) ⟨_, o2⟩ (fun h3 hl3 hs3 => ?_) (le_sizeLine (by simpa using l1))
        obtain ⟨ep3, hD3⟩ := hl3
        have hi2 : i < σ1.length := Nat.lt_of_lt_of_le hi1 g2.len
        have hlen := v1'.length
        have fk3 : VK hh2 h3 := fun b o e f => hs3.extBut b o (fun q => by
          subst q; rw [o2] at e; cases e
          rcases f with ⟨f, _⟩ | ⟨f | f, _⟩ <;> simp at f) e
        have hor : OR prog w h3 α2 σ1.length (.list (vs ++ [u])) (α2 i) := by
          rw [hα]
          refine .list (items := is ++ [z]) (ep := ep3) (by simpa using hD3) (((v1'.up g2.up).append (.cons v2 .nil)).up ⟨Nat.le_refl _, fun _ _ => rfl, fk3⟩) ?_
          simp; omega
        obtain ⟨r3, u3, fk3'⟩ := r2.change cx.ok hi2 hb.1 (by rw [hα]; exact hs3) hor
        exact q _ α2 h3 tk2 r3 ((g1.up.trans g2.up).trans u3) ((g1.fk.trans g2.fk).trans fk3') .next
      · cases hm
    · cases hm
  · cases hm

/-- «x[i] = e» with a list or a dict of the function's own -/
def sSetItem (n₀ : Nat) (x : Str) (mi : AM AV) (m : AM AV) : AS := fun ρ σ => (m ρ σ).bind fun p => (ρ x).bind fun v => match v with
  | .ref i => (mi ρ p.2).bind fun q => (match p.2[i]?, q.1 with
    | some (.list vs), .int j => if n₀ ≤ i ∧ 0 ≤ j ∧ j < vs.length then some (.next, ρ, q.2.set i (.list (vs.set j.toNat p.1))) else none
    | some (.dict kvs), .int j => if n₀ ≤ i ∧ kvs.length < 1000000 then some (.next, ρ, q.2.set i (.dict (put kvs j p.1))) else none
    | _, _ => none)
  | _ => none
theorem setItem_plain {A : Around} {E : Value → Shared → Prop} {s : Shared} {l : Addr} {items : Array Value} {n : Nat} {k : Int} {t : Tok} {v : Value} {Q : Unit → Shared → Prop} (ho : s.heap.get? l = some { cls := .type "list", data := .seq items n })
    (h0 : 0 ≤ k) (hfit : k < 2 ^ 63) (hn : k < items.size)
    (hQ : ∀ h', h'.get? l = some { cls := .type "list", data := .seq (items.setIfInBounds k.toNat v) n } → Heap.SameBut l s.heap h' → Q () { s with heap := h' }) :
    wpAny (model prog w) A (setItem (.ref l) (.int k t) v) Q E s := by
  have hl : s.heap.IsList l items := ⟨_, ho, rfl, _, rfl⟩
  unfold setItem
  try with_reducible refine wpAny_holding ?_
  first | refine wpAny_bind (wpAny_pure ?_) | skip
  refine wpAny_bind (wpAny_sequenceKey hl.typeIs (by decide) ?_)
  refine wpAny_bind (wpAny_callSpecial?_slot (name := Str.ofString "__setitem__") hl.typeIs slot_list_setitem
    (wpAny_call_entry slot_list_setitem hl.typeIs entry_list_setitem ?_ (args_list_setitem _ _ _)))
  show wpAny _ _ (Builtin.List.listSubscript? (.int k t) >>= _) _ _ s
  refine wpAny_bind (wpAny_listSubscript_int (fitsIndex_of h0 hfit) ?_)
  clear hfit
  obtain ⟨j, rfl⟩ := Int.eq_ofNat_of_zero_le h0
  have hj : j < items.size := by omega
  have hx' : items[j]? = some items[j] := Array.getElem?_eq_getElem hj
  show wpAny _ _ ((seqItemAt l j >>= fun r => pure (r.map (j, ·))) >>= _) _ _ s
  refine wpAny_bind (wpAny_bind (wpAny_seqItemAt ho rfl (wpAny_pure ?_)))
  rw [hx']
  show wpAny _ _ (setSeqItemAt l j v >>= _) _ _ s
  refine wpAny_bind (wpAny_setSeqItemAt ho rfl (wpAny_pure ⟨_, rfl, wpAny_pure (hQ _ ?_ (Heap.SameBut.update ..))⟩))
  rw [Heap.get?_update_self _ ho (by rfl)]
  simp [Obj.mapSeq]

theorem VRs.set {h α n} : ∀ {vs : List AV} {xs : List Value} (j : Nat) {v : AV} {x : Value}, VRs h α n vs xs → VR h α n v x → VRs h α n (vs.set j v) (xs.set j x)
  | _, _, j, _, _, .nil, _ => by simpa using VRs.nil
  | _, _, 0, _, _, .cons a r, hv => by simpa using VRs.cons hv r
  | _, _, j + 1, _, _, .cons a r, hv => by simpa using VRs.cons a (r.set j hv)

theorem put_length (kvs : List (Int × AV)) (k : Int) (v : AV) : (put kvs k v).length ≤ kvs.length + 1 := by
  unfold put; split <;> simp

theorem simS_setItem {x : Str} {np pos' pos : Pos} {i e : Expr} {mi m : AM AV} (cx : CxG G k c) (hv : isVar (c.env.kindOf x) = true) (hn : okName x = true) (hsw : swapsWith e (some (.Subscript (.Name x np) i pos')) pos.line c.env = pure false)
    (hi : Sim prog w c (eval i c.env) mi) (h : Sim prog w c (eval e c.env) m) :
    SimS prog w c (exec (.Assign [.Subscript (.Name x np) i pos'] e pos) c.env) (sSetItem c.n₀ x mi m) := by
  intro ρ σ f ρ' σ' α s Q E hm r q
  obtain ⟨⟨u, σ1⟩, h1, hm⟩ := bind_some' hm
  obtain ⟨v, h2, hm⟩ := bind_some' hm
  split at hm
  · rename_i a
    obtain ⟨⟨z, σ2⟩, h3, hm⟩ := bind_some' hm
    refine wpAny_Assign_Subscript (h _ _ _ _ _ _ _ _ h1 r fun y1 α1 hh1 tk1 g1 v1 => ?_) hsw
    have r1 := r.grow g1
    refine sim_name (c := c) (prog := prog) (w := w) cx hv hn ρ σ1 (.ref a) σ1 α1 { s with heap := hh1, toks := tk1 } _ _ (by simp [aName, h2]) r1 fun y2 α2 hh2 tk2 g2 v2 => ?_
    have r2 := r1.grow g2
    refine hi _ _ _ _ _ { s with heap := hh2, toks := tk2 } _ _ h3 r2 fun y3 α3 hh3 tk3 g3 v3 => ?_
    have r3 := r2.grow g3
    obtain ⟨ha, rfl⟩ : a < σ1.length ∧ y2 = .ref (α2 a) := by cases v2 with | ref hi => exact ⟨hi, rfl⟩
    have hα : α3 a = α2 a := g3.agree a ha
    have ha3 : a < σ2.length := Nat.lt_of_lt_of_le ha g3.len
    have vu : VR hh3 α3 σ2.length u y1 := (v1.up g2.up).up g3.up
    have fin : ∀ h4 tk4 o', R prog w c α3 ρ (σ2.set a o') h4 → Up hh3 α3 σ2.length h4 α3 (σ2.set a o').length → FK hh3 h4 → some (AF.next, ρ, σ2.set a o') = some (f, ρ', σ') → Q .next { s with heap := h4, toks := tk4 } := by
      intro h4 tk4 o' r4 u4 fk4 e
      cases e
      exact q _ α3 h4 tk4 r4 (((g1.up.trans g2.up).trans g3.up).trans u4) (((g1.fk.trans g2.fk).trans g3.fk).trans fk4) .next
    split at hm
    · rename_i vs j e1 e2
      split at hm
      · rename_i hb
        subst e2
        obtain ⟨t, rfl⟩ : ∃ t, y3 = .int j t := by cases v3 with | int _ t => exact ⟨t, rfl⟩
        obtain ⟨is, n1, o1, v1', l1⟩ := r2.list e1
        have o3 := g3.keep _ _ o1
        have hl := v1'.length
        refine setItem_plain o3 hb.2.1 (by omega) (by simp; omega) fun h4 hD4 hs4 => ?_
        have vk4 : VK hh3 h4 := fun b o e f => hs4.extBut b o (fun q => by
          subst q; rw [o3] at e; cases e
          rcases f with ⟨f, _⟩ | ⟨f | f, _⟩ <;> simp at f) e
        have hor : OR prog w h4 α3 σ2.length (.list (vs.set j.toNat u)) (α3 a) := by
          rw [hα]
          refine .list (items := is.set j.toNat y1) (ep := n1) (by simpa using hD4) (((v1'.up g3.up).set j.toNat vu).up ⟨Nat.le_refl _, fun _ _ => rfl, vk4⟩) (by simpa using l1)
        obtain ⟨r4, u4, fk4⟩ := r3.change cx.ok ha3 hb.1 (by rw [hα]; exact hs4) hor
        exact fin _ _ _ r4 u4 fk4 hm
      · cases hm
    · rename_i kvs j e1 e2
      split at hm
      · rename_i hb
        subst e2
        obtain ⟨t, rfl⟩ : ∃ t, y3 = .int j t := by cases v3 with | int _ t => exact ⟨t, rfl⟩
        obtain ⟨xs, hd, hk, hne, hl⟩ := r2.dict e1
        have hd3 : hh3.DictOf (intKind prog w) (α2 a) xs := by
          obtain ⟨o, es, ep, ho, rest⟩ := hd
          exact ⟨o, es, ep, g3.keep _ _ ho, rest⟩
        have hkl := hk.length
        refine wpAny_setItem_pairs (knd := intKind prog w) (k := j) (by simp [intKind, Value.isInt]) hd3 (fun h4 hD4 hs4 => ?_) (le_sizeLine hl)
        have vk4 : VK hh3 h4 := fun b o e f => hs4.extBut b o (fun q => by
          subst q
          obtain ⟨o', es, ep, ho, hx, hdt, _⟩ := hd3
          rw [ho] at e; cases e
          rcases f with ⟨_, _, _, f⟩ | ⟨_, _, f⟩ <;> rw [hdt] at f <;> cases f) e
        have hk4 := ((hk.up g3.up).put (k := j) vu).up (⟨Nat.le_refl _, fun _ _ => rfl, vk4⟩ : Up hh3 α3 σ2.length h4 α3 σ2.length)
        have hor : OR prog w h4 α3 σ2.length (.dict (put kvs j u)) (α3 a) := by
          rw [hα]
          refine .dict hD4 hk4 hne ?_
          rw [← hk4.length]
          have := put_length kvs j u
          omega
        obtain ⟨r4, u4, fk4⟩ := r3.change cx.ok ha3 hb.1 (by rw [hα]; exact hs4) hor
        exact fin _ _ _ r4 u4 fk4 hm
      · cases hm
    · cases hm
  · cases hm
end
end Inn

end
section
set_option maxRecDepth 10000
set_option linter.unusedVariables false
namespace Inn
open PySem PySem.W PyProof.Rows
variable {prog : Program} {w : World}

/-! ### the ground -/
structure Gr (K : Frag) (h : Heap) : Prop where
  kin : K.In h
  lim : h.NoLimit
  ns : ∃ mg, h.Ns mainGlobals mg
  bs : ∃ mb, h.Ns builtinsNs mb ∧ ∀ x : Str, x ≠ "__name__" → mb x = bootBuiltins x
theorem Gr.mono {K : Frag} (h h' : Heap) (k : HK h h') (g : Gr K h) : Gr K h' := by
  obtain ⟨mg, e1⟩ := g.ns
  obtain ⟨mb, e2, e3⟩ := g.bs
  exact ⟨g.kin.keeps k, g.lim.keeps k, ⟨mg, e1.keeps k⟩, ⟨mb, e2.keeps k, e3⟩⟩
theorem gl_def {K : Frag} {x : Str} {v : Value} (e : nsIn K mainGlobals x = some (some v)) : Gl (Gr K) x v := by
  intro h g
  obtain ⟨mg, e1⟩ := g.ns
  exact ⟨mg, e1, .inl (mg_of g.kin e1 e)⟩
theorem gl_bi {K : Frag} {x : Str} {v : Value} (e : nsIn K mainGlobals x = some none) (hn : (x == ("__name__" : Str)) = false) (hb : bootBuiltins x = some v) : Gl (Gr K) x v := by
  intro h g
  obtain ⟨mg, e1⟩ := g.ns
  obtain ⟨mb, e2, e3⟩ := g.bs
  exact ⟨mg, e1, .inr ⟨mg_none_of g.kin e1 e, mb, e2, by rw [e3 x (by simpa using hn), hb]⟩⟩

abbrev cxOf (fd : FuncData) (f : Addr) (A : Around) (L : Addr) (h₀ : Heap) (n₀ : Nat) : Cx := ⟨A, callEnvC fd L f, h₀, n₀⟩

theorem fn_def {K : Frag} {k : Nat} {f : Addr} {oc : Value} {od : Option Addr} {osl : Array (Option Value)} {name qual : Str} {params : Arguments} {body : List Stmt} {scope : Scope} {doc pm cdv ct : Value} {an : Option Addr} {ps : List Str} {m : Nat → AS}
    (ho : K.lookup f = some ⟨oc, od, .func (fnOf name qual params body scope .none .none doc pm an cdv ct), osl⟩) (hcd : codeIn K cdv qual = true)
    (hbind : ∀ xs : List Value, xs.length = ps.length → bindArgs (fnOf name qual params body scope .none .none doc pm an cdv ct) ⟨xs, []⟩ = pure (ps.zip xs))
    (hkind : (ps.all fun p => !(p == (".0" : Str)) && (scope.names.lookup p == some .local || scope.names.lookup p == some .cell)) = true)
    (hco : scope.isCoroutine = false) (hgen : scope.isGenerator = false) (hk : scope.kind = .function) (hfree : (scope.names.all fun p => !(p.2 == NameKind.free)) = true)
    (hb : ∀ A L h₀ n₀, CxG (Gr K) k (cxOf (fnOf name qual params body scope .none .none doc pm an cdv ct) f A L h₀ n₀) →
      SimS prog w (cxOf (fnOf name qual params body scope .none .none doc pm an cdv ct) f A L h₀ n₀) (execs body (cxOf (fnOf name qual params body scope .none .none doc pm an cdv ct) f A L h₀ n₀).env) (m n₀)) :
    FnOk prog w (Gr K) (k + 1) f (aFn ps m) := by
  refine fn_ok (fd := fnOf name qual params body scope .none .none doc pm an cdv ct) (body := body) Gr.mono (fun h g => ⟨⟨_, g.kin _ _ ho, rfl⟩, g.lim, codeRec_of g.kin hcd⟩) rfl rfl hbind ?_ ?_ hco hgen hk ?_
  · intro p hp
    have := List.all_eq_true.mp hkind p hp
    simp only [Bool.and_eq_true, Bool.or_eq_true, beq_iff_eq, Bool.not_eq_true', beq_eq_false_iff_ne] at this
    exact this
  · intro n x hx
    exact cellsFrom_some _ _ _ (.inl hx)
  · intro A L h₀ n₀ lv g ok
    refine hb A L h₀ n₀ ⟨ok, rfl, rfl, lv, g, Gr.mono, fun x hx => ?_⟩
    rcases hx with hx | hx
    · exact cellsFrom_some _ _ _ (.inl hx)
    · exfalso
      have hx' : scope.names.lookup x = some .free := hx
      have hm : (x, NameKind.free) ∈ scope.names := mem_of_lookup hx'
      have := List.all_eq_true.mp hfree _ hm
      simp at this
theorem callee_fn {K : Frag} {f : Addr} {oc : Value} {od : Option Addr} {osl : Array (Option Value)} {fd : FuncData} (ho : K.lookup f = some ⟨oc, od, .func fd, osl⟩) : Callee (Gr K) (.ref f) := .fn (fun h g => g.kin _ _ ho) rfl
end Inn
namespace Inn
open PySem
variable {prog : Program} {w : World} {c : Cx} {G : Heap → Prop} {k : Nat}
theorem op_fn_le {f : Addr} {F : FnM} {j : Nat} (cx : CxG G k c) (hF : FnOk prog w G j f F) (hj : j ≤ k) : OpN prog w c (fun xs => call (.ref f) xs) F :=
  fun vs xs α ρ σ v σ' s Q E hm r hv q => hF _ _ _ _ _ _ _ _ _ _ (cx.lv.mono hj) (cx.here r) r.sr hv hm q
def compOkB (env : Env) (scope : Scope) (x : Str) : Bool :=
  (scope.names.lookup x == some .local) && !(x == (".0" : Str)) &&
  scope.names.all fun y => !(y.2 == NameKind.cell) && (!(y.2 == NameKind.local) || (scope.names.lookup y.1 == some .local && (y.1 == x || y.1 == (".0" : Str)))) &&
    (!(y.2 == NameKind.free) || (isVar (env.kindOf y.1) && !(env.kindOf y.1 == some .local)))
theorem compOk_of {scope : Scope} {x : Str} (hk : scope.kind = .function) (h : compOkB c.env scope x = true) : CompOk c scope x := by
  simp only [compOkB, Bool.and_eq_true, Bool.or_eq_true, beq_iff_eq, Bool.not_eq_true', beq_eq_false_iff_ne, List.all_eq_true] at h
  obtain ⟨⟨h1, h2⟩, h3⟩ := h
  refine ⟨fun y hy => (h3 y hy).1.1, hk, h1, h2, fun y hy e => ?_, fun y hy e => ?_, fun y hy e => ?_⟩
  · rcases (h3 y hy).1.2 with h | h
    · exact absurd e h
    · exact h.1
  · rcases (h3 y hy).1.2 with h | h
    · exact absurd e h
    · exact h.2
  · rcases (h3 y hy).2 with h | h
    · exact absurd e h
    · exact h
end Inn

end
section
set_option maxRecDepth 10000
set_option linter.unusedVariables false
namespace Inn
open PySem

/-! ### what the shallow forms compute -/
def wA {β : Type} (m : AM β) (ρ : AEnv) (σ : Store) (Q : β → Store → Prop) : Prop := ∃ v σ', m ρ σ = some (v, σ') ∧ Q v σ'
def wS (m : AS) (ρ : AEnv) (σ : Store) (Q : AF → AEnv → Store → Prop) : Prop := ∃ f ρ' σ', m ρ σ = some (f, ρ', σ') ∧ Q f ρ' σ'
def wF (F : FnM) (vs : List AV) (σ : Store) (Q : AV → Store → Prop) : Prop := ∃ v σ', F vs σ = some (v, σ') ∧ Q v σ'

theorem wA.mono {β : Type} {m : AM β} {ρ σ} {Q Q' : β → Store → Prop} (h : wA m ρ σ Q) (q : ∀ v σ', Q v σ' → Q' v σ') : wA m ρ σ Q' := by
  obtain ⟨v, σ', e, hq⟩ := h; exact ⟨v, σ', e, q _ _ hq⟩
theorem wS.mono {m : AS} {ρ σ} {Q Q' : AF → AEnv → Store → Prop} (h : wS m ρ σ Q) (q : ∀ f ρ' σ', Q f ρ' σ' → Q' f ρ' σ') : wS m ρ σ Q' := by
  obtain ⟨f, ρ', σ', e, hq⟩ := h; exact ⟨f, ρ', σ', e, q _ _ _ hq⟩
theorem wF.mono {F : FnM} {vs σ} {Q Q' : AV → Store → Prop} (h : wF F vs σ Q) (q : ∀ v σ', Q v σ' → Q' v σ') : wF F vs σ Q' := by
  obtain ⟨v, σ', e, hq⟩ := h; exact ⟨v, σ', e, q _ _ hq⟩

theorem wA_pure {β : Type} {v : β} {ρ σ Q} : wA (apure v) ρ σ Q ↔ Q v σ := by
  constructor
  · rintro ⟨v, σ', e, q⟩; cases e; exact q
  · intro q; exact ⟨_, _, rfl, q⟩
theorem wA_bind {β γ : Type} {m : AM β} {k : β → AM γ} {ρ σ Q} : wA (abind m k) ρ σ Q ↔ wA m ρ σ fun v σ1 => wA (k v) ρ σ1 Q := by
  constructor
  · rintro ⟨v, σ', e, q⟩
    obtain ⟨a, σ1, e1, e2⟩ := abind_some e
    exact ⟨a, σ1, e1, v, σ', e2, q⟩
  · rintro ⟨a, σ1, e1, v, σ', e2, q⟩
    exact ⟨v, σ', by simp [abind, e1, e2], q⟩
theorem wA_int {i ρ σ Q} : wA (aInt i) ρ σ Q ↔ Q (.int i) σ := wA_pure
theorem wA_bool {i ρ σ Q} : wA (aBool i) ρ σ Q ↔ Q (.bool i) σ := wA_pure
theorem wA_none {ρ σ Q} : wA aNone ρ σ Q ↔ Q .none σ := wA_pure
theorem wA_name {x ρ σ Q} {v : AV} (h : ρ x = some v) : wA (aName x) ρ σ Q ↔ Q v σ := by
  constructor
  · rintro ⟨v, σ', e, q⟩; simp only [aName, h, Option.map_some] at e; cases e; exact q
  · intro q; exact ⟨v, σ, by simp [aName, h], q⟩
theorem wA_here {x : Str} {ρ : AEnv} {σ Q} {v : AV} : wA (aName x) (upd ρ x v) σ Q ↔ Q v σ := wA_name (by simp [upd])
theorem wA_there {x y : Str} {ρ : AEnv} {σ Q} {v : AV} (h : ¬ (x = y)) : wA (aName x) (upd ρ y v) σ Q ↔ wA (aName x) ρ σ Q := by simp [wA, aName, upd, h]

def w2 (f : AV → AV → Store → Option (AV × Store)) (a b : AV) (σ : Store) (Q : AV → Store → Prop) : Prop := ∃ v σ', f a b σ = some (v, σ') ∧ Q v σ'
def wC (f : AV → AV → Store → Option Bool) (a b : AV) (σ : Store) (Q : Bool → Prop) : Prop := ∃ v, f a b σ = some v ∧ Q v
theorem wA_bin {f a b ρ σ Q} : wA (aBin f a b) ρ σ Q ↔ wA a ρ σ fun x σ1 => wA b ρ σ1 fun y σ2 => w2 f x y σ2 Q := by
  unfold aBin
  rw [wA_bind]; simp only [wA_bind]; rfl
theorem wA_fn {β : Type} {g : Store → Option (β × Store)} {ρ σ Q} : wA (fun _ σ => g σ) ρ σ Q ↔ ∃ v σ', g σ = some (v, σ') ∧ Q v σ' := Iff.rfl
theorem wC_map {β : Type} {o : Option Bool} {g : Bool → β} {σ : Store} {Q : β → Store → Prop} {ρ} : wA (fun (_ : AEnv) σ => o.map fun r => (g r, σ)) ρ σ Q ↔ ∃ v, o = some v ∧ Q (g v) σ := by
  constructor
  · rintro ⟨v, σ', e, q⟩
    obtain ⟨b, e1, e2⟩ := map_some' e
    cases e2; exact ⟨b, e1, q⟩
  · rintro ⟨b, e1, q⟩
    exact ⟨_, _, by simp [e1], q⟩
theorem wA_cmp {f a b ρ σ Q} : wA (aCmp f a b) ρ σ Q ↔ wA a ρ σ fun x σ1 => wA b ρ σ1 fun y σ2 => wC f x y σ2 fun t => Q (.bool t) σ2 := by
  unfold aCmp
  rw [wA_bind]; simp only [wA_bind]
  simp only [wA, wC, Option.map_eq_some_iff]
  constructor
  · rintro ⟨v, s1, e1, u, s2, e2, z, s3, ⟨t, e3, e4⟩, q⟩; cases e4; exact ⟨v, s1, e1, u, _, e2, _, e3, q⟩
  · rintro ⟨v, s1, e1, u, s2, e2, t, e3, q⟩; exact ⟨v, s1, e1, u, s2, e2, _, _, ⟨t, e3, rfl⟩, q⟩
theorem wA_bcmp {f a b ρ σ Q} : wA (bCmp f a b) ρ σ Q ↔ wA a ρ σ fun x σ1 => wA b ρ σ1 fun y σ2 => wC f x y σ2 fun t => Q t σ2 := by
  unfold bCmp
  rw [wA_bind]; simp only [wA_bind]
  simp only [wA, wC, Option.map_eq_some_iff]
  constructor
  · rintro ⟨v, s1, e1, u, s2, e2, z, s3, ⟨t, e3, e4⟩, q⟩; cases e4; exact ⟨v, s1, e1, u, _, e2, _, e3, q⟩
  · rintro ⟨v, s1, e1, u, s2, e2, t, e3, q⟩; exact ⟨v, s1, e1, u, s2, e2, _, _, ⟨t, e3, rfl⟩, q⟩
theorem wA_cmp2 {f g a b d ρ σ Q} : wA (aCmp2 f g a b d) ρ σ Q ↔ wA a ρ σ fun x σ1 => wA b ρ σ1 fun y σ2 => wC f x y σ2 fun t => if t then wA d ρ σ2 fun z σ3 => wC g y z σ3 fun u => Q (.bool u) σ3 else Q (.bool false) σ2 := by
  unfold aCmp2
  rw [wA_bind]; simp only [wA_bind]
  simp only [wA, wC]
  constructor
  · rintro ⟨v, s1, e1, u, s2, e2, z, s3, e3, q⟩
    obtain ⟨t, e4, e5⟩ := bind_some' e3
    refine ⟨v, s1, e1, u, s2, e2, t, e4, ?_⟩
    cases t with
    | false => simp only [Bool.false_eq_true, if_false] at e5 ⊢; cases e5; exact q
    | true =>
      simp only [if_true] at e5 ⊢
      obtain ⟨d, s4, e6, e7⟩ := abind_some e5
      obtain ⟨o, e8, e9⟩ := map_some' e7
      cases e9
      exact ⟨d, _, e6, _, e8, q⟩
  · rintro ⟨v, s1, e1, u, s2, e2, t, e4, q⟩
    cases t with
    | false => exact ⟨v, s1, e1, u, s2, e2, _, _, by simp only [e4, Option.bind_some, Bool.false_eq_true, if_false]; rfl, by simpa using q⟩
    | true =>
      simp only [if_true] at q
      obtain ⟨d, s4, e6, o, e8, q⟩ := q
      exact ⟨v, s1, e1, u, s2, e2, _, _, by simp only [e4, Option.bind_some, if_true, abind, e6, e8, Option.map_some], q⟩
theorem wA_bcmp2 {f g a b d ρ σ Q} : wA (bCmp2 f g a b d) ρ σ Q ↔ wA a ρ σ fun x σ1 => wA b ρ σ1 fun y σ2 => wC f x y σ2 fun t => if t then wA d ρ σ2 fun z σ3 => wC g y z σ3 fun u => Q u σ3 else Q false σ2 := by
  unfold bCmp2
  rw [wA_bind]; simp only [wA_bind]
  simp only [wA, wC]
  constructor
  · rintro ⟨v, s1, e1, u, s2, e2, z, s3, e3, q⟩
    obtain ⟨t, e4, e5⟩ := bind_some' e3
    refine ⟨v, s1, e1, u, s2, e2, t, e4, ?_⟩
    cases t with
    | false => simp only [Bool.false_eq_true, if_false] at e5 ⊢; cases e5; exact q
    | true =>
      simp only [if_true] at e5 ⊢
      obtain ⟨d, s4, e6, e7⟩ := abind_some e5
      obtain ⟨o, e8, e9⟩ := map_some' e7
      cases e9
      exact ⟨d, _, e6, _, e8, q⟩
  · rintro ⟨v, s1, e1, u, s2, e2, t, e4, q⟩
    cases t with
    | false => exact ⟨v, s1, e1, u, s2, e2, _, _, by simp only [e4, Option.bind_some, Bool.false_eq_true, if_false]; rfl, by simpa using q⟩
    | true =>
      simp only [if_true] at q
      obtain ⟨d, s4, e6, o, e8, q⟩ := q
      exact ⟨v, s1, e1, u, s2, e2, _, _, by simp only [e4, Option.bind_some, if_true, abind, e6, e8, Option.map_some], q⟩
theorem wA_bval {m ρ σ Q} : wA (bVal m) ρ σ Q ↔ wA m ρ σ fun v σ1 => ∃ b, aTruth v = some b ∧ Q b σ1 := by
  unfold bVal; rw [wA_bind]
  simp only [wA, Option.map_eq_some_iff]
  constructor
  · rintro ⟨v, s1, e1, u, s2, ⟨b, e2, e3⟩, q⟩; cases e3; exact ⟨v, _, e1, _, e2, q⟩
  · rintro ⟨v, s1, e1, b, e2, q⟩; exact ⟨v, s1, e1, _, _, ⟨b, e2, rfl⟩, q⟩
theorem wA_bnot {m ρ σ Q} : wA (bNot m) ρ σ Q ↔ wA m ρ σ fun v σ1 => Q (!v) σ1 := by
  unfold bNot; rw [wA_bind]
  simp only [wA, Option.some.injEq, Prod.mk.injEq]
  constructor
  · rintro ⟨v, s1, e1, u, s2, ⟨rfl, rfl⟩, q⟩; exact ⟨v, _, e1, q⟩
  · rintro ⟨v, s1, e1, q⟩; exact ⟨v, s1, e1, _, _, ⟨rfl, rfl⟩, q⟩
theorem wA_not {m ρ σ Q} : wA (aNot m) ρ σ Q ↔ wA m ρ σ fun v σ1 => ∃ b, aTruth v = some b ∧ Q (.bool (!b)) σ1 := by
  unfold aNot; rw [wA_bind]
  simp only [wA, Option.map_eq_some_iff]
  constructor
  · rintro ⟨v, s1, e1, u, s2, ⟨b, e2, e3⟩, q⟩; cases e3; exact ⟨v, _, e1, _, e2, q⟩
  · rintro ⟨v, s1, e1, b, e2, q⟩; exact ⟨v, s1, e1, _, _, ⟨b, e2, rfl⟩, q⟩
theorem wA_neg {m ρ σ Q} : wA (aNeg m) ρ σ Q ↔ wA m ρ σ fun v σ1 => ∃ i, v = .int i ∧ Q (.int (-i)) σ1 := by
  unfold aNeg; rw [wA_bind]
  simp only [wA]
  constructor
  · rintro ⟨v, s1, e1, u, s2, e2, q⟩
    split at e2
    · cases e2; exact ⟨_, _, e1, _, rfl, q⟩
    · cases e2
  · rintro ⟨v, s1, e1, i, rfl, q⟩; exact ⟨_, s1, e1, _, _, rfl, q⟩
theorem wA_band_nil {ρ σ Q} : wA (bAnd []) ρ σ Q ↔ Q true σ := wA_pure
theorem wA_band_cons {m ms ρ σ Q} : wA (bAnd (m :: ms)) ρ σ Q ↔ wA m ρ σ fun b σ1 => if b then wA (bAnd ms) ρ σ1 Q else Q false σ1 := by
  rw [bAnd, wA_bind]
  constructor <;> intro h <;> refine h.mono fun b σ1 h => ?_ <;> cases b <;> simpa [wA_pure] using h
theorem wA_bor_nil {ρ σ Q} : wA (bOr []) ρ σ Q ↔ Q false σ := wA_pure
theorem wA_bor_cons {m ms ρ σ Q} : wA (bOr (m :: ms)) ρ σ Q ↔ wA m ρ σ fun b σ1 => if b then Q true σ1 else wA (bOr ms) ρ σ1 Q := by
  rw [bOr, wA_bind]
  constructor <;> intro h <;> refine h.mono fun b σ1 h => ?_ <;> cases b <;> simpa [wA_pure] using h
theorem wA_vand1 {m ρ σ Q} : wA (vAnd [m]) ρ σ Q ↔ wA m ρ σ Q := by rw [vAnd]
theorem wA_vand {m m' ms ρ σ Q} : wA (vAnd (m :: m' :: ms)) ρ σ Q ↔ wA m ρ σ fun v σ1 => ∃ b, aTruth v = some b ∧ if b then wA (vAnd (m' :: ms)) ρ σ1 Q else Q v σ1 := by
  rw [vAnd, wA_bind]
  constructor
  · intro h; refine h.mono fun v σ1 h => ?_
    obtain ⟨u, s2, e, q⟩ := h
    obtain ⟨b, e1, e2⟩ := bind_some' e
    refine ⟨b, e1, ?_⟩
    cases b with
    | false => simp only [Bool.false_eq_true, if_false] at e2 ⊢; cases e2; exact q
    | true => simp only [if_true] at e2 ⊢; exact ⟨u, s2, e2, q⟩
  · intro h; refine h.mono fun v σ1 h => ?_
    obtain ⟨b, e1, h⟩ := h
    cases b with
    | false => exact ⟨v, σ1, by simp [e1], by simpa using h⟩
    | true =>
      simp only [if_true] at h
      obtain ⟨u, s2, e2, q⟩ := h
      exact ⟨u, s2, by simp [e1, e2], q⟩
  · simp
theorem wA_vor1 {m ρ σ Q} : wA (vOr [m]) ρ σ Q ↔ wA m ρ σ Q := by rw [vOr]
theorem wA_vor {m m' ms ρ σ Q} : wA (vOr (m :: m' :: ms)) ρ σ Q ↔ wA m ρ σ fun v σ1 => ∃ b, aTruth v = some b ∧ if b then Q v σ1 else wA (vOr (m' :: ms)) ρ σ1 Q := by
  rw [vOr, wA_bind]
  constructor
  · intro h; refine h.mono fun v σ1 h => ?_
    obtain ⟨u, s2, e, q⟩ := h
    obtain ⟨b, e1, e2⟩ := bind_some' e
    refine ⟨b, e1, ?_⟩
    cases b with
    | true => simp only [if_true] at e2 ⊢; cases e2; exact q
    | false => simp only [Bool.false_eq_true, if_false] at e2 ⊢; exact ⟨u, s2, e2, q⟩
  · intro h; refine h.mono fun v σ1 h => ?_
    obtain ⟨b, e1, h⟩ := h
    cases b with
    | true => exact ⟨v, σ1, by simp [e1], by simpa using h⟩
    | false =>
      simp only [Bool.false_eq_true, if_false] at h
      obtain ⟨u, s2, e2, q⟩ := h
      exact ⟨u, s2, by simp [e1, e2], q⟩
  · simp
theorem wA_args_nil {ρ σ Q} : wA (aArgs []) ρ σ Q ↔ Q [] σ := wA_pure
theorem wA_args_cons {m ms ρ σ Q} : wA (aArgs (m :: ms)) ρ σ Q ↔ wA m ρ σ fun v σ1 => wA (aArgs ms) ρ σ1 fun vs σ2 => Q (v :: vs) σ2 := by
  rw [aArgs, wA_bind]; simp only [wA_bind, wA_pure]
theorem wA_call {F ms ρ σ Q} : wA (aCall F ms) ρ σ Q ↔ wA (aArgs ms) ρ σ fun vs σ1 => wF F vs σ1 Q := by
  unfold aCall; rw [wA_bind]; rfl
theorem wA_list {ms ρ σ Q} : wA (aList ms) ρ σ Q ↔ wA (aArgs ms) ρ σ fun vs σ1 => vs.length ≤ 1000000 ∧ Q (.ref σ1.length) (σ1 ++ [.list vs]) := by
  unfold aList; rw [wA_bind]
  constructor <;> intro h <;> refine h.mono fun vs σ1 h => ?_
  · obtain ⟨v, s, e, q⟩ := h
    split at e
    · cases e; exact ⟨by assumption, q⟩
    · cases e
  · exact ⟨_, _, by simp [h.1], h.2⟩
theorem wA_tup {ms ρ σ Q} : wA (aTup ms) ρ σ Q ↔ wA (aArgs ms) ρ σ fun vs σ1 => vs.length ≤ 1000000 ∧ Q (.tup vs) σ1 := by
  unfold aTup; rw [wA_bind]
  constructor <;> intro h <;> refine h.mono fun vs σ1 h => ?_
  · obtain ⟨v, s, e, q⟩ := h
    split at e
    · cases e; exact ⟨by assumption, q⟩
    · cases e
  · exact ⟨_, _, by simp [h.1], h.2⟩
theorem wA_sub {a b ρ σ Q} : wA (aSub a b) ρ σ Q ↔ wA a ρ σ fun x σ1 => wA b ρ σ1 fun y σ2 => w2 getI x y σ2 Q := wA_bin
theorem wA_isi {T m ρ σ Q} : wA (aIsi T m) ρ σ Q ↔ wA m ρ σ fun v σ1 => ∃ b, isi T v σ1 = some b ∧ Q (.bool b) σ1 := by
  unfold aIsi; rw [wA_bind]
  simp only [wA, Option.map_eq_some_iff]
  constructor
  · rintro ⟨v, s1, e1, u, s2, ⟨b, e2, e3⟩, q⟩; cases e3; exact ⟨v, _, e1, _, e2, q⟩
  · rintro ⟨v, s1, e1, b, e2, q⟩; exact ⟨v, s1, e1, _, _, ⟨b, e2, rfl⟩, q⟩
theorem wA_upto {a b ρ σ Q} : wA (aUpto a b) ρ σ Q ↔ wA a ρ σ fun x σ1 => wA b ρ σ1 fun y σ2 => ∃ i k vs, x = .ref i ∧ y = .int k ∧ 0 ≤ k ∧ σ2[i]? = some (.list vs) ∧ Q (.ref σ2.length) (σ2 ++ [.list (vs.take k.toNat)]) := by
  unfold aUpto
  rw [wA_bin]
  constructor <;> intro h <;> refine h.mono fun x σ1 h => h.mono fun y σ2 h => ?_
  · obtain ⟨v, s, e, q⟩ := h
    dsimp only at e
    split at e
    · split at e
      · split at e
        · cases e; exact ⟨_, _, _, rfl, rfl, by assumption, by assumption, q⟩
        · cases e
      · cases e
    · cases e
  · obtain ⟨i, k, vs, rfl, rfl, h0, e, q⟩ := h
    exact ⟨_, _, by simp [e, h0], q⟩

/-! ### comprehensions -/
theorem wA_comp {x src t m ρ σ Q} : wA (aComp x src t m) ρ σ Q ↔ wA src ρ σ fun v σ1 => ∃ vs us, itemsOf v σ1 = some vs ∧ compItems x t m ρ σ1 vs = some us ∧ Q (.ref σ1.length) (σ1 ++ [.list us]) := by
  unfold aComp; rw [wA_bind]
  constructor <;> intro h <;> refine h.mono fun v σ1 h => ?_
  · obtain ⟨u, s, e, q⟩ := h
    obtain ⟨vs, e1, e⟩ := bind_some' e
    obtain ⟨us, e2, e⟩ := bind_some' e
    cases e; exact ⟨vs, us, e1, e2, q⟩
  · obtain ⟨vs, us, e1, e2, q⟩ := h
    exact ⟨_, _, by simp [e1, e2], q⟩
/-- all items alike -/
theorem compItems_of {x : Str} {t : AM Bool} {m : AM AV} {ρ : AEnv} {σ : Store} (p : AV → Bool) (f : AV → AV) : ∀ (vs : List AV),
    (∀ v ∈ vs, wA t (upd ρ x v) σ fun b σ1 => b = p v ∧ (p v = true → wA m (upd ρ x v) σ1 fun u _ => u = f v ∧ (f v).closed σ.length = true)) →
    compItems x t m ρ σ vs = some ((vs.filter p).map f)
  | [], _ => rfl
  | v :: vs, h => by
    obtain ⟨b, σ1, e1, rfl, e2⟩ := h v (.head _)
    have ih := compItems_of p f vs fun u hu => h u (.tail _ hu)
    rw [compItems, e1]
    cases hp : p v with
    | false => simp [hp, ih]
    | true =>
      obtain ⟨u, σ2, e3, rfl, e4⟩ := e2 hp
      simp [hp, e3, e4, ih]
theorem wA_compOf {x src t m ρ σ} {Q : AV → Store → Prop} (p : AV → Bool) (f : AV → AV) (h : wA src ρ σ fun v σ1 => ∃ vs, itemsOf v σ1 = some vs ∧
    (∀ v ∈ vs, wA t (upd ρ x v) σ1 fun b σ2 => b = p v ∧ (p v = true → wA m (upd ρ x v) σ2 fun u _ => u = f v ∧ (f v).closed σ1.length = true)) ∧ Q (.ref σ1.length) (σ1 ++ [.list ((vs.filter p).map f)])) :
    wA (aComp x src t m) ρ σ Q := by
  rw [wA_comp]
  refine h.mono fun v σ1 h => ?_
  obtain ⟨vs, e1, e2, q⟩ := h
  exact ⟨vs, _, e1, compItems_of p f vs e2, q⟩

/-! ### statements -/
theorem wS_nil {ρ σ Q} : wS sNil ρ σ Q ↔ Q .next ρ σ := by
  constructor
  · rintro ⟨f, ρ', σ', e, q⟩; cases e; exact q
  · intro q; exact ⟨_, _, _, rfl, q⟩
def thenS (b : AS) (Q : AF → AEnv → Store → Prop) : AF → AEnv → Store → Prop
  | .next, ρ, σ => wS b ρ σ Q
  | .ret v, ρ, σ => Q (.ret v) ρ σ
theorem wS_seq {a b ρ σ Q} : wS (sSeq a b) ρ σ Q ↔ wS a ρ σ (thenS b Q) := by
  constructor
  · rintro ⟨f, ρ', σ', e, q⟩
    obtain ⟨⟨f1, ρ1, σ1⟩, e1, e2⟩ := bind_some' e
    refine ⟨f1, ρ1, σ1, e1, ?_⟩
    cases f1 with
    | next => exact ⟨f, ρ', σ', e2, q⟩
    | ret v => cases e2; exact q
  · rintro ⟨f1, ρ1, σ1, e1, q⟩
    cases f1 with
    | next => obtain ⟨f, ρ', σ', e2, q⟩ := q; exact ⟨f, ρ', σ', by simp [sSeq, e1, e2], q⟩
    | ret v => exact ⟨_, _, _, by simp [sSeq, e1], q⟩
theorem wS_assign {x m ρ σ Q} : wS (sAssign x m) ρ σ Q ↔ wA m ρ σ fun v σ1 => Q .next (upd ρ x v) σ1 := by
  constructor
  · rintro ⟨f, ρ', σ', e, q⟩
    obtain ⟨⟨v, σ1⟩, e1, e2⟩ := bind_some' e
    cases e2; exact ⟨v, _, e1, q⟩
  · rintro ⟨v, σ1, e, q⟩
    exact ⟨_, _, _, by simp [sAssign, e], q⟩
theorem wS_ret {m ρ σ Q} : wS (sRet m) ρ σ Q ↔ wA m ρ σ fun v σ1 => Q (.ret v) ρ σ1 := by
  constructor
  · rintro ⟨f, ρ', σ', e, q⟩
    obtain ⟨⟨v, σ1⟩, e1, e2⟩ := bind_some' e
    cases e2; exact ⟨v, _, e1, q⟩
  · rintro ⟨v, σ1, e, q⟩
    exact ⟨_, _, _, by simp [sRet, e], q⟩
theorem wS_if {t a b ρ σ Q} : wS (sIf t a b) ρ σ Q ↔ wA t ρ σ fun v σ1 => if v then wS a ρ σ1 Q else wS b ρ σ1 Q := by
  constructor
  · rintro ⟨f, ρ', σ', e, q⟩
    obtain ⟨⟨v, σ1⟩, e1, e2⟩ := bind_some' e
    refine ⟨v, σ1, e1, ?_⟩
    cases v with
    | true => exact ⟨f, ρ', σ', e2, q⟩
    | false => exact ⟨f, ρ', σ', e2, q⟩
  · rintro ⟨v, σ1, e, q⟩
    cases v with
    | true => obtain ⟨f, ρ', σ', e2, q⟩ := q; exact ⟨_, _, _, by simp only [sIf, e, Option.bind_some, if_true, e2], q⟩
    | false => obtain ⟨f, ρ', σ', e2, q⟩ := q; exact ⟨_, _, _, by simp only [sIf, e, Option.bind_some, Bool.false_eq_true, if_false, e2], q⟩
theorem wS_append {n₀ x m ρ σ Q} {i : Nat} {vs : List AV} (h1 : ρ x = some (.ref i)) (h2 : σ[i]? = some (.list vs)) (h3 : n₀ ≤ i) (h4 : vs.length < 1000000) :
    wS (sAppend n₀ x m) ρ σ Q ↔ wA m ρ σ fun v σ1 => Q .next ρ (σ1.set i (.list (vs ++ [v]))) := by
  constructor
  · rintro ⟨f, ρ', σ', e, q⟩
    simp only [sAppend, h1, h2, Option.bind_some] at e
    obtain ⟨⟨v, σ1⟩, e1, e2⟩ := bind_some' e
    rw [if_pos ⟨h3, h4⟩] at e2
    cases e2; exact ⟨v, _, e1, q⟩
  · rintro ⟨v, σ1, e, q⟩
    exact ⟨_, _, _, by simp only [sAppend, h1, h2, Option.bind_some, e, if_pos (And.intro h3 h4)], q⟩

/-- a loop over a range -/
theorem forR_inv {x : Str} {b : AS} {Q : AF → AEnv → Store → Prop} (I : List AV → AEnv → Store → Prop) : ∀ (vs : List AV),
    (∀ v rest ρ σ, I (v :: rest) ρ σ → wS b (upd ρ x v) σ fun f ρ' σ' => match f with | .next => I rest ρ' σ' | .ret u => Q (.ret u) ρ' σ') → (∀ ρ σ, I [] ρ σ → Q .next ρ σ) →
    ∀ ρ σ, I vs ρ σ → wS (forR x b vs) ρ σ Q
  | [], _, hq, ρ, σ, h => ⟨_, _, _, rfl, hq _ _ h⟩
  | v :: rest, hs, hq, ρ, σ, h => by
    obtain ⟨f, ρ', σ', e, q⟩ := hs v rest ρ σ h
    cases f with
    | next =>
      obtain ⟨f2, ρ2, σ2, e2, q2⟩ := forR_inv I rest hs hq ρ' σ' q
      exact ⟨f2, ρ2, σ2, by simp [forR, e, e2], q2⟩
    | ret u => exact ⟨_, _, _, by simp [forR, e], q⟩
theorem rngL_length (lo hi : Int) : (rngL lo hi).length = (hi - lo).toNat := by simp [rngL]
/-- a loop over range(n), by the number -/
theorem forN_inv {x : Str} {b : AS} {Q : AF → AEnv → Store → Prop} (n : Nat) (I : Nat → AEnv → Store → Prop)
    (hs : ∀ j ρ σ, j < n → I j ρ σ → wS b (upd ρ x (.int j)) σ fun f ρ' σ' => match f with | .next => I (j + 1) ρ' σ' | .ret u => Q (.ret u) ρ' σ') (hq : ∀ ρ σ, I n ρ σ → Q .next ρ σ) (ρ σ) (h : I 0 ρ σ) :
    wS (forR x b (rngL 0 n)) ρ σ Q := by
  have e : rngL 0 n = (List.range n).map fun k : Nat => AV.int k := by simp [rngL]
  refine forR_inv (fun vs ρ σ => ∃ j, j ≤ n ∧ vs = ((List.range n).map fun k : Nat => AV.int k).drop j ∧ I j ρ σ) _ ?_ ?_ ρ σ ⟨0, Nat.zero_le _, by simpa using e, h⟩
  · rintro v rest ρ σ ⟨j, hj, e1, hI⟩
    by_cases hlt : j < n
    · rw [List.drop_eq_getElem_cons (by simpa using hlt)] at e1
      simp only [List.getElem_map, List.getElem_range, List.cons.injEq] at e1
      obtain ⟨rfl, rfl⟩ := e1
      refine (hs j ρ σ hlt hI).mono fun f ρ' σ' q => ?_
      cases f with
      | next => exact ⟨j + 1, hlt, rfl, q⟩
      | ret u => exact q
    · rw [List.drop_of_length_le (by simp; omega)] at e1; cases e1
  · rintro ρ σ ⟨j, hj, e1, hI⟩
    by_cases hlt : j < n
    · rw [List.drop_eq_getElem_cons (by simpa using hlt)] at e1; cases e1
    · have : j = n := by omega
      subst this; exact hq _ _ hI
theorem wS_for {x src b ρ σ Q} : wS (sFor x src b) ρ σ Q ↔ wA src ρ σ fun v σ1 => wS (fun ρ σ => match v with
  | .rng lo hi => if rangeOk lo hi then forR x b (rngL lo hi) ρ σ else none
  | .ref i => (match σ[i]? with
    | some (.list vs) => forL i vs x b vs ρ σ
    | _ => none)
  | _ => none) ρ σ1 Q := by
  constructor
  · rintro ⟨f, ρ', σ', e, q⟩
    obtain ⟨⟨v, σ1⟩, e1, e2⟩ := bind_some' e
    exact ⟨v, σ1, e1, f, ρ', σ', e2, q⟩
  · rintro ⟨v, σ1, e, f, ρ', σ', e2, q⟩
    refine ⟨f, ρ', σ', ?_, q⟩
    simp only [sFor, e, Option.bind_some]
    exact e2
theorem wS_range {x b ρ σ Q} {lo hi : Int} (h : rangeOk lo hi) (q : wS (forR x b (rngL lo hi)) ρ σ Q) : wS (fun ρ σ => match AV.rng lo hi with
  | .rng lo hi => if rangeOk lo hi then forR x b (rngL lo hi) ρ σ else none
  | .ref i => (match σ[i]? with
    | some (.list vs) => forL i vs x b vs ρ σ
    | _ => none)
  | _ => none) ρ σ Q := by
  obtain ⟨f, ρ', σ', e, q⟩ := q
  exact ⟨f, ρ', σ', by dsimp only; rw [if_pos h]; exact e, q⟩
/-- a loop over range(n) -/
theorem wS_forN {x src b ρ σ Q} (n : Nat) (hn : n < 1000000) (I : Nat → AEnv → Store → Prop) (hsrc : wA src ρ σ fun v σ1 => v = .rng 0 n ∧ I 0 ρ σ1)
    (hs : ∀ j ρ σ, j < n → I j ρ σ → wS b (upd ρ x (.int j)) σ fun f ρ' σ' => match f with | .next => I (j + 1) ρ' σ' | .ret u => Q (.ret u) ρ' σ') (hq : ∀ ρ σ, I n ρ σ → Q .next ρ σ) : wS (sFor x src b) ρ σ Q := by
  rw [wS_for]
  refine hsrc.mono fun v σ1 h => ?_
  obtain ⟨rfl, h⟩ := h
  exact wS_range (by unfold rangeOk; omega) (forN_inv n I hs hq _ _ h)

/-- a while -/
theorem wS_while {t : AM Bool} {b : AS} {Q : AF → AEnv → Store → Prop} (I : Nat → AEnv → Store → Prop)
    (hs : ∀ n ρ σ, I n ρ σ → wA t ρ σ fun v σ1 => if v then ∃ n', n = n' + 1 ∧ wS b ρ σ1 (fun f ρ' σ' => match f with | .next => I n' ρ' σ' | .ret u => Q (.ret u) ρ' σ') else Q .next ρ σ1) (n : Nat) (hn : n < 1000) (ρ σ) (h : I n ρ σ) :
    wS (sWhile t b) ρ σ Q := by
  have key : ∀ k n ρ σ, n < k → I n ρ σ → wS (whileN t b k) ρ σ Q := by
    intro k
    induction k with
    | zero => intro n _ _ hlt; omega
    | succ k ih =>
      intro n ρ σ hlt h
      obtain ⟨v, σ1, e, q⟩ := hs n ρ σ h
      cases v with
      | false => exact ⟨_, _, _, by simp only [whileN, e, Option.bind_some, Bool.false_eq_true, if_false], q⟩
      | true =>
        simp only [if_true] at q
        obtain ⟨n', rfl, f, ρ', σ', e2, q⟩ := q
        cases f with
        | next =>
          obtain ⟨f3, ρ3, σ3, e3, q3⟩ := ih n' ρ' σ' (by omega) q
          exact ⟨f3, ρ3, σ3, by simp only [whileN, e, Option.bind_some, if_true, e2, e3], q3⟩
        | ret u => exact ⟨_, _, _, by simp only [whileN, e, Option.bind_some, if_true, e2], q⟩
  exact key 1000 n ρ σ hn h

/-! ### functions -/
theorem wF_fn {ps : List Str} {m : Nat → AS} {args : List AV} {σ : Store} {Q : AV → Store → Prop} (hl : args.length = ps.length)
    (h : wS (m σ.length) (bindE (ps.zip args) emp) σ fun f _ σ' => (∃ τ, σ' = σ ++ τ) ∧ ∃ v s, exportV σ (match f with | .ret v => v | .next => .none) σ' = some (v, s) ∧ Q v s) : wF (aFn ps m) args σ Q := by
  obtain ⟨f, ρ', σ', e, ⟨τ, rfl⟩, v, s, e2, q⟩ := h
  refine ⟨v, s, ?_, q⟩
  unfold aFn
  rw [if_pos hl, e]
  simp only [Option.bind_some, List.take_left, if_true]
  exact e2
theorem wF_eq {F : FnM} {vs σ Q v σ'} (h : F vs σ = some (v, σ')) : wF F vs σ Q ↔ Q v σ' := by
  constructor
  · rintro ⟨v, σ', e, q⟩; rw [h] at e; cases e; exact q
  · intro q; exact ⟨_, _, h, q⟩
theorem exp_int {σ i σ'} : exportV σ (.int i) σ' = some (.int i, σ) := by simp [exportV, AV.closed]
theorem exp_bool {σ i σ'} : exportV σ (.bool i) σ' = some (.bool i, σ) := by simp [exportV, AV.closed]
theorem exp_none {σ σ'} : exportV σ .none σ' = some (.none, σ) := by simp [exportV, AV.closed]
theorem closedL_ints (n : Nat) (ns : List Int) : closedL n (ns.map .int) = true := by
  induction ns with
  | nil => rfl
  | cons a r ih => simp [closedL, AV.closed, ih]
theorem exp_new {σ σ' : Store} {i : Nat} {o : AO} (hi : σ.length ≤ i) (e : σ'[i]? = some o) (hc : o.closed σ.length = true) : exportV σ (.ref i) σ' = some (.ref σ.length, σ ++ [o]) := by
  have : ¬ i < σ.length := by omega
  simp [exportV, AV.closed, this, e, hc]
theorem app_get {σ τ : Store} {i : Nat} {o : AO} (e : σ[i]? = some o) : (σ ++ τ)[i]? = some o := by
  have := (List.getElem?_eq_some_iff.mp e).1
  rw [List.getElem?_append_left this, e]
theorem new_get {σ : Store} {o : AO} : (σ ++ [o])[σ.length]? = some o := by simp
theorem intsOf_map (ns : List Int) : intsOf (ns.map .int) = some ns := by
  induction ns with
  | nil => rfl
  | cons a r ih => simp [intsOf, ih]

theorem str_ne {a b : String} (h : (a == b) = false) : ¬ (Str.ofString a = Str.ofString b) := by
  intro e
  have e' : a.toList.map Char.toNat = b.toList.map Char.toNat := by
    rw [Str.ofString_eq_toList, Str.ofString_eq_toList] at e
    simpa using e
  have hinj : a.toList = b.toList := by
    have key : ∀ l1 l2 : List Char, l1.map Char.toNat = l2.map Char.toNat → l1 = l2 := by
      intro l1
      induction l1 with
      | nil => intro l2 h; cases l2 with | nil => rfl | cons _ _ => simp at h
      | cons x xs ih =>
        intro l2 h
        cases l2 with
        | nil => simp at h
        | cons y ys =>
          simp only [List.map_cons, List.cons.injEq] at h
          rw [ih _ h.2, Char.toNat_inj.mp h.1]
    exact key _ _ e'
  have : a = b := String.toList_inj.mp hinj
  subst this
  simp at h
theorem str_eq_iff {a b : String} : (Str.ofString a = Str.ofString b) ↔ a = b := by
  constructor
  · intro e
    by_cases h : a = b
    · exact h
    · exact absurd e (str_ne (by simpa using h))
  · rintro rfl; rfl
end Inn

end
section
set_option maxRecDepth 10000
set_option linter.unusedVariables false
namespace Inn
open PySem PySem.W PyProof.Rows
variable {prog : Program} {w : World}

theorem well_ints {P : Params} {h : Heap} {α : Nat → Addr} {n : Nat} : ∀ (ns : List Int) (vs : List Value), WellAll P h vs (ofPys (ns.map PyData.int)) → VRs h α n (ns.map .int) vs
  | [], vs, hw => by
    have hw' : WellAll P h vs [] := hw
    cases hw'; exact .nil
  | a :: ns, vs, hw => by
    have hw' : WellAll P h vs (.int a :: ofPys (ns.map PyData.int)) := hw
    cases hw' with
    | cons x y =>
      cases x
      exact .cons (.int _ _) (well_ints ns _ y)

/-- a law's end -/
theorem law_end {K : Frag} {k : Nat} {f : Addr} {F : FnM} {s₁ : Shared} {l : Addr} {ns : List Int} {c : ClaimW} {cl : Str → Option Addr} {mean : ExcName → Option Value} {args : List WData}
    (hF : FnOk prog w (Gr K) k f F) (hk : k ≤ 20) (g : Gr K s₁.heap) (hW : Well w.params s₁.heap (.ref l) (ofPy (PyData.list (ns.map PyData.int)))) (hl : ns.length ≤ 63) (hg : s₁.gens = #[])
    (hlaw : ∀ σ i, σ[i]? = some (AO.list (ns.map .int)) → F [.ref i] σ = some (.bool true, σ))
    (hr : ∀ cls, c.raises args cls = false) (hp : c.post args (.bool true) args = true) (hu : c.unshared = true → True) :
    wpAny (model prog w) callerA (PySem.call (.ref f) [.ref l]) (fun v s' => GoodWG c cl mean args s₁ (.ok (.ret v)) s') (fun e s' => GoodWG c cl mean args s₁ (.error e) s') s₁ := by
  have hW' : Well w.params s₁.heap (.ref l) (.list (ofPys (ns.map PyData.int))) := hW
  cases hW' with
  | @list _ vs _ ho hall =>
  have hv := well_ints (α := fun _ => l) (n := 1) ns vs hall
  have hlen := hv.length
  rw [List.length_map] at hlen
  refine hF callerA s₁ [.ref 0] [.ref l] [.list (ns.map .int)] (fun _ => l) (.bool true) [.list (ns.map .int)] _ _ ?_ g ?_ ?_ (hlaw _ 0 rfl) ?_
  · refine Lvl.mono ⟨rfl, ?_, ?_⟩ hk
    · decide +kernel
    · decide +kernel
  · refine ⟨fun i o e => ?_, fun i j hi hj _ => ?_⟩
    · cases i with
      | zero => simp at e; subst e; exact .list ho hv (by omega)
      | succ i => simp at e
    · simp at hi hj; omega
  · exact .cons (.ref (by simp)) .nil
  · intro x α' h' tk' gr hx
    cases hx
    exact ⟨.inl ⟨_, _, _, rfl, hr, .bool true, hp, fun _ => ⟨List.nodup_nil, fun a ha => by cases ha⟩⟩, .of_keep gr.keep, rfl, .of_eq hg⟩
end Inn

end
set_option maxRecDepth 100000
set_option maxHeartbeats 8000000
open_top hd1 for PySem.Challenge.rw_uf040026_01
section
open PySem PySem.W PyProof.Rows
namespace Inn
section
variable {P : Params}
theorem gl_abs : Gl (Gr (hd1.heap_39 P)) "abs" (.builtin "abs") := gl_bi (by k_is) rfl (by boot_by_name)
theorem gl_all : Gl (Gr (hd1.heap_39 P)) "all" (.builtin "all") := gl_bi (by k_is) rfl (by boot_by_name)
theorem gl_bool : Gl (Gr (hd1.heap_39 P)) "bool" (.type "bool") := gl_bi (by k_is) rfl (by boot_by_name)
theorem gl_int : Gl (Gr (hd1.heap_39 P)) "int" (.type "int") := gl_bi (by k_is) rfl (by boot_by_name)
theorem gl_isinstance : Gl (Gr (hd1.heap_39 P)) "isinstance" (.builtin "isinstance") := gl_bi (by k_is) rfl (by boot_by_name)
theorem gl_len : Gl (Gr (hd1.heap_39 P)) "len" (.builtin "len") := gl_bi (by k_is) rfl (by boot_by_name)
theorem gl_list : Gl (Gr (hd1.heap_39 P)) "list" (.type "list") := gl_bi (by k_is) rfl (by boot_by_name)
theorem gl_range : Gl (Gr (hd1.heap_39 P)) "range" (.type "range") := gl_bi (by k_is) rfl (by boot_by_name)
theorem gl_sum : Gl (Gr (hd1.heap_39 P)) "sum" (.builtin "sum") := gl_bi (by k_is) rfl (by boot_by_name)
theorem gl_MOST_KINDS : ∃ t, Gl (Gr (hd1.heap_39 P)) "MOST_KINDS" (.int 6 t) := ⟨_, gl_def (by k_is)⟩
theorem gl_MOST_ROOMS : ∃ t, Gl (Gr (hd1.heap_39 P)) "MOST_ROOMS" (.int 9 t) := ⟨_, gl_def (by k_is)⟩
theorem gl_is_house : Gl (Gr (hd1.heap_39 P)) "is_house" (.ref 19) := gl_def (by k_is)
theorem gl_room_count : Gl (Gr (hd1.heap_39 P)) "room_count" (.ref 26) := gl_def (by k_is)
theorem gl_kind_of : Gl (Gr (hd1.heap_39 P)) "kind_of" (.ref 33) := gl_def (by k_is)
theorem gl_rooms_of : Gl (Gr (hd1.heap_39 P)) "rooms_of" (.ref 40) := gl_def (by k_is)
theorem gl_law_cell : Gl (Gr (hd1.heap_39 P)) "_law_cell" (.ref 47) := gl_def (by k_is)
theorem gl_law_whole : Gl (Gr (hd1.heap_39 P)) "_law_whole" (.ref 54) := gl_def (by k_is)
theorem gl_law_wholes : Gl (Gr (hd1.heap_39 P)) "_law_wholes" (.ref 59) := gl_def (by k_is)
theorem gl_law_counts_by : Gl (Gr (hd1.heap_39 P)) "_law_counts_by" (.ref 64) := gl_def (by k_is)
theorem gl_law_all_rooms : Gl (Gr (hd1.heap_39 P)) "_law_all_rooms" (.ref 69) := gl_def (by k_is)
theorem gl_law : Gl (Gr (hd1.heap_39 P)) "law" (.ref 74) := gl_def (by k_is)
end
noncomputable def sp_is_house : FnM := aFn ["counts"] (fun n₀ => (sSeq (sRet (vAnd [(aCmp2 cLe cLe (aInt 1) (aCall bLen [(aName "counts")]) (aInt 6)), (aCall bAll [(aComp "count" (aName "counts") (bAnd []) (aCmp2 cLe cLe (aInt 0) (aName "count") (aInt 9)))])])) sNil))
theorem cl_is_house {P : Params} : Callee (Gr (hd1.heap_39 P)) (.ref 19) := callee_fn (by k_is)
theorem ok_is_house {prog : Program} {w : World} {P : Params} : FnOk prog w (Gr (hd1.heap_39 P)) 1 19 sp_is_house := by
  refine fn_def (K := hd1.heap_39 P) (f := 19) (k := 0) (ps := ["counts"]) (ho := by k_is) (hcd := by k_is) ?_ rfl rfl rfl rfl rfl ?_
  · intro xs hx
    match xs, hx with
    | [_], _ => rfl
  · intro A L h₀ n₀ cx
    exact (simS_cons (simS_Return (sim_and (simVAnd_cons (sim_Cmp2 cmp_le cmp_le rfl rfl sim_int (sim_call cx rfl rfl gl_len (.builtin _) op_len (simA_cons (sim_name cx rfl rfl) simA_nil)) (sim_glob cx rfl rfl gl_MOST_KINDS.choose_spec)) (simVAnd_one (sim_call cx rfl rfl gl_all (.builtin _) (op_all cx.lv) (simA_cons (sim_ListComp cx (compOk_of rfl rfl) (fun _ => rfl) (sim_name cx rfl rfl) (fun _ _ cx => simT_nil) (fun _ _ cx => (sim_Cmp2 cmp_le cmp_le rfl rfl sim_int (sim_name cx rfl rfl) (sim_glob cx rfl rfl gl_MOST_ROOMS.choose_spec)))) simA_nil)))))) simS_nil)
noncomputable def sp_room_count : FnM := aFn ["counts"] (fun n₀ => (sSeq (sRet (aCall bSum [(aName "counts")])) sNil))
theorem cl_room_count {P : Params} : Callee (Gr (hd1.heap_39 P)) (.ref 26) := callee_fn (by k_is)
theorem ok_room_count {prog : Program} {w : World} {P : Params} : FnOk prog w (Gr (hd1.heap_39 P)) 1 26 sp_room_count := by
  refine fn_def (K := hd1.heap_39 P) (f := 26) (k := 0) (ps := ["counts"]) (ho := by k_is) (hcd := by k_is) ?_ rfl rfl rfl rfl rfl ?_
  · intro xs hx
    match xs, hx with
    | [_], _ => rfl
  · intro A L h₀ n₀ cx
    exact (simS_cons (simS_Return (sim_call cx rfl rfl gl_sum (.builtin _) (op_sum cx.lv) (simA_cons (sim_name cx rfl rfl) simA_nil))) simS_nil)
noncomputable def sp_kind_of : FnM := aFn ["counts", "room"] (fun n₀ => (sSeq (sAssign "kind" (aInt 0)) (sSeq (sWhile (bCmp cGe (aName "room") (aSub (aName "counts") (aName "kind"))) (sSeq (sAssign "room" (aBin opSub (aName "room") (aSub (aName "counts") (aName "kind")))) (sSeq (sAssign "kind" (aBin opAdd (aName "kind") (aInt 1))) sNil))) (sSeq (sRet (aName "kind")) sNil))))
theorem cl_kind_of {P : Params} : Callee (Gr (hd1.heap_39 P)) (.ref 33) := callee_fn (by k_is)
theorem ok_kind_of {prog : Program} {w : World} {P : Params} : FnOk prog w (Gr (hd1.heap_39 P)) 1 33 sp_kind_of := by
  refine fn_def (K := hd1.heap_39 P) (f := 33) (k := 0) (ps := ["counts", "room"]) (ho := by k_is) (hcd := by k_is) ?_ rfl rfl rfl rfl rfl ?_
  · intro xs hx
    match xs, hx with
    | [_, _], _ => rfl
  · intro A L h₀ n₀ cx
    exact (simS_cons (simS_Assign cx.ok (storable cx rfl rfl) rfl sim_int) (simS_cons (simS_While (simB_Cmp1 cmp_ge rfl (sim_name cx rfl rfl) (sim_Sub (fun _ _ => rfl) (sim_name cx rfl rfl) (sim_name cx rfl rfl))) (simS_cons (simS_Assign cx.ok (storable cx rfl rfl) rfl (sim_BinOp op_sub (sim_name cx rfl rfl) (sim_Sub (fun _ _ => rfl) (sim_name cx rfl rfl) (sim_name cx rfl rfl)))) (simS_cons (simS_Assign cx.ok (storable cx rfl rfl) rfl (sim_BinOp op_add (sim_name cx rfl rfl) sim_int)) simS_nil))) (simS_cons (simS_Return (sim_name cx rfl rfl)) simS_nil)))
noncomputable def sp_rooms_of : FnM := aFn ["counts", "kind"] (fun n₀ => (sSeq (sAssign "first" (aCall bSum [(aUpto (aName "counts") (aName "kind"))])) (sSeq (sRet (aCall bList [(aCall bRange [(aName "first"), (aBin opAdd (aName "first") (aSub (aName "counts") (aName "kind")))])])) sNil)))
theorem cl_rooms_of {P : Params} : Callee (Gr (hd1.heap_39 P)) (.ref 40) := callee_fn (by k_is)
theorem ok_rooms_of {prog : Program} {w : World} {P : Params} : FnOk prog w (Gr (hd1.heap_39 P)) 1 40 sp_rooms_of := by
  refine fn_def (K := hd1.heap_39 P) (f := 40) (k := 0) (ps := ["counts", "kind"]) (ho := by k_is) (hcd := by k_is) ?_ rfl rfl rfl rfl rfl ?_
  · intro xs hx
    match xs, hx with
    | [_, _], _ => rfl
  · intro A L h₀ n₀ cx
    exact (simS_cons (simS_Assign cx.ok (storable cx rfl rfl) rfl (sim_call cx rfl rfl gl_sum (.builtin _) (op_sum cx.lv) (simA_cons (sim_upto (sim_name cx rfl rfl) (sim_name cx rfl rfl) (fun _ _ => rfl)) simA_nil))) (simS_cons (simS_Return (sim_call cx rfl rfl gl_list (.type _) (op_list cx.lv) (simA_cons (sim_call cx rfl rfl gl_range (.type _) op_range (simA_cons (sim_name cx rfl rfl) (simA_cons (sim_BinOp op_add (sim_name cx rfl rfl) (sim_Sub (fun _ _ => rfl) (sim_name cx rfl rfl) (sim_name cx rfl rfl))) simA_nil))) simA_nil))) simS_nil))
noncomputable def sp_law_cell : FnM := aFn ["_law_script", "_law_k"] (fun n₀ => (sSeq (sAssign "_law_more" (aBin opMul (aName "_law_k") (aInt 7919))) (sSeq (sIf (bCmp cNe (aName "_law_script") (aList [])) (sSeq (sAssign "_law_more" (aBin opAdd (aName "_law_more") (aBin opMul (aBin opDiv (aName "_law_k") (aCall bLen [(aName "_law_script")])) (aInt 104729)))) (sSeq (sAssign "_law_more" (aBin opMod (aBin opAdd (aName "_law_more") (aBin opMul (aSub (aName "_law_script") (aBin opMod (aName "_law_k") (aCall bLen [(aName "_law_script")]))) (aInt 48271))) (aInt 1000003))) sNil)) sNil) (sSeq (sRet (aBin opMod (aBin opAdd (aBin opDiv (aBin opMul (aName "_law_more") (aName "_law_more")) (aInt 11)) (aBin opMul (aInt 13) (aName "_law_more"))) (aInt 1000003))) sNil))))
theorem cl_law_cell {P : Params} : Callee (Gr (hd1.heap_39 P)) (.ref 47) := callee_fn (by k_is)
theorem ok_law_cell {prog : Program} {w : World} {P : Params} : FnOk prog w (Gr (hd1.heap_39 P)) 1 47 sp_law_cell := by
  refine fn_def (K := hd1.heap_39 P) (f := 47) (k := 0) (ps := ["_law_script", "_law_k"]) (ho := by k_is) (hcd := by k_is) ?_ rfl rfl rfl rfl rfl ?_
  · intro xs hx
    match xs, hx with
    | [_, _], _ => rfl
  · intro A L h₀ n₀ cx
    exact (simS_cons (simS_Assign cx.ok (storable cx rfl rfl) rfl (sim_BinOp op_mul (sim_name cx rfl rfl) sim_int)) (simS_cons (simS_If (simB_Cmp1 (cmp_ne cx.lv) rfl (sim_name cx rfl rfl) (sim_List simA_nil)) (simS_cons (simS_Assign cx.ok (storable cx rfl rfl) rfl (sim_BinOp op_add (sim_name cx rfl rfl) (sim_BinOp op_mul (sim_BinOp op_div (sim_name cx rfl rfl) (sim_call cx rfl rfl gl_len (.builtin _) op_len (simA_cons (sim_name cx rfl rfl) simA_nil))) sim_int))) (simS_cons (simS_Assign cx.ok (storable cx rfl rfl) rfl (sim_BinOp op_mod (sim_BinOp op_add (sim_name cx rfl rfl) (sim_BinOp op_mul (sim_Sub (fun _ _ => rfl) (sim_name cx rfl rfl) (sim_BinOp op_mod (sim_name cx rfl rfl) (sim_call cx rfl rfl gl_len (.builtin _) op_len (simA_cons (sim_name cx rfl rfl) simA_nil)))) sim_int)) sim_int)) simS_nil)) simS_nil) (simS_cons (simS_Return (sim_BinOp op_mod (sim_BinOp op_add (sim_BinOp op_div (sim_BinOp op_mul (sim_name cx rfl rfl) (sim_name cx rfl rfl)) sim_int) (sim_BinOp op_mul sim_int (sim_name cx rfl rfl))) sim_int)) simS_nil)))
noncomputable def sp_law_whole : FnM := aFn ["_law_found"] (fun n₀ => (sSeq (sRet (vAnd [(aIsi "int" (aName "_law_found")), (aNot (aIsi "bool" (aName "_law_found")))])) sNil))
theorem cl_law_whole {P : Params} : Callee (Gr (hd1.heap_39 P)) (.ref 54) := callee_fn (by k_is)
theorem ok_law_whole {prog : Program} {w : World} {P : Params} : FnOk prog w (Gr (hd1.heap_39 P)) 1 54 sp_law_whole := by
  refine fn_def (K := hd1.heap_39 P) (f := 54) (k := 0) (ps := ["_law_found"]) (ho := by k_is) (hcd := by k_is) ?_ rfl rfl rfl rfl rfl ?_
  · intro xs hx
    match xs, hx with
    | [_], _ => rfl
  · intro A L h₀ n₀ cx
    exact (simS_cons (simS_Return (sim_and (simVAnd_cons (sim_isinstance cx rfl rfl rfl gl_isinstance gl_int (sim_name cx rfl rfl) (fun _ => rfl)) (simVAnd_one (sim_not (sim_isinstance cx rfl rfl rfl gl_isinstance gl_bool (sim_name cx rfl rfl) (fun _ => rfl))))))) simS_nil)
noncomputable def sp_law_wholes : FnM := aFn ["_law_found"] (fun n₀ => (sSeq (sRet (vAnd [(aIsi "list" (aName "_law_found")), (aCall bAll [(aComp "_law_one" (aName "_law_found") (bAnd []) (aCall sp_law_whole [(aName "_law_one")]))])])) sNil))
theorem cl_law_wholes {P : Params} : Callee (Gr (hd1.heap_39 P)) (.ref 59) := callee_fn (by k_is)
theorem ok_law_wholes {prog : Program} {w : World} {P : Params} : FnOk prog w (Gr (hd1.heap_39 P)) 2 59 sp_law_wholes := by
  refine fn_def (K := hd1.heap_39 P) (f := 59) (k := 1) (ps := ["_law_found"]) (ho := by k_is) (hcd := by k_is) ?_ rfl rfl rfl rfl rfl ?_
  · intro xs hx
    match xs, hx with
    | [_], _ => rfl
  · intro A L h₀ n₀ cx
    exact (simS_cons (simS_Return (sim_and (simVAnd_cons (sim_isinstance cx rfl rfl rfl gl_isinstance gl_list (sim_name cx rfl rfl) (fun _ => rfl)) (simVAnd_one (sim_call cx rfl rfl gl_all (.builtin _) (op_all cx.lv) (simA_cons (sim_ListComp cx (compOk_of rfl rfl) (fun _ => rfl) (sim_name cx rfl rfl) (fun _ _ cx => simT_nil) (fun _ _ cx => (sim_call cx rfl rfl gl_law_whole cl_law_whole (op_fn_le cx ok_law_whole (by decide)) (simA_cons (sim_name cx rfl rfl) simA_nil)))) simA_nil)))))) simS_nil)
noncomputable def sp_law_counts_by : FnM := aFn ["_law_script"] (fun n₀ => (sSeq (sIf (bCmp cEq (aBin opMod (aCall sp_law_cell [(aName "_law_script"), (aInt 0)]) (aInt 2)) (aInt 0)) (sSeq (sAssignC "_law_counts" "_law_k" (aCall bRange [(aBin opMod (aCall sp_law_cell [(aName "_law_script"), (aInt 1)]) (aInt 9))]) (bAnd []) (aBin opSub (aBin opMod (aCall sp_law_cell [(aName "_law_script"), (aBin opAdd (aInt 2) (aName "_law_k"))]) (aInt 14)) (aInt 2))) (sSeq (sIf (bCmp cEq (aBin opMod (aCall sp_law_cell [(aName "_law_script"), (aInt 7)]) (aInt 3)) (aInt 1)) (sSeq (sAssign "_law_counts" (aBin opMul (aComp "_law_one" (aBin opAdd (aName "_law_counts") (aList [(aInt 2)])) (bAnd []) (aBin opMod (aCall bAbs [(aName "_law_one")]) (aInt 10))) (aBin opAdd (aInt 1) (aBin opMod (aBin opDiv (aCall sp_law_cell [(aName "_law_script"), (aInt 1)]) (aInt 27)) (aInt 20))))) (sSeq (sAssign "_law_counts" (aUpto (aName "_law_counts") (aSub (aList [(aInt 200), (aInt 7), (aInt 7), (aInt 6)]) (aBin opMod (aCall sp_law_cell [(aName "_law_script"), (aInt 9)]) (aInt 4))))) sNil)) sNil) (sSeq (sIf (bAnd [(bCmp cEq (aBin opMod (aCall sp_law_cell [(aName "_law_script"), (aInt 7)]) (aInt 3)) (aInt 2)), (bCmp cNe (aName "_law_counts") (aList []))]) (sSeq (sAssign "_law_far" (aSub (aList [(aBin opPow (aInt 10) (aInt 9)), (aNeg (aInt 1)), (aNeg (aBin opPow (aInt 10) (aInt 20))), (aInt 10)]) (aBin opMod (aBin opDiv (aCall sp_law_cell [(aName "_law_script"), (aInt 1)]) (aInt 243)) (aInt 4)))) (sSeq (sSetItem n₀ "_law_counts" (aBin opMod (aBin opDiv (aCall sp_law_cell [(aName "_law_script"), (aInt 1)]) (aInt 27)) (aCall bLen [(aName "_law_counts")])) (aName "_law_far")) sNil)) sNil) (sSeq (sRet (aName "_law_counts")) sNil)))) sNil) (sSeq (sAssign "_law_most" (aSub (aList [(aInt 10), (aInt 10), (aInt 4)]) (aBin opMod (aBin opDiv (aCall sp_law_cell [(aName "_law_script"), (aInt 0)]) (aInt 2)) (aInt 3)))) (sSeq (sRet (aComp "_law_k" (aCall bRange [(aBin opAdd (aInt 1) (aBin opMod (aCall sp_law_cell [(aName "_law_script"), (aInt 1)]) (aInt 6)))]) (bAnd []) (aBin opMod (aCall sp_law_cell [(aName "_law_script"), (aBin opAdd (aInt 2) (aName "_law_k"))]) (aName "_law_most")))) sNil))))
theorem cl_law_counts_by {P : Params} : Callee (Gr (hd1.heap_39 P)) (.ref 64) := callee_fn (by k_is)
theorem ok_law_counts_by {prog : Program} {w : World} {P : Params} : FnOk prog w (Gr (hd1.heap_39 P)) 2 64 sp_law_counts_by := by
  refine fn_def (K := hd1.heap_39 P) (f := 64) (k := 1) (ps := ["_law_script"]) (ho := by k_is) (hcd := by k_is) ?_ rfl rfl rfl rfl rfl ?_
  · intro xs hx
    match xs, hx with
    | [_], _ => rfl
  · intro A L h₀ n₀ cx
    exact (simS_cons (simS_If (simB_Cmp1 (cmp_eq cx.lv) rfl (sim_BinOp op_mod (sim_call cx rfl rfl gl_law_cell cl_law_cell (op_fn_le cx ok_law_cell (by decide)) (simA_cons (sim_name cx rfl rfl) (simA_cons sim_int simA_nil))) sim_int) sim_int) (simS_cons (simS_AssignComp cx (storable cx rfl rfl) (compOk_of rfl rfl) (fun _ => rfl) rfl (sim_call cx rfl rfl gl_range (.type _) op_range (simA_cons (sim_BinOp op_mod (sim_call cx rfl rfl gl_law_cell cl_law_cell (op_fn_le cx ok_law_cell (by decide)) (simA_cons (sim_name cx rfl rfl) (simA_cons sim_int simA_nil))) sim_int) simA_nil)) (fun _ _ cx => simT_nil) (fun _ _ cx => (sim_BinOp op_sub (sim_BinOp op_mod (sim_call cx rfl rfl gl_law_cell cl_law_cell (op_fn_le cx ok_law_cell (by decide)) (simA_cons (sim_name cx rfl rfl) (simA_cons (sim_BinOp op_add sim_int (sim_name cx rfl rfl)) simA_nil))) sim_int) sim_int))) (simS_cons (simS_If (simB_Cmp1 (cmp_eq cx.lv) rfl (sim_BinOp op_mod (sim_call cx rfl rfl gl_law_cell cl_law_cell (op_fn_le cx ok_law_cell (by decide)) (simA_cons (sim_name cx rfl rfl) (simA_cons sim_int simA_nil))) sim_int) sim_int) (simS_cons (simS_Assign cx.ok (storable cx rfl rfl) rfl (sim_BinOp op_mul (sim_ListComp cx (compOk_of rfl rfl) (fun _ => rfl) (sim_BinOp op_add (sim_name cx rfl rfl) (sim_List (simA_cons sim_int simA_nil))) (fun _ _ cx => simT_nil) (fun _ _ cx => (sim_BinOp op_mod (sim_call cx rfl rfl gl_abs (.builtin _) op_abs (simA_cons (sim_name cx rfl rfl) simA_nil)) sim_int))) (sim_BinOp op_add sim_int (sim_BinOp op_mod (sim_BinOp op_div (sim_call cx rfl rfl gl_law_cell cl_law_cell (op_fn_le cx ok_law_cell (by decide)) (simA_cons (sim_name cx rfl rfl) (simA_cons sim_int simA_nil))) sim_int) sim_int)))) (simS_cons (simS_Assign cx.ok (storable cx rfl rfl) rfl (sim_upto (sim_name cx rfl rfl) (sim_Sub (fun _ _ => rfl) (sim_List (simA_cons sim_int (simA_cons sim_int (simA_cons sim_int (simA_cons sim_int simA_nil))))) (sim_BinOp op_mod (sim_call cx rfl rfl gl_law_cell cl_law_cell (op_fn_le cx ok_law_cell (by decide)) (simA_cons (sim_name cx rfl rfl) (simA_cons sim_int simA_nil))) sim_int)) (fun _ _ => rfl))) simS_nil)) simS_nil) (simS_cons (simS_If (simB_and (simAnd_cons (simB_Cmp1 (cmp_eq cx.lv) rfl (sim_BinOp op_mod (sim_call cx rfl rfl gl_law_cell cl_law_cell (op_fn_le cx ok_law_cell (by decide)) (simA_cons (sim_name cx rfl rfl) (simA_cons sim_int simA_nil))) sim_int) sim_int) (simAnd_cons (simB_Cmp1 (cmp_ne cx.lv) rfl (sim_name cx rfl rfl) (sim_List simA_nil)) simAnd_nil))) (simS_cons (simS_Assign cx.ok (storable cx rfl rfl) rfl (sim_Sub (fun _ _ => rfl) (sim_List (simA_cons (sim_BinOp op_pow sim_int sim_int) (simA_cons (sim_neg sim_int) (simA_cons (sim_neg (sim_BinOp op_pow sim_int sim_int)) (simA_cons sim_int simA_nil))))) (sim_BinOp op_mod (sim_BinOp op_div (sim_call cx rfl rfl gl_law_cell cl_law_cell (op_fn_le cx ok_law_cell (by decide)) (simA_cons (sim_name cx rfl rfl) (simA_cons sim_int simA_nil))) sim_int) sim_int))) (simS_cons (simS_setItem cx rfl rfl rfl (sim_BinOp op_mod (sim_BinOp op_div (sim_call cx rfl rfl gl_law_cell cl_law_cell (op_fn_le cx ok_law_cell (by decide)) (simA_cons (sim_name cx rfl rfl) (simA_cons sim_int simA_nil))) sim_int) (sim_call cx rfl rfl gl_len (.builtin _) op_len (simA_cons (sim_name cx rfl rfl) simA_nil))) (sim_name cx rfl rfl)) simS_nil)) simS_nil) (simS_cons (simS_Return (sim_name cx rfl rfl)) simS_nil)))) simS_nil) (simS_cons (simS_Assign cx.ok (storable cx rfl rfl) rfl (sim_Sub (fun _ _ => rfl) (sim_List (simA_cons sim_int (simA_cons sim_int (simA_cons sim_int simA_nil)))) (sim_BinOp op_mod (sim_BinOp op_div (sim_call cx rfl rfl gl_law_cell cl_law_cell (op_fn_le cx ok_law_cell (by decide)) (simA_cons (sim_name cx rfl rfl) (simA_cons sim_int simA_nil))) sim_int) sim_int))) (simS_cons (simS_Return (sim_ListComp cx (compOk_of rfl rfl) (fun _ => rfl) (sim_call cx rfl rfl gl_range (.type _) op_range (simA_cons (sim_BinOp op_add sim_int (sim_BinOp op_mod (sim_call cx rfl rfl gl_law_cell cl_law_cell (op_fn_le cx ok_law_cell (by decide)) (simA_cons (sim_name cx rfl rfl) (simA_cons sim_int simA_nil))) sim_int)) simA_nil)) (fun _ _ cx => simT_nil) (fun _ _ cx => (sim_BinOp op_mod (sim_call cx rfl rfl gl_law_cell cl_law_cell (op_fn_le cx ok_law_cell (by decide)) (simA_cons (sim_name cx rfl rfl) (simA_cons (sim_BinOp op_add sim_int (sim_name cx rfl rfl)) simA_nil))) (sim_name cx rfl rfl))))) simS_nil)))
noncomputable def sp_law_all_rooms : FnM := aFn ["_law_counts"] (fun n₀ => (sSeq (sAssign "_law_kinds" (aList [])) (sSeq (sFor "_law_kind" (aCall bRange [(aCall bLen [(aName "_law_counts")])]) (sSeq (sAssign "_law_kinds" (aBin opAdd (aName "_law_kinds") (aBin opMul (aList [(aName "_law_kind")]) (aSub (aName "_law_counts") (aName "_law_kind"))))) sNil)) (sSeq (sFor "_law_room" (aCall bRange [(aCall bLen [(aName "_law_kinds")])]) (sSeq (sAssign "_law_found" (aCall sp_kind_of [(aName "_law_counts"), (aName "_law_room")])) (sSeq (sIf (bOr [(bNot (bVal (aCall sp_law_whole [(aName "_law_found")]))), (bCmp cNe (aName "_law_found") (aSub (aName "_law_kinds") (aName "_law_room")))]) (sSeq (sRet (aBool false)) sNil) sNil) sNil))) (sSeq (sFor "_law_kind" (aCall bRange [(aCall bLen [(aName "_law_counts")])]) (sSeq (sAssign "_law_found" (aCall sp_rooms_of [(aName "_law_counts"), (aName "_law_kind")])) (sSeq (sAssignC "_law_due" "_law_room" (aCall bRange [(aCall bLen [(aName "_law_kinds")])]) (bAnd [(bCmp cEq (aSub (aName "_law_kinds") (aName "_law_room")) (aName "_law_kind"))]) (aName "_law_room")) (sSeq (sIf (bOr [(bNot (bVal (aCall sp_law_wholes [(aName "_law_found")]))), (bCmp cNe (aName "_law_found") (aName "_law_due"))]) (sSeq (sRet (aBool false)) sNil) sNil) (sSeq (sAppend n₀ "_law_found" (aInt 7)) (sSeq (sIf (bOr [(bCmp cNe (aCall sp_rooms_of [(aName "_law_counts"), (aName "_law_kind")]) (aName "_law_due")), (bCmp cNe (aName "_law_found") (aBin opAdd (aName "_law_due") (aList [(aInt 7)])))]) (sSeq (sRet (aBool false)) sNil) sNil) sNil)))))) (sSeq (sAssign "_law_found" (aCall sp_room_count [(aName "_law_counts")])) (sSeq (sRet (vAnd [(aCall sp_law_whole [(aName "_law_found")]), (aCmp cEq (aName "_law_found") (aCall bLen [(aName "_law_kinds")]))])) sNil)))))))
theorem cl_law_all_rooms {P : Params} : Callee (Gr (hd1.heap_39 P)) (.ref 69) := callee_fn (by k_is)
theorem ok_law_all_rooms {prog : Program} {w : World} {P : Params} : FnOk prog w (Gr (hd1.heap_39 P)) 3 69 sp_law_all_rooms := by
  refine fn_def (K := hd1.heap_39 P) (f := 69) (k := 2) (ps := ["_law_counts"]) (ho := by k_is) (hcd := by k_is) ?_ rfl rfl rfl rfl rfl ?_
  · intro xs hx
    match xs, hx with
    | [_], _ => rfl
  · intro A L h₀ n₀ cx
    exact (simS_cons (simS_Assign cx.ok (storable cx rfl rfl) rfl (sim_List simA_nil)) (simS_cons (simS_For cx.ok (storable cx rfl rfl) (fun _ => rfl) (sim_call cx rfl rfl gl_range (.type _) op_range (simA_cons (sim_call cx rfl rfl gl_len (.builtin _) op_len (simA_cons (sim_name cx rfl rfl) simA_nil)) simA_nil)) (simS_cons (simS_Assign cx.ok (storable cx rfl rfl) rfl (sim_BinOp op_add (sim_name cx rfl rfl) (sim_BinOp op_mul (sim_List (simA_cons (sim_name cx rfl rfl) simA_nil)) (sim_Sub (fun _ _ => rfl) (sim_name cx rfl rfl) (sim_name cx rfl rfl))))) simS_nil)) (simS_cons (simS_For cx.ok (storable cx rfl rfl) (fun _ => rfl) (sim_call cx rfl rfl gl_range (.type _) op_range (simA_cons (sim_call cx rfl rfl gl_len (.builtin _) op_len (simA_cons (sim_name cx rfl rfl) simA_nil)) simA_nil)) (simS_cons (simS_Assign cx.ok (storable cx rfl rfl) rfl (sim_call cx rfl rfl gl_kind_of cl_kind_of (op_fn_le cx ok_kind_of (by decide)) (simA_cons (sim_name cx rfl rfl) (simA_cons (sim_name cx rfl rfl) simA_nil)))) (simS_cons (simS_If (simB_or (simOr_cons (simB_not (simB_val (fun _ => rfl) (sim_call cx rfl rfl gl_law_whole cl_law_whole (op_fn_le cx ok_law_whole (by decide)) (simA_cons (sim_name cx rfl rfl) simA_nil)))) (simOr_cons (simB_Cmp1 (cmp_ne cx.lv) rfl (sim_name cx rfl rfl) (sim_Sub (fun _ _ => rfl) (sim_name cx rfl rfl) (sim_name cx rfl rfl))) simOr_nil))) (simS_cons (simS_Return sim_bool) simS_nil) simS_nil) simS_nil))) (simS_cons (simS_For cx.ok (storable cx rfl rfl) (fun _ => rfl) (sim_call cx rfl rfl gl_range (.type _) op_range (simA_cons (sim_call cx rfl rfl gl_len (.builtin _) op_len (simA_cons (sim_name cx rfl rfl) simA_nil)) simA_nil)) (simS_cons (simS_Assign cx.ok (storable cx rfl rfl) rfl (sim_call cx rfl rfl gl_rooms_of cl_rooms_of (op_fn_le cx ok_rooms_of (by decide)) (simA_cons (sim_name cx rfl rfl) (simA_cons (sim_name cx rfl rfl) simA_nil)))) (simS_cons (simS_AssignComp cx (storable cx rfl rfl) (compOk_of rfl rfl) (fun _ => rfl) rfl (sim_call cx rfl rfl gl_range (.type _) op_range (simA_cons (sim_call cx rfl rfl gl_len (.builtin _) op_len (simA_cons (sim_name cx rfl rfl) simA_nil)) simA_nil)) (fun _ _ cx => (simT_one (simB_Cmp1 (cmp_eq cx.lv) rfl (sim_Sub (fun _ _ => rfl) (sim_name cx rfl rfl) (sim_name cx rfl rfl)) (sim_name cx rfl rfl)))) (fun _ _ cx => (sim_name cx rfl rfl))) (simS_cons (simS_If (simB_or (simOr_cons (simB_not (simB_val (fun _ => rfl) (sim_call cx rfl rfl gl_law_wholes cl_law_wholes (op_fn_le cx ok_law_wholes (by decide)) (simA_cons (sim_name cx rfl rfl) simA_nil)))) (simOr_cons (simB_Cmp1 (cmp_ne cx.lv) rfl (sim_name cx rfl rfl) (sim_name cx rfl rfl)) simOr_nil))) (simS_cons (simS_Return sim_bool) simS_nil) simS_nil) (simS_cons (simS_append cx rfl rfl rfl rfl rfl rfl sim_int) (simS_cons (simS_If (simB_or (simOr_cons (simB_Cmp1 (cmp_ne cx.lv) rfl (sim_call cx rfl rfl gl_rooms_of cl_rooms_of (op_fn_le cx ok_rooms_of (by decide)) (simA_cons (sim_name cx rfl rfl) (simA_cons (sim_name cx rfl rfl) simA_nil))) (sim_name cx rfl rfl)) (simOr_cons (simB_Cmp1 (cmp_ne cx.lv) rfl (sim_name cx rfl rfl) (sim_BinOp op_add (sim_name cx rfl rfl) (sim_List (simA_cons sim_int simA_nil)))) simOr_nil))) (simS_cons (simS_Return sim_bool) simS_nil) simS_nil) simS_nil)))))) (simS_cons (simS_Assign cx.ok (storable cx rfl rfl) rfl (sim_call cx rfl rfl gl_room_count cl_room_count (op_fn_le cx ok_room_count (by decide)) (simA_cons (sim_name cx rfl rfl) simA_nil))) (simS_cons (simS_Return (sim_and (simVAnd_cons (sim_call cx rfl rfl gl_law_whole cl_law_whole (op_fn_le cx ok_law_whole (by decide)) (simA_cons (sim_name cx rfl rfl) simA_nil)) (simVAnd_one (sim_Cmp1 (cmp_eq cx.lv) rfl (sim_name cx rfl rfl) (sim_call cx rfl rfl gl_len (.builtin _) op_len (simA_cons (sim_name cx rfl rfl) simA_nil))))))) simS_nil))))))
noncomputable def sp_law : FnM := aFn ["_law_script"] (fun n₀ => (sSeq (sAssign "_law_counts" (aCall sp_law_counts_by [(aName "_law_script")])) (sSeq (sAssign "_law_handed" (aCall bList [(aName "_law_counts")])) (sSeq (sAssign "_law_good" (vAnd [(aCmp2 cLt cLt (aInt 0) (aCall bLen [(aName "_law_counts")]) (aInt 7)), (aCmp cEq (aComp "_law_one" (aName "_law_counts") (bAnd [(bOr [(bCmp cLt (aName "_law_one") (aInt 0)), (bCmp cGt (aName "_law_one") (aInt 9))])]) (aName "_law_one")) (aList []))])) (sSeq (sAssign "_law_found" (aCall sp_is_house [(aName "_law_handed")])) (sSeq (sIf (bOr [(bNot (bVal (aIsi "bool" (aName "_law_found")))), (bCmp cNe (aName "_law_found") (aName "_law_good"))]) (sSeq (sRet (aBool false)) sNil) sNil) (sSeq (sRet (vAnd [(aCmp cEq (aName "_law_handed") (aName "_law_counts")), (vOr [(aNot (aName "_law_good")), (vAnd [(aCall sp_law_all_rooms [(aName "_law_handed")]), (aCmp cEq (aName "_law_handed") (aName "_law_counts"))])])])) sNil)))))))
theorem cl_law {P : Params} : Callee (Gr (hd1.heap_39 P)) (.ref 74) := callee_fn (by k_is)
theorem ok_law {prog : Program} {w : World} {P : Params} : FnOk prog w (Gr (hd1.heap_39 P)) 4 74 sp_law := by
  refine fn_def (K := hd1.heap_39 P) (f := 74) (k := 3) (ps := ["_law_script"]) (ho := by k_is) (hcd := by k_is) ?_ rfl rfl rfl rfl rfl ?_
  · intro xs hx
    match xs, hx with
    | [_], _ => rfl
  · intro A L h₀ n₀ cx
    exact (simS_cons (simS_Assign cx.ok (storable cx rfl rfl) rfl (sim_call cx rfl rfl gl_law_counts_by cl_law_counts_by (op_fn_le cx ok_law_counts_by (by decide)) (simA_cons (sim_name cx rfl rfl) simA_nil))) (simS_cons (simS_Assign cx.ok (storable cx rfl rfl) rfl (sim_call cx rfl rfl gl_list (.type _) (op_list cx.lv) (simA_cons (sim_name cx rfl rfl) simA_nil))) (simS_cons (simS_Assign cx.ok (storable cx rfl rfl) rfl (sim_and (simVAnd_cons (sim_Cmp2 cmp_lt cmp_lt rfl rfl sim_int (sim_call cx rfl rfl gl_len (.builtin _) op_len (simA_cons (sim_name cx rfl rfl) simA_nil)) sim_int) (simVAnd_one (sim_Cmp1 (cmp_eq cx.lv) rfl (sim_ListComp cx (compOk_of rfl rfl) (fun _ => rfl) (sim_name cx rfl rfl) (fun _ _ cx => (simT_one (simB_or (simOr_cons (simB_Cmp1 cmp_lt rfl (sim_name cx rfl rfl) sim_int) (simOr_cons (simB_Cmp1 cmp_gt rfl (sim_name cx rfl rfl) sim_int) simOr_nil))))) (fun _ _ cx => (sim_name cx rfl rfl))) (sim_List simA_nil)))))) (simS_cons (simS_Assign cx.ok (storable cx rfl rfl) rfl (sim_call cx rfl rfl gl_is_house cl_is_house (op_fn_le cx ok_is_house (by decide)) (simA_cons (sim_name cx rfl rfl) simA_nil))) (simS_cons (simS_If (simB_or (simOr_cons (simB_not (simB_val (fun _ => rfl) (sim_isinstance cx rfl rfl rfl gl_isinstance gl_bool (sim_name cx rfl rfl) (fun _ => rfl)))) (simOr_cons (simB_Cmp1 (cmp_ne cx.lv) rfl (sim_name cx rfl rfl) (sim_name cx rfl rfl)) simOr_nil))) (simS_cons (simS_Return sim_bool) simS_nil) simS_nil) (simS_cons (simS_Return (sim_and (simVAnd_cons (sim_Cmp1 (cmp_eq cx.lv) rfl (sim_name cx rfl rfl) (sim_name cx rfl rfl)) (simVAnd_one (sim_or (simVOr_cons (sim_not (sim_name cx rfl rfl)) (simVOr_one (sim_and (simVAnd_cons (sim_call cx rfl rfl gl_law_all_rooms cl_law_all_rooms (op_fn_le cx ok_law_all_rooms (by decide)) (simA_cons (sim_name cx rfl rfl) simA_nil)) (simVAnd_one (sim_Cmp1 (cmp_eq cx.lv) rfl (sim_name cx rfl rfl) (sim_name cx rfl rfl)))))))))))) simS_nil))))))

end Inn
end
section
set_option maxRecDepth 10000
set_option linter.unusedVariables false
set_option linter.unusedSimpArgs false
namespace Inn
open PySem

theorem wF_get {F : FnM} {vs σ a b} (h : wF F vs σ fun v s => v = a ∧ s = b) : F vs σ = some (a, b) := by
  obtain ⟨v, s, e, rfl, rfl⟩ := h; exact e
theorem w2_add {a b : Int} {σ Q} : w2 opAdd (.int a) (.int b) σ Q ↔ Q (.int (a + b)) σ := by
  constructor
  · rintro ⟨v, s, e, q⟩; cases e; exact q
  · intro q; exact ⟨_, _, rfl, q⟩
theorem w2_sub {a b : Int} {σ Q} : w2 opSub (.int a) (.int b) σ Q ↔ Q (.int (a - b)) σ := by
  constructor
  · rintro ⟨v, s, e, q⟩; cases e; exact q
  · intro q; exact ⟨_, _, rfl, q⟩
theorem w2_mod {a b : Int} {σ Q} : w2 opMod (.int a) (.int b) σ Q ↔ b ≠ 0 ∧ Q (.int (a.fmod b)) σ := by
  constructor
  · rintro ⟨v, s, e, q⟩
    simp only [opMod] at e
    split at e
    · cases e
    · cases e; exact ⟨by assumption, q⟩
  · rintro ⟨h, q⟩; exact ⟨_, _, by simp [opMod, h], q⟩
theorem w2_div {a b : Int} {σ Q} : w2 opDiv (.int a) (.int b) σ Q ↔ (0 < b ∧ b < 1000000000) ∧ Q (.int (a.fdiv b)) σ := by
  constructor
  · rintro ⟨v, s, e, q⟩
    simp only [opDiv] at e
    split at e
    · cases e; exact ⟨by assumption, q⟩
    · cases e
  · rintro ⟨h, q⟩; exact ⟨_, _, by simp [opDiv, h], q⟩
theorem w2_mul {a b : Int} {σ Q} : w2 opMul (.int a) (.int b) σ Q ↔ (smallI a ∨ smallI b) ∧ Q (.int (a * b)) σ := by
  constructor
  · rintro ⟨v, s, e, q⟩
    simp only [opMul] at e
    split at e
    · cases e; exact ⟨by assumption, q⟩
    · cases e
  · rintro ⟨h, q⟩; exact ⟨_, _, by simp [opMul, h], q⟩
theorem w2_pow {a b : Int} {σ Q} : w2 opPow (.int a) (.int b) σ Q ↔ (a = 10 ∧ 0 < b ∧ b < 1000) ∧ Q (.int (a ^ b.toNat)) σ := by
  constructor
  · rintro ⟨v, s, e, q⟩
    simp only [opPow] at e
    split at e
    · cases e; exact ⟨by assumption, q⟩
    · cases e
  · rintro ⟨h, q⟩; exact ⟨_, _, by simp [opPow, h], q⟩
theorem wC_lt {a b : Int} {σ Q} : wC cLt (.int a) (.int b) σ Q ↔ Q (decide (a < b)) := by simp [wC, cLt]
theorem wC_le {a b : Int} {σ Q} : wC cLe (.int a) (.int b) σ Q ↔ Q (decide (a ≤ b)) := by simp [wC, cLe]
theorem wC_gt {a b : Int} {σ Q} : wC cGt (.int a) (.int b) σ Q ↔ Q (decide (b < a)) := by simp [wC, cGt]
theorem wC_ge {a b : Int} {σ Q} : wC cGe (.int a) (.int b) σ Q ↔ Q (decide (b ≤ a)) := by simp [wC, cGe]
theorem wC_eqi {a b : Int} {σ Q} : wC cEq (.int a) (.int b) σ Q ↔ Q (a == b) := by simp [wC, cEq, aEq]
theorem wC_nei {a b : Int} {σ Q} : wC cNe (.int a) (.int b) σ Q ↔ Q (!(a == b)) := by
  constructor
  · rintro ⟨v, e, q⟩; simp only [cNe, aEq, Option.map_some, Option.some.injEq] at e; subst e; exact q
  · intro q; exact ⟨_, rfl, q⟩
theorem wC_eqb {a b : Bool} {σ Q} : wC cEq (.bool a) (.bool b) σ Q ↔ Q (a == b) := by simp [wC, cEq, aEq]
theorem wC_neb {a b : Bool} {σ Q} : wC cNe (.bool a) (.bool b) σ Q ↔ Q (!(a == b)) := by
  constructor
  · rintro ⟨v, e, q⟩; simp only [cNe, aEq, Option.map_some, Option.some.injEq] at e; subst e; exact q
  · intro q; exact ⟨_, rfl, q⟩
theorem pairs_ints {n : Nat} {σ : Store} : ∀ (ms ns : List Int), ms.length = ns.length → pairsEq (aEq (n + 1) σ) (ms.map .int) (ns.map .int) = some (ms == ns)
  | [], [], _ => rfl
  | [], _ :: _, h => by simp at h
  | _ :: _, [], h => by simp at h
  | a :: ms, b :: ns, h => by
    have ih := pairs_ints (n := n) (σ := σ) ms ns (by simpa using h)
    have e : aEq (n + 1) σ (.int a) (.int b) = some (a == b) := rfl
    simp only [List.map_cons, pairsEq, ih, e, Option.bind_some, Option.map_some, List.cons_beq_cons]
theorem aEq_ints {σ : Store} {i j : Nat} {ms ns : List Int} (h1 : σ[i]? = some (.list (ms.map .int))) (h2 : σ[j]? = some (.list (ns.map .int))) : aEq 6 σ (.ref i) (.ref j) = some (ms == ns) := by
  unfold aEq
  simp only [h1, h2, List.length_map]
  split
  · rename_i h; exact pairs_ints ms ns h
  · rename_i h
    have : ms ≠ ns := fun e => h (by rw [e])
    have e : (ms == ns) = false := by simpa using this
    rw [e]
theorem wC_eqL {σ : Store} {i j : Nat} {ms ns : List Int} {Q} (h1 : σ[i]? = some (.list (ms.map .int))) (h2 : σ[j]? = some (.list (ns.map .int))) : wC cEq (.ref i) (.ref j) σ Q ↔ Q (ms == ns) := by
  simp [wC, cEq, aEq_ints h1 h2]
theorem wC_neL {σ : Store} {i j : Nat} {ms ns : List Int} {Q} (h1 : σ[i]? = some (.list (ms.map .int))) (h2 : σ[j]? = some (.list (ns.map .int))) : wC cNe (.ref i) (.ref j) σ Q ↔ Q (!(ms == ns)) := by
  constructor
  · rintro ⟨v, e, q⟩; simp only [cNe, aEq_ints h1 h2, Option.map_some, Option.some.injEq] at e; subst e; exact q
  · intro q; exact ⟨_, by simp only [cNe, aEq_ints h1 h2, Option.map_some], q⟩
theorem wF_len {σ : Store} {i : Nat} {vs : List AV} {Q} (h : σ[i]? = some (.list vs)) : wF bLen [.ref i] σ Q ↔ Q (.int vs.length) σ := wF_eq (by simp [bLen, h])
theorem w2_item {σ : Store} {i : Nat} {vs : List AV} {k : Int} {v : AV} {Q} (h : σ[i]? = some (.list vs)) (h0 : 0 ≤ k) (e : vs[k.toNat]? = some v) : w2 getI (.ref i) (.int k) σ Q ↔ Q v σ := by
  have e' : getI (.ref i) (.int k) σ = some (v, σ) := by simp [getI, h, h0, e]
  constructor
  · rintro ⟨v', s, e1, q⟩; rw [e'] at e1; cases e1; exact q
  · intro q; exact ⟨_, _, e', q⟩

def cellM (ns : List Int) (k : Int) : Int := if ns = [] then k * 7919 else (k * 7919 + k.fdiv ns.length * 104729 + ns.getD (k.fmod ns.length).toNat 0 * 48271).fmod 1000003
def cellV (ns : List Int) (k : Int) : Int := ((cellM ns k * cellM ns k).fdiv 11 + 13 * cellM ns k).fmod 1000003
theorem cellV_nonneg (ns : List Int) (k : Int) : 0 ≤ cellV ns k := by
  unfold cellV; rw [Int.fmod_eq_emod_of_nonneg _ (by decide)]; omega
theorem cellV_lt (ns : List Int) (k : Int) : cellV ns k < 1000003 := by
  unfold cellV; rw [Int.fmod_eq_emod_of_nonneg _ (by decide)]; omega

theorem fmod_lt (a : Int) {b : Int} (h : 0 < b) : 0 ≤ a.fmod b ∧ a.fmod b < b := by
  rw [Int.fmod_eq_emod_of_nonneg _ (by omega)]
  exact ⟨Int.emod_nonneg _ (by omega), Int.emod_lt_of_pos _ h⟩
theorem cell_eq {σ : Store} {i : Nat} {ns : List Int} {k : Int} (h : σ[i]? = some (.list (ns.map .int))) (h0 : 0 ≤ k) (h1 : k < 1000000) (hl : ns.length ≤ 1000) : sp_law_cell [.ref i, .int k] σ = some (.int (cellV ns k), σ) := by
  refine wF_get (wF_fn rfl ?_)
  have hd := app_get (τ := [.list []]) h
  have hd2 : (σ ++ [AO.list []])[σ.length]? = some (.list (([] : List Int).map .int)) := new_get
  simp only [List.zip_cons_cons, List.zip_nil_right, List.zip_nil_left, bindE, wS_seq, wS_assign, wS_if, wS_nil, wS_ret, thenS, wA_bin, wA_int, wA_bool, wA_none, wA_cmp, wA_bcmp, wA_cmp2, wA_bcmp2, wA_bval, wA_bnot, wA_not, wA_neg, wA_band_nil, wA_band_cons, wA_bor_nil, wA_bor_cons, wA_vand1, wA_vand, wA_vor1, wA_vor, wA_here, wA_there, str_eq_iff, String.reduceEq, not_false_eq_true, wA_list, wA_tup, wA_args_nil, wA_args_cons, wA_call, wA_sub, wA_isi, wA_upto, w2_add, w2_sub, w2_mod, w2_div, w2_mul, w2_pow, wC_lt, wC_le, wC_gt, wC_ge, wC_eqi, wC_nei, wC_eqb, wC_neb, List.length_nil, List.length_cons, List.length_map, exp_int, exp_bool, exp_none, aTruth, Option.some.injEq, exists_eq_left', wC_neL hd hd2, wF_len hd]
  refine ⟨.inr (by decide), by omega, ?_⟩
  by_cases hn : ns = []
  · subst hn
    have hc : cellM [] k = k * 7919 := rfl
    have hs : smallI (k * 7919) := by unfold smallI; omega
    simp only [BEq.rfl, Bool.not_true, Bool.false_eq_true, if_false]
    exact ⟨.inl hs, by decide, .inl (by decide), by decide, ⟨_, rfl⟩, _, _, rfl, by rw [cellV, hc], rfl⟩
  · have hb : (!(ns == [])) = true := by simp [hn]
    have hpos : 0 < ns.length := by cases ns with | nil => exact absurd rfl hn | cons _ _ => simp
    have hm := fmod_lt k (b := ns.length) (by omega)
    have hit : (ns.map AV.int)[(k.fmod ns.length).toNat]? = some (.int (ns.getD (k.fmod ns.length).toNat 0)) := by
      have : (k.fmod ns.length).toNat < ns.length := by omega
      simp [this]
    simp only [List.zip_cons_cons, List.zip_nil_right, List.zip_nil_left, bindE, wS_seq, wS_assign, wS_if, wS_nil, wS_ret, thenS, wA_bin, wA_int, wA_bool, wA_none, wA_cmp, wA_bcmp, wA_cmp2, wA_bcmp2, wA_bval, wA_bnot, wA_not, wA_neg, wA_band_nil, wA_band_cons, wA_bor_nil, wA_bor_cons, wA_vand1, wA_vand, wA_vor1, wA_vor, wA_here, wA_there, str_eq_iff, String.reduceEq, not_false_eq_true, wA_list, wA_tup, wA_args_nil, wA_args_cons, wA_call, wA_sub, wA_isi, wA_upto, w2_add, w2_sub, w2_mod, w2_div, w2_mul, w2_pow, wC_lt, wC_le, wC_gt, wC_ge, wC_eqi, wC_nei, wC_eqb, wC_neb, List.length_nil, List.length_cons, List.length_map, exp_int, exp_bool, exp_none, aTruth, Option.some.injEq, exists_eq_left', hb, if_true, w2_item hd hm.1 hit]
    have hc : cellM ns k = (k * 7919 + k.fdiv ns.length * 104729 + ns.getD (k.fmod ns.length).toNat 0 * 48271).fmod 1000003 := by simp [cellM, hn]
    have hr := fmod_lt (k * 7919 + k.fdiv ns.length * 104729 + ns.getD (k.fmod ns.length).toNat 0 * 48271) (b := 1000003) (by decide)
    rw [← hc] at hr ⊢
    have hs : smallI (cellM ns k) := by unfold smallI; omega
    exact ⟨by omega, .inr (by decide), by omega, .inr (by decide), by decide, .inl hs, by decide, .inl (by decide), by decide, ⟨_, rfl⟩, _, _, rfl, by rw [cellV], rfl⟩
theorem wF_cell {σ : Store} {i : Nat} {ns : List Int} {k : Int} {Q} (h : σ[i]? = some (.list (ns.map .int))) (h0 : 0 ≤ k) (h1 : k < 1000000) (hl : ns.length ≤ 1000) : wF sp_law_cell [.ref i, .int k] σ Q ↔ Q (.int (cellV ns k)) σ := wF_eq (cell_eq h h0 h1 hl)
end Inn

end
section
set_option maxRecDepth 10000
set_option linter.unusedVariables false
set_option linter.unusedSimpArgs false
namespace Inn
open PySem

theorem compItems_ints {x : Str} {t : AM Bool} {m : AM AV} {ρ : AEnv} {σ : Store} (p : Int → Bool) (f : Int → AV) : ∀ (ns : List Int),
    (∀ n ∈ ns, wA t (upd ρ x (.int n)) σ fun b σ1 => b = p n ∧ (p n = true → wA m (upd ρ x (.int n)) σ1 fun u _ => u = f n ∧ (f n).closed σ.length = true)) →
    compItems x t m ρ σ (ns.map .int) = some ((ns.filter p).map f)
  | [], _ => rfl
  | v :: vs, h => by
    obtain ⟨b, σ1, e1, rfl, e2⟩ := h v (.head _)
    have ih := compItems_ints p f vs fun u hu => h u (.tail _ hu)
    rw [List.map_cons, compItems, e1]
    cases hp : p v with
    | false => simp [hp, ih]
    | true =>
      obtain ⟨u, σ2, e3, rfl, e4⟩ := e2 hp
      simp [hp, e3, e4, ih]
theorem wA_compI {x src t m ρ σ} {Q : AV → Store → Prop} (p : Int → Bool) (f : Int → AV) (h : wA src ρ σ fun v σ1 => ∃ ns : List Int, itemsOf v σ1 = some (ns.map .int) ∧
    (∀ n ∈ ns, wA t (upd ρ x (.int n)) σ1 fun b σ2 => b = p n ∧ (p n = true → wA m (upd ρ x (.int n)) σ2 fun u _ => u = f n ∧ (f n).closed σ1.length = true)) ∧ Q (.ref σ1.length) (σ1 ++ [.list ((ns.filter p).map f)])) :
    wA (aComp x src t m) ρ σ Q := by
  rw [wA_comp]
  refine h.mono fun v σ1 h => ?_
  obtain ⟨ns, e1, e2, q⟩ := h
  exact ⟨_, _, e1, compItems_ints p f ns e2, q⟩
theorem wA_compM {x src m ρ σ} {Q : AV → Store → Prop} (f : Int → AV) (h : wA src ρ σ fun v σ1 => ∃ ns : List Int, itemsOf v σ1 = some (ns.map .int) ∧
    (∀ n ∈ ns, wA m (upd ρ x (.int n)) σ1 fun u _ => u = f n ∧ (f n).closed σ1.length = true) ∧ Q (.ref σ1.length) (σ1 ++ [.list (ns.map f)])) :
    wA (aComp x src (bAnd []) m) ρ σ Q := by
  refine wA_compI (fun _ => true) f (h.mono fun v σ1 h => ?_)
  obtain ⟨ns, e1, e2, q⟩ := h
  refine ⟨ns, e1, fun n hn => ?_, ?_⟩
  · rw [wA_band_nil]; exact ⟨rfl, fun _ => e2 n hn⟩
  · rw [List.filter_eq_self.mpr (fun _ _ => rfl)]; exact q
def rgI (lo hi : Int) : List Int := (List.range (hi - lo).toNat).map fun k : Nat => lo + (k : Int)
theorem rngL_eq (lo hi : Int) : rngL lo hi = (rgI lo hi).map .int := by simp [rngL, rgI]
theorem rgI_mem {lo hi n : Int} (h : n ∈ rgI lo hi) : lo ≤ n ∧ n < hi := by
  simp only [rgI, List.mem_map, List.mem_range] at h
  obtain ⟨k, hk, rfl⟩ := h
  omega
theorem rgI_length (lo hi : Int) : (rgI lo hi).length = (hi - lo).toNat := by simp [rgI]
theorem items_rng {lo hi : Int} {σ : Store} (h : -1000000 ≤ lo ∧ lo ≤ 1000000 ∧ hi ≤ 1000000 ∧ -1000000 ≤ hi ∧ hi - lo ≤ 1000000) : itemsOf (.rng lo hi) σ = some ((rgI lo hi).map .int) := by
  have : rangeOk lo hi ∧ hi - lo ≤ 1000000 := ⟨by unfold rangeOk; omega, by omega⟩
  simp only [itemsOf, if_pos this, rngL_eq]
theorem items_list {i : Nat} {vs : List AV} {σ : Store} (h : σ[i]? = some (.list vs)) : itemsOf (.ref i) σ = some vs := by simp [itemsOf, h]
theorem bools_map (bs : List Bool) : bools (bs.map .bool) = some bs := by
  induction bs with
  | nil => rfl
  | cons a r ih => simp [bools, ih]
theorem wF_all {σ : Store} {i : Nat} {bs : List Bool} {Q} (h : σ[i]? = some (.list (bs.map .bool))) : wF bAll [.ref i] σ Q ↔ Q (.bool (bs.all id)) σ := wF_eq (by simp [bAll, h, bools_map])
theorem wF_any {σ : Store} {i : Nat} {bs : List Bool} {Q} (h : σ[i]? = some (.list (bs.map .bool))) : wF bAny [.ref i] σ Q ↔ Q (.bool (bs.any id)) σ := wF_eq (by simp [bAny, h, bools_map])
theorem wF_sum {σ : Store} {i : Nat} {ns : List Int} {Q} (h : σ[i]? = some (.list (ns.map .int))) (hb : ∀ n ∈ ns, 0 ≤ n ∧ n < 1000000) : wF bSum [.ref i] σ Q ↔ Q (.int ns.sum) σ := by
  have e : (ns.all fun n => decide (0 ≤ n ∧ n < 1000000)) = true := List.all_eq_true.mpr fun n hn => decide_eq_true (hb n hn)
  exact wF_eq (by simp only [bSum, h, intsOf_map, Option.bind_some, if_pos e])
theorem wF_range1 {b : Int} {σ Q} : wF bRange [.int b] σ Q ↔ Q (.rng 0 b) σ := wF_eq rfl
theorem wF_range2 {a b : Int} {σ Q} : wF bRange [.int a, .int b] σ Q ↔ Q (.rng a b) σ := wF_eq rfl
theorem wF_listR {lo hi : Int} {σ : Store} {Q} (h : -1000000 ≤ lo ∧ lo ≤ 1000000 ∧ hi ≤ 1000000 ∧ -1000000 ≤ hi ∧ hi - lo ≤ 1000000) : wF bList [.rng lo hi] σ Q ↔ Q (.ref σ.length) (σ ++ [.list ((rgI lo hi).map .int)]) := by
  have : rangeOk lo hi ∧ hi - lo ≤ 1000000 := ⟨by unfold rangeOk; omega, by omega⟩
  exact wF_eq (by simp only [bList, if_pos this, rngL_eq])
theorem wF_listL {σ : Store} {i : Nat} {vs : List AV} {Q} (h : σ[i]? = some (.list vs)) : wF bList [.ref i] σ Q ↔ Q (.ref σ.length) (σ ++ [.list vs]) := wF_eq (by simp [bList, h])

theorem whole_eq {σ : Store} {i : Int} : sp_law_whole [.int i] σ = some (.bool true, σ) := by
  refine wF_get (wF_fn rfl ?_)
  simp only [List.zip_cons_cons, List.zip_nil_right, List.zip_nil_left, bindE, wS_seq, wS_assign, wS_if, wS_nil, wS_ret, thenS, wA_bin, wA_int, wA_bool, wA_none, wA_cmp, wA_bcmp, wA_cmp2, wA_bcmp2, wA_bval, wA_bnot, wA_not, wA_neg, wA_band_nil, wA_band_cons, wA_bor_nil, wA_bor_cons, wA_vand1, wA_vand, wA_vor1, wA_vor, wA_here, wA_there, str_eq_iff, String.reduceEq, not_false_eq_true, wA_list, wA_tup, wA_args_nil, wA_args_cons, wA_call, wA_sub, wA_isi, wA_upto, w2_add, w2_sub, w2_mod, w2_div, w2_mul, w2_pow, wC_lt, wC_le, wC_gt, wC_ge, wC_eqi, wC_nei, wC_eqb, wC_neb, List.length_nil, List.length_cons, List.length_map, exp_int, exp_bool, exp_none, aTruth, Option.some.injEq, exists_eq_left', isi, if_true, String.reduceEq, if_false, Bool.not_false]
  exact ⟨⟨[], by simp⟩, _, _, rfl, rfl, rfl⟩
theorem wF_whole {σ : Store} {i : Int} {Q} : wF sp_law_whole [.int i] σ Q ↔ Q (.bool true) σ := wF_eq whole_eq
theorem wholes_eq {σ : Store} {i : Nat} {ns : List Int} (h : σ[i]? = some (.list (ns.map .int))) : sp_law_wholes [.ref i] σ = some (.bool true, σ) := by
  refine wF_get (wF_fn rfl ?_)
  have hi : isi "list" (.ref i) σ = some true := by simp [isi, h]
  simp only [List.zip_cons_cons, List.zip_nil_right, List.zip_nil_left, bindE, wS_seq, wS_assign, wS_if, wS_nil, wS_ret, thenS, wA_bin, wA_int, wA_bool, wA_none, wA_cmp, wA_bcmp, wA_cmp2, wA_bcmp2, wA_bval, wA_bnot, wA_not, wA_neg, wA_band_nil, wA_band_cons, wA_bor_nil, wA_bor_cons, wA_vand1, wA_vand, wA_vor1, wA_vor, wA_here, wA_there, str_eq_iff, String.reduceEq, not_false_eq_true, wA_list, wA_tup, wA_args_nil, wA_args_cons, wA_call, wA_sub, wA_isi, wA_upto, w2_add, w2_sub, w2_mod, w2_div, w2_mul, w2_pow, wC_lt, wC_le, wC_gt, wC_ge, wC_eqi, wC_nei, wC_eqb, wC_neb, List.length_nil, List.length_cons, List.length_map, exp_int, exp_bool, exp_none, aTruth, Option.some.injEq, exists_eq_left', hi, if_true]
  refine wA_compM (fun _ => .bool true) ?_
  simp only [List.zip_cons_cons, List.zip_nil_right, List.zip_nil_left, bindE, wS_seq, wS_assign, wS_if, wS_nil, wS_ret, thenS, wA_bin, wA_int, wA_bool, wA_none, wA_cmp, wA_bcmp, wA_cmp2, wA_bcmp2, wA_bval, wA_bnot, wA_not, wA_neg, wA_band_nil, wA_band_cons, wA_bor_nil, wA_bor_cons, wA_vand1, wA_vand, wA_vor1, wA_vor, wA_here, wA_there, str_eq_iff, String.reduceEq, not_false_eq_true, wA_list, wA_tup, wA_args_nil, wA_args_cons, wA_call, wA_sub, wA_isi, wA_upto, w2_add, w2_sub, w2_mod, w2_div, w2_mul, w2_pow, wC_lt, wC_le, wC_gt, wC_ge, wC_eqi, wC_nei, wC_eqb, wC_neb, List.length_nil, List.length_cons, List.length_map, exp_int, exp_bool, exp_none, aTruth, Option.some.injEq, exists_eq_left']
  refine ⟨ns, items_list h, fun n hn => ?_, ?_⟩
  · simp only [wF_whole]; exact ⟨trivial, rfl⟩
  · have e : (σ ++ [AO.list (List.map (fun _ => AV.bool true) ns)])[σ.length]? = some (.list ((ns.map fun _ => true).map .bool)) := by
      rw [new_get]; simp
    simp only [wF_all e, exp_bool]
    exact ⟨⟨_, rfl⟩, _, _, rfl, by simp, rfl⟩
theorem wF_wholes {σ : Store} {i : Nat} {ns : List Int} {Q} (h : σ[i]? = some (.list (ns.map .int))) : wF sp_law_wholes [.ref i] σ Q ↔ Q (.bool true) σ := wF_eq (wholes_eq h)

def houseV (ns : List Int) : Bool := decide (1 ≤ ns.length) && decide (ns.length ≤ 6) && ns.all fun n => decide (0 ≤ n) && decide (n ≤ 9)
theorem house_eq {σ : Store} {i : Nat} {ns : List Int} (h : σ[i]? = some (.list (ns.map .int))) : sp_is_house [.ref i] σ = some (.bool (houseV ns), σ) := by
  refine wF_get (wF_fn rfl ?_)
  simp only [List.zip_cons_cons, List.zip_nil_right, List.zip_nil_left, bindE, wS_seq, wS_assign, wS_if, wS_nil, wS_ret, thenS, wA_bin, wA_int, wA_bool, wA_none, wA_cmp, wA_bcmp, wA_cmp2, wA_bcmp2, wA_bval, wA_bnot, wA_not, wA_neg, wA_band_nil, wA_band_cons, wA_bor_nil, wA_bor_cons, wA_vand1, wA_vand, wA_vor1, wA_vor, wA_here, wA_there, str_eq_iff, String.reduceEq, not_false_eq_true, wA_list, wA_tup, wA_args_nil, wA_args_cons, wA_call, wA_sub, wA_isi, wA_upto, w2_add, w2_sub, w2_mod, w2_div, w2_mul, w2_pow, wC_lt, wC_le, wC_gt, wC_ge, wC_eqi, wC_nei, wC_eqb, wC_neb, List.length_nil, List.length_cons, List.length_map, exp_int, exp_bool, exp_none, aTruth, Option.some.injEq, exists_eq_left', wF_len h]
  have tail : wA (aComp "count" (aName "counts") (bAnd []) (aCmp2 cLe cLe (aInt 0) (aName "count") (aInt 9))) (upd emp "counts" (.ref i)) σ fun v σ1 => wF bAll [v] σ1 fun v σ1 => (∃ τ, σ1 = σ ++ τ) ∧ ∃ v_1 s, exportV σ v σ1 = some (v_1, s) ∧ v_1 = .bool (ns.all fun n => decide (0 ≤ n) && decide (n ≤ 9)) ∧ s = σ := by
    refine wA_compM (fun n => .bool (decide (0 ≤ n) && decide (n ≤ 9))) ?_
    simp only [List.zip_cons_cons, List.zip_nil_right, List.zip_nil_left, bindE, wS_seq, wS_assign, wS_if, wS_nil, wS_ret, thenS, wA_bin, wA_int, wA_bool, wA_none, wA_cmp, wA_bcmp, wA_cmp2, wA_bcmp2, wA_bval, wA_bnot, wA_not, wA_neg, wA_band_nil, wA_band_cons, wA_bor_nil, wA_bor_cons, wA_vand1, wA_vand, wA_vor1, wA_vor, wA_here, wA_there, str_eq_iff, String.reduceEq, not_false_eq_true, wA_list, wA_tup, wA_args_nil, wA_args_cons, wA_call, wA_sub, wA_isi, wA_upto, w2_add, w2_sub, w2_mod, w2_div, w2_mul, w2_pow, wC_lt, wC_le, wC_gt, wC_ge, wC_eqi, wC_nei, wC_eqb, wC_neb, List.length_nil, List.length_cons, List.length_map, exp_int, exp_bool, exp_none, aTruth, Option.some.injEq, exists_eq_left']
    refine ⟨ns, items_list h, fun n hn => ?_, ?_⟩
    · by_cases h0 : 0 ≤ n <;> simp [h0, AV.closed]
    · have e : (σ ++ [AO.list (List.map (fun n => AV.bool (decide (0 ≤ n) && decide (n ≤ 9))) ns)])[σ.length]? = some (.list ((ns.map fun n => decide (0 ≤ n) && decide (n ≤ 9)).map .bool)) := by
        rw [new_get]; simp
      rw [wF_all e]
      simp only [exp_bool]
      refine ⟨⟨_, rfl⟩, _, _, rfl, ?_, rfl⟩
      simp [List.all_map]
  by_cases h1 : 1 ≤ ns.length
  · have h1' : decide ((1 : Int) ≤ ns.length) = true := decide_eq_true (by omega)
    by_cases h6 : ns.length ≤ 6
    · have h6' : decide ((ns.length : Int) ≤ 6) = true := decide_eq_true (by omega)
      simp only [h1', h6', if_true, exists_eq_left']
      have e : houseV ns = ns.all fun n => decide (0 ≤ n) && decide (n ≤ 9) := by simp [houseV, h1, h6]
      rw [e]; exact tail
    · have h6' : decide ((ns.length : Int) ≤ 6) = false := decide_eq_false (by omega)
      have e : houseV ns = false := by simp [houseV, h6]
      simp only [h1', h6', if_true, exists_eq_left', Bool.false_eq_true, if_false, exp_bool, e]
      exact ⟨⟨[], by simp⟩, _, _, rfl, rfl, rfl⟩
  · have h1' : decide ((1 : Int) ≤ ns.length) = false := decide_eq_false (by omega)
    have e : houseV ns = false := by simp [houseV, h1]
    simp only [h1', Bool.false_eq_true, if_false, exists_eq_left', exp_bool, e]
    exact ⟨⟨[], by simp⟩, _, _, rfl, rfl, rfl⟩
theorem wF_house {σ : Store} {i : Nat} {ns : List Int} {Q} (h : σ[i]? = some (.list (ns.map .int))) : wF sp_is_house [.ref i] σ Q ↔ Q (.bool (houseV ns)) σ := wF_eq (house_eq h)
theorem count_eq {σ : Store} {i : Nat} {ns : List Int} (h : σ[i]? = some (.list (ns.map .int))) (hb : ∀ n ∈ ns, 0 ≤ n ∧ n < 1000000) : sp_room_count [.ref i] σ = some (.int ns.sum, σ) := by
  refine wF_get (wF_fn rfl ?_)
  simp only [List.zip_cons_cons, List.zip_nil_right, List.zip_nil_left, bindE, wS_seq, wS_assign, wS_if, wS_nil, wS_ret, thenS, wA_bin, wA_int, wA_bool, wA_none, wA_cmp, wA_bcmp, wA_cmp2, wA_bcmp2, wA_bval, wA_bnot, wA_not, wA_neg, wA_band_nil, wA_band_cons, wA_bor_nil, wA_bor_cons, wA_vand1, wA_vand, wA_vor1, wA_vor, wA_here, wA_there, str_eq_iff, String.reduceEq, not_false_eq_true, wA_list, wA_tup, wA_args_nil, wA_args_cons, wA_call, wA_sub, wA_isi, wA_upto, w2_add, w2_sub, w2_mod, w2_div, w2_mul, w2_pow, wC_lt, wC_le, wC_gt, wC_ge, wC_eqi, wC_nei, wC_eqb, wC_neb, List.length_nil, List.length_cons, List.length_map, exp_int, exp_bool, exp_none, aTruth, Option.some.injEq, exists_eq_left', wF_sum h hb]
  exact ⟨⟨[], by simp⟩, _, _, rfl, rfl, rfl⟩
theorem wF_count {σ : Store} {i : Nat} {ns : List Int} {Q} (h : σ[i]? = some (.list (ns.map .int))) (hb : ∀ n ∈ ns, 0 ≤ n ∧ n < 1000000) : wF sp_room_count [.ref i] σ Q ↔ Q (.int ns.sum) σ := wF_eq (count_eq h hb)

def kindV : List Int → Int → Nat
  | [], _ => 0
  | n :: ns, r => if n ≤ r then kindV ns (r - n) + 1 else 0
theorem kind_eq {σ : Store} {i : Nat} {ns : List Int} {r : Int} (h : σ[i]? = some (.list (ns.map .int))) (hr : 0 ≤ r) (hs : r < ns.sum) (hl : ns.length < 1000) : sp_kind_of [.ref i, .int r] σ = some (.int (kindV ns r), σ) := by
  refine wF_get (wF_fn rfl ?_)
  simp only [List.zip_cons_cons, List.zip_nil_right, List.zip_nil_left, bindE, wS_seq, wS_assign, wS_if, wS_nil, wS_ret, thenS, wA_bin, wA_int, wA_bool, wA_none, wA_cmp, wA_bcmp, wA_cmp2, wA_bcmp2, wA_bval, wA_bnot, wA_not, wA_neg, wA_band_nil, wA_band_cons, wA_bor_nil, wA_bor_cons, wA_vand1, wA_vand, wA_vor1, wA_vor, wA_here, wA_there, str_eq_iff, String.reduceEq, not_false_eq_true, wA_list, wA_tup, wA_args_nil, wA_args_cons, wA_call, wA_sub, wA_isi, wA_upto, w2_add, w2_sub, w2_mod, w2_div, w2_mul, w2_pow, wC_lt, wC_le, wC_gt, wC_ge, wC_eqi, wC_nei, wC_eqb, wC_neb, List.length_nil, List.length_cons, List.length_map, exp_int, exp_bool, exp_none, aTruth, Option.some.injEq, exists_eq_left']
  refine wS_while (fun n ρ σ' => σ' = σ ∧ ∃ pre rest r', ns = pre ++ rest ∧ n = rest.length ∧ ρ "counts" = some (.ref i) ∧ ρ "room" = some (.int r') ∧ ρ "kind" = some (.int (pre.length : Int)) ∧ 0 ≤ r' ∧ r' < rest.sum ∧ kindV ns r = pre.length + kindV rest r') ?_ ns.length hl _ _ ?_
  · rintro n ρ σ' ⟨rfl, pre, rest, r', e1, e2, e3, e4, e5, e6, e7, e8⟩
    cases rest with
    | nil => simp at e7; omega
    | cons a rest =>
      have hit : (ns.map AV.int)[(pre.length : Int).toNat]? = some (.int a) := by rw [e1]; simp
      simp only [List.zip_cons_cons, List.zip_nil_right, List.zip_nil_left, bindE, wS_seq, wS_assign, wS_if, wS_nil, wS_ret, thenS, wA_bin, wA_int, wA_bool, wA_none, wA_cmp, wA_bcmp, wA_cmp2, wA_bcmp2, wA_bval, wA_bnot, wA_not, wA_neg, wA_band_nil, wA_band_cons, wA_bor_nil, wA_bor_cons, wA_vand1, wA_vand, wA_vor1, wA_vor, wA_here, wA_there, str_eq_iff, String.reduceEq, not_false_eq_true, wA_list, wA_tup, wA_args_nil, wA_args_cons, wA_call, wA_sub, wA_isi, wA_upto, w2_add, w2_sub, w2_mod, w2_div, w2_mul, w2_pow, wC_lt, wC_le, wC_gt, wC_ge, wC_eqi, wC_nei, wC_eqb, wC_neb, List.length_nil, List.length_cons, List.length_map, exp_int, exp_bool, exp_none, aTruth, Option.some.injEq, exists_eq_left', wA_name e3, wA_name e4, wA_name e5, w2_item h (Int.natCast_nonneg _) hit]
      by_cases ha : a ≤ r'
      · simp only [decide_eq_true ha, if_true]
        refine ⟨rest.length, by simp [e2], ?_⟩
        have f1 : (upd ρ "room" (.int (r' - a))) "kind" = some (.int (pre.length : Int)) := by simpa [upd, str_eq_iff] using e5
        refine ⟨trivial, pre ++ [a], rest, r' - a, by simp [e1], rfl, by simpa [upd, str_eq_iff] using e3, by simp [upd, str_eq_iff], by simp [upd], by omega, by simp at e7; omega, ?_⟩
        rw [e8, kindV, if_pos ha]; simp; omega
      · simp only [decide_eq_false ha, Bool.false_eq_true, if_false]
        refine ⟨⟨[], by simp⟩, _, _, rfl, ?_, rfl⟩
        rw [e8, kindV, if_neg ha]; simp
  · exact ⟨rfl, [], ns, r, by simp, rfl, by simp [upd, str_eq_iff], by simp [upd, str_eq_iff], by simp [upd], hr, hs, by simp⟩
theorem wF_kind {σ : Store} {i : Nat} {ns : List Int} {r : Int} {Q} (h : σ[i]? = some (.list (ns.map .int))) (hr : 0 ≤ r) (hs : r < ns.sum) (hl : ns.length < 1000) : wF sp_kind_of [.ref i, .int r] σ Q ↔ Q (.int (kindV ns r)) σ := wF_eq (kind_eq h hr hs hl)

def firstV (ns : List Int) (k : Nat) : Int := (ns.take k).sum
theorem roomsOf_eq {σ : Store} {i : Nat} {ns : List Int} {k : Nat} {a : Int} (h : σ[i]? = some (.list (ns.map .int))) (hb : ∀ n ∈ ns, 0 ≤ n ∧ n < 1000) (hl : ns.length < 100) (hk : ns[k]? = some a) :
    sp_rooms_of [.ref i, .int k] σ = some (.ref σ.length, σ ++ [.list ((rgI (firstV ns k) (firstV ns k + a)).map .int)]) := by
  refine wF_get (wF_fn rfl ?_)
  simp only [List.zip_cons_cons, List.zip_nil_right, List.zip_nil_left, bindE, wS_seq, wS_assign, wS_if, wS_nil, wS_ret, thenS, wA_bin, wA_int, wA_bool, wA_none, wA_cmp, wA_bcmp, wA_cmp2, wA_bcmp2, wA_bval, wA_bnot, wA_not, wA_neg, wA_band_nil, wA_band_cons, wA_bor_nil, wA_bor_cons, wA_vand1, wA_vand, wA_vor1, wA_vor, wA_here, wA_there, str_eq_iff, String.reduceEq, not_false_eq_true, wA_list, wA_tup, wA_args_nil, wA_args_cons, wA_call, wA_sub, wA_isi, wA_upto, w2_add, w2_sub, w2_mod, w2_div, w2_mul, w2_pow, wC_lt, wC_le, wC_gt, wC_ge, wC_eqi, wC_nei, wC_eqb, wC_neb, List.length_nil, List.length_cons, List.length_map, exp_int, exp_bool, exp_none, aTruth, Option.some.injEq, exists_eq_left']
  refine ⟨i, k, ns.map .int, rfl, rfl, by omega, h, ?_⟩
  have e1 : (σ ++ [AO.list (List.take (Int.toNat k) (ns.map .int))])[σ.length]? = some (.list ((ns.take k).map .int)) := by rw [new_get]; simp [List.map_take]
  have hb' : ∀ n ∈ ns.take k, 0 ≤ n ∧ n < 1000000 := fun n hn => by have := hb n (List.mem_of_mem_take hn); omega
  have e2 := app_get (τ := [AO.list (List.take (Int.toNat k) (ns.map .int))]) h
  have hit : (ns.map AV.int)[(k : Int).toNat]? = some (.int a) := by simp [hk]
  have ha := hb a (List.mem_of_getElem? hk)
  have hsum : 0 ≤ (ns.take k).sum ∧ (ns.take k).sum ≤ 1000 * (ns.take k).length := by
    have key : ∀ l : List Int, (∀ n ∈ l, 0 ≤ n ∧ n < 1000) → 0 ≤ l.sum ∧ l.sum ≤ 1000 * l.length := by
      intro l
      induction l with
      | nil => simp
      | cons b r ih => intro hh; have := hh b (.head _); have := ih fun n hn => hh n (.tail _ hn); simp only [List.sum_cons, List.length_cons]; push_cast; omega
    exact key _ fun n hn => hb n (List.mem_of_mem_take hn)
  have hlen : (ns.take k).length ≤ 100 := by rw [List.length_take]; omega
  simp only [List.zip_cons_cons, List.zip_nil_right, List.zip_nil_left, bindE, wS_seq, wS_assign, wS_if, wS_nil, wS_ret, thenS, wA_bin, wA_int, wA_bool, wA_none, wA_cmp, wA_bcmp, wA_cmp2, wA_bcmp2, wA_bval, wA_bnot, wA_not, wA_neg, wA_band_nil, wA_band_cons, wA_bor_nil, wA_bor_cons, wA_vand1, wA_vand, wA_vor1, wA_vor, wA_here, wA_there, str_eq_iff, String.reduceEq, not_false_eq_true, wA_list, wA_tup, wA_args_nil, wA_args_cons, wA_call, wA_sub, wA_isi, wA_upto, w2_add, w2_sub, w2_mod, w2_div, w2_mul, w2_pow, wC_lt, wC_le, wC_gt, wC_ge, wC_eqi, wC_nei, wC_eqb, wC_neb, List.length_nil, List.length_cons, List.length_map, exp_int, exp_bool, exp_none, aTruth, Option.some.injEq, exists_eq_left', wF_sum e1 hb', w2_item e2 (Int.natCast_nonneg _) hit, wF_range2]
  rw [wF_listR (by omega)]
  refine ⟨⟨[_, _], by simp; exact ⟨rfl, rfl⟩⟩, _, _, exp_new (o := .list ((rgI (firstV ns k) (firstV ns k + a)).map .int)) (by simp) (by rw [new_get]; rfl) (by simp [AO.closed, closedL_ints]), rfl, rfl⟩
theorem wF_roomsOf {σ : Store} {i : Nat} {ns : List Int} {k : Nat} {a : Int} {Q} (h : σ[i]? = some (.list (ns.map .int))) (hb : ∀ n ∈ ns, 0 ≤ n ∧ n < 1000) (hl : ns.length < 100) (hk : ns[k]? = some a) :
    wF sp_rooms_of [.ref i, .int k] σ Q ↔ Q (.ref σ.length) (σ ++ [.list ((rgI (firstV ns k) (firstV ns k + a)).map .int)]) := wF_eq (roomsOf_eq h hb hl hk)
end Inn

end
section
set_option maxRecDepth 10000
set_option linter.unusedVariables false
set_option linter.unusedSimpArgs false
namespace Inn
open PySem

theorem wS_cut {a b : AS} {ρ σ} {Q : AF → AEnv → Store → Prop} (I : AEnv → Store → Prop) (h : wS a ρ σ fun f ρ' σ' => f = .next ∧ I ρ' σ') (k : ∀ ρ' σ', I ρ' σ' → wS b ρ' σ' Q) : wS (sSeq a b) ρ σ Q := by
  rw [wS_seq]
  refine h.mono fun f ρ' σ' h => ?_
  obtain ⟨rfl, h⟩ := h
  exact k _ _ h
theorem wS_if_of {t : AM Bool} {a b : AS} {ρ σ} {Q : AF → AEnv → Store → Prop} (P : Bool → Store → Prop) (ht : wA t ρ σ P) (ha : ∀ σ1, P true σ1 → wS a ρ σ1 Q) (hb : ∀ σ1, P false σ1 → wS b ρ σ1 Q) : wS (sIf t a b) ρ σ Q := by
  rw [wS_if]
  refine ht.mono fun v σ1 h => ?_
  cases v with
  | true => exact ha _ h
  | false => exact hb _ h
theorem wS_assignC {y x src t m ρ σ Q} : wS (sAssignC y x src t m) ρ σ Q ↔ wA (aComp x src t m) ρ σ fun v σ1 => Q .next (upd ρ y v) σ1 := wS_assign
theorem wS_setItemL {n₀ x mi m ρ σ} {Q : AF → AEnv → Store → Prop} (h : wA m ρ σ fun v σ1 => ∃ a, ρ x = some (.ref a) ∧ wA mi ρ σ1 fun u σ2 => ∃ vs, ∃ j : Int, σ1[a]? = some (.list vs) ∧ u = .int j ∧ n₀ ≤ a ∧ 0 ≤ j ∧ j < vs.length ∧ Q .next ρ (σ2.set a (.list (vs.set j.toNat v)))) :
    wS (sSetItem n₀ x mi m) ρ σ Q := by
  obtain ⟨v, σ1, e1, a, e2, u, σ2, e3, vs, j, e4, rfl, h1, h2, h3, q⟩ := h
  refine ⟨_, _, _, ?_, q⟩
  simp only [sSetItem, e1, e2, e3, e4, Option.bind_some]
  rw [if_pos ⟨h1, h2, h3⟩]
theorem w2_mulL {σ : Store} {i : Nat} {vs : List AV} {b : Int} {Q} (h : σ[i]? = some (.list vs)) (hb : 0 ≤ b ∧ (vs.length : Int) * b ≤ 1000000 ∧ b < 1000000) : w2 opMul (.ref i) (.int b) σ Q ↔ Q (.ref σ.length) (σ ++ [.list (List.replicate b.toNat vs).flatten]) := by
  have e' : opMul (.ref i) (.int b) σ = some (.ref σ.length, σ ++ [.list (List.replicate b.toNat vs).flatten]) := by simp only [opMul, h]; rw [if_pos hb]
  constructor
  · rintro ⟨v', s, e1, q⟩; rw [e'] at e1; cases e1; exact q
  · intro q; exact ⟨_, _, e', q⟩
theorem w2_addL {σ : Store} {i j : Nat} {vs ws : List AV} {Q} (h : σ[i]? = some (.list vs)) (h' : σ[j]? = some (.list ws)) (hb : vs.length + ws.length ≤ 1000000) : w2 opAdd (.ref i) (.ref j) σ Q ↔ Q (.ref σ.length) (σ ++ [.list (vs ++ ws)]) := by
  have e' : opAdd (.ref i) (.ref j) σ = some (.ref σ.length, σ ++ [.list (vs ++ ws)]) := by simp only [opAdd, h, h']; rw [if_pos hb]
  constructor
  · rintro ⟨v', s, e1, q⟩; rw [e'] at e1; cases e1; exact q
  · intro q; exact ⟨_, _, e', q⟩
theorem wF_abs {a : Int} {σ Q} : wF bAbs [.int a] σ Q ↔ Q (.int (if a < 0 then -a else a)) σ := wF_eq rfl
theorem upd_same {ρ : AEnv} {x : Str} {v : AV} : upd ρ x v x = some v := by simp [upd]
def Ext (σ σ' : Store) : Prop := ∃ τ, σ' = σ ++ τ
theorem ext_refl {σ : Store} : Ext σ σ := ⟨[], by simp⟩
theorem ext_app {σ σ' τ : Store} (h : Ext σ σ') : Ext σ (σ' ++ τ) := by obtain ⟨τ', rfl⟩ := h; exact ⟨τ' ++ τ, by simp⟩
theorem ext_self {σ τ : Store} : Ext σ (σ ++ τ) := ⟨τ, rfl⟩
theorem Ext.trans {a b c : Store} (x : Ext a b) (y : Ext b c) : Ext a c := by obtain ⟨t, rfl⟩ := x; obtain ⟨u, rfl⟩ := y; exact ⟨t ++ u, by simp⟩
theorem Ext.get {σ σ' : Store} {i : Nat} {o : AO} (h : Ext σ σ') (e : σ[i]? = some o) : σ'[i]? = some o := by obtain ⟨τ, rfl⟩ := h; exact app_get e
theorem Ext.len {σ σ' : Store} (h : Ext σ σ') : σ.length ≤ σ'.length := by obtain ⟨τ, rfl⟩ := h; simp
theorem rep_map (b : Nat) (ns : List Int) : (List.replicate b (ns.map AV.int)).flatten = ((List.replicate b ns).flatten).map AV.int := by
  induction b with
  | zero => rfl
  | succ b ih => rw [List.replicate_succ, List.flatten_cons, ih, List.replicate_succ, List.flatten_cons, List.map_append]
theorem rep_len (b : Nat) (ns : List Int) : ((List.replicate b ns).flatten).length = b * ns.length := by
  induction b with
  | zero => simp
  | succ b ih => rw [List.replicate_succ, List.flatten_cons, List.length_append, ih, Nat.add_mul]; omega
theorem Ext.set {σ σ' : Store} {j : Nat} {o : AO} (x : Ext σ σ') (h : σ.length ≤ j) : Ext σ (σ'.set j o) := by
  obtain ⟨τ, rfl⟩ := x
  exact ⟨τ.set (j - σ.length) o, by rw [List.set_append_right _ _ h]⟩

/-- the state between the statements of _law_counts_by -/
def cInv (b : Nat) (σ : Store) (i : Nat) (ρ' : AEnv) (σ' : Store) : Prop :=
  Ext σ σ' ∧ ∃ j, ρ' "_law_counts" = some (.ref j) ∧ ρ' "_law_script" = some (.ref i) ∧ σ.length ≤ j ∧ ∃ cs : List Int, σ'[j]? = some (.list (cs.map .int)) ∧ cs.length ≤ b

theorem counts_ok {σ : Store} {i : Nat} {ns : List Int} (h : σ[i]? = some (.list (ns.map .int))) (hl : ns.length ≤ 1000) :
    wF sp_law_counts_by [.ref i] σ fun v s => ∃ cs : List Int, cs.length ≤ 1000 ∧ v = .ref σ.length ∧ s = σ ++ [.list (cs.map .int)] := by
  refine wF_fn rfl ?_
  have cell : ∀ {σ' : Store} {k : Int} {Q}, Ext σ σ' → 0 ≤ k → k < 1000000 → (wF sp_law_cell [.ref i, .int k] σ' Q ↔ Q (.int (cellV ns k)) σ') := fun hτ h0 h1 => wF_cell (hτ.get h) h0 h1 hl
  have c1 := cellV_nonneg ns 1
  have c2 := cellV_lt ns 1
  refine wS_seq.2 (wS_if_of (fun _ σ1 => σ = σ1) ?_ ?_ ?_)
  · simp (maxDischargeDepth := 9) only [List.zip_cons_cons, List.zip_nil_right, List.zip_nil_left, bindE, wS_seq, wS_assign, wS_if, wS_nil, wS_ret, thenS, wA_bin, wA_int, wA_bool, wA_none, wA_cmp, wA_bcmp, wA_cmp2, wA_bcmp2, wA_bval, wA_bnot, wA_not, wA_neg, wA_band_nil, wA_band_cons, wA_bor_nil, wA_bor_cons, wA_vand1, wA_vand, wA_vor1, wA_vor, wA_here, wA_there, str_eq_iff, String.reduceEq, not_false_eq_true, wA_list, wA_tup, wA_args_nil, wA_args_cons, wA_call, wA_sub, wA_isi, wA_upto, w2_add, w2_sub, w2_mod, w2_div, w2_mul, w2_pow, wC_lt, wC_le, wC_gt, wC_ge, wC_eqi, wC_nei, wC_eqb, wC_neb, List.length_nil, List.length_cons, List.length_map, exp_int, exp_bool, exp_none, aTruth, Option.some.injEq, exists_eq_left', Int.reduceLE, Int.reduceLT, Int.reduceEq, Int.reduceNe, ne_eq, and_true, true_and, Nat.reduceLeDiff, Nat.reduceAdd, Int.reduceNeg, Nat.reduceLT, and_self, Nat.zero_le, cell, ext_refl, ext_app]
  · rintro _ rfl
    refine wS_cut (cInv 8 σ i) ?_ ?_
    · simp only [wS_assignC]
      refine wA_compM (fun k => .int ((cellV ns (2 + k)).fmod 14 - 2)) ?_
      simp (maxDischargeDepth := 9) only [List.zip_cons_cons, List.zip_nil_right, List.zip_nil_left, bindE, wS_seq, wS_assign, wS_if, wS_nil, wS_ret, thenS, wA_bin, wA_int, wA_bool, wA_none, wA_cmp, wA_bcmp, wA_cmp2, wA_bcmp2, wA_bval, wA_bnot, wA_not, wA_neg, wA_band_nil, wA_band_cons, wA_bor_nil, wA_bor_cons, wA_vand1, wA_vand, wA_vor1, wA_vor, wA_here, wA_there, str_eq_iff, String.reduceEq, not_false_eq_true, wA_list, wA_tup, wA_args_nil, wA_args_cons, wA_call, wA_sub, wA_isi, wA_upto, w2_add, w2_sub, w2_mod, w2_div, w2_mul, w2_pow, wC_lt, wC_le, wC_gt, wC_ge, wC_eqi, wC_nei, wC_eqb, wC_neb, List.length_nil, List.length_cons, List.length_map, exp_int, exp_bool, exp_none, aTruth, Option.some.injEq, exists_eq_left', Int.reduceLE, Int.reduceLT, Int.reduceEq, Int.reduceNe, ne_eq, and_true, true_and, Nat.reduceLeDiff, Nat.reduceAdd, Int.reduceNeg, Nat.reduceLT, and_self, Nat.zero_le, cell, ext_refl, wF_range1]
      have hr := fmod_lt (cellV ns 1) (b := 9) (by decide)
      refine ⟨rgI 0 ((cellV ns 1).fmod 9), items_rng (by omega), fun n hn => ?_, ext_self, σ.length, by simp [upd], by simp [upd, str_eq_iff], Nat.le_refl _, (rgI 0 ((cellV ns 1).fmod 9)).map fun k => (cellV ns (2 + k)).fmod 14 - 2, ?_, ?_⟩
      · have hn' := rgI_mem hn
        simp (maxDischargeDepth := 9) only [List.zip_cons_cons, List.zip_nil_right, List.zip_nil_left, bindE, wS_seq, wS_assign, wS_if, wS_nil, wS_ret, thenS, wA_bin, wA_int, wA_bool, wA_none, wA_cmp, wA_bcmp, wA_cmp2, wA_bcmp2, wA_bval, wA_bnot, wA_not, wA_neg, wA_band_nil, wA_band_cons, wA_bor_nil, wA_bor_cons, wA_vand1, wA_vand, wA_vor1, wA_vor, wA_here, wA_there, str_eq_iff, String.reduceEq, not_false_eq_true, wA_list, wA_tup, wA_args_nil, wA_args_cons, wA_call, wA_sub, wA_isi, wA_upto, w2_add, w2_sub, w2_mod, w2_div, w2_mul, w2_pow, wC_lt, wC_le, wC_gt, wC_ge, wC_eqi, wC_nei, wC_eqb, wC_neb, List.length_nil, List.length_cons, List.length_map, exp_int, exp_bool, exp_none, aTruth, Option.some.injEq, exists_eq_left', Int.reduceLE, Int.reduceLT, Int.reduceEq, Int.reduceNe, ne_eq, and_true, true_and, Nat.reduceLeDiff, Nat.reduceAdd, Int.reduceNeg, Nat.reduceLT, and_self, Nat.zero_le, cell ext_refl (k := 2 + n) (by omega) (by omega), AV.closed]
      · rw [new_get]; simp
      · simp [rgI_length]; omega
    · intro ρ' σ' hI
      refine wS_cut (cInv 200 σ i) ?_ ?_
      · obtain ⟨hx, j, e1, e2, hj, cs, e3, e4⟩ := hI
        refine wS_if_of (fun _ σ1 => σ' = σ1) ?_ ?_ ?_
        · simp (maxDischargeDepth := 9) only [List.zip_cons_cons, List.zip_nil_right, List.zip_nil_left, bindE, wS_seq, wS_assign, wS_if, wS_nil, wS_ret, thenS, wA_bin, wA_int, wA_bool, wA_none, wA_cmp, wA_bcmp, wA_cmp2, wA_bcmp2, wA_bval, wA_bnot, wA_not, wA_neg, wA_band_nil, wA_band_cons, wA_bor_nil, wA_bor_cons, wA_vand1, wA_vand, wA_vor1, wA_vor, wA_here, wA_there, str_eq_iff, String.reduceEq, not_false_eq_true, wA_list, wA_tup, wA_args_nil, wA_args_cons, wA_call, wA_sub, wA_isi, wA_upto, w2_add, w2_sub, w2_mod, w2_div, w2_mul, w2_pow, wC_lt, wC_le, wC_gt, wC_ge, wC_eqi, wC_nei, wC_eqb, wC_neb, List.length_nil, List.length_cons, List.length_map, exp_int, exp_bool, exp_none, aTruth, Option.some.injEq, exists_eq_left', Int.reduceLE, Int.reduceLT, Int.reduceEq, Int.reduceNe, ne_eq, and_true, true_and, Nat.reduceLeDiff, Nat.reduceAdd, Int.reduceNeg, Nat.reduceLT, and_self, Nat.zero_le, wA_name e2, cell, hx]
        · rintro _ rfl
          refine wS_cut (cInv 200 σ i) ?_ ?_
          · rw [wS_assign, wA_bin]
            refine wA_compM (fun k => .int ((if k < 0 then -k else k).fmod 10)) ?_
            simp (maxDischargeDepth := 9) only [List.zip_cons_cons, List.zip_nil_right, List.zip_nil_left, bindE, wS_seq, wS_assign, wS_if, wS_nil, wS_ret, thenS, wA_bin, wA_int, wA_bool, wA_none, wA_cmp, wA_bcmp, wA_cmp2, wA_bcmp2, wA_bval, wA_bnot, wA_not, wA_neg, wA_band_nil, wA_band_cons, wA_bor_nil, wA_bor_cons, wA_vand1, wA_vand, wA_vor1, wA_vor, wA_here, wA_there, str_eq_iff, String.reduceEq, not_false_eq_true, wA_list, wA_tup, wA_args_nil, wA_args_cons, wA_call, wA_sub, wA_isi, wA_upto, w2_add, w2_sub, w2_mod, w2_div, w2_mul, w2_pow, wC_lt, wC_le, wC_gt, wC_ge, wC_eqi, wC_nei, wC_eqb, wC_neb, List.length_nil, List.length_cons, List.length_map, exp_int, exp_bool, exp_none, aTruth, Option.some.injEq, exists_eq_left', Int.reduceLE, Int.reduceLT, Int.reduceEq, Int.reduceNe, ne_eq, and_true, true_and, Nat.reduceLeDiff, Nat.reduceAdd, Int.reduceNeg, Nat.reduceLT, and_self, Nat.zero_le, wA_name e1, w2_addL (app_get e3) (new_get (σ := σ') (o := .list [.int 2])) (by simp; omega)]
            refine ⟨cs ++ [2], items_list (by rw [new_get]; simp), fun n hn => ?_, ?_⟩
            · simp (maxDischargeDepth := 9) only [List.zip_cons_cons, List.zip_nil_right, List.zip_nil_left, bindE, wS_seq, wS_assign, wS_if, wS_nil, wS_ret, thenS, wA_bin, wA_int, wA_bool, wA_none, wA_cmp, wA_bcmp, wA_cmp2, wA_bcmp2, wA_bval, wA_bnot, wA_not, wA_neg, wA_band_nil, wA_band_cons, wA_bor_nil, wA_bor_cons, wA_vand1, wA_vand, wA_vor1, wA_vor, wA_here, wA_there, str_eq_iff, String.reduceEq, not_false_eq_true, wA_list, wA_tup, wA_args_nil, wA_args_cons, wA_call, wA_sub, wA_isi, wA_upto, w2_add, w2_sub, w2_mod, w2_div, w2_mul, w2_pow, wC_lt, wC_le, wC_gt, wC_ge, wC_eqi, wC_nei, wC_eqb, wC_neb, List.length_nil, List.length_cons, List.length_map, exp_int, exp_bool, exp_none, aTruth, Option.some.injEq, exists_eq_left', Int.reduceLE, Int.reduceLT, Int.reduceEq, Int.reduceNe, ne_eq, and_true, true_and, Nat.reduceLeDiff, Nat.reduceAdd, Int.reduceNeg, Nat.reduceLT, and_self, Nat.zero_le, wF_abs, AV.closed]
            · have hr := fmod_lt ((cellV ns 1).fdiv 27) (b := 20) (by decide)
              have hb1 : (cs ++ [2]).length ≤ 9 := by simp; omega
              simp (maxDischargeDepth := 9) only [List.zip_cons_cons, List.zip_nil_right, List.zip_nil_left, bindE, wS_seq, wS_assign, wS_if, wS_nil, wS_ret, thenS, wA_bin, wA_int, wA_bool, wA_none, wA_cmp, wA_bcmp, wA_cmp2, wA_bcmp2, wA_bval, wA_bnot, wA_not, wA_neg, wA_band_nil, wA_band_cons, wA_bor_nil, wA_bor_cons, wA_vand1, wA_vand, wA_vor1, wA_vor, wA_here, wA_there, str_eq_iff, String.reduceEq, not_false_eq_true, wA_list, wA_tup, wA_args_nil, wA_args_cons, wA_call, wA_sub, wA_isi, wA_upto, w2_add, w2_sub, w2_mod, w2_div, w2_mul, w2_pow, wC_lt, wC_le, wC_gt, wC_ge, wC_eqi, wC_nei, wC_eqb, wC_neb, List.length_nil, List.length_cons, List.length_map, exp_int, exp_bool, exp_none, aTruth, Option.some.injEq, exists_eq_left', Int.reduceLE, Int.reduceLT, Int.reduceEq, Int.reduceNe, ne_eq, and_true, true_and, Nat.reduceLeDiff, Nat.reduceAdd, Int.reduceNeg, Nat.reduceLT, and_self, Nat.zero_le, wA_name e2, cell, hx, ext_app]
              rw [w2_mulL new_get (by
                refine ⟨by omega, ?_, by omega⟩
                rw [List.length_map]
                have : ((cs ++ [2]).length : Int) * (1 + ((cellV ns 1).fdiv 27).fmod 20) ≤ 9 * 20 := Int.mul_le_mul (by omega) (by omega) (by omega) (by omega)
                omega)]
              refine ⟨ext_app (ext_app (ext_app (ext_app hx))), _, upd_same, by simpa [upd, str_eq_iff] using e2, ?_, (List.replicate (1 + ((cellV ns 1).fdiv 27).fmod 20).toNat ((cs ++ [2]).map fun k => (if k < 0 then -k else k).fmod 10)).flatten, ?_, ?_⟩
              · have := hx.len; simp; omega
              · rw [new_get, ← rep_map, List.map_map]; rfl
              · rw [rep_len, List.length_map]
                have : (1 + ((cellV ns 1).fdiv 27).fmod 20).toNat ≤ 20 := by omega
                exact Nat.le_trans (Nat.mul_le_mul this hb1) (by omega)
          · rintro ρ1 σ1 ⟨hx, j, e1, e2, hj, cs, e3, e4⟩
            have hr := fmod_lt (cellV ns 9) (b := 4) (by decide)
            have hk : ∃ q : Int, 0 ≤ q ∧ ([.int 200, .int 7, .int 7, .int 6] : List AV)[((cellV ns 9).fmod 4).toNat]? = some (.int q) := by
              generalize (cellV ns 9).fmod 4 = z at hr
              have : z = 0 ∨ z = 1 ∨ z = 2 ∨ z = 3 := by omega
              rcases this with rfl | rfl | rfl | rfl
              · exact ⟨200, by decide, rfl⟩
              · exact ⟨7, by decide, rfl⟩
              · exact ⟨7, by decide, rfl⟩
              · exact ⟨6, by decide, rfl⟩
            obtain ⟨q, hq0, hq⟩ := hk
            simp (maxDischargeDepth := 9) only [List.zip_cons_cons, List.zip_nil_right, List.zip_nil_left, bindE, wS_seq, wS_assign, wS_if, wS_nil, wS_ret, thenS, wA_bin, wA_int, wA_bool, wA_none, wA_cmp, wA_bcmp, wA_cmp2, wA_bcmp2, wA_bval, wA_bnot, wA_not, wA_neg, wA_band_nil, wA_band_cons, wA_bor_nil, wA_bor_cons, wA_vand1, wA_vand, wA_vor1, wA_vor, wA_here, wA_there, str_eq_iff, String.reduceEq, not_false_eq_true, wA_list, wA_tup, wA_args_nil, wA_args_cons, wA_call, wA_sub, wA_isi, wA_upto, w2_add, w2_sub, w2_mod, w2_div, w2_mul, w2_pow, wC_lt, wC_le, wC_gt, wC_ge, wC_eqi, wC_nei, wC_eqb, wC_neb, List.length_nil, List.length_cons, List.length_map, exp_int, exp_bool, exp_none, aTruth, Option.some.injEq, exists_eq_left', Int.reduceLE, Int.reduceLT, Int.reduceEq, Int.reduceNe, ne_eq, and_true, true_and, Nat.reduceLeDiff, Nat.reduceAdd, Int.reduceNeg, Nat.reduceLT, and_self, Nat.zero_le, wA_name e1, wA_name e2, cell, hx, ext_app]
            rw [w2_item new_get hr.1 hq]
            refine ⟨j, q, cs.map .int, rfl, rfl, hq0, app_get e3, ext_app (ext_app hx), _, upd_same, by simpa [upd, str_eq_iff] using e2, ?_, cs.take q.toNat, ?_, ?_⟩
            · have := hx.len; simp; omega
            · rw [new_get, List.map_take]
            · rw [List.length_take]; omega
        · rintro _ rfl
          rw [wS_nil]
          exact ⟨rfl, hx, j, e1, e2, hj, cs, e3, by omega⟩
      · intro ρ' σ' hI
        refine wS_cut (cInv 200 σ i) ?_ ?_
        · obtain ⟨hx, j, e1, e2, hj, cs, e3, e4⟩ := hI
          refine wS_if_of (fun b σ1 => Ext σ' σ1 ∧ (b = true → cs ≠ [])) ?_ ?_ ?_
          · have hn : (σ' ++ [AO.list []])[σ'.length]? = some (.list (([] : List Int).map .int)) := new_get
            simp (maxDischargeDepth := 9) only [List.zip_cons_cons, List.zip_nil_right, List.zip_nil_left, bindE, wS_seq, wS_assign, wS_if, wS_nil, wS_ret, thenS, wA_bin, wA_int, wA_bool, wA_none, wA_cmp, wA_bcmp, wA_cmp2, wA_bcmp2, wA_bval, wA_bnot, wA_not, wA_neg, wA_band_nil, wA_band_cons, wA_bor_nil, wA_bor_cons, wA_vand1, wA_vand, wA_vor1, wA_vor, wA_here, wA_there, str_eq_iff, String.reduceEq, not_false_eq_true, wA_list, wA_tup, wA_args_nil, wA_args_cons, wA_call, wA_sub, wA_isi, wA_upto, w2_add, w2_sub, w2_mod, w2_div, w2_mul, w2_pow, wC_lt, wC_le, wC_gt, wC_ge, wC_eqi, wC_nei, wC_eqb, wC_neb, List.length_nil, List.length_cons, List.length_map, exp_int, exp_bool, exp_none, aTruth, Option.some.injEq, exists_eq_left', Int.reduceLE, Int.reduceLT, Int.reduceEq, Int.reduceNe, ne_eq, and_true, true_and, Nat.reduceLeDiff, Nat.reduceAdd, Int.reduceNeg, Nat.reduceLT, and_self, Nat.zero_le, wA_name e1, wA_name e2, cell, hx, wC_neL (app_get (τ := [.list []]) e3) hn]
            split
            · split <;> simp_all [ext_self]
            · exact ⟨ext_refl, by simp⟩
          · rintro σ1 ⟨hx1, hne⟩
            have hne := hne rfl
            have hx2 := hx.trans hx1
            have hpos : 0 < cs.length := by cases cs with | nil => exact absurd rfl hne | cons _ _ => simp
            refine wS_cut (fun ρ' σ' => cInv 200 σ i ρ' σ' ∧ (∃ far, ρ' "_law_far" = some (.int far)) ∧ ρ' "_law_counts" = some (.ref j) ∧ σ'[j]? = some (.list (cs.map .int))) ?_ ?_
            · have hr := fmod_lt ((cellV ns 1).fdiv 243) (b := 4) (by decide)
              have hk : ∃ q : Int, ([.int (10 ^ Int.toNat 9), .int (-1), .int (-(10 ^ Int.toNat 20)), .int 10] : List AV)[(((cellV ns 1).fdiv 243).fmod 4).toNat]? = some (.int q) := by
                generalize ((cellV ns 1).fdiv 243).fmod 4 = z at hr
                have : z = 0 ∨ z = 1 ∨ z = 2 ∨ z = 3 := by omega
                rcases this with rfl | rfl | rfl | rfl <;> exact ⟨_, rfl⟩
              obtain ⟨q, hq⟩ := hk
              simp (maxDischargeDepth := 9) only [List.zip_cons_cons, List.zip_nil_right, List.zip_nil_left, bindE, wS_seq, wS_assign, wS_if, wS_nil, wS_ret, thenS, wA_bin, wA_int, wA_bool, wA_none, wA_cmp, wA_bcmp, wA_cmp2, wA_bcmp2, wA_bval, wA_bnot, wA_not, wA_neg, wA_band_nil, wA_band_cons, wA_bor_nil, wA_bor_cons, wA_vand1, wA_vand, wA_vor1, wA_vor, wA_here, wA_there, str_eq_iff, String.reduceEq, not_false_eq_true, wA_list, wA_tup, wA_args_nil, wA_args_cons, wA_call, wA_sub, wA_isi, wA_upto, w2_add, w2_sub, w2_mod, w2_div, w2_mul, w2_pow, wC_lt, wC_le, wC_gt, wC_ge, wC_eqi, wC_nei, wC_eqb, wC_neb, List.length_nil, List.length_cons, List.length_map, exp_int, exp_bool, exp_none, aTruth, Option.some.injEq, exists_eq_left', Int.reduceLE, Int.reduceLT, Int.reduceEq, Int.reduceNe, ne_eq, and_true, true_and, Nat.reduceLeDiff, Nat.reduceAdd, Int.reduceNeg, Nat.reduceLT, and_self, Nat.zero_le, wA_name e2, cell, hx2, ext_app, AV.int.injEq]
              rw [w2_item new_get hr.1 hq]
              exact ⟨⟨ext_app hx2, j, by simpa [upd, str_eq_iff] using e1, by simpa [upd, str_eq_iff] using e2, hj, cs, app_get (hx1.get e3), e4⟩, ⟨q, by simp [upd]⟩, by simpa [upd, str_eq_iff] using e1, app_get (hx1.get e3)⟩
            · rintro ρ2 σ2 ⟨⟨hx3, j', e1', e2', hj', cs', e3', e4'⟩, ⟨far, ef⟩, ej, es⟩
              rw [wS_seq]
              refine wS_setItemL ?_
              have hr := fmod_lt ((cellV ns 1).fdiv 27) (b := cs.length) (by omega)
              simp (maxDischargeDepth := 9) only [List.zip_cons_cons, List.zip_nil_right, List.zip_nil_left, bindE, wS_seq, wS_assign, wS_if, wS_nil, wS_ret, thenS, wA_bin, wA_int, wA_bool, wA_none, wA_cmp, wA_bcmp, wA_cmp2, wA_bcmp2, wA_bval, wA_bnot, wA_not, wA_neg, wA_band_nil, wA_band_cons, wA_bor_nil, wA_bor_cons, wA_vand1, wA_vand, wA_vor1, wA_vor, wA_here, wA_there, str_eq_iff, String.reduceEq, not_false_eq_true, wA_list, wA_tup, wA_args_nil, wA_args_cons, wA_call, wA_sub, wA_isi, wA_upto, w2_add, w2_sub, w2_mod, w2_div, w2_mul, w2_pow, wC_lt, wC_le, wC_gt, wC_ge, wC_eqi, wC_nei, wC_eqb, wC_neb, List.length_nil, List.length_cons, List.length_map, exp_int, exp_bool, exp_none, aTruth, Option.some.injEq, exists_eq_left', Int.reduceLE, Int.reduceLT, Int.reduceEq, Int.reduceNe, ne_eq, and_true, true_and, Nat.reduceLeDiff, Nat.reduceAdd, Int.reduceNeg, Nat.reduceLT, and_self, Nat.zero_le, wA_name ef, wA_name e2', wA_name ej, cell, hx3, wF_len es]
              refine ⟨j, ej, by omega, cs.map .int, _, es, rfl, hj, hr.1, by simpa using hr.2, hx3.set hj, j, ej, e2', hj, cs.set (((cellV ns 1).fdiv 27).fmod cs.length).toNat far, ?_, by simpa using e4⟩
              have hjl := (List.getElem?_eq_some_iff.mp es).1
              rw [List.getElem?_set_self hjl, List.map_set]
          · rintro σ1 ⟨hx1, _⟩
            rw [wS_nil]
            exact ⟨rfl, hx.trans hx1, j, e1, e2, hj, cs, hx1.get e3, e4⟩
        · rintro ρ' σ' ⟨⟨τ, rfl⟩, j, e1, e2, hj, cs, e3, e4⟩
          simp (maxDischargeDepth := 9) only [List.zip_cons_cons, List.zip_nil_right, List.zip_nil_left, bindE, wS_seq, wS_assign, wS_if, wS_nil, wS_ret, thenS, wA_bin, wA_int, wA_bool, wA_none, wA_cmp, wA_bcmp, wA_cmp2, wA_bcmp2, wA_bval, wA_bnot, wA_not, wA_neg, wA_band_nil, wA_band_cons, wA_bor_nil, wA_bor_cons, wA_vand1, wA_vand, wA_vor1, wA_vor, wA_here, wA_there, str_eq_iff, String.reduceEq, not_false_eq_true, wA_list, wA_tup, wA_args_nil, wA_args_cons, wA_call, wA_sub, wA_isi, wA_upto, w2_add, w2_sub, w2_mod, w2_div, w2_mul, w2_pow, wC_lt, wC_le, wC_gt, wC_ge, wC_eqi, wC_nei, wC_eqb, wC_neb, List.length_nil, List.length_cons, List.length_map, exp_int, exp_bool, exp_none, aTruth, Option.some.injEq, exists_eq_left', Int.reduceLE, Int.reduceLT, Int.reduceEq, Int.reduceNe, ne_eq, and_true, true_and, Nat.reduceLeDiff, Nat.reduceAdd, Int.reduceNeg, Nat.reduceLT, and_self, Nat.zero_le, wA_name e1]
          refine ⟨⟨_, rfl⟩, _, _, exp_new hj e3 (by simp [AO.closed, closedL_ints]), cs, by omega, rfl, rfl⟩
  · rintro _ rfl
    rw [wS_nil]
    have hr := fmod_lt ((cellV ns 0).fdiv 2) (b := 3) (by decide)
    have hk : ∃ q : Int, 0 < q ∧ ([.int 10, .int 10, .int 4] : List AV)[(((cellV ns 0).fdiv 2).fmod 3).toNat]? = some (.int q) := by
      generalize ((cellV ns 0).fdiv 2).fmod 3 = z at hr
      have : z = 0 ∨ z = 1 ∨ z = 2 := by omega
      rcases this with rfl | rfl | rfl
      · exact ⟨10, by decide, rfl⟩
      · exact ⟨10, by decide, rfl⟩
      · exact ⟨4, by decide, rfl⟩
    obtain ⟨q, hq0, hq⟩ := hk
    have hr1 := fmod_lt (cellV ns 1) (b := 6) (by decide)
    simp (maxDischargeDepth := 9) only [List.zip_cons_cons, List.zip_nil_right, List.zip_nil_left, bindE, wS_seq, wS_assign, wS_if, wS_nil, wS_ret, thenS, wA_bin, wA_int, wA_bool, wA_none, wA_cmp, wA_bcmp, wA_cmp2, wA_bcmp2, wA_bval, wA_bnot, wA_not, wA_neg, wA_band_nil, wA_band_cons, wA_bor_nil, wA_bor_cons, wA_vand1, wA_vand, wA_vor1, wA_vor, wA_here, wA_there, str_eq_iff, String.reduceEq, not_false_eq_true, wA_list, wA_tup, wA_args_nil, wA_args_cons, wA_call, wA_sub, wA_isi, wA_upto, w2_add, w2_sub, w2_mod, w2_div, w2_mul, w2_pow, wC_lt, wC_le, wC_gt, wC_ge, wC_eqi, wC_nei, wC_eqb, wC_neb, List.length_nil, List.length_cons, List.length_map, exp_int, exp_bool, exp_none, aTruth, Option.some.injEq, exists_eq_left', Int.reduceLE, Int.reduceLT, Int.reduceEq, Int.reduceNe, ne_eq, and_true, true_and, Nat.reduceLeDiff, Nat.reduceAdd, Int.reduceNeg, Nat.reduceLT, and_self, Nat.zero_le, cell, ext_refl, ext_app]
    rw [w2_item new_get hr.1 hq]
    refine wA_compM (fun k => .int ((cellV ns (2 + k)).fmod q)) ?_
    simp (maxDischargeDepth := 9) only [List.zip_cons_cons, List.zip_nil_right, List.zip_nil_left, bindE, wS_seq, wS_assign, wS_if, wS_nil, wS_ret, thenS, wA_bin, wA_int, wA_bool, wA_none, wA_cmp, wA_bcmp, wA_cmp2, wA_bcmp2, wA_bval, wA_bnot, wA_not, wA_neg, wA_band_nil, wA_band_cons, wA_bor_nil, wA_bor_cons, wA_vand1, wA_vand, wA_vor1, wA_vor, wA_here, wA_there, str_eq_iff, String.reduceEq, not_false_eq_true, wA_list, wA_tup, wA_args_nil, wA_args_cons, wA_call, wA_sub, wA_isi, wA_upto, w2_add, w2_sub, w2_mod, w2_div, w2_mul, w2_pow, wC_lt, wC_le, wC_gt, wC_ge, wC_eqi, wC_nei, wC_eqb, wC_neb, List.length_nil, List.length_cons, List.length_map, exp_int, exp_bool, exp_none, aTruth, Option.some.injEq, exists_eq_left', Int.reduceLE, Int.reduceLT, Int.reduceEq, Int.reduceNe, ne_eq, and_true, true_and, Nat.reduceLeDiff, Nat.reduceAdd, Int.reduceNeg, Nat.reduceLT, and_self, Nat.zero_le, cell, ext_refl, ext_app, wF_range1]
    refine ⟨rgI 0 (1 + (cellV ns 1).fmod 6), items_rng (by omega), fun n hn => ?_, ⟨[_, _], by simp; exact ⟨rfl, rfl⟩⟩, _, _, exp_new (by simp) new_get ?_, (rgI 0 (1 + (cellV ns 1).fmod 6)).map fun k => (cellV ns (2 + k)).fmod q, ?_, rfl, by simp⟩
    · have hn' := rgI_mem hn
      simp (maxDischargeDepth := 9) only [List.zip_cons_cons, List.zip_nil_right, List.zip_nil_left, bindE, wS_seq, wS_assign, wS_if, wS_nil, wS_ret, thenS, wA_bin, wA_int, wA_bool, wA_none, wA_cmp, wA_bcmp, wA_cmp2, wA_bcmp2, wA_bval, wA_bnot, wA_not, wA_neg, wA_band_nil, wA_band_cons, wA_bor_nil, wA_bor_cons, wA_vand1, wA_vand, wA_vor1, wA_vor, wA_here, wA_there, str_eq_iff, String.reduceEq, not_false_eq_true, wA_list, wA_tup, wA_args_nil, wA_args_cons, wA_call, wA_sub, wA_isi, wA_upto, w2_add, w2_sub, w2_mod, w2_div, w2_mul, w2_pow, wC_lt, wC_le, wC_gt, wC_ge, wC_eqi, wC_nei, wC_eqb, wC_neb, List.length_nil, List.length_cons, List.length_map, exp_int, exp_bool, exp_none, aTruth, Option.some.injEq, exists_eq_left', Int.reduceLE, Int.reduceLT, Int.reduceEq, Int.reduceNe, ne_eq, and_true, true_and, Nat.reduceLeDiff, Nat.reduceAdd, Int.reduceNeg, Nat.reduceLT, and_self, Nat.zero_le, cell (ext_app ext_refl) (k := 2 + n) (by omega) (by omega), AV.closed]
      omega
    · have : (rgI 0 (1 + (cellV ns 1).fmod 6)).map (fun k => AV.int ((cellV ns (2 + k)).fmod q)) = ((rgI 0 (1 + (cellV ns 1).fmod 6)).map fun k => (cellV ns (2 + k)).fmod q).map .int := by simp
      rw [AO.closed, this]; exact closedL_ints _ _
    · simp [rgI_length]; omega
end Inn

end
section
set_option maxRecDepth 10000
set_option linter.unusedVariables false
set_option linter.unusedSimpArgs false
namespace Inn
open PySem

/-! ### plain facts of a house -/
def kindsO : List Int → Nat → List Int
  | [], _ => []
  | n :: r, o => List.replicate n.toNat (o : Int) ++ kindsO r (o + 1)
theorem kindsO_snoc (a : Int) : ∀ (l : List Int) (o : Nat), kindsO (l ++ [a]) o = kindsO l o ++ List.replicate a.toNat ((o + l.length : Nat) : Int)
  | [], o => by simp [kindsO]
  | n :: r, o => by
    have := kindsO_snoc a r (o + 1)
    simp only [List.cons_append, kindsO, this, List.length_cons, List.append_assoc]
    rw [show o + 1 + r.length = o + (r.length + 1) by omega]
theorem kindsO_len : ∀ (l : List Int) (o : Nat), (∀ n ∈ l, 0 ≤ n) → ((kindsO l o).length : Int) = l.sum
  | [], o, _ => rfl
  | n :: r, o, h => by
    have ih := kindsO_len r (o + 1) fun m hm => h m (.tail _ hm)
    have := h n (.head _)
    simp only [kindsO, List.length_append, List.length_replicate, List.sum_cons]
    push_cast
    omega
theorem kindsO_get : ∀ (l : List Int) (o : Nat) (r : Nat), (∀ n ∈ l, 0 ≤ n) → (r : Int) < l.sum → (kindsO l o)[r]? = some ((o + kindV l r : Nat) : Int)
  | [], o, r, _, h => by simp at h; omega
  | n :: l, o, r, hn, h => by
    have h0 := hn n (.head _)
    simp only [kindsO, kindV]
    by_cases hr : n ≤ r
    · have ih := kindsO_get l (o + 1) (r - n.toNat) (fun m hm => hn m (.tail _ hm)) (by simp at h; omega)
      rw [List.getElem?_append_right (by simp; omega), List.length_replicate, ih, if_pos hr]
      have e : ((r - n.toNat : Nat) : Int) = r - n := by omega
      rw [e]
      congr 2
      omega
    · rw [List.getElem?_append_left (by simp; omega), if_neg hr]
      rw [List.getElem?_replicate, if_pos (by omega)]
      simp
theorem sum_take_nonneg (l : List Int) (k : Nat) (h : ∀ n ∈ l, 0 ≤ n) : 0 ≤ (l.take k).sum := by
  have key : ∀ l : List Int, (∀ n ∈ l, 0 ≤ n) → 0 ≤ l.sum := by
    intro l
    induction l with
    | nil => simp
    | cons a r ih => intro hh; have := hh a (.head _); have := ih fun n hn => hh n (.tail _ hn); simp; omega
  exact key _ fun n hn => h n (List.mem_of_mem_take hn)
theorem kindV_iff : ∀ (l : List Int) (k : Nat) (a r : Int), (∀ n ∈ l, 0 ≤ n) → l[k]? = some a → 0 ≤ r → r < l.sum → (kindV l r = k ↔ firstV l k ≤ r ∧ r < firstV l k + a)
  | [], k, a, r, _, h, _, _ => by simp at h
  | n :: l, 0, a, r, hn, h, h0, hs => by
    simp at h; subst h
    simp only [kindV, firstV, List.take_zero, List.sum_nil]
    by_cases hr : n ≤ r
    · rw [if_pos hr]; constructor
      · intro h; omega
      · intro h; omega
    · rw [if_neg hr]; constructor
      · intro _; omega
      · intro _; rfl
  | n :: l, k + 1, a, r, hn, h, h0, hs => by
    have h' : l[k]? = some a := by simpa using h
    have hf := sum_take_nonneg l k fun m hm => hn m (.tail _ hm)
    simp only [kindV]
    have e : firstV (n :: l) (k + 1) = n + firstV l k := by simp [firstV]
    rw [e]
    by_cases hr : n ≤ r
    · have ih := kindV_iff l k a (r - n) (fun m hm => hn m (.tail _ hm)) h' (by omega) (by simp at hs; omega)
      rw [if_pos hr]
      constructor
      · intro h; have := ih.1 (by omega); omega
      · intro h; have := ih.2 (by omega); omega
    · rw [if_neg hr]
      unfold firstV
      constructor
      · intro h; omega
      · intro h; omega
theorem rgI_app {a b c : Int} (h1 : a ≤ b) (h2 : b ≤ c) : rgI a c = rgI a b ++ rgI b c := by
  have e : (c - a).toNat = (b - a).toNat + (c - b).toNat := by omega
  unfold rgI
  rw [e, List.range_add, List.map_append, List.map_map]
  congr 1
  refine List.map_congr_left fun k _ => ?_
  simp only [Function.comp]
  omega
theorem rgI_filter {lo hi N : Int} (p : Int → Bool) (h0 : 0 ≤ lo) (h1 : lo ≤ hi) (h2 : hi ≤ N) (hp : ∀ r, 0 ≤ r → r < N → (p r = true ↔ lo ≤ r ∧ r < hi)) : (rgI 0 N).filter p = rgI lo hi := by
  rw [rgI_app h0 (show lo ≤ N by omega), rgI_app h1 h2, List.filter_append, List.filter_append]
  have e1 : (rgI 0 lo).filter p = [] := List.filter_eq_nil_iff.mpr fun r hr => by
    have := rgI_mem hr
    intro h; have := (hp r (by omega) (by omega)).1 h; omega
  have e3 : (rgI hi N).filter p = [] := List.filter_eq_nil_iff.mpr fun r hr => by
    have := rgI_mem hr
    intro h; have := (hp r (by omega) (by omega)).1 h; omega
  have e2 : (rgI lo hi).filter p = rgI lo hi := List.filter_eq_self.mpr fun r hr => by
    have := rgI_mem hr
    exact (hp r (by omega) (by omega)).2 (by omega)
  rw [e1, e2, e3]; simp
theorem house_iff {ns : List Int} : houseV ns = true ↔ (1 ≤ ns.length ∧ ns.length ≤ 6) ∧ ∀ n ∈ ns, 0 ≤ n ∧ n ≤ 9 := by
  simp [houseV, and_assoc]
theorem first_le {l : List Int} {k : Nat} {a : Int} (hn : ∀ n ∈ l, 0 ≤ n) (h : l[k]? = some a) : 0 ≤ firstV l k ∧ 0 ≤ a ∧ firstV l k + a ≤ l.sum := by
  refine ⟨sum_take_nonneg l k hn, hn a (List.mem_of_getElem? h), ?_⟩
  have hk : k < l.length := (List.getElem?_eq_some_iff.mp h).1
  have e : l = l.take k ++ a :: l.drop (k + 1) := by
    have : l[k] = a := by simpa [hk] using h
    rw [← this, List.getElem_cons_drop, List.take_append_drop]
  have e2 : l.sum = firstV l k + (a + (l.drop (k + 1)).sum) := by
    conv => lhs; rw [e]
    simp [firstV]
  have : 0 ≤ (l.drop (k + 1)).sum := by
    have := sum_take_nonneg (l.drop (k + 1)) (l.drop (k + 1)).length fun n hn' => hn n (List.mem_of_mem_drop hn')
    rwa [List.take_length] at this
  omega
theorem sum_le {l : List Int} (h : ∀ n ∈ l, 0 ≤ n ∧ n ≤ 9) : 0 ≤ l.sum ∧ l.sum ≤ 9 * l.length := by
  induction l with
  | nil => simp
  | cons a r ih => have := h a (.head _); have := ih fun n hn => h n (.tail _ hn); simp only [List.sum_cons, List.length_cons]; push_cast; omega
end Inn

end
section
set_option maxRecDepth 10000
set_option linter.unusedVariables false
set_option linter.unusedSimpArgs false
namespace Inn
open PySem

theorem set_get_ne {σ : Store} {a b : Nat} {o o' : AO} (h : σ[b]? = some o) (hne : a ≠ b) : (σ.set a o')[b]? = some o := by
  rw [List.getElem?_set_ne hne]; exact h

def aInv (σ : Store) (i j : Nat) (ks : List Int) (ρ' : AEnv) (σ' : Store) : Prop :=
  Ext σ σ' ∧ ρ' "_law_counts" = some (.ref i) ∧ ρ' "_law_kinds" = some (.ref j) ∧ σ'[j]? = some (.list (ks.map .int))

theorem allRooms_eq {σ : Store} {i : Nat} {ns : List Int} (h : σ[i]? = some (.list (ns.map .int))) (hg : houseV ns = true) : sp_law_all_rooms [.ref i] σ = some (.bool true, σ) := by
  obtain ⟨⟨g1, g2⟩, g3⟩ := house_iff.1 hg
  have hn : ∀ n ∈ ns, 0 ≤ n := fun n hn => (g3 n hn).1
  have hsum := sum_le g3
  have hklen := kindsO_len ns 0 hn
  have hkl : (kindsO ns 0).length ≤ 54 := by omega
  refine wF_get (wF_fn rfl ?_)
  refine wS_seq.2 ?_
  simp only [wS_assign, wA_list, wA_args_nil, thenS, List.length_nil, List.zip_cons_cons, List.zip_nil_right, bindE]
  refine ⟨by omega, ?_⟩
  refine wS_cut (fun ρ' σ' => ∃ j, aInv σ i j (kindsO ns 0) ρ' σ') ?_ ?_
  · refine wS_forN ns.length (by omega) (fun k ρ' σ' => ∃ j, aInv σ i j (kindsO (ns.take k) 0) ρ' σ') ?_ ?_ ?_
    · have h1 := app_get (τ := [.list []]) h
      simp (maxDischargeDepth := 9) only [List.zip_cons_cons, List.zip_nil_right, List.zip_nil_left, bindE, wS_seq, wS_assign, wS_if, wS_nil, wS_ret, thenS, wA_bin, wA_int, wA_bool, wA_none, wA_cmp, wA_bcmp, wA_cmp2, wA_bcmp2, wA_bval, wA_bnot, wA_not, wA_neg, wA_band_nil, wA_band_cons, wA_bor_nil, wA_bor_cons, wA_vand1, wA_vand, wA_vor1, wA_vor, wA_here, wA_there, str_eq_iff, String.reduceEq, not_false_eq_true, wA_list, wA_tup, wA_args_nil, wA_args_cons, wA_call, wA_sub, wA_isi, wA_upto, w2_add, w2_sub, w2_mod, w2_div, w2_mul, w2_pow, wC_lt, wC_le, wC_gt, wC_ge, wC_eqi, wC_nei, wC_eqb, wC_neb, List.length_nil, List.length_cons, List.length_map, exp_int, exp_bool, exp_none, aTruth, Option.some.injEq, exists_eq_left', Int.reduceLE, Int.reduceLT, Int.reduceEq, Int.reduceNe, ne_eq, and_true, true_and, Nat.reduceLeDiff, Nat.reduceAdd, Int.reduceNeg, Nat.reduceLT, and_self, Nat.zero_le, wF_len h1, wF_range1]
      exact ⟨σ.length, ext_self, by simp [upd, str_eq_iff], upd_same, by rw [new_get]; rfl⟩
    · rintro k ρ' σ' hk ⟨j, hx, e1, e2, e3⟩
      have hk' : ns[k]? = some ns[k] := by simp [hk]
      have hit : (ns.map AV.int)[(k : Int).toNat]? = some (.int ns[k]) := by simp [hk]
      have hb := g3 ns[k] (by simp)
      have hke := kindsO_len (ns.take k) 0 fun n hh => hn n (List.mem_of_mem_take hh)
      have hke2 := first_le hn hk'
      unfold firstV at hke2
      have e4 : (upd ρ' "_law_kind" (.int k)) "_law_counts" = some (.ref i) := by simpa [upd, str_eq_iff] using e1
      have e5 : (upd ρ' "_law_kind" (.int k)) "_law_kinds" = some (.ref j) := by simpa [upd, str_eq_iff] using e2
      have h1 := app_get (τ := [.list [.int k]]) (hx.get h)
      simp (maxDischargeDepth := 9) only [List.zip_cons_cons, List.zip_nil_right, List.zip_nil_left, bindE, wS_seq, wS_assign, wS_if, wS_nil, wS_ret, thenS, wA_bin, wA_int, wA_bool, wA_none, wA_cmp, wA_bcmp, wA_cmp2, wA_bcmp2, wA_bval, wA_bnot, wA_not, wA_neg, wA_band_nil, wA_band_cons, wA_bor_nil, wA_bor_cons, wA_vand1, wA_vand, wA_vor1, wA_vor, wA_here, wA_there, str_eq_iff, String.reduceEq, not_false_eq_true, wA_list, wA_tup, wA_args_nil, wA_args_cons, wA_call, wA_sub, wA_isi, wA_upto, w2_add, w2_sub, w2_mod, w2_div, w2_mul, w2_pow, wC_lt, wC_le, wC_gt, wC_ge, wC_eqi, wC_nei, wC_eqb, wC_neb, List.length_nil, List.length_cons, List.length_map, exp_int, exp_bool, exp_none, aTruth, Option.some.injEq, exists_eq_left', Int.reduceLE, Int.reduceLT, Int.reduceEq, Int.reduceNe, ne_eq, and_true, true_and, Nat.reduceLeDiff, Nat.reduceAdd, Int.reduceNeg, Nat.reduceLT, and_self, Nat.zero_le, wA_name e1, wA_name e2, w2_item h1 (Int.natCast_nonneg _) hit]
      rw [w2_mulL new_get (by simp; omega)]
      rw [w2_addL (app_get (app_get e3)) new_get (by simp; omega)]
      refine ⟨_, ext_app (ext_app (ext_app hx)), by simpa [upd, str_eq_iff] using e4, upd_same, ?_⟩
      rw [new_get, List.take_add_one, hk']
      simp only [Option.toList_some, kindsO_snoc]
      have hkl2 : (ns.take k).length = k := by simp; omega
      rw [hkl2]
      have e6 : (List.replicate ns[k].toNat [AV.int (k : Int)]).flatten = (List.replicate ns[k].toNat ((0 + k : Nat) : Int)).map .int := by
        generalize ns[k].toNat = m
        rw [Nat.zero_add]
        induction m with
        | zero => rfl
        | succ m ih => rw [List.replicate_succ, List.flatten_cons, ih, List.replicate_succ, List.map_cons]; rfl
      rw [e6, List.map_append]
    · rintro ρ' σ' ⟨j, hI⟩
      rw [List.take_length] at hI
      exact ⟨rfl, j, hI⟩
  · rintro ρ1 σ1 ⟨j, hI1⟩
    refine wS_cut (aInv σ i j (kindsO ns 0)) ?_ ?_
    · refine wS_forN (kindsO ns 0).length (by omega) (fun _ ρ' σ' => aInv σ i j (kindsO ns 0) ρ' σ') ?_ ?_ ?_
      · obtain ⟨hx, e1, e2, e3⟩ := hI1
        simp (maxDischargeDepth := 9) only [List.zip_cons_cons, List.zip_nil_right, List.zip_nil_left, bindE, wS_seq, wS_assign, wS_if, wS_nil, wS_ret, thenS, wA_bin, wA_int, wA_bool, wA_none, wA_cmp, wA_bcmp, wA_cmp2, wA_bcmp2, wA_bval, wA_bnot, wA_not, wA_neg, wA_band_nil, wA_band_cons, wA_bor_nil, wA_bor_cons, wA_vand1, wA_vand, wA_vor1, wA_vor, wA_here, wA_there, str_eq_iff, String.reduceEq, not_false_eq_true, wA_list, wA_tup, wA_args_nil, wA_args_cons, wA_call, wA_sub, wA_isi, wA_upto, w2_add, w2_sub, w2_mod, w2_div, w2_mul, w2_pow, wC_lt, wC_le, wC_gt, wC_ge, wC_eqi, wC_nei, wC_eqb, wC_neb, List.length_nil, List.length_cons, List.length_map, exp_int, exp_bool, exp_none, aTruth, Option.some.injEq, exists_eq_left', Int.reduceLE, Int.reduceLT, Int.reduceEq, Int.reduceNe, ne_eq, and_true, true_and, Nat.reduceLeDiff, Nat.reduceAdd, Int.reduceNeg, Nat.reduceLT, and_self, Nat.zero_le, wA_name e2, wF_len e3, wF_range1]
        exact ⟨hx, e1, e2, e3⟩
      · rintro r ρ' σ' hr ⟨hx, e1, e2, e3⟩
        have e4 : (upd ρ' "_law_room" (.int r)) "_law_counts" = some (.ref i) := by simpa [upd, str_eq_iff] using e1
        have e5 : (upd (upd ρ' "_law_room" (.int r)) "_law_found" (.int (kindV ns r))) "_law_kinds" = some (.ref j) := by simpa [upd, str_eq_iff] using e2
        have hget := kindsO_get ns 0 r hn (by omega)
        have hit : ((kindsO ns 0).map AV.int)[(r : Int).toNat]? = some (.int (kindV ns r)) := by simp [hget]
        simp (maxDischargeDepth := 9) only [List.zip_cons_cons, List.zip_nil_right, List.zip_nil_left, bindE, wS_seq, wS_assign, wS_if, wS_nil, wS_ret, thenS, wA_bin, wA_int, wA_bool, wA_none, wA_cmp, wA_bcmp, wA_cmp2, wA_bcmp2, wA_bval, wA_bnot, wA_not, wA_neg, wA_band_nil, wA_band_cons, wA_bor_nil, wA_bor_cons, wA_vand1, wA_vand, wA_vor1, wA_vor, wA_here, wA_there, str_eq_iff, String.reduceEq, not_false_eq_true, wA_list, wA_tup, wA_args_nil, wA_args_cons, wA_call, wA_sub, wA_isi, wA_upto, w2_add, w2_sub, w2_mod, w2_div, w2_mul, w2_pow, wC_lt, wC_le, wC_gt, wC_ge, wC_eqi, wC_nei, wC_eqb, wC_neb, List.length_nil, List.length_cons, List.length_map, exp_int, exp_bool, exp_none, aTruth, Option.some.injEq, exists_eq_left', Int.reduceLE, Int.reduceLT, Int.reduceEq, Int.reduceNe, ne_eq, and_true, true_and, Nat.reduceLeDiff, Nat.reduceAdd, Int.reduceNeg, Nat.reduceLT, and_self, Nat.zero_le, wA_name e1, wF_kind (hx.get h) (Int.natCast_nonneg r) (by omega) (by omega), wF_whole, Bool.not_true, Bool.false_eq_true, if_false, wA_name e2, w2_item e3 (Int.natCast_nonneg _) hit, BEq.rfl]
        exact ⟨hx, by simpa [upd, str_eq_iff] using e4, by simpa [upd, str_eq_iff] using e2, e3⟩
      · intro ρ' σ' hI
        exact ⟨rfl, hI⟩
    · intro ρ2 σ2 hI2
      refine wS_cut (aInv σ i j (kindsO ns 0)) ?_ ?_
      · refine wS_forN ns.length (by omega) (fun _ ρ' σ' => aInv σ i j (kindsO ns 0) ρ' σ') ?_ ?_ ?_
        · obtain ⟨hx, e1, e2, e3⟩ := hI2
          simp (maxDischargeDepth := 9) only [List.zip_cons_cons, List.zip_nil_right, List.zip_nil_left, bindE, wS_seq, wS_assign, wS_if, wS_nil, wS_ret, thenS, wA_bin, wA_int, wA_bool, wA_none, wA_cmp, wA_bcmp, wA_cmp2, wA_bcmp2, wA_bval, wA_bnot, wA_not, wA_neg, wA_band_nil, wA_band_cons, wA_bor_nil, wA_bor_cons, wA_vand1, wA_vand, wA_vor1, wA_vor, wA_here, wA_there, str_eq_iff, String.reduceEq, not_false_eq_true, wA_list, wA_tup, wA_args_nil, wA_args_cons, wA_call, wA_sub, wA_isi, wA_upto, w2_add, w2_sub, w2_mod, w2_div, w2_mul, w2_pow, wC_lt, wC_le, wC_gt, wC_ge, wC_eqi, wC_nei, wC_eqb, wC_neb, List.length_nil, List.length_cons, List.length_map, exp_int, exp_bool, exp_none, aTruth, Option.some.injEq, exists_eq_left', Int.reduceLE, Int.reduceLT, Int.reduceEq, Int.reduceNe, ne_eq, and_true, true_and, Nat.reduceLeDiff, Nat.reduceAdd, Int.reduceNeg, Nat.reduceLT, and_self, Nat.zero_le, wA_name e1, wF_len (hx.get h), wF_range1]
          exact ⟨hx, e1, e2, e3⟩
        · rintro k ρ' σ' hk ⟨hx, e1, e2, e3⟩
          have hk' : ns[k]? = some ns[k] := by simp [hk]
          have hb3 : ∀ n ∈ ns, 0 ≤ n ∧ n < 1000 := fun n hh => by have := g3 n hh; omega
          have hfl := first_le hn hk'
          have hR : (rgI 0 (kindsO ns 0).length).filter (fun r => (((kindsO ns 0).getD r.toNat 0) == (k : Int))) = rgI (firstV ns k) (firstV ns k + ns[k]) := by
            refine rgI_filter _ (by omega) (by omega) (by omega) fun r h0 hlt => ?_
            have hget := kindsO_get ns 0 r.toNat hn (by omega)
            have hki := kindV_iff ns k ns[k] r hn hk' h0 (by omega)
            have e : ((r.toNat : Nat) : Int) = r := by omega
            rw [e] at hget
            rw [List.getD_eq_getElem?_getD, hget]
            simp only [Option.getD_some, beq_iff_eq]
            rw [← hki]; omega
          generalize hRg : rgI (firstV ns k) (firstV ns k + ns[k]) = R at hR
          have hRl : R.length ≤ 1000 := by rw [← hRg, rgI_length]; have := g3 ns[k] (by simp); omega
          have ro : ∀ {σ' : Store} {Q}, Ext σ σ' → (wF sp_rooms_of [.ref i, .int k] σ' Q ↔ Q (.ref σ'.length) (σ' ++ [.list (R.map .int)])) := fun hx => by
            rw [wF_roomsOf (hx.get h) hb3 (by omega) hk', hRg]
          have hjl := (List.getElem?_eq_some_iff.mp e3).1
          refine wS_cut (fun ρ' σ' => aInv σ i j (kindsO ns 0) ρ' σ' ∧ ρ' "_law_kind" = some (.int k) ∧ ∃ s, ρ' "_law_found" = some (.ref s) ∧ σ'[s]? = some (.list (R.map .int)) ∧ σ.length ≤ s ∧ s ≠ j) ?_ ?_
          · simp (maxDischargeDepth := 9) only [List.zip_cons_cons, List.zip_nil_right, List.zip_nil_left, bindE, wS_seq, wS_assign, wS_if, wS_nil, wS_ret, thenS, wA_bin, wA_int, wA_bool, wA_none, wA_cmp, wA_bcmp, wA_cmp2, wA_bcmp2, wA_bval, wA_bnot, wA_not, wA_neg, wA_band_nil, wA_band_cons, wA_bor_nil, wA_bor_cons, wA_vand1, wA_vand, wA_vor1, wA_vor, wA_here, wA_there, str_eq_iff, String.reduceEq, not_false_eq_true, wA_list, wA_tup, wA_args_nil, wA_args_cons, wA_call, wA_sub, wA_isi, wA_upto, w2_add, w2_sub, w2_mod, w2_div, w2_mul, w2_pow, wC_lt, wC_le, wC_gt, wC_ge, wC_eqi, wC_nei, wC_eqb, wC_neb, List.length_nil, List.length_cons, List.length_map, exp_int, exp_bool, exp_none, aTruth, Option.some.injEq, exists_eq_left', Int.reduceLE, Int.reduceLT, Int.reduceEq, Int.reduceNe, ne_eq, and_true, true_and, Nat.reduceLeDiff, Nat.reduceAdd, Int.reduceNeg, Nat.reduceLT, and_self, Nat.zero_le, wA_name e1, ro hx]
            exact ⟨⟨ext_app hx, by simpa [upd, str_eq_iff] using e1, by simpa [upd, str_eq_iff] using e2, app_get e3⟩, by simp [upd, str_eq_iff], _, upd_same, new_get, hx.len, by omega⟩
          rintro ρ3 σ3 ⟨⟨hx3, a1, a2, a3⟩, a4, s, a5, a6, a7, a8⟩
          have hsl := (List.getElem?_eq_some_iff.mp a6).1
          refine wS_cut (fun ρ' σ' => aInv σ i j (kindsO ns 0) ρ' σ' ∧ ρ' "_law_kind" = some (.int k) ∧ ρ' "_law_found" = some (.ref s) ∧ σ'[s]? = some (.list (R.map .int)) ∧ ∃ d, ρ' "_law_due" = some (.ref d) ∧ σ'[d]? = some (.list (R.map .int)) ∧ s ≠ d) ?_ ?_
          · rw [wS_assignC]
            refine wA_compI (fun r => (((kindsO ns 0).getD r.toNat 0) == (k : Int))) .int ?_
            simp (maxDischargeDepth := 9) only [List.zip_cons_cons, List.zip_nil_right, List.zip_nil_left, bindE, wS_seq, wS_assign, wS_if, wS_nil, wS_ret, thenS, wA_bin, wA_int, wA_bool, wA_none, wA_cmp, wA_bcmp, wA_cmp2, wA_bcmp2, wA_bval, wA_bnot, wA_not, wA_neg, wA_band_nil, wA_band_cons, wA_bor_nil, wA_bor_cons, wA_vand1, wA_vand, wA_vor1, wA_vor, wA_here, wA_there, str_eq_iff, String.reduceEq, not_false_eq_true, wA_list, wA_tup, wA_args_nil, wA_args_cons, wA_call, wA_sub, wA_isi, wA_upto, w2_add, w2_sub, w2_mod, w2_div, w2_mul, w2_pow, wC_lt, wC_le, wC_gt, wC_ge, wC_eqi, wC_nei, wC_eqb, wC_neb, List.length_nil, List.length_cons, List.length_map, exp_int, exp_bool, exp_none, aTruth, Option.some.injEq, exists_eq_left', Int.reduceLE, Int.reduceLT, Int.reduceEq, Int.reduceNe, ne_eq, and_true, true_and, Nat.reduceLeDiff, Nat.reduceAdd, Int.reduceNeg, Nat.reduceLT, and_self, Nat.zero_le, wA_name a2, wF_len a3, wF_range1]
            refine ⟨rgI 0 (kindsO ns 0).length, items_rng (by omega), fun n hn' => ?_, ?_⟩
            · have hm := rgI_mem hn'
              have hit : ((kindsO ns 0).map AV.int)[n.toNat]? = some (.int ((kindsO ns 0).getD n.toNat 0)) := by
                have : n.toNat < (kindsO ns 0).length := by omega
                simp [this]
              simp (maxDischargeDepth := 9) only [List.zip_cons_cons, List.zip_nil_right, List.zip_nil_left, bindE, wS_seq, wS_assign, wS_if, wS_nil, wS_ret, thenS, wA_bin, wA_int, wA_bool, wA_none, wA_cmp, wA_bcmp, wA_cmp2, wA_bcmp2, wA_bval, wA_bnot, wA_not, wA_neg, wA_band_nil, wA_band_cons, wA_bor_nil, wA_bor_cons, wA_vand1, wA_vand, wA_vor1, wA_vor, wA_here, wA_there, str_eq_iff, String.reduceEq, not_false_eq_true, wA_list, wA_tup, wA_args_nil, wA_args_cons, wA_call, wA_sub, wA_isi, wA_upto, w2_add, w2_sub, w2_mod, w2_div, w2_mul, w2_pow, wC_lt, wC_le, wC_gt, wC_ge, wC_eqi, wC_nei, wC_eqb, wC_neb, List.length_nil, List.length_cons, List.length_map, exp_int, exp_bool, exp_none, aTruth, Option.some.injEq, exists_eq_left', Int.reduceLE, Int.reduceLT, Int.reduceEq, Int.reduceNe, ne_eq, and_true, true_and, Nat.reduceLeDiff, Nat.reduceAdd, Int.reduceNeg, Nat.reduceLT, and_self, Nat.zero_le, wA_name a2, wA_name a4, w2_item a3 hm.1 hit]
              split
              · simp_all [AV.closed]
              · simp_all
            · rw [hR]
              exact ⟨⟨ext_app hx3, by simpa [upd, str_eq_iff] using a1, by simpa [upd, str_eq_iff] using a2, app_get a3⟩, by simpa [upd, str_eq_iff] using a4, by simpa [upd, str_eq_iff] using a5, app_get a6, _, upd_same, new_get, by omega⟩
          rintro ρ4 σ4 ⟨⟨hx4, b1, b2, b3⟩, b4, b5, b6, d, b7, b8, b9⟩
          have hdl := (List.getElem?_eq_some_iff.mp b8).1
          have hsl := (List.getElem?_eq_some_iff.mp b6).1
          rw [wS_seq]
          simp (maxDischargeDepth := 9) only [List.zip_cons_cons, List.zip_nil_right, List.zip_nil_left, bindE, wS_seq, wS_assign, wS_if, wS_nil, wS_ret, thenS, wA_bin, wA_int, wA_bool, wA_none, wA_cmp, wA_bcmp, wA_cmp2, wA_bcmp2, wA_bval, wA_bnot, wA_not, wA_neg, wA_band_nil, wA_band_cons, wA_bor_nil, wA_bor_cons, wA_vand1, wA_vand, wA_vor1, wA_vor, wA_here, wA_there, str_eq_iff, String.reduceEq, not_false_eq_true, wA_list, wA_tup, wA_args_nil, wA_args_cons, wA_call, wA_sub, wA_isi, wA_upto, w2_add, w2_sub, w2_mod, w2_div, w2_mul, w2_pow, wC_lt, wC_le, wC_gt, wC_ge, wC_eqi, wC_nei, wC_eqb, wC_neb, List.length_nil, List.length_cons, List.length_map, exp_int, exp_bool, exp_none, aTruth, Option.some.injEq, exists_eq_left', Int.reduceLE, Int.reduceLT, Int.reduceEq, Int.reduceNe, ne_eq, and_true, true_and, Nat.reduceLeDiff, Nat.reduceAdd, Int.reduceNeg, Nat.reduceLT, and_self, Nat.zero_le, wA_name b5, wA_name b7, wF_wholes b6, Bool.not_true, Bool.false_eq_true, if_false, wC_neL b6 b8, BEq.rfl]
          rw [wS_append b5 b6 a7 (by simp; omega)]
          simp (maxDischargeDepth := 9) only [List.zip_cons_cons, List.zip_nil_right, List.zip_nil_left, bindE, wS_seq, wS_assign, wS_if, wS_nil, wS_ret, thenS, wA_bin, wA_int, wA_bool, wA_none, wA_cmp, wA_bcmp, wA_cmp2, wA_bcmp2, wA_bval, wA_bnot, wA_not, wA_neg, wA_band_nil, wA_band_cons, wA_bor_nil, wA_bor_cons, wA_vand1, wA_vand, wA_vor1, wA_vor, wA_here, wA_there, str_eq_iff, String.reduceEq, not_false_eq_true, wA_list, wA_tup, wA_args_nil, wA_args_cons, wA_call, wA_sub, wA_isi, wA_upto, w2_add, w2_sub, w2_mod, w2_div, w2_mul, w2_pow, wC_lt, wC_le, wC_gt, wC_ge, wC_eqi, wC_nei, wC_eqb, wC_neb, List.length_nil, List.length_cons, List.length_map, exp_int, exp_bool, exp_none, aTruth, Option.some.injEq, exists_eq_left', Int.reduceLE, Int.reduceLT, Int.reduceEq, Int.reduceNe, ne_eq, and_true, true_and, Nat.reduceLeDiff, Nat.reduceAdd, Int.reduceNeg, Nat.reduceLT, and_self, Nat.zero_le]
          have hx5 : Ext σ (σ4.set s (.list (R.map AV.int ++ [.int 7]))) := hx4.set a7
          have c6 : (σ4.set s (.list (R.map AV.int ++ [.int 7])))[s]? = some (.list ((R ++ [7]).map .int)) := by rw [List.getElem?_set_self hsl]; simp
          have c8 := set_get_ne (o' := .list (R.map AV.int ++ [.int 7])) b8 b9
          have c3 := set_get_ne (o' := .list (R.map AV.int ++ [.int 7])) b3 a8
          generalize σ4.set s (.list (R.map AV.int ++ [.int 7])) = σ5 at hx5 c6 c8 c3
          simp (maxDischargeDepth := 9) only [List.zip_cons_cons, List.zip_nil_right, List.zip_nil_left, bindE, wS_seq, wS_assign, wS_if, wS_nil, wS_ret, thenS, wA_bin, wA_int, wA_bool, wA_none, wA_cmp, wA_bcmp, wA_cmp2, wA_bcmp2, wA_bval, wA_bnot, wA_not, wA_neg, wA_band_nil, wA_band_cons, wA_bor_nil, wA_bor_cons, wA_vand1, wA_vand, wA_vor1, wA_vor, wA_here, wA_there, str_eq_iff, String.reduceEq, not_false_eq_true, wA_list, wA_tup, wA_args_nil, wA_args_cons, wA_call, wA_sub, wA_isi, wA_upto, w2_add, w2_sub, w2_mod, w2_div, w2_mul, w2_pow, wC_lt, wC_le, wC_gt, wC_ge, wC_eqi, wC_nei, wC_eqb, wC_neb, List.length_nil, List.length_cons, List.length_map, exp_int, exp_bool, exp_none, aTruth, Option.some.injEq, exists_eq_left', Int.reduceLE, Int.reduceLT, Int.reduceEq, Int.reduceNe, ne_eq, and_true, true_and, Nat.reduceLeDiff, Nat.reduceAdd, Int.reduceNeg, Nat.reduceLT, and_self, Nat.zero_le, wA_name b1, wA_name b4, wA_name b5, wA_name b7, ro hx5, wC_neL new_get (app_get (τ := [.list (R.map .int)]) c8), BEq.rfl, Bool.not_true, Bool.false_eq_true, if_false]
          rw [w2_addL (app_get (app_get c8)) new_get (by simp; omega)]
          have c9 : ∀ τ, (τ ++ [AO.list (R.map AV.int ++ [AV.int 7])])[τ.length]? = some (.list ((R ++ [7]).map .int)) := fun τ => by rw [new_get]; simp
          rw [wC_neL (app_get (app_get (app_get c6))) (c9 _)]
          simp only [BEq.rfl, Bool.not_true, Bool.false_eq_true, if_false]
          exact ⟨ext_app (ext_app (ext_app hx5)), b1, b2, app_get (app_get (app_get c3))⟩
        · intro ρ' σ' hI
          exact ⟨rfl, hI⟩
      · rintro ρ' σ' ⟨hx, e1, e2, e3⟩
        have e5 : (upd ρ' "_law_found" (.int ns.sum)) "_law_kinds" = some (.ref j) := by simpa [upd, str_eq_iff] using e2
        simp (maxDischargeDepth := 9) only [List.zip_cons_cons, List.zip_nil_right, List.zip_nil_left, bindE, wS_seq, wS_assign, wS_if, wS_nil, wS_ret, thenS, wA_bin, wA_int, wA_bool, wA_none, wA_cmp, wA_bcmp, wA_cmp2, wA_bcmp2, wA_bval, wA_bnot, wA_not, wA_neg, wA_band_nil, wA_band_cons, wA_bor_nil, wA_bor_cons, wA_vand1, wA_vand, wA_vor1, wA_vor, wA_here, wA_there, str_eq_iff, String.reduceEq, not_false_eq_true, wA_list, wA_tup, wA_args_nil, wA_args_cons, wA_call, wA_sub, wA_isi, wA_upto, w2_add, w2_sub, w2_mod, w2_div, w2_mul, w2_pow, wC_lt, wC_le, wC_gt, wC_ge, wC_eqi, wC_nei, wC_eqb, wC_neb, List.length_nil, List.length_cons, List.length_map, exp_int, exp_bool, exp_none, aTruth, Option.some.injEq, exists_eq_left', Int.reduceLE, Int.reduceLT, Int.reduceEq, Int.reduceNe, ne_eq, and_true, true_and, Nat.reduceLeDiff, Nat.reduceAdd, Int.reduceNeg, Nat.reduceLT, and_self, Nat.zero_le, wA_name e1, wF_count (hx.get h) (fun n hh => by have := g3 n hh; omega), wF_whole, if_true, wA_name e2, wF_len e3]
        refine ⟨hx, _, _, rfl, ?_, rfl⟩
        simp [hklen]
theorem wF_allRooms {σ : Store} {i : Nat} {ns : List Int} {Q} (h : σ[i]? = some (.list (ns.map .int))) (hg : houseV ns = true) : wF sp_law_all_rooms [.ref i] σ Q ↔ Q (.bool true) σ := wF_eq (allRooms_eq h hg)

theorem law_eq {σ : Store} {i : Nat} {ns : List Int} (h : σ[i]? = some (.list (ns.map .int))) (hl : ns.length ≤ 1000) : sp_law [.ref i] σ = some (.bool true, σ) := by
  obtain ⟨v, s, ec, cs, hcl, rfl, rfl⟩ := counts_ok h hl
  refine wF_get (wF_fn rfl ?_)
  refine wS_cut (fun ρ' σ' => ρ' = upd (upd emp "_law_script" (.ref i)) "_law_counts" (.ref σ.length) ∧ σ' = σ ++ [.list (cs.map .int)]) ?_ ?_
  · simp (maxDischargeDepth := 9) only [List.zip_cons_cons, List.zip_nil_right, List.zip_nil_left, bindE, wS_seq, wS_assign, wS_if, wS_nil, wS_ret, thenS, wA_bin, wA_int, wA_bool, wA_none, wA_cmp, wA_bcmp, wA_cmp2, wA_bcmp2, wA_bval, wA_bnot, wA_not, wA_neg, wA_band_nil, wA_band_cons, wA_bor_nil, wA_bor_cons, wA_vand1, wA_vand, wA_vor1, wA_vor, wA_here, wA_there, str_eq_iff, String.reduceEq, not_false_eq_true, wA_list, wA_tup, wA_args_nil, wA_args_cons, wA_call, wA_sub, wA_isi, wA_upto, w2_add, w2_sub, w2_mod, w2_div, w2_mul, w2_pow, wC_lt, wC_le, wC_gt, wC_ge, wC_eqi, wC_nei, wC_eqb, wC_neb, List.length_nil, List.length_cons, List.length_map, exp_int, exp_bool, exp_none, aTruth, Option.some.injEq, exists_eq_left', Int.reduceLE, Int.reduceLT, Int.reduceEq, Int.reduceNe, ne_eq, and_true, true_and, Nat.reduceLeDiff, Nat.reduceAdd, Int.reduceNeg, Nat.reduceLT, and_self, Nat.zero_le, wF_eq ec]
  rintro _ _ ⟨rfl, rfl⟩
  refine wS_cut (fun ρ' σ' => ρ' "_law_counts" = some (.ref σ.length) ∧ ρ' "_law_handed" = some (.ref (σ.length + 1)) ∧ σ'[σ.length]? = some (.list (cs.map .int)) ∧ σ'[σ.length + 1]? = some (.list (cs.map .int)) ∧ Ext σ σ') ?_ ?_
  · simp (maxDischargeDepth := 9) only [List.zip_cons_cons, List.zip_nil_right, List.zip_nil_left, bindE, wS_seq, wS_assign, wS_if, wS_nil, wS_ret, thenS, wA_bin, wA_int, wA_bool, wA_none, wA_cmp, wA_bcmp, wA_cmp2, wA_bcmp2, wA_bval, wA_bnot, wA_not, wA_neg, wA_band_nil, wA_band_cons, wA_bor_nil, wA_bor_cons, wA_vand1, wA_vand, wA_vor1, wA_vor, wA_here, wA_there, str_eq_iff, String.reduceEq, not_false_eq_true, wA_list, wA_tup, wA_args_nil, wA_args_cons, wA_call, wA_sub, wA_isi, wA_upto, w2_add, w2_sub, w2_mod, w2_div, w2_mul, w2_pow, wC_lt, wC_le, wC_gt, wC_ge, wC_eqi, wC_nei, wC_eqb, wC_neb, List.length_nil, List.length_cons, List.length_map, exp_int, exp_bool, exp_none, aTruth, Option.some.injEq, exists_eq_left', Int.reduceLE, Int.reduceLT, Int.reduceEq, Int.reduceNe, ne_eq, and_true, true_and, Nat.reduceLeDiff, Nat.reduceAdd, Int.reduceNeg, Nat.reduceLT, and_self, Nat.zero_le, wF_listL new_get]
    exact ⟨by simp [upd, str_eq_iff], by simp [upd, str_eq_iff], app_get new_get, by simp, ext_app ext_self⟩
  rintro ρ1 σ1 ⟨a1, a2, a3, a4, a5⟩
  refine wS_cut (fun ρ' σ' => ρ' "_law_counts" = some (.ref σ.length) ∧ ρ' "_law_handed" = some (.ref (σ.length + 1)) ∧ ρ' "_law_good" = some (.bool (houseV cs)) ∧ Ext σ1 σ') ?_ ?_
  · have fin : ∀ σ2 t, Ext σ1 σ2 → t = houseV cs → (upd ρ1 "_law_good" (.bool t) "_law_counts" = some (.ref σ.length) ∧ upd ρ1 "_law_good" (.bool t) "_law_handed" = some (.ref (σ.length + 1)) ∧ upd ρ1 "_law_good" (.bool t) "_law_good" = some (.bool (houseV cs)) ∧ Ext σ1 σ2) := by
      rintro σ2 _ hx rfl
      exact ⟨by simpa [upd, str_eq_iff] using a1, by simpa [upd, str_eq_iff] using a2, upd_same, hx⟩
    simp (maxDischargeDepth := 9) only [List.zip_cons_cons, List.zip_nil_right, List.zip_nil_left, bindE, wS_seq, wS_assign, wS_if, wS_nil, wS_ret, thenS, wA_bin, wA_int, wA_bool, wA_none, wA_cmp, wA_bcmp, wA_cmp2, wA_bcmp2, wA_bval, wA_bnot, wA_not, wA_neg, wA_band_nil, wA_band_cons, wA_bor_nil, wA_bor_cons, wA_vand1, wA_vand, wA_vor1, wA_vor, wA_here, wA_there, str_eq_iff, String.reduceEq, not_false_eq_true, wA_list, wA_tup, wA_args_nil, wA_args_cons, wA_call, wA_sub, wA_isi, wA_upto, w2_add, w2_sub, w2_mod, w2_div, w2_mul, w2_pow, wC_lt, wC_le, wC_gt, wC_ge, wC_eqi, wC_nei, wC_eqb, wC_neb, List.length_nil, List.length_cons, List.length_map, exp_int, exp_bool, exp_none, aTruth, Option.some.injEq, exists_eq_left', Int.reduceLE, Int.reduceLT, Int.reduceEq, Int.reduceNe, ne_eq, and_true, true_and, Nat.reduceLeDiff, Nat.reduceAdd, Int.reduceNeg, Nat.reduceLT, and_self, Nat.zero_le, wA_name a1, wF_len a3]
    by_cases h0 : 0 < cs.length
    · have h0' : decide ((0 : Int) < cs.length) = true := decide_eq_true (by omega)
      by_cases h7 : cs.length < 7
      · have h7' : decide ((cs.length : Int) < 7) = true := decide_eq_true (by omega)
        simp only [h0', h7', if_true, exists_eq_left']
        refine wA_compI (fun n => decide (n < 0) || decide (9 < n)) .int ?_
        simp (maxDischargeDepth := 9) only [List.zip_cons_cons, List.zip_nil_right, List.zip_nil_left, bindE, wS_seq, wS_assign, wS_if, wS_nil, wS_ret, thenS, wA_bin, wA_int, wA_bool, wA_none, wA_cmp, wA_bcmp, wA_cmp2, wA_bcmp2, wA_bval, wA_bnot, wA_not, wA_neg, wA_band_nil, wA_band_cons, wA_bor_nil, wA_bor_cons, wA_vand1, wA_vand, wA_vor1, wA_vor, wA_here, wA_there, str_eq_iff, String.reduceEq, not_false_eq_true, wA_list, wA_tup, wA_args_nil, wA_args_cons, wA_call, wA_sub, wA_isi, wA_upto, w2_add, w2_sub, w2_mod, w2_div, w2_mul, w2_pow, wC_lt, wC_le, wC_gt, wC_ge, wC_eqi, wC_nei, wC_eqb, wC_neb, List.length_nil, List.length_cons, List.length_map, exp_int, exp_bool, exp_none, aTruth, Option.some.injEq, exists_eq_left', Int.reduceLE, Int.reduceLT, Int.reduceEq, Int.reduceNe, ne_eq, and_true, true_and, Nat.reduceLeDiff, Nat.reduceAdd, Int.reduceNeg, Nat.reduceLT, and_self, Nat.zero_le, wA_name a1]
        refine ⟨cs, items_list a3, fun n hn => ?_, ?_⟩
        · by_cases hn0 : n < 0
          · simp [hn0, AV.closed]
          · by_cases hn9 : 9 < n <;> simp [hn0, hn9, AV.closed]
        · refine (wC_eqL (ms := cs.filter fun n => decide (n < 0) || decide (9 < n)) (ns := []) (app_get new_get) new_get).2 ?_
          refine fin _ _ (ext_app ext_self) ?_
          rw [Bool.eq_iff_iff, house_iff]
          simp only [beq_iff_eq, List.filter_eq_nil_iff, Bool.or_eq_true, decide_eq_true_eq]
          constructor
          · intro hh
            refine ⟨⟨by omega, by omega⟩, fun n hn => ?_⟩
            have := hh n hn; omega
          · intro hh n hn
            have := hh.2 n hn; omega
      · have h7' : decide ((cs.length : Int) < 7) = false := decide_eq_false (by omega)
        simp only [h0', h7', if_true, exists_eq_left', Bool.false_eq_true, if_false]
        refine fin _ _ ext_refl ?_
        cases hh : houseV cs with
        | false => rfl
        | true => have := house_iff.1 hh; omega
    · have h0' : decide ((0 : Int) < cs.length) = false := decide_eq_false (by omega)
      simp only [h0', exists_eq_left', Bool.false_eq_true, if_false]
      refine fin _ _ ext_refl ?_
      cases hh : houseV cs with
      | false => rfl
      | true => have := house_iff.1 hh; omega
  rintro ρ2 σ2 ⟨b1, b2, b3, b4⟩
  have b5 := b4.get a3
  have b6 := b4.get a4
  have hx : Ext σ σ2 := a5.trans b4
  refine wS_cut (fun ρ' σ' => ρ' = upd ρ2 "_law_found" (.bool (houseV cs)) ∧ σ' = σ2) ?_ ?_
  · simp (maxDischargeDepth := 9) only [List.zip_cons_cons, List.zip_nil_right, List.zip_nil_left, bindE, wS_seq, wS_assign, wS_if, wS_nil, wS_ret, thenS, wA_bin, wA_int, wA_bool, wA_none, wA_cmp, wA_bcmp, wA_cmp2, wA_bcmp2, wA_bval, wA_bnot, wA_not, wA_neg, wA_band_nil, wA_band_cons, wA_bor_nil, wA_bor_cons, wA_vand1, wA_vand, wA_vor1, wA_vor, wA_here, wA_there, str_eq_iff, String.reduceEq, not_false_eq_true, wA_list, wA_tup, wA_args_nil, wA_args_cons, wA_call, wA_sub, wA_isi, wA_upto, w2_add, w2_sub, w2_mod, w2_div, w2_mul, w2_pow, wC_lt, wC_le, wC_gt, wC_ge, wC_eqi, wC_nei, wC_eqb, wC_neb, List.length_nil, List.length_cons, List.length_map, exp_int, exp_bool, exp_none, aTruth, Option.some.injEq, exists_eq_left', Int.reduceLE, Int.reduceLT, Int.reduceEq, Int.reduceNe, ne_eq, and_true, true_and, Nat.reduceLeDiff, Nat.reduceAdd, Int.reduceNeg, Nat.reduceLT, and_self, Nat.zero_le, wA_name b2, wF_house b6]
  rintro _ _ ⟨rfl, rfl⟩
  have hi : ∀ b s, isi "bool" (.bool b) s = some true := fun _ _ => rfl
  simp (maxDischargeDepth := 9) only [List.zip_cons_cons, List.zip_nil_right, List.zip_nil_left, bindE, wS_seq, wS_assign, wS_if, wS_nil, wS_ret, thenS, wA_bin, wA_int, wA_bool, wA_none, wA_cmp, wA_bcmp, wA_cmp2, wA_bcmp2, wA_bval, wA_bnot, wA_not, wA_neg, wA_band_nil, wA_band_cons, wA_bor_nil, wA_bor_cons, wA_vand1, wA_vand, wA_vor1, wA_vor, wA_here, wA_there, str_eq_iff, String.reduceEq, not_false_eq_true, wA_list, wA_tup, wA_args_nil, wA_args_cons, wA_call, wA_sub, wA_isi, wA_upto, w2_add, w2_sub, w2_mod, w2_div, w2_mul, w2_pow, wC_lt, wC_le, wC_gt, wC_ge, wC_eqi, wC_nei, wC_eqb, wC_neb, List.length_nil, List.length_cons, List.length_map, exp_int, exp_bool, exp_none, aTruth, Option.some.injEq, exists_eq_left', Int.reduceLE, Int.reduceLT, Int.reduceEq, Int.reduceNe, ne_eq, and_true, true_and, Nat.reduceLeDiff, Nat.reduceAdd, Int.reduceNeg, Nat.reduceLT, and_self, Nat.zero_le, wA_name b1, wA_name b2, wA_name b3, hi, Bool.not_true, Bool.false_eq_true, if_false, BEq.rfl, wC_eqL b6 b5, if_true]
  cases hh : houseV cs with
  | false => simp only [Bool.not_false, if_true]; exact ⟨hx, _, _, rfl, rfl, rfl⟩
  | true =>
    simp (maxDischargeDepth := 9) only [List.zip_cons_cons, List.zip_nil_right, List.zip_nil_left, bindE, wS_seq, wS_assign, wS_if, wS_nil, wS_ret, thenS, wA_bin, wA_int, wA_bool, wA_none, wA_cmp, wA_bcmp, wA_cmp2, wA_bcmp2, wA_bval, wA_bnot, wA_not, wA_neg, wA_band_nil, wA_band_cons, wA_bor_nil, wA_bor_cons, wA_vand1, wA_vand, wA_vor1, wA_vor, wA_here, wA_there, str_eq_iff, String.reduceEq, not_false_eq_true, wA_list, wA_tup, wA_args_nil, wA_args_cons, wA_call, wA_sub, wA_isi, wA_upto, w2_add, w2_sub, w2_mod, w2_div, w2_mul, w2_pow, wC_lt, wC_le, wC_gt, wC_ge, wC_eqi, wC_nei, wC_eqb, wC_neb, List.length_nil, List.length_cons, List.length_map, exp_int, exp_bool, exp_none, aTruth, Option.some.injEq, exists_eq_left', Int.reduceLE, Int.reduceLT, Int.reduceEq, Int.reduceNe, ne_eq, and_true, true_and, Nat.reduceLeDiff, Nat.reduceAdd, Int.reduceNeg, Nat.reduceLT, and_self, Nat.zero_le, Bool.not_true, Bool.false_eq_true, if_false, wF_allRooms b6 hh, wC_eqL b6 b5, if_true, BEq.rfl]
    exact ⟨hx, _, _, rfl, rfl, rfl⟩
end Inn

end
open PySem PySem.W PyProof.Rows
set_option maxRecDepth 100000 in
set_option maxHeartbeats 8000000 in
theorem PySem.Challenge.cw_uf040026_01_holds : PySem.Challenge.rw_uf040026_01.Holds := by
  refine hd1 ?_
  k_fill
  intro w s₀ s₁ mg mb G Y fa o pm cd doc dV kV ho hd hcd hD hmg hg args vals as hpre hlay hrd hwl hlo
  have KX := kIn_of Y
  refine Ground.open G ?_
  intro T B D TE TW
  have hmg' : mg "law" = some (.ref fa) := hmg
  have hk : mg "law" = some (.ref 74) := mg_of (K := hd1.heap_39 w.params) KX T.g (by k_is)
  rw [hk] at hmg'
  cases hmg'
  wrow_args hpre hlay hrd hwl hlo
  all_goals (
    rename Well _ _ _ _ => hW
    rename ¬ _ < _ => h63
    refine Inn.law_end (K := hd1.heap_39 w.params) (k := 4) Inn.ok_law (by decide) ⟨KX, T.nolimit, ⟨mg, T.g⟩, ⟨mb, T.b, T.builtins⟩⟩ hW (by omega) hg (fun σ i h => Inn.law_eq h (by omega)) (fun _ => rfl) ?_ (fun _ => trivial)
    wrow_post)
