import PyProof.Rows.All
import Wide.All
import OpenK.AllK
import Wide.FinOn
import HandS.ForMost
import HandS.Deep
import KE.KDictKeyed
import KE.KDictLaw
import KE.SortData
import HandS.Wide
import KE.LtData
import HandS.Style
import HandS.More
import HandS.IsInst
import KE.DataMinMax
import KE.DataIsa
import KE.DataAny
import HandS.Comp
import HandS.Zip
import HandS.List
import HandS.Defaults
import PyProof.ReprRoads
import HandS.WideBits
import PyProof.P3In
import PyProof.Rows.StrIntSpec
import PySem.Challenge.RW_seenfromwithin_k65_whole_forms
set_option Elab.async false
set_option linter.all false
set_option autoImplicit false
set_option maxRecDepth 100000
set_option maxHeartbeats 1000000
/-! Layer V, part 0: data over the abstract heap, slots, readings. -/
namespace Vl
open PySem PySem.Spec L2

abbrev D := PyData

/-! ### keys of dicts -/
mutual
def keyOf : D → Option NestedKey
  | .none => some .none
  | .bool b => some (.num (if b = true then 1 else 0))
  | .int i => some (.num i)
  | .str x => some (.text x)
  | .tuple ds => (keysOf ds).map .tup
  | .list _ => none
  | .dict _ => none
def keysOf : List D → Option (List NestedKey)
  | [] => some []
  | d :: ds => match keyOf d, keysOf ds with
    | some k, some ks => some (k :: ks)
    | _, _ => none
end

/-- what stands at a dict of tuples: keys, the keys' places, values -/
def DictAt (P : Program) (w : World) (a : Addr) (kvs : List (NestedKey × Addr × V)) (h : Heap) : Prop :=
  kvs.length ≤ sizeLine ∧ (a == sysModules) = false ∧ (kvs.map (·.1)).Nodup ∧ (∀ p ∈ kvs, p.1.depth ≤ 8) ∧
  ∃ xs : List (NestedKey × Addr × Value), Paired (fun (p : NestedKey × Addr × V) (q : NestedKey × Addr × Value) => p.1 = q.1 ∧ p.2.1 = q.2.1 ∧ RelV p.2.2 q.2.2) kvs xs ∧
    ∃ o es ep, h.get? a = some o ∧ o.ExactDict ∧ o.data = .dict es ep ∧ es.toList = xs.map (entryOfKey (nestedKind P w))
def DictO (P : Program) (w : World) (a : Addr) (kvs : List (NestedKey × Addr × V)) : HO :=
  .ext fun h => DictAt P w a kvs h

section
variable (P : Program) (w : World) (K : PySem.W.Frag) (H0 : Hp)
mutual
/-- the value v reads as d over the objects of F; nw: the lists and dicts in it are younger than H0 -/
inductive DR (F : Hp) (nw : Bool) : V → D → Prop
  | non : DR F nw .non .none
  | bl (b : Bool) : DR F nw (.bl b) (.bool b)
  | int (i : Int) : DR F nw (.int i) (.int i)
  | str (x : Str) : DR F nw (.str x) (.str x)
  | lst {a : Addr} {xs : List V} {ds : List D} : F a = some (.lst xs) → (nw = true → H0 a = none) → DRs F nw xs ds → DR F nw (.ref a) (.list ds)
  | tup {a : Addr} {xs : List V} {ds : List D} : F a = some (.tup xs) → DRs F nw xs ds → DR F nw (.ref a) (.tuple ds)
  | dct {a : Addr} {kvs : List (NestedKey × Addr × V)} {ds : List (D × D)} : F a = some (DictO P w a kvs) → (nw = true → H0 a = none) → DRk F nw kvs ds → DR F nw (.ref a) (.dict ds)
inductive DRs (F : Hp) (nw : Bool) : List V → List D → Prop
  | nil : DRs F nw [] []
  | cons {v : V} {vs : List V} {d : D} {ds : List D} : DR F nw v d → DRs F nw vs ds → DRs F nw (v :: vs) (d :: ds)
inductive DRk (F : Hp) (nw : Bool) : List (NestedKey × Addr × V) → List (D × D) → Prop
  | nil : DRk F nw [] []
  | cons {k : NestedKey} {ka : Addr} {v : V} {kd d : D} {kvs : List (NestedKey × Addr × V)} {ds : List (D × D)} : DR F nw (.ref ka) kd → keyOf kd = some k → DR F nw v d → DRk F nw kvs ds → DRk F nw ((k, ka, v) :: kvs) ((kd, d) :: ds)
end
end

def Sub (F H : Hp) : Prop := ∀ q o, F q = some o → H q = some o
theorem Sub.refl {F : Hp} : Sub F F := fun _ _ e => e
theorem Sub.trans {F G H : Hp} (a : Sub F G) (b : Sub G H) : Sub F H := fun q o e => b q o (a q o e)
theorem Sub.gone {F H : Hp} (a : Sub F H) {q : Addr} (h : H q = none) : F q = none := by
  cases e : F q with
  | none => rfl
  | some o => rw [a q o e] at h; cases h
theorem Sub.updN {H : Hp} {p : Addr} {o : HO} (h : H p = none) : Sub H (upd H p o) := fun q u e => by
  rw [upd_ne (ne_of_none e h)]; exact e

section
variable {P : Program} {w : World} {K : PySem.W.Frag} {H0 F F' : Hp} {nw : Bool}
mutual
theorem DR.mono (s : Sub F F') : ∀ (d : D) (v : V), DR P w H0 F nw v d → DR P w H0 F' nw v d
  | .none, _, h => by cases h; exact .non
  | .bool b, _, h => by cases h; exact .bl b
  | .int i, _, h => by cases h; exact .int i
  | .str x, _, h => by cases h; exact .str x
  | .list ds, _, h => by
    cases h with
    | lst e n r => exact .lst (s _ _ e) n (DRs.mono s ds _ r)
  | .tuple ds, _, h => by
    cases h with
    | tup e r => exact .tup (s _ _ e) (DRs.mono s ds _ r)
  | .dict ds, _, h => by
    cases h with
    | dct e n r => exact .dct (s _ _ e) n (DRk.mono s ds _ r)
theorem DRs.mono (s : Sub F F') : ∀ (ds : List D) (vs : List V), DRs P w H0 F nw vs ds → DRs P w H0 F' nw vs ds
  | [], _, h => by cases h; exact .nil
  | d :: ds, _, h => by
    cases h with
    | cons a b => exact .cons (DR.mono s d _ a) (DRs.mono s ds _ b)
theorem DRk.mono (s : Sub F F') : ∀ (ds : List (D × D)) (kvs : List (NestedKey × Addr × V)), DRk P w H0 F nw kvs ds → DRk P w H0 F' nw kvs ds
  | [], _, h => by cases h; exact .nil
  | (kd, d) :: ds, _, h => by
    cases h with
    | cons a e b c => exact .cons (DR.mono s kd _ a) e (DR.mono s d _ b) (DRk.mono s ds _ c)
end
mutual
theorem DR.old : ∀ (d : D) (v : V), DR P w H0 F nw v d → DR P w H0 F false v d
  | .none, _, h => by cases h; exact .non
  | .bool b, _, h => by cases h; exact .bl b
  | .int i, _, h => by cases h; exact .int i
  | .str x, _, h => by cases h; exact .str x
  | .list ds, _, h => by
    cases h with
    | lst e n r => exact .lst e (fun z => nomatch z) (DRs.old ds _ r)
  | .tuple ds, _, h => by
    cases h with
    | tup e r => exact .tup e (DRs.old ds _ r)
  | .dict ds, _, h => by
    cases h with
    | dct e n r => exact .dct e (fun z => nomatch z) (DRk.old ds _ r)
theorem DRs.old : ∀ (ds : List D) (vs : List V), DRs P w H0 F nw vs ds → DRs P w H0 F false vs ds
  | [], _, h => by cases h; exact .nil
  | d :: ds, _, h => by
    cases h with
    | cons a b => exact .cons (DR.old d _ a) (DRs.old ds _ b)
theorem DRk.old : ∀ (ds : List (D × D)) (kvs : List (NestedKey × Addr × V)), DRk P w H0 F nw kvs ds → DRk P w H0 F false kvs ds
  | [], _, h => by cases h; exact .nil
  | (kd, d) :: ds, _, h => by
    cases h with
    | cons a e b c => exact .cons (DR.old kd _ a) e (DR.old d _ b) (DRk.old ds _ c)
end
/-- weaker flags -/
theorem DR.flag {nw' : Bool} (h : nw' = true → nw = true) {d : D} {v : V} (r : DR P w H0 F nw v d) : DR P w H0 F nw' v d := by
  cases nw' with
  | false => exact DR.old _ _ r
  | true => rw [h rfl] at r; exact r
theorem DRs.flag {nw' : Bool} (h : nw' = true → nw = true) {d : List D} {v : List V} (r : DRs P w H0 F nw v d) : DRs P w H0 F nw' v d := by
  cases nw' with
  | false => exact DRs.old _ _ r
  | true => rw [h rfl] at r; exact r
theorem DRs.length : ∀ {vs : List V} {ds : List D}, DRs P w H0 F nw vs ds → vs.length = ds.length
  | _, [], h => by cases h; rfl
  | _, d :: ds, h => by
    cases h with
    | cons a b => simp [DRs.length b]
theorem DRk.length : ∀ {vs : List (NestedKey × Addr × V)} {ds : List (D × D)}, DRk P w H0 F nw vs ds → vs.length = ds.length
  | _, [], h => by cases h; rfl
  | _, _ :: ds, h => by
    cases h with
    | cons a e b c => simp [DRk.length c]
theorem DRs.get : ∀ {vs : List V} {ds : List D} {i : Nat} {d : D}, DRs P w H0 F nw vs ds → ds[i]? = some d → ∃ v, vs[i]? = some v ∧ DR P w H0 F nw v d
  | _, [], _, _, _, e => by simp at e
  | _, d :: ds, 0, _, h, e => by
    cases h with
    | cons a b => simp at e; subst e; exact ⟨_, rfl, a⟩
  | _, d :: ds, i + 1, _, h, e => by
    cases h with
    | cons a b =>
      obtain ⟨v, q, r⟩ := DRs.get (i := i) b (by simpa using e)
      exact ⟨v, by simpa using q, r⟩
theorem DRs.getV : ∀ {vs : List V} {ds : List D} {i : Nat} {v : V}, DRs P w H0 F nw vs ds → vs[i]? = some v → ∃ d, ds[i]? = some d ∧ DR P w H0 F nw v d := fun {vs ds i v} h e => by
  have hl := h.length
  obtain ⟨hi, _⟩ := List.getElem?_eq_some_iff.mp e
  obtain ⟨v', e', r⟩ := h.get (i := i) (List.getElem?_eq_getElem (by omega))
  rw [e] at e'; cases e'
  exact ⟨_, List.getElem?_eq_getElem (by omega), r⟩
theorem DRs.append : ∀ {vs us : List V} {ds es : List D}, DRs P w H0 F nw vs ds → DRs P w H0 F nw us es → DRs P w H0 F nw (vs ++ us) (ds ++ es)
  | _, _, [], _, h, k => by cases h; exact k
  | _, _, d :: ds, _, h, k => by
    cases h with
    | cons a b => exact .cons a (DRs.append b k)
theorem DRs.one {v : V} {d : D} (h : DR P w H0 F nw v d) : DRs P w H0 F nw [v] [d] := .cons h .nil
theorem DRs.take : ∀ {vs : List V} {ds : List D} (n : Nat), DRs P w H0 F nw vs ds → DRs P w H0 F nw (vs.take n) (ds.take n)
  | _, _, 0, _ => .nil
  | _, [], _ + 1, h => by cases h; exact .nil
  | _, d :: ds, n + 1, h => by
    cases h with
    | cons a b => exact .cons a (DRs.take n b)
theorem DRs.drop : ∀ {vs : List V} {ds : List D} (n : Nat), DRs P w H0 F nw vs ds → DRs P w H0 F nw (vs.drop n) (ds.drop n)
  | _, _, 0, h => h
  | _, [], _ + 1, h => by cases h; exact .nil
  | _, d :: ds, n + 1, h => by
    cases h with
    | cons a b => exact DRs.drop n b
theorem DRs.set : ∀ {vs : List V} {ds : List D} {v : V} {d : D} (n : Nat), DRs P w H0 F nw vs ds → DR P w H0 F nw v d → DRs P w H0 F nw (vs.set n v) (ds.set n d)
  | _, [], _, _, _, h, _ => by cases h; exact .nil
  | _, d :: ds, _, _, 0, h, k => by
    cases h with
    | cons a b => exact .cons k b
  | _, d :: ds, _, _, n + 1, h, k => by
    cases h with
    | cons a b => exact .cons a (DRs.set n b k)
theorem DRs.reverse {vs : List V} {ds : List D} (h : DRs P w H0 F nw vs ds) : DRs P w H0 F nw vs.reverse ds.reverse := by
  have : ∀ {vs : List V} {ds : List D}, DRs P w H0 F nw vs ds → ∀ {us : List V} {es : List D}, DRs P w H0 F nw us es → DRs P w H0 F nw (vs.reverse ++ us) (ds.reverse ++ es) := by
    intro vs ds
    induction ds generalizing vs with
    | nil => intro h us es k; cases h; exact k
    | cons d ds ih =>
      intro h us es k
      cases h with
      | cons a b =>
        simp only [List.reverse_cons, List.append_assoc, List.singleton_append]
        exact ih b (.cons a k)
  have := this h (.nil)
  simpa using this

/-! ### no list, no dict within -/
mutual
def noList : D → Bool
  | .tuple ds => noLists ds
  | .list _ => false
  | .dict _ => false
  | _ => true
def noLists : List D → Bool
  | [] => true
  | d :: ds => noList d && noLists ds
end
mutual
def noDict : D → Bool
  | .tuple ds => noDicts ds
  | .list ds => noDicts ds
  | .dict _ => false
  | _ => true
def noDicts : List D → Bool
  | [] => true
  | d :: ds => noDict d && noDicts ds
end
mutual
theorem DR.fresh {nw' : Bool} : ∀ (d : D) (v : V), noList d = true → DR P w H0 F nw v d → DR P w H0 F nw' v d
  | .none, _, _, h => by cases h; exact .non
  | .bool b, _, _, h => by cases h; exact .bl b
  | .int i, _, _, h => by cases h; exact .int i
  | .str x, _, _, h => by cases h; exact .str x
  | .list ds, _, e, h => by simp [noList] at e
  | .tuple ds, _, n, h => by
    cases h with
    | tup e r => exact .tup e (DRs.fresh ds _ (by simpa [noList] using n) r)
  | .dict ds, _, e, h => by simp [noList] at e
theorem DRs.fresh {nw' : Bool} : ∀ (ds : List D) (vs : List V), noLists ds = true → DRs P w H0 F nw vs ds → DRs P w H0 F nw' vs ds
  | [], _, _, h => by cases h; exact .nil
  | d :: ds, _, n, h => by
    rw [noLists, Bool.and_eq_true] at n
    cases h with
    | cons a b => exact .cons (DR.fresh d _ n.1 a) (DRs.fresh ds _ n.2 b)
end
mutual
/-- what holds no list is read over the tuples alone -/
theorem DR.tups (s : ∀ q xs, F q = some (.tup xs) → F' q = some (.tup xs)) : ∀ (d : D) (v : V), noList d = true → DR P w H0 F nw v d → DR P w H0 F' nw v d
  | .none, _, _, h => by cases h; exact .non
  | .bool b, _, _, h => by cases h; exact .bl b
  | .int i, _, _, h => by cases h; exact .int i
  | .str x, _, _, h => by cases h; exact .str x
  | .list ds, _, e, h => by simp [noList] at e
  | .tuple ds, _, n, h => by
    cases h with
    | tup e r => exact .tup (s _ _ e) (DRs.tups s ds _ (by simpa [noList] using n) r)
  | .dict ds, _, e, h => by simp [noList] at e
theorem DRs.tups (s : ∀ q xs, F q = some (.tup xs) → F' q = some (.tup xs)) : ∀ (ds : List D) (vs : List V), noLists ds = true → DRs P w H0 F nw vs ds → DRs P w H0 F' nw vs ds
  | [], _, _, h => by cases h; exact .nil
  | d :: ds, _, n, h => by
    rw [noLists, Bool.and_eq_true] at n
    cases h with
    | cons a b => exact .cons (DR.tups s d _ n.1 a) (DRs.tups s ds _ n.2 b)
end
mutual
theorem DR.dp (K : PySem.W.Frag) : ∀ (d : D) (v : V), noDict d = true → DR P w H0 F nw v d → Dp K F v d
  | .none, _, _, h => by cases h; exact .non
  | .bool b, _, _, h => by cases h; exact .bl b
  | .int i, _, _, h => by cases h; exact .int i
  | .str x, _, _, h => by cases h; exact .str x
  | .list ds, _, n, h => by
    cases h with
    | lst e _ r => exact .lst (.inl (.inl e)) (DRs.dp K ds _ (by simpa [noDict] using n) r)
  | .tuple ds, _, n, h => by
    cases h with
    | tup e r => exact .tup (.inl (.inl e)) (DRs.dp K ds _ (by simpa [noDict] using n) r)
  | .dict ds, _, e, h => by simp [noDict] at e
theorem DRs.dp (K : PySem.W.Frag) : ∀ (ds : List D) (vs : List V), noDicts ds = true → DRs P w H0 F nw vs ds → DpAll K F vs ds
  | [], _, _, h => by cases h; exact .nil
  | d :: ds, _, n, h => by
    rw [noDicts, Bool.and_eq_true] at n
    cases h with
    | cons a b => exact .cons (DR.dp K d _ n.1 a) (DRs.dp K ds _ n.2 b)
end
end

/-! ### slots, the state -/
inductive Slot where
  | un
  | dat (d : D)
  | own (d : D)
abbrev SE := List Slot

/-- what is fixed while a def runs: the heap at its entry, the lists that it may change (slot, place), the slots' flags -/
structure Gh where
  H0 : Hp
  io : List (Nat × Addr)
  fl : List Bool
def Gh.ioA (G : Gh) : List Addr := G.io.map (·.2)
def Gh.at (G : Gh) (i : Nat) : Bool := G.fl.getD i false

/-- what an object that a slot owns holds -/
def OwnO (P : Program) (w : World) (H0 F : Hp) (nw : Bool) (a : Addr) (o : HO) (d : D) : Prop :=
  (∃ xs ds, d = .list ds ∧ o = .lst xs ∧ DRs P w H0 F nw xs ds) ∨ (∃ kvs ds, d = .dict ds ∧ o = DictO P w a kvs ∧ DRk P w H0 F nw kvs ds)
theorem OwnO.mono {P : Program} {w : World} {H0 F F' : Hp} {nw : Bool} {a : Addr} {o : HO} {d : D} (s : Sub F F') : OwnO P w H0 F nw a o d → OwnO P w H0 F' nw a o d
  | .inl ⟨xs, ds, e1, e2, r⟩ => .inl ⟨xs, ds, e1, e2, DRs.mono s _ _ r⟩
  | .inr ⟨xs, ds, e1, e2, r⟩ => .inr ⟨xs, ds, e1, e2, DRk.mono s _ _ r⟩

structure SimP (P : Program) (w : World) (G : Gh) (F : Hp) (env : SE) (σ : St) (H : Hp) : Prop where
  len : σ.length = env.length
  sub : Sub F H
  fr : ∀ q o, G.H0 q = some o → q ∉ G.ioA → H q = some o
  dat : ∀ i d, env[i]? = some (.dat d) → ∃ v, σ[i]? = some (some v) ∧ DR P w G.H0 F (G.at i) v d
  own : ∀ i d, env[i]? = some (.own d) → ∃ a o, σ[i]? = some (some (.ref a)) ∧ H a = some o ∧ OwnO P w G.H0 F (G.at i) a o d ∧ F a = none ∧ (G.H0 a = none ∨ a ∈ G.ioA)
  sep : ∀ (i j : Nat) (a : Addr) (d e : D), env[i]? = some (.own d) → env[j]? = some (.own e) → σ[i]? = some (some (.ref a)) → σ[j]? = some (some (.ref a)) → i = j
  io : ∀ p ∈ G.io, σ[p.1]? = some (some (.ref p.2)) ∧ ∃ d, env[p.1]? = some (.own d)

abbrev Sim (X : Cx) (G : Gh) (F : Hp) (env : SE) (σ : St) (H : Hp) : Prop := SimP X.prog X.w G F env σ H

/-- more objects, all that stood stands; what is new in F is new -/
structure Ext (F H F' H' : Hp) : Prop where
  f : Sub F F'
  h : Sub H H'
  sub : Sub F' H'
  new : ∀ q o, F' q = some o → F q = some o ∨ H q = none
theorem Ext.refl {F H : Hp} (s : Sub F H) : Ext F H F H := ⟨.refl, .refl, s, fun _ _ e => .inl e⟩
theorem Ext.trans {F H F1 H1 F2 H2 : Hp} (a : Ext F H F1 H1) (b : Ext F1 H1 F2 H2) : Ext F H F2 H2 :=
  ⟨a.f.trans b.f, a.h.trans b.h, b.sub, fun q o e => (b.new q o e).elim (fun z => a.new q o z) fun z => .inr (a.h.gone z)⟩
theorem Ext.updN {F H : Hp} (s : Sub F H) {p : Addr} {o : HO} (h : H p = none) : Ext F H (upd F p o) (upd H p o) where
  f := Sub.updN (s.gone h)
  h := Sub.updN h
  sub := fun q u e => by
    by_cases hq : q = p
    · subst hq; rw [upd_same] at e ⊢; exact e
    · rw [upd_ne hq] at e ⊢; exact s q u e
  new := fun q u e => by
    by_cases hq : q = p
    · subst hq; exact .inr h
    · rw [upd_ne hq] at e; exact .inl e
/-- a new object outside F -/
theorem Ext.updH {F H : Hp} (s : Sub F H) {p : Addr} {o : HO} (h : H p = none) : Ext F H F (L2.upd H p o) :=
  ⟨.refl, Sub.updN h, s.trans (Sub.updN h), fun _ _ e => .inl e⟩

section
variable {X : Cx} {G : Gh} {F F' : Hp} {env env' : SE} {σ σ' : St} {H H' : Hp}
theorem Sim.ext (S : Sim X G F env σ H) (x : Ext F H F' H') : Sim X G F' env σ H' where
  len := S.len
  sub := x.sub
  fr := fun q o e n => x.h _ _ (S.fr q o e n)
  dat := fun i d e => let ⟨v, a, b⟩ := S.dat i d e; ⟨v, a, DR.mono x.f _ _ b⟩
  own := fun i d e => by
    obtain ⟨a, o, h1, h2, h3, h4, h5⟩ := S.own i d e
    refine ⟨a, o, h1, x.h _ _ h2, h3.mono x.f, ?_, h5⟩
    cases q : F' a with
    | none => rfl
    | some u =>
      rcases x.new a u q with z | z
      · rw [h4] at z; cases z
      · rw [h2] at z; cases z
  sep := S.sep
  io := S.io
theorem Sim.ioThere (S : Sim X G F env σ H) {a : Addr} (h : a ∈ G.ioA) : ∃ o, H a = some o := by
  obtain ⟨p, hp, rfl⟩ := List.mem_map.mp h
  obtain ⟨h1, d, h2⟩ := S.io p hp
  obtain ⟨b, o, h3, h4, _⟩ := S.own _ _ h2
  rw [h1] at h3; cases h3
  exact ⟨o, h4⟩
theorem Sim.new0 (S : Sim X G F env σ H) {q : Addr} (h : H q = none) : G.H0 q = none := by
  cases e : G.H0 q with
  | none => rfl
  | some o =>
    by_cases hq : q ∈ G.ioA
    · obtain ⟨u, hu⟩ := S.ioThere hq
      rw [hu] at h; cases h
    · rw [S.fr q o e hq] at h; cases h
end

/-- a value at hand: frozen, or the object of a slot that is only looked at -/
def BR (P : Program) (w : World) (H0 F H : Hp) (nw : Bool) (v : V) (d : D) : Prop :=
  DR P w H0 F nw v d ∨ ∃ a o, v = .ref a ∧ H a = some o ∧ OwnO P w H0 F nw a o d
section
variable {P : Program} {w : World} {H0 F F' H H' : Hp} {nw : Bool} {v : V} {d : D}
theorem BR.mono (f : Sub F F') (h : Sub H H') : BR P w H0 F H nw v d → BR P w H0 F' H' nw v d
  | .inl r => .inl (DR.mono f _ _ r)
  | .inr ⟨a, o, e, k, r⟩ => .inr ⟨a, o, e, h _ _ k, r.mono f⟩
theorem BR.ext (x : Ext F H F' H') (r : BR P w H0 F H nw v d) : BR P w H0 F' H' nw v d := r.mono x.f x.h
theorem BR.dr (s : Sub F H) : BR P w H0 F H nw v d → DR P w H0 H false v d
  | .inl r => (DR.mono s _ _ r).old
  | .inr ⟨a, o, e, k, r⟩ => by
    subst e
    rcases r with ⟨xs, ds, rfl, rfl, r⟩ | ⟨kvs, ds, rfl, rfl, r⟩
    · exact .lst k (fun z => nomatch z) (DRs.mono s _ _ (DRs.old _ _ r))
    · exact .dct k (fun z => nomatch z) (DRk.mono s _ _ (DRk.old _ _ r))
/-- a list at hand: its items are frozen -/
theorem BR.list {ds : List D} (s : Sub F H) (r : BR P w H0 F H nw v (.list ds)) : ∃ a xs, v = .ref a ∧ H a = some (.lst xs) ∧ DRs P w H0 F nw xs ds := by
  rcases r with r | ⟨a, o, rfl, k, r⟩
  · cases r with
    | lst e n r => exact ⟨_, _, rfl, s _ _ e, r⟩
  · rcases r with ⟨xs, es, e, rfl, r⟩ | ⟨_, _, e, _⟩
    · cases e; exact ⟨a, xs, rfl, k, r⟩
    · cases e
theorem BR.tuple {ds : List D} (s : Sub F H) (r : BR P w H0 F H nw v (.tuple ds)) : ∃ a xs, v = .ref a ∧ H a = some (.tup xs) ∧ F a = some (.tup xs) ∧ DRs P w H0 F nw xs ds := by
  rcases r with r | ⟨a, o, rfl, k, r⟩
  · cases r with
    | tup e r => exact ⟨_, _, rfl, s _ _ e, e, r⟩
  · rcases r with ⟨xs, es, e, rfl, r⟩ | ⟨_, _, e, _⟩ <;> cases e
theorem BR.dict {ds : List (D × D)} (s : Sub F H) (r : BR P w H0 F H nw v (.dict ds)) : ∃ a kvs, v = .ref a ∧ H a = some (DictO P w a kvs) ∧ DRk P w H0 F nw kvs ds := by
  rcases r with r | ⟨a, o, rfl, k, r⟩
  · cases r with
    | dct e n r => exact ⟨_, _, rfl, s _ _ e, r⟩
  · rcases r with ⟨xs, es, e, rfl, r⟩ | ⟨kvs, es, e, rfl, r⟩
    · cases e
    · cases e; exact ⟨a, kvs, rfl, k, r⟩
theorem BR.int {i : Int} (r : BR P w H0 F H nw v (.int i)) : v = .int i := by
  rcases r with r | ⟨a, o, rfl, k, r⟩
  · cases r; rfl
  · rcases r with ⟨xs, es, e, rfl, r⟩ | ⟨kvs, es, e, rfl, r⟩ <;> cases e
theorem BR.bool {b : Bool} (r : BR P w H0 F H nw v (.bool b)) : v = .bl b := by
  rcases r with r | ⟨a, o, rfl, k, r⟩
  · cases r; rfl
  · rcases r with ⟨xs, es, e, rfl, r⟩ | ⟨kvs, es, e, rfl, r⟩ <;> cases e
theorem BR.str {x : Str} (r : BR P w H0 F H nw v (.str x)) : v = .str x := by
  rcases r with r | ⟨a, o, rfl, k, r⟩
  · cases r; rfl
  · rcases r with ⟨xs, es, e, rfl, r⟩ | ⟨kvs, es, e, rfl, r⟩ <;> cases e
theorem BR.non (r : BR P w H0 F H nw v .none) : v = .non := by
  rcases r with r | ⟨a, o, rfl, k, r⟩
  · cases r; rfl
  · rcases r with ⟨xs, es, e, rfl, r⟩ | ⟨kvs, es, e, rfl, r⟩ <;> cases e
end
end Vl


set_option Elab.async false
set_option linter.all false
set_option autoImplicit false
set_option maxRecDepth 100000
set_option maxHeartbeats 1000000
/-! Layer V, part 1: judgements on expressions; names, constants, operators, tests. -/
namespace Vl
open PySem PySem.Spec L2

/-- the weak order of states: F grows by objects younger than the def's entry alone -/
structure Ext0 (G : Gh) (F F' : Hp) : Prop where
  f : Sub F F'
  new : ∀ q o, F' q = some o → F q = some o ∨ G.H0 q = none
theorem Ext0.refl {G : Gh} {F : Hp} : Ext0 G F F := ⟨.refl, fun _ _ e => .inl e⟩
theorem Ext0.trans {G : Gh} {F F1 F2 : Hp} (a : Ext0 G F F1) (b : Ext0 G F1 F2) : Ext0 G F F2 :=
  ⟨a.f.trans b.f, fun q o e => (b.new q o e).elim (fun z => a.new q o z) fun z => .inr z⟩
theorem Ext.weak {X : Cx} {G : Gh} {F H F' H' : Hp} {env : SE} {σ : L2.St} (x : Ext F H F' H') (S : Sim X G F env σ H) : Ext0 G F F' := ⟨x.f, fun q o e => (x.new q o e).imp (fun z => z) fun z => S.new0 z⟩

abbrev FE (α : Type) := SE → Option (α × SE)
def PureF {α : Type} (f : FE α) : Prop := ∀ env d env', f env = some (d, env') → env' = env

/-- the value at hand: frozen (b = false), or looked at -/
def VRb (X : Cx) (G : Gh) (b : Bool) (F H : Hp) (nw : Bool) (v : V) (d : D) : Prop :=
  if b = true then BR X.prog X.w G.H0 F H nw v d else DR X.prog X.w G.H0 F nw v d
theorem VRb.br {X : Cx} {G : Gh} {b : Bool} {F H : Hp} {nw : Bool} {v : V} {d : D} (h : VRb X G b F H nw v d) : BR X.prog X.w G.H0 F H nw v d := by
  cases b with
  | true => exact h
  | false => exact .inl h
theorem VRb.step {X : Cx} {G : Gh} {b p : Bool} {F H F' H' : Hp} {nw : Bool} {v : V} {d : D} (h : VRb X G b F H nw v d) (hb : b = true → p = true) (x0 : Ext0 G F F') (x : p = true → Ext F H F' H') : VRb X G b F' H' nw v d := by
  cases b with
  | true => exact BR.ext (x (hb rfl)) h
  | false => exact DR.mono x0.f _ _ h

def R (X : Cx) (G : Gh) (p b nw : Bool) (f : FE D) : TE := fun σ H Q => ∃ F env, Sim X G F env σ H ∧ ∃ d env', f env = some (d, env') ∧
  ∀ F' H' v, Sim X G F' env' σ H' → Ext0 G F F' → (p = true → Ext F H F' H') → VRb X G b F' H' nw v d → Q v H'
def RT (X : Cx) (G : Gh) (p : Bool) (f : FE Bool) : TT := fun σ H Q => ∃ F env, Sim X G F env σ H ∧ ∃ d env', f env = some (d, env') ∧
  ∀ F' H', Sim X G F' env' σ H' → Ext0 G F F' → (p = true → Ext F H F' H') → Q d H'
def RA (X : Cx) (G : Gh) (p b nw : Bool) (f : FE (List D)) : TA := fun σ H Q => ∃ F env, Sim X G F env σ H ∧ ∃ d env', f env = some (d, env') ∧
  ∀ F' H' vs, Sim X G F' env' σ H' → Ext0 G F F' → (p = true → Ext F H F' H') → Paired (VRb X G b F' H' nw) vs d → Q vs H'
structure VJ (X : Cx) (G : Gh) (p b nw : Bool) (e : Expr) (f : FE D) : Prop where
  pe : PE X e (R X G p b nw f)
  pu : p = true → PureF f
structure VT (X : Cx) (G : Gh) (p : Bool) (e : Expr) (f : FE Bool) : Prop where
  pe : PT X e (RT X G p f)
  pu : p = true → PureF f
structure VA (X : Cx) (G : Gh) (p b nw : Bool) (es : List Expr) (f : FE (List D)) : Prop where
  pe : PA X es (RA X G p b nw f)
  pu : p = true → PureF f

theorem _root_.L2.PE.imp {X : Cx} {e : Expr} {t t' : TE} (h : PE X e t) (i : ∀ σ H Q, t' σ H Q → t σ H Q) : PE X e t' := ⟨fun pins s σ H Q I q => h.run pins s σ H Q I (i _ _ _ q)⟩
theorem _root_.L2.PT.imp {X : Cx} {e : Expr} {t t' : TT} (h : PT X e t) (i : ∀ σ H Q, t' σ H Q → t σ H Q) : PT X e t' := ⟨fun pins s σ H Q I q => h.run pins s σ H Q I (i _ _ _ q)⟩
theorem _root_.L2.PA.imp {X : Cx} {e : List Expr} {t t' : TA} (h : PA X e t) (i : ∀ σ H Q, t' σ H Q → t σ H Q) : PA X e t' := ⟨fun pos pins s σ H Q I q => h.run pos pins s σ H Q I (i _ _ _ q)⟩

section
variable {X : Cx} {G : Gh} {p p' b b' nw nw' : Bool} {e e2 : Expr} {f f2' : FE D}

/-- weaker readings -/
theorem VJ.weak (h : VJ X G p b nw e f) (hp : p' = true → p = true) (hb : b = true → b' = true) (hn : nw' = true → nw = true) : VJ X G p' b' nw' e f := by
  refine ⟨h.pe.imp fun σ H Q ⟨F, env, S, d, env', e1, k⟩ => ⟨F, env, S, d, env', e1, fun F' H' v S' x0 x r => k F' H' v S' x0 (fun z => x (hp z)) ?_⟩, fun z => h.pu (hp z)⟩
  cases b with
  | true =>
    rw [hb rfl]
    rcases r with r | ⟨a, o, e1, k1, r⟩
    · exact .inl (r.flag hn)
    · refine .inr ⟨a, o, e1, k1, ?_⟩
      rcases r with ⟨xs, ds, e2, e3, r⟩ | ⟨xs, ds, e2, e3, r⟩
      · exact .inl ⟨xs, ds, e2, e3, r.flag hn⟩
      · refine .inr ⟨xs, ds, e2, e3, ?_⟩
        cases nw' with
        | false => exact DRk.old _ _ r
        | true => rw [hn rfl] at r; exact r
  | false =>
    have r' : DR X.prog X.w G.H0 F' nw' v d := DR.flag hn r
    cases b' with
    | true => exact .inl r'
    | false => exact r'
theorem VJ.bor (h : VJ X G p false nw e f) : VJ X G p true nw e f := h.weak (fun z => z) (fun z => nomatch z) fun z => z
theorem VJ.eff (h : VJ X G p b nw e f) : VJ X G false b nw e f := h.weak (fun z => nomatch z) (fun z => z) fun z => z
theorem VJ.any (h : VJ X G p b nw e f) : VJ X G p b false e f := h.weak (fun z => z) (fun z => z) fun z => nomatch z
/-- what holds no list is new -/
def fScal (f : FE D) : FE D := fun env => match f env with | some (d, env') => if noList d = true then some (d, env') else none | none => none
theorem VJ.scal (h : VJ X G p b nw e f) : VJ X G p false nw' e (fScal f) := by
  refine ⟨h.pe.imp fun σ H Q ⟨F, env, S, d, env', e1, k⟩ => ?_, fun z env d env' q => ?_⟩
  · unfold fScal at e1
    cases q : f env with
    | none => rw [q] at e1; cases e1
    | some x =>
      obtain ⟨d1, env1⟩ := x
      rw [q] at e1
      by_cases hn : noList d1 = true
      · simp only [hn, if_true] at e1
        cases e1
        refine ⟨F, env, S, _, _, q, fun F' H' v S' x0 x r => k F' H' v S' x0 x ?_⟩
        have r' := VRb.br r
        rcases r' with r' | ⟨a, o, rfl, _, r'⟩
        · exact DR.fresh _ _ hn r'
        · rcases r' with ⟨xs, ds, rfl, _, _⟩ | ⟨xs, ds, rfl, _, _⟩ <;> simp [noList] at hn
      · simp [hn] at e1
  · unfold fScal at q
    cases q1 : f env with
    | none => rw [q1] at q; cases q
    | some x =>
      obtain ⟨d1, env1⟩ := x
      rw [q1] at q
      by_cases hn : noList d1 = true
      · simp only [hn, if_true] at q
        cases q
        exact h.pu z _ _ _ q1
      · simp [hn] at q

/-! ### names, constants -/
def fName (i : Nat) : FE D := fun env => match env[i]? with
  | some (.dat d) => some (d, env)
  | _ => none
/-- looked at -/
def fLook (i : Nat) : FE D := fun env => match env[i]? with
  | some (.dat d) => some (d, env)
  | some (.own d) => some (d, env)
  | _ => none
/-- handed on: the slot's object is frozen from here on -/
def fFreeze (i : Nat) : FE D := fun env => match env[i]? with
  | some (.dat d) => some (d, env)
  | some (.own d) => some (d, env.set i (.dat d))
  | _ => none
theorem fName_pure {i : Nat} : PureF (fName i) := by
  intro env d env' h
  unfold fName at h
  split at h <;> first | (cases h; rfl) | cases h
theorem fLook_pure {i : Nat} : PureF (fLook i) := by
  intro env d env' h
  unfold fLook at h
  split at h <;> first | (cases h; rfl) | cases h
theorem v_name {i : Nat} {x : Str} {pos : Pos} (hN : X.N[i]? = some x) (hv : Vis X.env.scope x) (hd : (x == ("__debug__" : Str)) = false := by decide) (hcd : (x == ("__classdict__" : Str)) = false := by decide) :
    VJ X G true false (G.at i) (.Name x pos) (fName i) := by
  refine ⟨(pe_var (i := i) hN hv hd hcd).imp fun σ H Q ⟨F, env, S, d, env', e1, k⟩ => ?_, fun _ => fName_pure⟩
  unfold fName at e1
  split at e1
  · rename_i d' hd'
    cases e1
    obtain ⟨v, hs, r⟩ := S.dat i _ hd'
    exact ⟨v, hs, k F H v S .refl (fun _ => .refl S.sub) r⟩
  · cases e1
theorem v_look {i : Nat} {x : Str} {pos : Pos} (hN : X.N[i]? = some x) (hv : Vis X.env.scope x) (hd : (x == ("__debug__" : Str)) = false := by decide) (hcd : (x == ("__classdict__" : Str)) = false := by decide) :
    VJ X G true true (G.at i) (.Name x pos) (fLook i) := by
  refine ⟨(pe_var (i := i) hN hv hd hcd).imp fun σ H Q ⟨F, env, S, d, env', e1, k⟩ => ?_, fun _ => fLook_pure⟩
  unfold fLook at e1
  split at e1
  · rename_i d' hd'
    cases e1
    obtain ⟨v, hs, r⟩ := S.dat i _ hd'
    exact ⟨v, hs, k F H v S .refl (fun _ => .refl S.sub) (.inl r)⟩
  · rename_i d' hd'
    cases e1
    obtain ⟨a, o, hs, ho, r, _⟩ := S.own i _ hd'
    exact ⟨.ref a, hs, k F H (.ref a) S .refl (fun _ => .refl S.sub) (.inr ⟨a, o, rfl, ho, r⟩)⟩
  · cases e1
end

section
variable {X : Cx} {G : Gh} {F H : Hp} {env : SE} {σ : L2.St}
/-- a slot's own object is frozen -/
theorem Sim.freeze (S : Sim X G F env σ H) {i : Nat} {d : D} (hd : env[i]? = some (.own d)) (hio : ∀ p ∈ G.io, p.1 ≠ i) :
    ∃ a o, σ[i]? = some (some (.ref a)) ∧ H a = some o ∧ F a = none ∧ G.H0 a = none ∧ Sim X G (upd F a o) (env.set i (.dat d)) σ H ∧ DR X.prog X.w G.H0 (upd F a o) (G.at i) (.ref a) d := by
  obtain ⟨a, o, hs, ho, r, hF, h0⟩ := S.own i d hd
  have hi : i < env.length := (List.getElem?_eq_some_iff.mp hd).1
  have hn : a ∉ G.ioA := by
    intro hm
    obtain ⟨p, hp, e⟩ := List.mem_map.mp hm
    obtain ⟨h1, d', h2⟩ := S.io p hp
    rw [e] at h1
    exact hio p hp (S.sep p.1 i a d' d h2 hd h1 hs)
  have h0' : G.H0 a = none := h0.resolve_right hn
  have sF : Sub F (upd F a o) := Sub.updN hF
  have rr : DR X.prog X.w G.H0 (upd F a o) (G.at i) (.ref a) d := by
    rcases r with ⟨xs, ds, rfl, rfl, r⟩ | ⟨xs, ds, rfl, rfl, r⟩
    · exact .lst upd_same (fun _ => h0') (DRs.mono sF _ _ r)
    · exact .dct upd_same (fun _ => h0') (DRk.mono sF _ _ r)
  refine ⟨a, o, hs, ho, hF, h0', ⟨by simpa using S.len, fun q u e => ?_, S.fr, fun j e he => ?_, fun j e he => ?_, fun j k b c e h1 h2 h3 h4 => ?_, fun p hp => ?_⟩, rr⟩
  · by_cases hq : q = a
    · subst hq; rw [upd_same] at e; cases e; exact ho
    · rw [upd_ne hq] at e; exact S.sub q u e
  · by_cases hj : j = i
    · subst hj
      rw [List.getElem?_set_self hi] at he
      cases he
      exact ⟨_, hs, rr⟩
    · rw [List.getElem?_set_ne (Ne.symm hj)] at he
      obtain ⟨v, a1, a2⟩ := S.dat j e he
      exact ⟨v, a1, DR.mono sF _ _ a2⟩
  · by_cases hj : j = i
    · subst hj
      rw [List.getElem?_set_self hi] at he
      cases he
    · rw [List.getElem?_set_ne (Ne.symm hj)] at he
      obtain ⟨b, ob, b1, b2, b3, b4, b5⟩ := S.own j e he
      refine ⟨b, ob, b1, b2, b3.mono sF, ?_, b5⟩
      have : b ≠ a := by
        rintro rfl
        exact hj (S.sep j i b e d he hd b1 hs)
      rw [upd_ne this]; exact b4
  · have hj : j ≠ i := by
      rintro rfl
      rw [List.getElem?_set_self hi] at h1; cases h1
    have hk : k ≠ i := by
      rintro rfl
      rw [List.getElem?_set_self hi] at h2; cases h2
    rw [List.getElem?_set_ne (Ne.symm hj)] at h1
    rw [List.getElem?_set_ne (Ne.symm hk)] at h2
    exact S.sep j k b c e h1 h2 h3 h4
  · obtain ⟨h1, d', h2⟩ := S.io p hp
    exact ⟨h1, d', by rw [List.getElem?_set_ne (Ne.symm (hio p hp))]; exact h2⟩
end

section
variable {X : Cx} {G : Gh} {p p' b b' nw nw' : Bool} {e e2 : Expr} {f f2' : FE D} {pos : Pos}
theorem v_freeze {i : Nat} {x : Str} (hio : ∀ p ∈ G.io, p.1 ≠ i) (hN : X.N[i]? = some x) (hv : Vis X.env.scope x) (hd : (x == ("__debug__" : Str)) = false := by decide) (hcd : (x == ("__classdict__" : Str)) = false := by decide) :
    VJ X G false false (G.at i) (.Name x pos) (fFreeze i) := by
  refine ⟨(pe_var (i := i) hN hv hd hcd).imp fun σ H Q ⟨F, env, S, d, env', e1, k⟩ => ?_, fun z => nomatch z⟩
  unfold fFreeze at e1
  split at e1
  · rename_i d' hd'
    cases e1
    obtain ⟨v, hs, r⟩ := S.dat i _ hd'
    exact ⟨v, hs, k F H v S .refl (fun z => nomatch z) r⟩
  · rename_i d' hd'
    cases e1
    obtain ⟨a, o, hs, ho, hF, h0, S', r⟩ := S.freeze hd' hio
    refine ⟨.ref a, hs, k _ H (.ref a) S' ⟨Sub.updN hF, fun q u z => ?_⟩ (fun z => nomatch z) r⟩
    by_cases hq : q = a
    · subst hq; exact .inr h0
    · rw [upd_ne hq] at z; exact .inl z
  · cases e1
def fC (d : D) : FE D := fun env => some (d, env)
theorem fC_pure {d : D} : PureF (fC d) := by
  intro env d env' h
  cases h; rfl
theorem v_const {v : V} {d : D} (h : PE X e (tC v)) (r : ∀ F, DR X.prog X.w G.H0 F true v d) : VJ X G true false true e (fC d) :=
  ⟨h.imp fun σ H Q ⟨F, env, S, d', env', e1, k⟩ => by
    cases e1
    exact k F H v S .refl (fun _ => .refl S.sub) (r F), fun _ => fC_pure⟩
theorem v_int {i : Int} {j : Nat} : VJ X G true false true (.Constant (.int i) j pos) (fC (.int i)) := v_const pe_int fun _ => .int i
theorem v_bl {b : Bool} {j : Nat} : VJ X G true false true (.Constant (.bool b) j pos) (fC (.bool b)) := v_const pe_bl fun _ => .bl b
theorem v_non {j : Nat} : VJ X G true false true (.Constant .none j pos) (fC .none) := v_const pe_non fun _ => .non
theorem v_str {x : Str} {j : Nat} : VJ X G true false true (.Constant (.str x) j pos) (fC (.str x)) := v_const pe_str fun _ => .str x

/-! ### argument lists -/
theorem Paired_cons {α β : Type} {P : α → β → Prop} {a : α} {b : β} {as : List α} {bs : List β} (h : P a b) (t : Paired P as bs) : Paired P (a :: as) (b :: bs) := .cons h t
def fNil : FE (List D) := fun env => some ([], env)
def fCons (f : FE D) (g : FE (List D)) : FE (List D) := fun env => match f env with
  | some (d, env1) => match g env1 with
    | some (ds, env2) => some (d :: ds, env2)
    | none => none
  | none => none
theorem fCons_some {f : FE D} {g : FE (List D)} {env env2 : SE} {ds : List D} (h : fCons f g env = some (ds, env2)) : ∃ d env1 ds', f env = some (d, env1) ∧ g env1 = some (ds', env2) ∧ ds = d :: ds' := by
  unfold fCons at h
  split at h
  · rename_i d env1 h1
    split at h
    · rename_i ds' env2' h2
      cases h
      exact ⟨d, env1, ds', h1, h2, rfl⟩
    · cases h
  · cases h
theorem va_nil {nw : Bool} : VA X G true b nw [] fNil :=
  ⟨pa_nil.imp fun σ H Q ⟨F, env, S, d, env', e1, k⟩ => by
    cases e1
    exact k F H [] S .refl (fun _ => .refl S.sub) .nil, fun _ env d env' h => by cases h; rfl⟩
/-- b: the flag of what may be looked at only; all behind it must be pure -/
theorem va_cons {q : Bool} {es : List Expr} {g : FE (List D)} (h : VJ X G p b nw e f) (t : VA X G q b nw es g) (hb : b = true → q = true := by decide)
    (hs : starEach (e :: es) X.env = (false, eval e X.env) :: starEach es X.env := by rfl) : VA X G (p && q) b nw (e :: es) (fCons f g) := by
  refine ⟨(pa_cons h.pe t.pe hs).imp fun σ H Q ⟨F, env, S, ds, env', e1, k⟩ => ?_, fun z env ds env' e1 => ?_⟩
  · obtain ⟨d, env1, ds', h1, h2, rfl⟩ := fCons_some e1
    refine ⟨F, env, S, d, env1, h1, fun F1 H1 v S1 x1 y1 r1 => ⟨F1, env1, S1, ds', env', h2, fun F2 H2 vs S2 x2 y2 r2 => ?_⟩⟩
    refine k F2 H2 (v :: vs) S2 (x1.trans x2) (fun z => ?_) (.cons (r1.step hb x2 y2) r2)
    rw [Bool.and_eq_true] at z
    exact (y1 z.1).trans (y2 z.2)
  · rw [Bool.and_eq_true] at z
    obtain ⟨d, env1, ds', h1, h2, rfl⟩ := fCons_some e1
    rw [t.pu z.2 _ _ _ h2, h.pu z.1 _ _ _ h1]
theorem pairedDRs {F H : Hp} {vs : List V} {ds : List D} (r : Paired (VRb X G false F H nw) vs ds) : DRs X.prog X.w G.H0 F nw vs ds := by
  induction r with
  | nil => exact .nil
  | cons a _ ih => exact .cons a ih
def fMap {α β : Type} (f : FE α) (g : α → Option β) : FE β := fun env => match f env with
  | some (a, env') => match g a with
    | some b => some (b, env')
    | none => none
  | none => none
theorem fMap_some {α β : Type} {f : FE α} {g : α → Option β} {env env' : SE} {y : β} (h : fMap f g env = some (y, env')) : ∃ a, f env = some (a, env') ∧ g a = some y := by
  unfold fMap at h
  split at h
  · rename_i a env1 h1
    split at h
    · rename_i b h2
      cases h
      exact ⟨a, h1, h2⟩
    · cases h
  · cases h
theorem fMap_pure {α β : Type} {f : FE α} {g : α → Option β} (h : PureF f) : PureF (fMap f g) := fun env d env' e => by
  obtain ⟨a, h1, _⟩ := fMap_some e
  exact h _ _ _ h1

/-! ### displays -/
def gList (ds : List D) : Option D := if ds.length ≤ sizeLine then some (.list ds) else none
def gTuple (ds : List D) : Option D := if ds.length ≤ sizeLine then some (.tuple ds) else none
/-- a new object at p, frozen -/
theorem Sim.laid {F H : Hp} {env : SE} {σ : L2.St} (S : Sim X G F env σ H) {a : Addr} {o : HO} (h : H a = none) : Sim X G (upd F a o) env σ (upd H a o) := S.ext (Ext.updN S.sub h)
theorem v_list {es : List Expr} {g : FE (List D)} (h : VA X G p false nw es g) : VJ X G p false nw (.List es pos) (fMap g gList) := by
  refine ⟨(pe_lst h.pe).imp fun σ H Q ⟨F, env, S, d, env', e1, k⟩ => ?_, fun z => fMap_pure (h.pu z)⟩
  obtain ⟨ds, h1, h2⟩ := fMap_some e1
  unfold gList at h2
  split at h2
  · rename_i hl
    cases h2
    refine ⟨F, env, S, ds, env', h1, fun F1 H1 vs S1 x1 y1 r1 => ?_⟩
    have rr := pairedDRs r1
    refine ⟨by rw [rr.length]; exact hl, fun p hp => ?_⟩
    have x2 := Ext.updN S1.sub hp (o := .lst vs)
    exact k _ _ (.ref p) (S1.ext x2) (x1.trans (x2.weak S1)) (fun z => (y1 z).trans x2) (.lst upd_same (fun _ => S1.new0 hp) (DRs.mono x2.f _ _ rr))
  · cases h2
theorem v_tuple {es : List Expr} {g : FE (List D)} {n : Nat} (h : VA X G p false nw es g) : VJ X G p false nw (.Tuple es n pos) (fMap g gTuple) := by
  refine ⟨(pe_tup h.pe).imp fun σ H Q ⟨F, env, S, d, env', e1, k⟩ => ?_, fun z => fMap_pure (h.pu z)⟩
  obtain ⟨ds, h1, h2⟩ := fMap_some e1
  unfold gTuple at h2
  split at h2
  · rename_i hl
    cases h2
    refine ⟨F, env, S, ds, env', h1, fun F1 H1 vs S1 x1 y1 r1 => ?_⟩
    have rr := pairedDRs r1
    refine ⟨by rw [rr.length]; exact hl, fun p hp => ?_⟩
    have x2 := Ext.updN S1.sub hp (o := .tup vs)
    exact k _ _ (.ref p) (S1.ext x2) (x1.trans (x2.weak S1)) (fun z => (y1 z).trans x2) (.tup upd_same (DRs.mono x2.f _ _ rr))
  · cases h2

/-! ### operators by values: r's question, answered for data -/
/-- over operands that read as data, r holds where the answer g is wanted -/
def Prim2 (X : Cx) (G : Gh) (ni nw : Bool) (r : R2) (g : D → D → Option D) : Prop :=
  ∀ (F H : Hp) (x y : V) (a b c : D) (Q : VK), Sub F H → (∀ q, H q = none → G.H0 q = none) → BR X.prog X.w G.H0 F H ni x a → BR X.prog X.w G.H0 F H ni y b → g a b = some c →
    (∀ F' H' v, Ext F H F' H' → DR X.prog X.w G.H0 F' nw v c → Q v H') → r x y H Q
def PrimN (X : Cx) (G : Gh) (ni nw : Bool) (r : List V → Hp → VK → Prop) (g : List D → Option D) : Prop :=
  ∀ (F H : Hp) (xs : List V) (ds : List D) (c : D) (Q : VK), Sub F H → (∀ q, H q = none → G.H0 q = none) → Paired (BR X.prog X.w G.H0 F H ni) xs ds → g ds = some c →
    (∀ F' H' v, Ext F H F' H' → DR X.prog X.w G.H0 F' nw v c → Q v H') → r xs H Q
def f2 (f : FE D) (g : FE D) (h : D → D → Option D) : FE D := fun env => match f env with
  | some (a, env1) => match g env1 with
    | some (b, env2) => match h a b with
      | some c => some (c, env2)
      | none => none
    | none => none
  | none => none
theorem f2_some {f g : FE D} {h : D → D → Option D} {env env' : SE} {c : D} (e : f2 f g h env = some (c, env')) : ∃ a env1 b, f env = some (a, env1) ∧ g env1 = some (b, env') ∧ h a b = some c := by
  unfold f2 at e
  split at e
  · rename_i a env1 h1
    split at e
    · rename_i b env2 h2
      split at e
      · rename_i c' h3
        cases e
        exact ⟨a, env1, b, h1, h2, h3⟩
      · cases e
    · cases e
  · cases e
theorem f2_pure {f g : FE D} {h : D → D → Option D} (hf : PureF f) (hg : PureF g) : PureF (f2 f g h) := fun env d env' e => by
  obtain ⟨a, env1, b, h1, h2, _⟩ := f2_some e
  rw [hg _ _ _ h2, hf _ _ _ h1]
/-- two operands, then r -/
theorem R2_of {ta tb : TE} {r : R2} {g : D → D → Option D} {bl br q ni : Bool} {f2' : FE D} (hr : Prim2 X G ni nw r g)
    (hf : ∀ σ H Q, R X G p bl ni f σ H Q → ta σ H Q) (hg : ∀ σ H Q, R X G q br ni f2' σ H Q → tb σ H Q) (hb : bl = true → q = true) :
    ∀ σ H Q, R X G (p && q) false nw (f2 f f2' g) σ H Q → tOp r ta tb σ H Q := by
  rintro σ H Q ⟨F, env, S, c, env', e1, k⟩
  obtain ⟨a, env1, b, h1, h2, h3⟩ := f2_some e1
  refine hf σ H _ ⟨F, env, S, a, env1, h1, fun F1 H1 v S1 x1 y1 r1 => hg σ H1 _ ⟨F1, env1, S1, b, env', h2, fun F2 H2 u S2 x2 y2 r2 => ?_⟩⟩
  refine hr F2 H2 v u a b c Q S2.sub (fun q h => S2.new0 h) (r1.step hb x2 y2).br r2.br h3 fun F3 H3 z x3 r3 => ?_
  refine k F3 H3 z (S2.ext x3) (x1.trans (x2.trans (x3.weak S2))) (fun z => ?_) r3
  rw [Bool.and_eq_true] at z
  exact (y1 z.1).trans ((y2 z.2).trans x3)
theorem v_op {op : Operator} {r : R2} {g : D → D → Option D} {bl br q ni : Bool} (ho : OpR X (binaryOp op) r) (hr : Prim2 X G ni nw r g) (h1 : VJ X G p bl ni e f) (h2 : VJ X G q br ni e2 f2') (hb : bl = true → q = true := by decide) :
    VJ X G (p && q) false nw (.BinOp e op e2 pos) (f2 f f2' g) :=
  ⟨(pe_op ho h1.pe h2.pe).imp (R2_of hr (fun _ _ _ z => z) (fun _ _ _ z => z) hb), fun z => by rw [Bool.and_eq_true] at z; exact f2_pure (h1.pu z.1) (h2.pu z.2)⟩
theorem v_cmp {op : CmpOp} {r : R2} {g : D → D → Option D} {bl br q ni : Bool} (ho : OpR X (compareOp op) r) (hr : Prim2 X G ni nw r g) (h1 : VJ X G p bl ni e f) (h2 : VJ X G q br ni e2 f2') (hm : behindInMarks op e2 = false) (hb : bl = true → q = true := by decide) :
    VJ X G (p && q) false nw (.Compare e [op] [e2] pos) (f2 f f2' g) :=
  ⟨(pe_cmpR ho h1.pe h2.pe hm).imp (R2_of hr (fun _ _ _ z => z) (fun _ _ _ z => z) hb), fun z => by rw [Bool.and_eq_true] at z; exact f2_pure (h1.pu z.1) (h2.pu z.2)⟩
theorem v_ix {r : R2} {g : D → D → Option D} {bl br q ni : Bool} (ho : IxR X r) (hr : Prim2 X G ni nw r g) (h1 : VJ X G p bl ni e f) (h2 : VJ X G q br ni e2 f2') (hm : PlainIx e2) (hb : bl = true → q = true := by decide) :
    VJ X G (p && q) false nw (.Subscript e e2 pos) (f2 f f2' g) :=
  ⟨(pe_ix ho h1.pe h2.pe hm).imp (R2_of hr (fun _ _ _ z => z) (fun _ _ _ z => z) hb), fun z => by rw [Bool.and_eq_true] at z; exact f2_pure (h1.pu z.1) (h2.pu z.2)⟩
/-- a scalar answer -/
theorem Prim2.or {ni : Bool} {r r' : R2} {g g' : D → D → Option D} (h : Prim2 X G ni nw r g) (h' : Prim2 X G ni nw r' g') : Prim2 X G ni nw (fun x y H Q => r x y H Q ∨ r' x y H Q) (fun a b => (g a b).orElse fun _ => g' a b) := by
  intro F H x y a b c Q s n rx ry e k
  dsimp only at e
  cases e1 : g a b with
  | some c' =>
    rw [e1] at e
    cases e
    exact .inl (h F H x y a b c Q s n rx ry e1 k)
  | none =>
    rw [e1] at e
    exact .inr (h' F H x y a b c Q s n rx ry e k)
theorem paired_step {bl : Bool} {q : Bool} {F H F' H' : Hp} {vs : List V} {ds : List D} (r : Paired (VRb X G bl F H nw) vs ds) : Paired (BR X.prog X.w G.H0 F H nw) vs ds := by
  induction r with
  | nil => exact .nil
  | cons a _ ih => exact .cons a.br ih
theorem v_callB {x : Str} {id : String} {r : List V → Hp → VK → Prop} {g : List D → Option D} {bl ni : Bool} {es : List Expr} {fa : FE (List D)} {ppos : Pos} (hc : CallR X (.builtin id) r) (hr : PrimN X G ni nw r g) (hg : Gl X x) (hm : X.mg x = none) (hv : bootBuiltins x = some (.builtin id))
    (h : VA X G p bl ni (e :: es) fa) (hn : x ≠ "__name__" := by decide) (hdb : (x == ("__debug__" : Str)) = false := by decide) (he : starEach (e :: es) X.env = (false, eval e X.env) :: starEach es X.env := by rfl) (hpl : (backTo pos (starEach es X.env)).any (·.1) = false := by rfl) :
    VJ X G p false nw (.Call (.Name x ppos) (e :: es) [] pos) (fMap fa g) := by
  refine ⟨(pe_callB hc hg hm hv h.pe hn hdb he hpl).imp fun σ H Q ⟨F, env, S, c, env', e1, k⟩ => ?_, fun z => fMap_pure (h.pu z)⟩
  obtain ⟨ds, h1, h2⟩ := fMap_some e1
  refine ⟨F, env, S, ds, env', h1, fun F1 H1 vs S1 x1 y1 r1 => ?_⟩
  refine hr F1 H1 vs ds c Q S1.sub (fun q h => S1.new0 h) (paired_step (q := true) (F' := F1) (H' := H1) r1) h2 fun F3 H3 z x3 r3 => ?_
  exact k F3 H3 z (S1.ext x3) (x1.trans (x3.weak S1)) (fun z => (y1 z).trans x3) r3
theorem v_callTy {x : Str} {T : String} {r : List V → Hp → VK → Prop} {g : List D → Option D} {bl ni : Bool} {es : List Expr} {fa : FE (List D)} {ppos : Pos} (hc : CallR X (.type T) r) (hr : PrimN X G ni nw r g) (hg : Gl X x) (hm : X.mg x = none) (hv : bootBuiltins x = some (.type T))
    (h : VA X G p bl ni (e :: es) fa) (hn : x ≠ "__name__" := by decide) (hdb : (x == ("__debug__" : Str)) = false := by decide) (he : starEach (e :: es) X.env = (false, eval e X.env) :: starEach es X.env := by rfl) (hpl : (backTo pos (starEach es X.env)).any (·.1) = false := by rfl) :
    VJ X G p false nw (.Call (.Name x ppos) (e :: es) [] pos) (fMap fa g) := by
  refine ⟨(pe_callTy hc hg hm hv h.pe hn hdb he hpl).imp fun σ H Q ⟨F, env, S, c, env', e1, k⟩ => ?_, fun z => fMap_pure (h.pu z)⟩
  obtain ⟨ds, h1, h2⟩ := fMap_some e1
  refine ⟨F, env, S, ds, env', h1, fun F1 H1 vs S1 x1 y1 r1 => ?_⟩
  refine hr F1 H1 vs ds c Q S1.sub (fun q h => S1.new0 h) (paired_step (q := true) (F' := F1) (H' := H1) r1) h2 fun F3 H3 z x3 r3 => ?_
  exact k F3 H3 z (S1.ext x3) (x1.trans (x3.weak S1)) (fun z => (y1 z).trans x3) r3
end
end Vl


set_option Elab.async false
set_option linter.all false
set_option autoImplicit false
set_option maxRecDepth 100000
set_option maxHeartbeats 1000000
/-! Layer V, part 2: the operators and built-ins on data. -/
namespace Vl
open PySem PySem.Spec L2

section
variable {X : Cx} {G : Gh} {ni nw : Bool}

/-! ### arithmetic -/
def addD : D → D → Option D
  | .int i, .int j => some (.int (i + j))
  | .list xs, .list ys => if xs.length + ys.length ≤ sizeLine then some (.list (xs ++ ys)) else none
  | .tuple (x :: xs), .tuple (y :: ys) => if (x :: xs).length + (y :: ys).length ≤ sizeLine then some (.tuple ((x :: xs) ++ (y :: ys))) else none
  | .str x, .str y => if x.length + y.length ≤ sizeLine then some (.str (x ++ y)) else none
  | _, _ => none
def rAddD (X : Cx) : R2 := fun x y H Q => (((rI0 fun i j => .int (i + j)) x y H Q ∨ rCat x y H Q) ∨ rCatT X.K x y H Q) ∨ (∃ i j, x = .str i ∧ y = .str j ∧ i.length + j.length ≤ sizeLine ∧ Q (.str (i ++ j)) H)
theorem op_addD : OpR X (binaryOp .Add) (rAddD X) := ((op_add.or op_cat).or op_catT).or op_add_str
theorem prim_add : Prim2 X G ni ni (rAddD X) addD := by
  intro F H x y a b c Q s n rx ry e k
  unfold addD at e
  split at e
  · cases e
    exact .inl (.inl (.inl ⟨_, _, rx.int, ry.int, k F H _ (.refl s) (.int _)⟩))
  · split at e
    · rename_i hl
      cases e
      obtain ⟨l, us, rfl, h1, r1⟩ := rx.list s
      obtain ⟨l2, ws, rfl, h2, r2⟩ := ry.list s
      refine .inl (.inl (.inr ⟨l, l2, us, ws, rfl, rfl, h1, h2, by rw [r1.length, r2.length]; exact hl, fun p hp => ?_⟩))
      have x2 := Ext.updN s hp (o := .lst (us ++ ws))
      exact k _ _ _ x2 (.lst upd_same (fun _ => n p hp) (DRs.mono x2.f _ _ (r1.append r2)))
    · cases e
  · split at e
    · rename_i hl
      cases e
      obtain ⟨l, us, rfl, h1, _, r1⟩ := rx.tuple s
      obtain ⟨l2, ws, rfl, h2, _, r2⟩ := ry.tuple s
      have e1 := r1.length
      have e2 := r2.length
      refine .inl (.inr ⟨l, l2, us, ws, rfl, rfl, .inl (.inl h1), .inl (.inl h2), (by intro z; subst z; simp at e1), by rw [e1, e2]; exact hl, (fun z => by subst z; simp at e2), fun _ p hp => ?_⟩)
      have x2 := Ext.updN s hp (o := .tup (us ++ ws))
      exact k _ _ _ x2 (.tup upd_same (DRs.mono x2.f _ _ (r1.append r2)))
    · cases e
  · split at e
    · rename_i hl
      cases e
      exact .inr ⟨_, _, rx.str, ry.str, hl, k F H _ (.refl s) (.str _)⟩
    · cases e
  · cases e
def int2 (c : Int → Int → Bool) (g : Int → Int → D) : D → D → Option D
  | .int i, .int j => if c i j = true then some (g i j) else none
  | _, _ => none
theorem prim_int {C : Int → Int → Prop} {cb : Int → Int → Bool} {g : Int → Int → V} {gd : Int → Int → D} (hc : ∀ i j, cb i j = true → C i j) (hg : ∀ F i j, DR X.prog X.w G.H0 F nw (g i j) (gd i j)) : Prim2 X G ni nw (rI C g) (int2 cb gd) := by
  intro F H x y a b c Q s n rx ry e k
  unfold int2 at e
  split at e
  · split at e
    · rename_i i j h
      cases e
      exact ⟨i, j, rx.int, ry.int, hc i j h, k F H _ (.refl s) (hg F i j)⟩
    · cases e
  · cases e
theorem prim_int0 {g : Int → Int → V} {gd : Int → Int → D} (hg : ∀ F i j, DR X.prog X.w G.H0 F nw (g i j) (gd i j)) : Prim2 X G ni nw (rI0 g) (int2 (fun _ _ => true) gd) := by
  intro F H x y a b c Q s n rx ry e k
  unfold int2 at e
  split at e
  · rename_i i j
    simp only [if_true] at e
    cases e
    exact ⟨i, j, rx.int, ry.int, k F H _ (.refl s) (hg F i j)⟩
  · cases e
def subD : D → D → Option D := int2 (fun _ _ => true) fun i j => .int (i - j)
theorem prim_sub : Prim2 X G ni nw (rI0 fun i j => .int (i - j)) subD := prim_int0 fun _ _ _ => .int _
def mulD : D → D → Option D := int2 (fun i j => decide (i.natAbs.log2 + j.natAbs.log2 < 1000000)) fun i j => .int (i * j)
theorem prim_mul : Prim2 X G ni nw (rI CMulW fun i j => .int (i * j)) mulD := prim_int (fun i j h => of_decide_eq_true (p := i.natAbs.log2 + j.natAbs.log2 < 1000000) h) fun _ _ _ => .int _
def fdivD : D → D → Option D := int2 (fun _ j => decide (0 < j) && decide (j.natAbs.log2 < 9000)) fun i j => .int (i / j)
theorem prim_fdiv : Prim2 X G ni nw (rI CDivW fun i j => .int (i / j)) fdivD := prim_int (fun i j h => by
  rw [Bool.and_eq_true] at h
  exact ⟨of_decide_eq_true h.1, of_decide_eq_true h.2⟩) fun _ _ _ => .int _
def modD : D → D → Option D := int2 (fun _ j => decide (0 < j)) fun i j => .int (i % j)
theorem prim_mod : Prim2 X G ni nw (rI (fun _ j => 0 < j) fun i j => .int (i % j)) modD := prim_int (fun i j h => of_decide_eq_true h) fun _ _ _ => .int _
def CPowB (i j : Int) : Prop := 0 ≤ j ∧ (Builtin.Int.intBits i : Int) * j ≤ 2 ^ 27
theorem op_powB : OpR X (binaryOp .Pow) (rI CPowB fun i j => .int (i ^ j.toNat)) := opI fun _ _ _ _ _ _ _ hc q => PyProof.Rows.pow_int hc.1 hc.2 q
def powD : D → D → Option D := int2 (fun i j => decide (0 ≤ j) && decide ((Builtin.Int.intBits i : Int) * j ≤ 2 ^ 27)) fun i j => .int (i ^ j.toNat)
theorem prim_pow : Prim2 X G ni nw (rI CPowB fun i j => .int (i ^ j.toNat)) powD := prim_int (fun i j h => by
  rw [Bool.and_eq_true] at h
  exact ⟨of_decide_eq_true h.1, of_decide_eq_true h.2⟩) fun _ _ _ => .int _

/-! ### comparisons -/
mutual
theorem canLay_noDict : ∀ d : D, d.canLay0 = true → noDict d = true
  | .none, _ => rfl
  | .bool _, _ => rfl
  | .int _, _ => rfl
  | .str _, _ => rfl
  | .list xs, h => by rw [noDict]; exact canLays_noDict xs (by simpa [PyData.canLay0] using h)
  | .tuple xs, h => by rw [noDict]; exact canLays_noDict xs (by simpa [PyData.canLay0] using h)
  | .dict _, h => by simp [PyData.canLay0] at h
theorem canLays_noDict : ∀ d : List D, PyData.canLayAll0 d = true → noDicts d = true
  | [], _ => rfl
  | d :: ds, h => by
    rw [PyData.canLayAll0, Bool.and_eq_true] at h
    rw [noDicts, canLay_noDict d h.1, canLays_noDict ds h.2]; rfl
end
theorem BR.dp {F H : Hp} {v : V} {d : D} (s : Sub F H) (hd : SeqAt.shaped d = true) (r : BR X.prog X.w G.H0 F H ni v d) : Dp X.K H v d :=
  DR.dp X.K d v (canLay_noDict d (SeqAt.canLay_of_shaped hd)) (r.dr s)
def eqD (a b : D) : Option D := if SeqAt.shaped a = true ∧ SeqAt.shaped b = true then some (.bool (PyData.eqv a b)) else none
def neD (a b : D) : Option D := if SeqAt.shaped a = true ∧ SeqAt.shaped b = true then some (.bool (!PyData.eqv a b)) else none
theorem prim_eq : Prim2 X G ni nw (rEqD X.K) eqD := by
  intro F H x y a b c Q s n rx ry e k
  unfold eqD at e
  split at e
  · rename_i h
    cases e
    exact ⟨a, b, rx.dp s h.1, ry.dp s h.2, h.1, h.2, k F H _ (.refl s) (.bl _)⟩
  · cases e
theorem prim_ne : Prim2 X G ni nw (rNeD X.K) neD := by
  intro F H x y a b c Q s n rx ry e k
  unfold neD at e
  split at e
  · rename_i h
    cases e
    exact ⟨a, b, rx.dp s h.1, ry.dp s h.2, h.1, h.2, k F H _ (.refl s) (.bl _)⟩
  · cases e
def rLtD (X : Cx) : R2 := fun x y H Q => ∃ a b, Dp X.K H x a ∧ Dp X.K H y b ∧ PySem.W.alike a b = true ∧ a ≠ .none ∧ a.depth ≤ 64 ∧ Q (.bl (PySem.W.dataLt a b)) H
theorem op_ltD (hu : X.A.units + 64 < cLine) : OpR X (compareOp .Lt) (rLtD X) := by
  intro pins s σ H x y v u Q I rx ry h
  obtain ⟨a, b, ha, hb, hal, hn, hd, q⟩ := h
  obtain ⟨as, r1⟩ := Dp.reads I a x v ha rx
  obtain ⟨bs, r2⟩ := Dp.reads I b y u hb ry
  exact PySem.W.rcLt_alike a b X.A s v u as bs r1 r2 hal hn (by have := Nat.min_le_left a.depth b.depth; omega) X.prog X.w X.xe _ ⟨.bl _, H, I, rfl, q⟩
def isNone : D → Bool
  | .none => true
  | _ => false
def ltD (a b : D) : Option D := if (SeqAt.shaped a = true ∧ SeqAt.shaped b = true) ∧ PySem.W.alike a b = true ∧ isNone a = false then some (.bool (PySem.W.dataLt a b)) else none
theorem prim_lt : Prim2 X G ni nw (rLtD X) ltD := by
  intro F H x y a b c Q s n rx ry e k
  unfold ltD at e
  split at e
  · rename_i h
    obtain ⟨⟨h1, h2⟩, h3, h4⟩ := h
    cases e
    exact ⟨a, b, rx.dp s h1, ry.dp s h2, h3, (by rintro rfl; simp [isNone] at h4), SeqAt.depth_of_shaped h1, k F H _ (.refl s) (.bl _)⟩
  · cases e
def cmpI (f : Int → Int → Bool) : D → D → Option D := int2 (fun _ _ => true) fun i j => .bool (f i j)
theorem prim_le : Prim2 X G ni nw (rI0 fun i j => .bl (decide (i ≤ j))) (cmpI fun i j => decide (i ≤ j)) := prim_int0 fun _ _ _ => .bl _
theorem prim_gt : Prim2 X G ni nw (rI0 fun i j => .bl (decide (j < i))) (cmpI fun i j => decide (j < i)) := prim_int0 fun _ _ _ => .bl _
theorem prim_ge : Prim2 X G ni nw (rI0 fun i j => .bl (decide (j ≤ i))) (cmpI fun i j => decide (j ≤ i)) := prim_int0 fun _ _ _ => .bl _
/-- is None, is not None -/
def isD (a b : D) : Option D := if isNone b = true then some (.bool (isNone a)) else none
def isNotD (a b : D) : Option D := if isNone b = true then some (.bool (!isNone a)) else none
theorem BR.none_iff {F H : Hp} {v : V} {d : D} (r : BR X.prog X.w G.H0 F H ni v d) : decide (v = .non) = isNone d := by
  rcases r with r | ⟨a, o, rfl, _, r⟩
  · cases r <;> simp [isNone]
  · rcases r with ⟨xs, ds, rfl, _, _⟩ | ⟨xs, ds, rfl, _, _⟩ <;> simp [isNone]
theorem prim_is : Prim2 X G ni nw (fun x y H Q => y = .non ∧ Q (.bl (decide (x = .non))) H) isD := by
  intro F H x y a b c Q s n rx ry e k
  unfold isD at e
  split at e
  · rename_i h
    cases e
    refine ⟨?_, k F H _ (.refl s) (by rw [rx.none_iff]; exact .bl _)⟩
    have := ry.none_iff
    rw [h] at this
    exact of_decide_eq_true this
  · cases e
theorem prim_isNot : Prim2 X G ni nw (fun x y H Q => y = .non ∧ Q (.bl (!decide (x = .non))) H) isNotD := by
  intro F H x y a b c Q s n rx ry e k
  unfold isNotD at e
  split at e
  · rename_i h
    cases e
    refine ⟨?_, k F H _ (.refl s) (by rw [rx.none_iff]; exact .bl _)⟩
    have := ry.none_iff
    rw [h] at this
    exact of_decide_eq_true this
  · cases e
/-- in a list -/
def inL : D → D → Option D
  | a, .list ds => if SeqAt.shaped a = true ∧ SeqAt.shaped (.list ds) = true then some (.bool (ds.any fun z => PyData.eqv z a)) else none
  | _, _ => none
def notInL : D → D → Option D
  | a, .list ds => if SeqAt.shaped a = true ∧ SeqAt.shaped (.list ds) = true then some (.bool (!ds.any fun z => PyData.eqv z a)) else none
  | _, _ => none
theorem prim_inL : Prim2 X G ni nw (rInD X.K) inL := by
  intro F H x y a b c Q s n rx ry e k
  unfold inL at e
  split at e
  · split at e
    · rename_i h
      cases e
      exact ⟨_, _, rx.dp s h.1, ry.dp s h.2, h.1, h.2, k F H _ (.refl s) (.bl _)⟩
    · cases e
  · cases e
theorem prim_notInL : Prim2 X G ni nw (rNotInD X.K) notInL := by
  intro F H x y a b c Q s n rx ry e k
  unfold notInL at e
  split at e
  · split at e
    · rename_i h
      cases e
      exact ⟨_, _, rx.dp s h.1, ry.dp s h.2, h.1, h.2, k F H _ (.refl s) (.bl _)⟩
    · cases e
  · cases e

/-! ### subscripts, slices -/
def ixD : D → D → Option D
  | .list ds, .int i => atI ds i
  | .tuple ds, .int i => atI ds i
  | _, _ => none
theorem DRs.atI {P : Program} {w : World} {H0 F : Hp} {vs : List V} {ds : List D} {i : Int} {d : D} (r : DRs P w H0 F ni vs ds) (h : L2.atI ds i = some d) : ∃ v, L2.atI vs i = some v ∧ DR P w H0 F ni v d := by
  unfold L2.atI at h ⊢
  rw [r.length]
  cases e : ixN ds.length i with
  | none => rw [e] at h; cases h
  | some j =>
    rw [e] at h
    exact r.get h
theorem prim_ix : Prim2 X G ni ni (fun x y H Q => rIxL X.K x y H Q ∨ rIxT X.K x y H Q) ixD := by
  intro F H x y a b c Q s n rx ry e k
  unfold ixD at e
  split at e
  · obtain ⟨l, us, rfl, h1, r1⟩ := rx.list s
    obtain ⟨v, hv, rv⟩ := r1.atI e
    exact .inl ⟨l, us, _, v, rfl, ry.int, .inl (.inl h1), hv, k F H _ (.refl s) rv⟩
  · obtain ⟨l, us, rfl, h1, _, r1⟩ := rx.tuple s
    obtain ⟨v, hv, rv⟩ := r1.atI e
    exact .inr ⟨l, us, _, v, rfl, ry.int, .inl (.inl h1), hv, k F H _ (.refl s) rv⟩
  · cases e
theorem ix_D : IxR X (fun x y H Q => rIxL X.K x y H Q ∨ rIxT X.K x y H Q) := ix_list.or ix_tup
end
end Vl


set_option Elab.async false
set_option linter.all false
set_option autoImplicit false
set_option maxRecDepth 100000
set_option maxHeartbeats 1000000
/-! Layer V, part 3: tests, and, or, not, if-expressions, chains, slices. -/
namespace Vl
open PySem PySem.Spec L2

section
variable {X : Cx} {G : Gh} {p q b nw ni : Bool} {e e2 e3 : Expr} {f g h : FE D} {pos : Pos} {ft gt : FE Bool}

def asB : D → Option Bool
  | .bool b => some b
  | _ => none
def ofB : Bool → Option D := fun b => some (.bool b)
theorem RT_of {t : TE} {f : FE D} (hf : ∀ σ H Q, R X G p b nw f σ H Q → t σ H Q) : ∀ σ H Q, RT X G p (fMap f asB) σ H Q → tTest t σ H Q := by
  rintro σ H Q ⟨F, env, S, c, env', e1, k⟩
  obtain ⟨d, h1, h2⟩ := fMap_some e1
  refine hf σ H _ ⟨F, env, S, d, env', h1, fun F1 H1 v S1 x1 y1 r1 => ?_⟩
  unfold asB at h2
  split at h2
  · cases h2
    exact ⟨c, r1.br.bool, k F1 H1 S1 x1 y1⟩
  · cases h2
theorem vt_val (h1 : VJ X G p b nw e f) (he : ∀ whole, isTrue e X.env whole = (do let v ← whole; standAt e.pos; holding [v] (truthy v)) := by intro _; rfl) : VT X G p e (fMap f asB) :=
  ⟨(pt_val h1.pe he).imp (RT_of fun _ _ _ z => z), fun z => fMap_pure (h1.pu z)⟩
theorem vt_cmp {op : CmpOp} {r : R2} {gd : D → D → Option D} {bl br : Bool} (ho : OpR X (compareOp op) r) (hr : Prim2 X G ni nw r gd) (h1 : VJ X G p bl ni e f) (h2 : VJ X G q br ni e2 g) (hm : behindInMarks op e2 = false) (hb : bl = true → q = true := by decide) :
    VT X G (p && q) (.Compare e [op] [e2] pos) (fMap (f2 f g gd) asB) :=
  ⟨(pt_cmpR ho h1.pe h2.pe hm).imp (RT_of (R2_of hr (fun _ _ _ z => z) (fun _ _ _ z => z) hb)), fun z => by rw [Bool.and_eq_true] at z; exact fMap_pure (f2_pure (h1.pu z.1) (h2.pu z.2))⟩
def fNot (f : FE Bool) : FE Bool := fMap f fun c => some (!c)
theorem vt_not (h1 : VT X G p e ft) : VT X G p (.UnaryOp .Not e pos) (fNot ft) := by
  refine ⟨(pt_not h1.pe).imp fun σ H Q ⟨F, env, S, c, env', e1, k⟩ => ?_, fun z => fMap_pure (h1.pu z)⟩
  obtain ⟨d, h1, h2⟩ := fMap_some e1
  cases h2
  exact ⟨F, env, S, d, env', h1, fun F1 H1 S1 x1 y1 => k F1 H1 S1 x1 y1⟩
/-! and, or as tests -/
structure VW (X : Cx) (G : Gh) (p : Bool) (e : Expr) (f : FE Bool) : Prop where
  pw : PW X e (RT X G p f)
  pu : p = true → PureF f
theorem _root_.L2.PW.imp {t t' : TT} (h : PW X e t) (i : ∀ σ H Q, t' σ H Q → t σ H Q) : PW X e t' := ⟨fun whole pins s σ H Q I q => h.run whole pins s σ H Q I (i _ _ _ q)⟩
theorem vw_and1 (h : VT X G p e ft) : VW X G p (.BoolOp .And [e] pos) ft := ⟨pw_and1 h.pe, h.pu⟩
theorem vw_or1 (h : VT X G p e ft) : VW X G p (.BoolOp .Or [e] pos) ft := ⟨pw_or1 h.pe, h.pu⟩
def fAndB (f g : FE Bool) : FE Bool := fun env => match f env with
  | some (true, env1) => g env1
  | some (false, env1) => some (false, env1)
  | none => none
def fOrB (f g : FE Bool) : FE Bool := fun env => match f env with
  | some (true, env1) => some (true, env1)
  | some (false, env1) => g env1
  | none => none
theorem fAndB_pure {f g : FE Bool} (hf : PureF f) (hg : PureF g) : PureF (fAndB f g) := fun env d env' e => by
  unfold fAndB at e
  split at e
  · rename_i env1 h1
    rw [hg _ _ _ e, hf _ _ _ h1]
  · rename_i env1 h1
    cases e; exact hf _ _ _ h1
  · cases e
theorem fOrB_pure {f g : FE Bool} (hf : PureF f) (hg : PureF g) : PureF (fOrB f g) := fun env d env' e => by
  unfold fOrB at e
  split at e
  · rename_i env1 h1
    cases e; exact hf _ _ _ h1
  · rename_i env1 h1
    rw [hg _ _ _ e, hf _ _ _ h1]
  · cases e
theorem vw_and {rest : List Expr} (h1 : VT X G p e ft) (h2 : VW X G q (.BoolOp .And (e2 :: rest) pos) gt) : VW X G (p && q) (.BoolOp .And (e :: e2 :: rest) pos) (fAndB ft gt) := by
  refine ⟨(pw_and h1.pe h2.pw).imp fun σ H Q ⟨F, env, S, c, env', e1, k⟩ => ?_, fun z => by rw [Bool.and_eq_true] at z; exact fAndB_pure (h1.pu z.1) (h2.pu z.2)⟩
  unfold fAndB at e1
  split at e1
  · rename_i env1 q1
    refine ⟨F, env, S, true, env1, q1, fun F1 H1 S1 x1 y1 => ?_⟩
    refine (if_pos rfl).mpr ⟨F1, env1, S1, c, env', e1, fun F2 H2 S2 x2 y2 => k F2 H2 S2 (x1.trans x2) fun z => ?_⟩
    rw [Bool.and_eq_true] at z
    exact (y1 z.1).trans (y2 z.2)
  · rename_i env1 q1
    cases e1
    refine ⟨F, env, S, false, env', q1, fun F1 H1 S1 x1 y1 => ?_⟩
    show (if (false : Bool) = true then _ else _)
    rw [if_neg Bool.false_ne_true]
    exact k F1 H1 S1 x1 fun z => y1 (by rw [Bool.and_eq_true] at z; exact z.1)
  · cases e1
theorem vw_or {rest : List Expr} (h1 : VT X G p e ft) (h2 : VW X G q (.BoolOp .Or (e2 :: rest) pos) gt) : VW X G (p && q) (.BoolOp .Or (e :: e2 :: rest) pos) (fOrB ft gt) := by
  refine ⟨(pw_or h1.pe h2.pw).imp fun σ H Q ⟨F, env, S, c, env', e1, k⟩ => ?_, fun z => by rw [Bool.and_eq_true] at z; exact fOrB_pure (h1.pu z.1) (h2.pu z.2)⟩
  unfold fOrB at e1
  split at e1
  · rename_i env1 q1
    cases e1
    refine ⟨F, env, S, true, env', q1, fun F1 H1 S1 x1 y1 => ?_⟩
    exact (if_pos rfl).mpr (k F1 H1 S1 x1 fun z => y1 (by rw [Bool.and_eq_true] at z; exact z.1))
  · rename_i env1 q1
    refine ⟨F, env, S, false, env1, q1, fun F1 H1 S1 x1 y1 => ?_⟩
    show (if (false : Bool) = true then _ else _)
    rw [if_neg Bool.false_ne_true]
    refine ⟨F1, env1, S1, c, env', e1, fun F2 H2 S2 x2 y2 => k F2 H2 S2 (x1.trans x2) fun z => ?_⟩
    rw [Bool.and_eq_true] at z
    exact (y1 z.1).trans (y2 z.2)
  · cases e1
theorem VW.vt (h : VW X G p e ft) : VT X G p e ft := ⟨h.pw.pt, h.pu⟩

/-! and, or, not as values -/
def fAnd (f g : FE D) : FE D := fun env => match f env with
  | some (.bool true, env1) => g env1
  | some (.bool false, env1) => some (.bool false, env1)
  | _ => none
def fOr (f g : FE D) : FE D := fun env => match f env with
  | some (.bool true, env1) => some (.bool true, env1)
  | some (.bool false, env1) => g env1
  | _ => none
theorem fAnd_pure {f g : FE D} (hf : PureF f) (hg : PureF g) : PureF (fAnd f g) := fun env d env' e => by
  unfold fAnd at e
  split at e
  · rename_i env1 h1
    rw [hg _ _ _ e, hf _ _ _ h1]
  · rename_i env1 h1
    cases e; exact hf _ _ _ h1
  · cases e
theorem fOr_pure {f g : FE D} (hf : PureF f) (hg : PureF g) : PureF (fOr f g) := fun env d env' e => by
  unfold fOr at e
  split at e
  · rename_i env1 h1
    cases e; exact hf _ _ _ h1
  · rename_i env1 h1
    rw [hg _ _ _ e, hf _ _ _ h1]
  · cases e
theorem v_one {op : BoolOp} (h : VJ X G p b nw e f) : VJ X G p b nw (.BoolOp op [e] pos) f := ⟨pe_one h.pe, h.pu⟩
theorem v_and {rest : List Expr} {b1 : Bool} (h1 : VJ X G p b1 ni e f) (h2 : VJ X G q false nw (.BoolOp .And (e2 :: rest) pos) g) : VJ X G (p && q) false nw (.BoolOp .And (e :: e2 :: rest) pos) (fAnd f g) := by
  refine ⟨(pe_and h1.pe h2.pe).imp fun σ H Q ⟨F, env, S, c, env', e1, k⟩ => ?_, fun z => by rw [Bool.and_eq_true] at z; exact fAnd_pure (h1.pu z.1) (h2.pu z.2)⟩
  unfold fAnd at e1
  split at e1
  · rename_i env1 q1
    refine ⟨F, env, S, _, env1, q1, fun F1 H1 v S1 x1 y1 r1 => ⟨true, r1.br.bool, ?_⟩⟩
    refine (if_pos rfl).mpr ⟨F1, env1, S1, c, env', e1, fun F2 H2 v S2 x2 y2 r2 => k F2 H2 v S2 (x1.trans x2) (fun z => ?_) r2⟩
    rw [Bool.and_eq_true] at z
    exact (y1 z.1).trans (y2 z.2)
  · rename_i env1 q1
    cases e1
    refine ⟨F, env, S, _, env', q1, fun F1 H1 v S1 x1 y1 r1 => ⟨false, r1.br.bool, ?_⟩⟩
    show (if (false : Bool) = true then _ else _)
    rw [if_neg Bool.false_ne_true]
    exact k F1 H1 _ S1 x1 (fun z => y1 (by rw [Bool.and_eq_true] at z; exact z.1)) (.bl false)
  · cases e1
theorem v_or {rest : List Expr} {b1 : Bool} (h1 : VJ X G p b1 ni e f) (h2 : VJ X G q false nw (.BoolOp .Or (e2 :: rest) pos) g) : VJ X G (p && q) false nw (.BoolOp .Or (e :: e2 :: rest) pos) (fOr f g) := by
  refine ⟨(pe_or h1.pe h2.pe).imp fun σ H Q ⟨F, env, S, c, env', e1, k⟩ => ?_, fun z => by rw [Bool.and_eq_true] at z; exact fOr_pure (h1.pu z.1) (h2.pu z.2)⟩
  unfold fOr at e1
  split at e1
  · rename_i env1 q1
    cases e1
    refine ⟨F, env, S, _, env', q1, fun F1 H1 v S1 x1 y1 r1 => ⟨true, r1.br.bool, ?_⟩⟩
    exact (if_pos rfl).mpr (k F1 H1 _ S1 x1 (fun z => y1 (by rw [Bool.and_eq_true] at z; exact z.1)) (.bl true))
  · rename_i env1 q1
    refine ⟨F, env, S, _, env1, q1, fun F1 H1 v S1 x1 y1 r1 => ⟨false, r1.br.bool, ?_⟩⟩
    show (if (false : Bool) = true then _ else _)
    rw [if_neg Bool.false_ne_true]
    refine ⟨F1, env1, S1, c, env', e1, fun F2 H2 v S2 x2 y2 r2 => k F2 H2 v S2 (x1.trans x2) (fun z => ?_) r2⟩
    rw [Bool.and_eq_true] at z
    exact (y1 z.1).trans (y2 z.2)
  · cases e1
def notD : D → Option D
  | .bool b => some (.bool (!b))
  | _ => none
theorem v_not {b1 : Bool} (h1 : VJ X G p b1 ni e f) : VJ X G p false nw (.UnaryOp .Not e pos) (fMap f notD) := by
  refine ⟨(pe_not h1.pe).imp fun σ H Q ⟨F, env, S, c, env', e1, k⟩ => ?_, fun z => fMap_pure (h1.pu z)⟩
  obtain ⟨d, h1, h2⟩ := fMap_some e1
  unfold notD at h2
  split at h2
  · cases h2
    exact ⟨F, env, S, _, env', h1, fun F1 H1 v S1 x1 y1 r1 => ⟨_, r1.br.bool, k F1 H1 _ S1 x1 y1 (.bl _)⟩⟩
  · cases h2
def negD : D → Option D
  | .int i => some (.int (-i))
  | _ => none
theorem v_neg {b1 : Bool} (h1 : VJ X G p b1 ni e f) : VJ X G p false nw (.UnaryOp .USub e pos) (fMap f negD) := by
  refine ⟨(pe_un un_neg h1.pe).imp fun σ H Q ⟨F, env, S, c, env', e1, k⟩ => ?_, fun z => fMap_pure (h1.pu z)⟩
  obtain ⟨d, h1, h2⟩ := fMap_some e1
  unfold negD at h2
  split at h2
  · cases h2
    exact ⟨F, env, S, _, env', h1, fun F1 H1 v S1 x1 y1 r1 => ⟨_, r1.br.int, k F1 H1 _ S1 x1 y1 (.int _)⟩⟩
  · cases h2
/-! a if t else b -/
def fIf {α : Type} (t : FE Bool) (f g : FE α) : FE α := fun env => match t env with
  | some (true, env1) => f env1
  | some (false, env1) => g env1
  | none => none
theorem fIf_pure {α : Type} {t : FE Bool} {f g : FE α} (ht : PureF t) (hf : PureF f) (hg : PureF g) : PureF (fIf t f g) := fun env d env' e => by
  unfold fIf at e
  split at e
  · rename_i env1 h1
    rw [hf _ _ _ e, ht _ _ _ h1]
  · rename_i env1 h1
    rw [hg _ _ _ e, ht _ _ _ h1]
  · cases e
theorem v_ifExp {c : Expr} {r : Bool} (hc : VT X G p c ft) (h1 : VJ X G q b nw e f) (h2 : VJ X G r b nw e2 g) : VJ X G (p && (q && r)) b nw (.IfExp c e e2 pos) (fIf ft f g) := by
  refine ⟨(pe_ifExp hc.pe h1.pe h2.pe).imp fun σ H Q ⟨F, env, S, c, env', e1, k⟩ => ?_, fun z => by rw [Bool.and_eq_true, Bool.and_eq_true] at z; exact fIf_pure (hc.pu z.1) (h1.pu z.2.1) (h2.pu z.2.2)⟩
  unfold fIf at e1
  split at e1
  · rename_i env1 q1
    refine ⟨F, env, S, true, env1, q1, fun F1 H1 S1 x1 y1 => ?_⟩
    refine (if_pos rfl).mpr ⟨F1, env1, S1, c, env', e1, fun F2 H2 v S2 x2 y2 r2 => k F2 H2 v S2 (x1.trans x2) (fun z => ?_) r2⟩
    rw [Bool.and_eq_true, Bool.and_eq_true] at z
    exact (y1 z.1).trans (y2 z.2.1)
  · rename_i env1 q1
    refine ⟨F, env, S, false, env1, q1, fun F1 H1 S1 x1 y1 => ?_⟩
    show (if (false : Bool) = true then _ else _)
    rw [if_neg Bool.false_ne_true]
    refine ⟨F1, env1, S1, c, env', e1, fun F2 H2 v S2 x2 y2 r2 => k F2 H2 v S2 (x1.trans x2) (fun z => ?_) r2⟩
    rw [Bool.and_eq_true, Bool.and_eq_true] at z
    exact (y1 z.1).trans (y2 z.2.2)
  · cases e1
/-! a < b < c -/
def fChain (f g h : FE D) (r1 r2 : D → D → Option D) : FE Bool := fun env => match f env with
  | some (a, env1) => match g env1 with
    | some (b, env2) => match r1 a b with
      | some (.bool true) => fMap (fMap h (r2 b)) asB env2
      | some (.bool false) => some (false, env2)
      | _ => none
    | none => none
  | none => none
theorem fChain_pure {f g h : FE D} {r1 r2 : D → D → Option D} (hf : PureF f) (hg : PureF g) (hh : PureF h) : PureF (fChain f g h r1 r2) := fun env d env' e => by
  unfold fChain at e
  split at e
  · rename_i a env1 h1
    split at e
    · rename_i b env2 h2
      split at e
      · rw [fMap_pure (fMap_pure hh) _ _ _ e, hg _ _ _ h2, hf _ _ _ h1]
      · cases e
        rw [hg _ _ _ h2, hf _ _ _ h1]
      · cases e
    · cases e
  · cases e
theorem DR.isB {P : Program} {w : World} {H0 F : Hp} {nw : Bool} {v : V} {b : Bool} (r : DR P w H0 F nw v (.bool b)) : v = .bl b := by
  cases r; rfl
theorem RChain {X : Cx} {G : Gh} {ni : Bool} {ta tb tc : TE} {r r' : R2} {gd gd' : D → D → Option D} {f g h : FE D} {ba bb bc : Bool} {n1 n2 : Bool} (hr : Prim2 X G ni n1 r gd) (hr' : Prim2 X G ni n2 r' gd')
    (ha : ∀ σ H Q, R X G true ba ni f σ H Q → ta σ H Q) (hb : ∀ σ H Q, R X G true bb ni g σ H Q → tb σ H Q) (hc : ∀ σ H Q, R X G true bc ni h σ H Q → tc σ H Q) (pf : PureF f) (pg : PureF g) (ph : PureF h) :
    ∀ σ H Q, RT X G true (fChain f g h gd gd') σ H Q → tTest (tChain r r' ta tb tc) σ H Q := by
  rintro σ H Q ⟨F, env, S, c, env', e1, k⟩
  unfold fChain at e1
  split at e1
  · rename_i a env1 q1
    cases pf _ _ _ q1
    split at e1
    · rename_i b env2 q2
      cases pg _ _ _ q2
      refine ha σ H _ ⟨F, env, S, a, env, q1, fun F1 H1 x S1 x1 y1 r1 => hb σ H1 _ ⟨F1, env, S1, b, env, q2, fun F2 H2 y S2 x2 y2 r2 => ?_⟩⟩
      have rx := BR.ext (y2 rfl) r1.br
      split at e1
      · rename_i q3
        obtain ⟨d3, e3, e4⟩ := fMap_some e1
        obtain ⟨d5, e5, e6⟩ := fMap_some e3
        cases ph _ _ _ e5
        unfold asB at e4
        split at e4
        · cases e4
          refine hr F2 H2 x y a b _ _ S2.sub (fun q z => S2.new0 z) rx r2.br q3 fun F3 H3 z x3 r3 => ⟨true, r3.isB, ?_⟩
          show (if (true : Bool) = true then _ else _)
          rw [if_pos rfl]
          refine hc σ H3 _ ⟨F3, env, S2.ext x3, d5, env, e5, fun F4 H4 w S4 x4 y4 r4 => ?_⟩
          refine hr' F4 H4 y w b d5 _ _ S4.sub (fun q z => S4.new0 z) (BR.ext (y4 rfl) (BR.ext x3 r2.br)) r4.br e6 fun F5 H5 z x5 r5 => ⟨_, r5.isB, ?_⟩
          have y := (y1 rfl).trans ((y2 rfl).trans (x3.trans ((y4 rfl).trans x5)))
          exact k F5 H5 (S.ext y) (y.weak S) fun _ => y
        · cases e4
      · rename_i q3
        cases e1
        refine hr F2 H2 x y a b _ _ S2.sub (fun q z => S2.new0 z) rx r2.br q3 fun F3 H3 z x3 r3 => ⟨false, r3.isB, ?_⟩
        show (if (false : Bool) = true then _ else _)
        rw [if_neg Bool.false_ne_true]
        have y := (y1 rfl).trans ((y2 rfl).trans x3)
        exact ⟨false, rfl, k F3 H3 (S.ext y) (y.weak S) fun _ => y⟩
      · cases e1
    · cases e1
  · cases e1
theorem vt_chain {X : Cx} {G : Gh} {ni : Bool} {e e2 e3 : Expr} {op op' : CmpOp} {r r' : R2} {gd gd' : D → D → Option D} {f g h : FE D} {ba bb bc : Bool} {n1 n2 : Bool} {pos : Pos} (ho : OpR X (compareOp op) r) (hr : Prim2 X G ni n1 r gd) (ho' : OpR X (compareOp op') r') (hr' : Prim2 X G ni n2 r' gd')
    (h1 : VJ X G true ba ni e f) (h2 : VJ X G true bb ni e2 g) (h3 : VJ X G true bc ni e3 h) (hm : lastMarks [op, op'] [e2, e3] = false := by with_unfolding_all rfl) : VT X G true (.Compare e [op, op'] [e2, e3] pos) (fChain f g h gd gd') :=
  ⟨(pt_chain ho ho' h1.pe h2.pe h3.pe hm).imp (RChain hr hr' (fun _ _ _ z => z) (fun _ _ _ z => z) (fun _ _ _ z => z) (h1.pu rfl) (h2.pu rfl) (h3.pu rfl)), fun _ => fChain_pure (h1.pu rfl) (h2.pu rfl) (h3.pu rfl)⟩

/-! ### slices: both ends pure -/
structure VO (X : Cx) (G : Gh) (e : Option Expr) (f : FE (Option Int)) : Prop where
  po : PO X e fun σ H Q => ∃ F env, Sim X G F env σ H ∧ ∃ d env', f env = some (d, env') ∧ ∀ F' H', Sim X G F' env' σ H' → Ext F H F' H' → Q d H'
  pu : PureF f
theorem _root_.L2.PO.imp {X : Cx} {e : Option Expr} {t t' : TO} (h : PO X e t) (i : ∀ σ H Q, t' σ H Q → t σ H Q) : PO X e t' := ⟨fun pins s σ H Q I q => h.run pins s σ H Q I (i _ _ _ q)⟩
def fNoPart : FE (Option Int) := fun env => some (none, env)
def asPart : D → Option (Option Int)
  | .int i => some (some i)
  | _ => none
theorem vo_none {X : Cx} {G : Gh} : VO X G none fNoPart :=
  ⟨po_none.imp fun σ H Q ⟨F, env, S, d, env', e1, k⟩ => by
    cases e1
    exact k F H S (.refl S.sub), fun env d env' z => by cases z; rfl⟩
theorem vo_some {X : Cx} {G : Gh} {e : Expr} {f : FE D} {b ni : Bool} (h : VJ X G true b ni e f) : VO X G (some e) (fMap f asPart) := by
  refine ⟨(po_some h.pe).imp fun σ H Q ⟨F, env, S, d, env', e1, k⟩ => ?_, fMap_pure (h.pu rfl)⟩
  obtain ⟨c, h1, h2⟩ := fMap_some e1
  unfold asPart at h2
  split at h2
  · cases h2
    exact ⟨F, env, S, _, env', h1, fun F1 H1 v S1 x1 y1 r1 => ⟨_, r1.br.int, k F1 H1 S1 (y1 rfl)⟩⟩
  · cases h2
def cutL {α : Type} (xs : List α) (lo hi : Option Int) : List α := (xs.drop (HT.sIx xs.length 0 lo)).take (HT.sIx xs.length xs.length hi - HT.sIx xs.length 0 lo)
def fSlice (f : FE D) (lo hi : FE (Option Int)) : FE D := fun env => match f env with
  | some (.list ds, env1) => match lo env1 with
    | some (l, env2) => match hi env2 with
      | some (u, env3) => some (.list (cutL ds l u), env3)
      | none => none
    | none => none
  | _ => none
theorem fSlice_pure {f : FE D} {lo hi : FE (Option Int)} (h1 : PureF f) (h2 : PureF lo) (h3 : PureF hi) : PureF (fSlice f lo hi) := fun env d env' e => by
  unfold fSlice at e
  split at e
  · rename_i q1
    split at e
    · rename_i q2
      split at e
      · rename_i q3
        cases e
        rw [h3 _ _ _ q3, h2 _ _ _ q2, h1 _ _ _ q1]
      · cases e
    · cases e
  · cases e
theorem DRs.cut {P : Program} {w : World} {H0 F : Hp} {nw : Bool} {vs : List V} {ds : List D} (r : DRs P w H0 F nw vs ds) (lo hi : Option Int) : DRs P w H0 F nw (cutV vs lo hi) (cutL ds lo hi) := by
  unfold cutV cutL
  rw [r.length]
  exact (r.drop _).take _
theorem v_slice {X : Cx} {G : Gh} {e : Expr} {f : FE D} {p b nw : Bool} {lo hi : Option Expr} {fl fh : FE (Option Int)} {pos p2 : Pos} (h1 : VJ X G p b nw e f) (h2 : VO X G lo fl) (h3 : VO X G hi fh) :
    VJ X G p false nw (.Subscript e (.Slice lo hi none p2) pos) (fSlice f fl fh) := by
  refine ⟨(pe_slice sl_list h1.pe h2.po h3.po).imp fun σ H Q ⟨F, env, S, d, env', e1, k⟩ => ?_, fun z => fSlice_pure (h1.pu z) h2.pu h3.pu⟩
  unfold fSlice at e1
  split at e1
  · rename_i ds env1 q1
    split at e1
    · rename_i l env2 q2
      split at e1
      · rename_i u env3 q3
        cases e1
        refine ⟨F, env, S, _, env1, q1, fun F1 H1 v S1 x1 y1 r1 => ⟨F1, env1, S1, l, env2, q2, fun F2 H2 S2 y2 => ⟨F2, env2, S2, u, env', q3, fun F3 H3 S3 y3 => ?_⟩⟩⟩
        obtain ⟨a, xs, rfl, ha, rr⟩ := (BR.ext (y2.trans y3) r1.br).list S3.sub
        refine ⟨a, xs, rfl, .inl (.inl ha), fun p hp => ?_⟩
        have x4 := Ext.updN S3.sub hp (o := .lst (cutV xs l u))
        have y := (y2.trans y3).trans x4
        exact k _ _ _ (S3.ext x4) (x1.trans ⟨y.f, fun q o z => (y.new q o z).imp (fun z => z) fun z => S1.new0 z⟩) (fun z => (y1 z).trans y) (.lst upd_same (fun _ => S3.new0 hp) (DRs.mono x4.f _ _ (rr.cut l u)))
      · cases e1
    · cases e1
  · cases e1
end
end Vl


set_option Elab.async false
set_option linter.all false
set_option autoImplicit false
set_option maxRecDepth 100000
set_option maxHeartbeats 1000000
/-! Layer V, part 4: statements, targets, loops. -/
namespace Vl
open PySem PySem.Spec L2

inductive Out where
  | nx (env : SE)
  | rt (d : D) (env : SE)
  | bk (env : SE)
  | ct (env : SE)
abbrev FS := SE → Option Out

def Done (X : Cx) (G : Gh) (nwr : Bool) (F : Hp) (E : Ends) : Out → Prop
  | .nx env' => ∀ F' σ' H', Sim X G F' env' σ' H' → Ext0 G F F' → E.nx σ' H'
  | .rt d env' => ∀ F' σ' H' v, Sim X G F' env' σ' H' → Ext0 G F F' → DR X.prog X.w G.H0 F' nwr v d → E.rt v H'
  | .bk env' => ∀ F' σ' H', Sim X G F' env' σ' H' → Ext0 G F F' → E.bk σ' H'
  | .ct env' => ∀ F' σ' H', Sim X G F' env' σ' H' → Ext0 G F F' → E.ct σ' H'
def RS (X : Cx) (G : Gh) (nwr : Bool) (f : FS) : TS := fun E σ H => ∃ F env, Sim X G F env σ H ∧ ∃ o, f env = some o ∧ Done X G nwr F E o
structure VS (X : Cx) (G : Gh) (nwr : Bool) (st : Stmt) (f : FS) : Prop where
  ps : PS X st (RS X G nwr f)
structure VB (X : Cx) (G : Gh) (nwr : Bool) (sts : List Stmt) (f : FS) : Prop where
  pss : PSs X sts (RS X G nwr f)
theorem _root_.L2.PS.imp {X : Cx} {e : Stmt} {t t' : TS} (h : PS X e t) (i : ∀ E σ H, t' E σ H → t E σ H) : PS X e t' := ⟨fun pins s σ H E I q => h.run pins s σ H E I (i _ _ _ q)⟩
theorem _root_.L2.PSs.imp {X : Cx} {e : List Stmt} {t t' : TS} (h : PSs X e t) (i : ∀ E σ H, t' E σ H → t E σ H) : PSs X e t' := ⟨fun pins s σ H E I q => h.run pins s σ H E I (i _ _ _ q)⟩
theorem Done.after {X : Cx} {G : Gh} {nwr : Bool} {F F1 : Hp} {E : Ends} {o : Out} (h : Done X G nwr F E o) (x : Ext0 G F F1) : Done X G nwr F1 E o := by
  cases o with
  | nx env' => exact fun F' σ' H' S y => h F' σ' H' S (x.trans y)
  | bk env' => exact fun F' σ' H' S y => h F' σ' H' S (x.trans y)
  | ct env' => exact fun F' σ' H' S y => h F' σ' H' S (x.trans y)
  | rt d env' => exact fun F' σ' H' v S y r => h F' σ' H' v S (x.trans y) r

section
variable {X : Cx} {G : Gh} {p q b nw ni nwr : Bool} {e e2 : Expr} {f g : FE D} {pos : Pos} {ft : FE Bool} {st : Stmt} {sts sts2 : List Stmt} {fs fs2 : FS}

def sNil : FS := fun env => some (.nx env)
def sSeq (f g : FS) : FS := fun env => match f env with
  | some (.nx env1) => g env1
  | o => o
theorem vb_nil : VB X G nwr [] sNil := ⟨pss_nil.imp fun E σ H ⟨F, env, S, o, e1, k⟩ => by
  cases e1
  exact k F σ H S .refl⟩
theorem vb_cons (h1 : VS X G nwr st fs) (h2 : VB X G nwr sts fs2) : VB X G nwr (st :: sts) (sSeq fs fs2) := by
  refine ⟨(pss_cons h1.ps h2.pss).imp fun E σ H ⟨F, env, S, o, e1, k⟩ => ?_⟩
  unfold sSeq at e1
  split at e1
  · rename_i env1 q1
    exact ⟨F, env, S, _, q1, fun F' σ' H' S' x => ⟨F', env1, S', o, e1, k.after x⟩⟩
  · rename_i o' hne
    refine ⟨F, env, S, o, e1, ?_⟩
    cases o with
    | nx env1 => exact absurd e1 (hne env1)
    | rt d env1 => exact k
    | bk env1 => exact k
    | ct env1 => exact k
theorem vb_one (h1 : VS X G nwr st fs) : VB X G nwr [st] fs := ⟨(pss_one h1.ps).imp fun _ _ _ z => z⟩
def sPass : FS := fun env => some (.nx env)
theorem vs_pass : VS X G nwr (.Pass pos) sPass := ⟨ps_pass.imp fun E σ H ⟨F, env, S, o, e1, k⟩ => by
  cases e1
  exact k F σ H S .refl⟩
def sBreak : FS := fun env => some (.bk env)
theorem vs_break : VS X G nwr (.Break pos) sBreak := ⟨ps_break.imp fun E σ H ⟨F, env, S, o, e1, k⟩ => by
  cases e1
  exact k F σ H S .refl⟩
def sCont : FS := fun env => some (.ct env)
theorem vs_cont : VS X G nwr (.Continue pos) sCont := ⟨ps_continue.imp fun E σ H ⟨F, env, S, o, e1, k⟩ => by
  cases e1
  exact k F σ H S .refl⟩
/-- never reached -/
def sNever : FS := fun _ => none
theorem vs_never : VS X G nwr st sNever := ⟨ps_never.imp fun E σ H ⟨F, env, S, o, e1, k⟩ => by cases e1⟩
def sRet (f : FE D) : FS := fun env => match f env with
  | some (d, env1) => some (.rt d env1)
  | none => none
theorem vs_ret (h : VJ X G p false nwr e f) : VS X G nwr (.Return (some e) pos) (sRet f) := by
  refine ⟨(ps_ret h.pe).imp fun E σ H ⟨F, env, S, o, e1, k⟩ => ?_⟩
  unfold sRet at e1
  split at e1
  · rename_i d env1 q1
    cases e1
    exact ⟨F, env, S, d, env1, q1, fun F1 H1 v S1 x1 y1 r1 => k F1 σ H1 v S1 x1 r1⟩
  · cases e1
def sExpr (f : FE D) : FS := fun env => match f env with
  | some (_, env1) => some (.nx env1)
  | none => none
theorem vs_expr (h : VJ X G p b nw e f) (hs : swapsWith e none pos.line X.env = pure false := by rfl) : VS X G nwr (.Expr e pos) (sExpr f) := by
  refine ⟨(ps_expr h.pe hs).imp fun E σ H ⟨F, env, S, o, e1, k⟩ => ?_⟩
  unfold sExpr at e1
  split at e1
  · rename_i d env1 q1
    cases e1
    exact ⟨F, env, S, d, env1, q1, fun F1 H1 v S1 x1 y1 r1 => k F1 σ H1 S1 x1⟩
  · cases e1
def sIf (t : FE Bool) (f g : FS) : FS := fun env => match t env with
  | some (true, env1) => f env1
  | some (false, env1) => g env1
  | none => none
theorem vs_if (hc : VT X G p e ft) (ha : VB X G nwr sts fs) (hb : VB X G nwr sts2 fs2) : VS X G nwr (.If e sts sts2 pos) (sIf ft fs fs2) := by
  refine ⟨(ps_if hc.pe ha.pss hb.pss).imp fun E σ H ⟨F, env, S, o, e1, k⟩ => ?_⟩
  unfold sIf at e1
  split at e1
  · rename_i env1 q1
    refine ⟨F, env, S, true, env1, q1, fun F1 H1 S1 x1 y1 => ?_⟩
    exact (if_pos rfl).mpr ⟨F1, env1, S1, o, e1, k.after x1⟩
  · rename_i env1 q1
    refine ⟨F, env, S, false, env1, q1, fun F1 H1 S1 x1 y1 => ?_⟩
    show (if (false : Bool) = true then _ else _)
    rw [if_neg Bool.false_ne_true]
    exact ⟨F1, env1, S1, o, e1, k.after x1⟩
  · cases e1
end

/-! ### slots are stored -/
section
variable {X : Cx} {G : Gh} {F H : Hp} {env : SE} {σ : L2.St}
theorem Sim.setDat (S : Sim X G F env σ H) {i : Nat} {d : D} {v : V} (hi : i < env.length) (hio : ∀ p ∈ G.io, p.1 ≠ i) (r : DR X.prog X.w G.H0 F (G.at i) v d) : Sim X G F (env.set i (.dat d)) (σ.set i (some v)) H := by
  have his : i < σ.length := by rw [S.len]; exact hi
  refine ⟨by simpa using S.len, S.sub, S.fr, fun j e he => ?_, fun j e he => ?_, fun j k a d' e h1 h2 h3 h4 => ?_, fun p hp => ?_⟩
  · by_cases hj : j = i
    · subst hj
      rw [List.getElem?_set_self hi] at he
      cases he
      exact ⟨v, List.getElem?_set_self his, r⟩
    · rw [List.getElem?_set_ne (Ne.symm hj)] at he
      obtain ⟨u, a1, a2⟩ := S.dat j e he
      exact ⟨u, by rw [List.getElem?_set_ne (Ne.symm hj)]; exact a1, a2⟩
  · by_cases hj : j = i
    · subst hj
      rw [List.getElem?_set_self hi] at he
      cases he
    · rw [List.getElem?_set_ne (Ne.symm hj)] at he
      obtain ⟨a, o, a1, a2⟩ := S.own j e he
      exact ⟨a, o, by rw [List.getElem?_set_ne (Ne.symm hj)]; exact a1, a2⟩
  · have hj : j ≠ i := by
      rintro rfl
      rw [List.getElem?_set_self hi] at h1; cases h1
    have hk : k ≠ i := by
      rintro rfl
      rw [List.getElem?_set_self hi] at h2; cases h2
    rw [List.getElem?_set_ne (Ne.symm hj)] at h1 h3
    rw [List.getElem?_set_ne (Ne.symm hk)] at h2 h4
    exact S.sep j k a d' e h1 h2 h3 h4
  · obtain ⟨h1, d', h2⟩ := S.io p hp
    exact ⟨by rw [List.getElem?_set_ne (Ne.symm (hio p hp))]; exact h1, d', by rw [List.getElem?_set_ne (Ne.symm (hio p hp))]; exact h2⟩
/-- a frozen list that is new and stands in no other slot becomes the slot's own: the new object at p -/
theorem Sim.setOwn (S : Sim X G F env σ H) {i : Nat} {d : D} {p : Addr} {o : HO} (hi : i < env.length) (hio : ∀ p ∈ G.io, p.1 ≠ i) (hp : H p = none) (r : OwnO X.prog X.w G.H0 F (G.at i) p o d) :
    Sim X G F (env.set i (.own d)) (σ.set i (some (.ref p))) (upd H p o) := by
  have his : i < σ.length := by rw [S.len]; exact hi
  have S1 := S.ext (Ext.updH S.sub hp (o := o))
  have other : ∀ j e, j ≠ i → env[j]? = some (.own e) → σ[j]? ≠ some (some (.ref p)) := fun j e hj he z => by
    obtain ⟨a, ob, a1, a2, _⟩ := S.own j e he
    rw [a1] at z; cases z
    rw [hp] at a2; cases a2
  refine ⟨by simpa using S1.len, S1.sub, S1.fr, fun j e he => ?_, fun j e he => ?_, fun j k a d' e h1 h2 h3 h4 => ?_, fun q hq => ?_⟩
  · by_cases hj : j = i
    · subst hj
      rw [List.getElem?_set_self hi] at he
      cases he
    · rw [List.getElem?_set_ne (Ne.symm hj)] at he
      obtain ⟨u, a1, a2⟩ := S1.dat j e he
      exact ⟨u, by rw [List.getElem?_set_ne (Ne.symm hj)]; exact a1, a2⟩
  · by_cases hj : j = i
    · subst hj
      rw [List.getElem?_set_self hi] at he
      cases he
      exact ⟨p, o, List.getElem?_set_self his, upd_same, r, S.sub.gone hp, .inl (S.new0 hp)⟩
    · rw [List.getElem?_set_ne (Ne.symm hj)] at he
      obtain ⟨a, o, a1, a2⟩ := S1.own j e he
      exact ⟨a, o, by rw [List.getElem?_set_ne (Ne.symm hj)]; exact a1, a2⟩
  · by_cases hj : j = i
    · subst hj
      by_cases hk : k = j
      · exact hk.symm
      · rw [List.getElem?_set_ne (Ne.symm hk)] at h2 h4
        rw [List.getElem?_set_self his] at h3
        cases h3
        exact absurd h4 (other k e hk h2)
    · rw [List.getElem?_set_ne (Ne.symm hj)] at h1 h3
      by_cases hk : k = i
      · subst hk
        rw [List.getElem?_set_self his] at h4
        cases h4
        exact absurd h3 (other j d' hj h1)
      · rw [List.getElem?_set_ne (Ne.symm hk)] at h2 h4
        exact S.sep j k a d' e h1 h2 h3 h4
  · obtain ⟨h1, d', h2⟩ := S.io q hq
    exact ⟨by rw [List.getElem?_set_ne (Ne.symm (hio q hq))]; exact h1, d', by rw [List.getElem?_set_ne (Ne.symm (hio q hq))]; exact h2⟩
/-- a slot's own object is changed -/
theorem Sim.write (S : Sim X G F env σ H) {i : Nat} {d d' : D} {a : Addr} {o' : HO} (he : env[i]? = some (.own d)) (hs : σ[i]? = some (some (.ref a))) (r : OwnO X.prog X.w G.H0 F (G.at i) a o' d') :
    Sim X G F (env.set i (.own d')) σ (upd H a o') := by
  have hi : i < env.length := (List.getElem?_eq_some_iff.mp he).1
  obtain ⟨a', o, hs', ho, _, hF, h0⟩ := S.own i d he
  rw [hs] at hs'
  cases hs'
  refine ⟨by simpa using S.len, fun q u e => ?_, fun q u e n => ?_, fun j e hj => ?_, fun j e hj => ?_, fun j k b c e h1 h2 h3 h4 => ?_, fun p hp => ?_⟩
  · rw [upd_ne (by rintro rfl; rw [hF] at e; cases e)]
    exact S.sub q u e
  · rw [upd_ne]
    · exact S.fr q u e n
    · rintro rfl
      rcases h0 with z | z
      · rw [e] at z; cases z
      · exact n z
  · by_cases hji : j = i
    · subst hji
      rw [List.getElem?_set_self hi] at hj
      cases hj
    · rw [List.getElem?_set_ne (Ne.symm hji)] at hj
      exact S.dat j e hj
  · by_cases hji : j = i
    · subst hji
      rw [List.getElem?_set_self hi] at hj
      cases hj
      exact ⟨a, o', hs, upd_same, r, hF, h0⟩
    · rw [List.getElem?_set_ne (Ne.symm hji)] at hj
      obtain ⟨b, ob, b1, b2, b3⟩ := S.own j e hj
      refine ⟨b, ob, b1, ?_, b3⟩
      rw [upd_ne]
      · exact b2
      · rintro rfl
        exact hji (S.sep j i b e d hj he b1 hs)
  · by_cases hj : j = i
    · subst hj
      by_cases hk : k = j
      · exact hk.symm
      · rw [List.getElem?_set_ne (Ne.symm hk)] at h2
        exact S.sep j k b d e he h2 h3 h4
    · rw [List.getElem?_set_ne (Ne.symm hj)] at h1
      by_cases hk : k = i
      · subst hk
        exact S.sep j k b c d h1 he h3 h4
      · rw [List.getElem?_set_ne (Ne.symm hk)] at h2
        exact S.sep j k b c e h1 h2 h3 h4
  · obtain ⟨h1, c, h2⟩ := S.io p hp
    refine ⟨h1, ?_⟩
    by_cases hpi : p.1 = i
    · exact ⟨d', by rw [hpi, List.getElem?_set_self hi]⟩
    · exact ⟨c, by rw [List.getElem?_set_ne (Ne.symm hpi)]; exact h2⟩
end

/-! ### targets -/
abbrev TgF := D → SE → Option SE
/-- slots outside is stand as they stood -/
def SetIn (is : List Nat) (σ σ' : L2.St) : Prop := σ'.length = σ.length ∧ ∀ j, j ∉ is → σ'[j]? = σ[j]?
theorem SetIn.refl {is : List Nat} {σ : L2.St} : SetIn is σ σ := ⟨rfl, fun _ _ => rfl⟩
theorem SetIn.one {i : Nat} {σ : L2.St} {v : Option V} : SetIn [i] σ (σ.set i v) := ⟨by simp, fun j hj => by rw [List.getElem?_set_ne (by rintro rfl; simp at hj)]⟩
theorem SetIn.trans {is js : List Nat} {a b c : L2.St} (h : SetIn is a b) (k : SetIn js b c) : SetIn (is ++ js) a c := ⟨k.1.trans h.1, fun j hj => by
  rw [List.mem_append, not_or] at hj
  exact (k.2 j hj.2).trans (h.2 j hj.1)⟩
def RG (X : Cx) (G : Gh) (nw : Bool) (is : List Nat) (g : TgF) : TG := fun v σ H Q => ∃ F env, Sim X G F env σ H ∧ ∃ d, DR X.prog X.w G.H0 F nw v d ∧ ∃ env', g d env = some env' ∧
  ∀ F' σ' H', Sim X G F' env' σ' H' → Ext F H F' H' → SetIn is σ σ' → Q σ' H'
structure VG (X : Cx) (G : Gh) (nw : Bool) (is : List Nat) (tg : Expr) (g : TgF) : Prop where
  pg : PG X tg (RG X G nw is g)
def RGs (X : Cx) (G : Gh) (nw : Bool) (is : List Nat) (g : List D → SE → Option SE) : TGs := fun vs σ H Q => ∃ F env, Sim X G F env σ H ∧ ∃ ds, DRs X.prog X.w G.H0 F nw vs ds ∧ ∃ env', g ds env = some env' ∧
  ∀ F' σ' H', Sim X G F' env' σ' H' → Ext F H F' H' → SetIn is σ σ' → Q σ' H'
structure VGs (X : Cx) (G : Gh) (nw : Bool) (is : List Nat) (tg : List Expr) (g : List D → SE → Option SE) : Prop where
  pg : PGs X tg (RGs X G nw is g)
theorem _root_.L2.PG.imp {X : Cx} {e : Expr} {t t' : TG} (h : PG X e t) (i : ∀ v σ H Q, t' v σ H Q → t v σ H Q) : PG X e t' := ⟨fun pins s σ H v u Q I r q => h.run pins s σ H v u Q I r (i _ _ _ _ q)⟩
theorem _root_.L2.PGs.imp {X : Cx} {e : List Expr} {t t' : TGs} (h : PGs X e t) (i : ∀ v σ H Q, t' v σ H Q → t v σ H Q) : PGs X e t' := ⟨fun pins s σ H v u Q I r q => h.run pins s σ H v u Q I r (i _ _ _ _ q)⟩
section
variable {X : Cx} {G : Gh} {p q b nw ni nwr : Bool} {e e2 : Expr} {f : FE D} {pos : Pos}
def gSet (i : Nat) : TgF := fun d env => if i < env.length then some (env.set i (.dat d)) else none
theorem vg_name {i : Nat} {x : Str} (hN : X.N.Nodup) (hi : X.N[i]? = some x) (hx : Loc X.env.scope x) (hio : ∀ p ∈ G.io, p.1 ≠ i) (hf : G.at i = true → nw = true) (hfn : X.fn x = true ∨ X.env.scope.names.lookup x = some .local := by first | exact .inl rfl | exact .inr rfl | assumption) :
    VG X G nw [i] (.Name x pos) (gSet i) := by
  refine ⟨(pg_name hN hi hx hfn).imp fun v σ H Q ⟨F, env, S, d, r, env', e1, k⟩ => ?_⟩
  unfold gSet at e1
  split at e1
  · rename_i hl
    cases e1
    exact k F _ H (S.setDat hl hio (r.flag hf)) (.refl S.sub) .one
  · cases e1
/-- what holds no list, whatever it came from -/
def gScal (i : Nat) : TgF := fun d env => if i < env.length ∧ noList d = true then some (env.set i (.dat d)) else none
theorem vg_scal {i : Nat} {x : Str} (hN : X.N.Nodup) (hi : X.N[i]? = some x) (hx : Loc X.env.scope x) (hio : ∀ p ∈ G.io, p.1 ≠ i) (hfn : X.fn x = true ∨ X.env.scope.names.lookup x = some .local := by first | exact .inl rfl | exact .inr rfl | assumption) :
    VG X G nw [i] (.Name x pos) (gScal i) := by
  refine ⟨(pg_name hN hi hx hfn).imp fun v σ H Q ⟨F, env, S, d, r, env', e1, k⟩ => ?_⟩
  unfold gScal at e1
  split at e1
  · rename_i hl
    cases e1
    exact k F _ H (S.setDat hl.1 hio (DR.fresh _ _ hl.2 r)) (.refl S.sub) .one
  · cases e1
def gsNil : List D → SE → Option SE := fun ds env => match ds with
  | [] => some env
  | _ :: _ => none
def gsCons (g : TgF) (h : List D → SE → Option SE) : List D → SE → Option SE := fun ds env => match ds with
  | d :: r => match g d env with
    | some env1 => h r env1
    | none => none
  | [] => none
theorem vgs_nil : VGs X G nw [] [] gsNil := ⟨pgs_nil.imp fun vs σ H Q ⟨F, env, S, ds, r, env', e1, k⟩ => by
  unfold gsNil at e1
  split at e1
  · cases e1
    cases r
    exact ⟨rfl, k F σ H S (.refl S.sub) .refl⟩
  · cases e1⟩
theorem vgs_cons {is js : List Nat} {es : List Expr} {g : TgF} {h : List D → SE → Option SE} (h1 : VG X G nw is e g) (h2 : VGs X G nw js es h)
    (hs : (assignEach (e :: es) X.env).map (·.2) = assign e X.env :: (assignEach es X.env).map (·.2) := by rfl) : VGs X G nw (is ++ js) (e :: es) (gsCons g h) := by
  refine ⟨(pgs_cons h1.pg h2.pg hs).imp fun vs σ H Q ⟨F, env, S, ds, r, env', e1, k⟩ => ?_⟩
  unfold gsCons at e1
  split at e1
  · split at e1
    · rename_i d ds' _ env1 q1
      cases r with
      | cons r1 r2 =>
        refine ⟨_, _, rfl, F, env, S, d, r1, env1, q1, fun F1 σ1 H1 S1 x1 z1 => ⟨F1, env1, S1, ds', DRs.mono x1.f _ _ r2, env', e1, fun F2 σ2 H2 S2 x2 z2 => k F2 σ2 H2 S2 (x1.trans x2) (z1.trans z2)⟩⟩
    · cases e1
  · cases e1
def gUnp (h : List D → SE → Option SE) (n : Nat) : TgF := fun d env => match d with
  | .tuple ds => if ds.length = n then h ds env else none
  | _ => none
theorem vg_tup {is : List Nat} {es : List Expr} {k n : Nat} {h : List D → SE → Option SE} (hc : X.calm = true) (hg : VGs X G nw is es h)
    (hn : (assignEach es X.env).length = n := by rfl) (hst : (assignEach es X.env).findIdx? (·.1) = none := by rfl) : VG X G nw is (.Tuple es k pos) (gUnp h n) := by
  refine ⟨(pg_tup hc hg.pg hn hst).imp fun v σ H Q ⟨F, env, S, d, r, env', e1, k⟩ => ?_⟩
  unfold gUnp at e1
  split at e1
  · split at e1
    · rename_i ds hl
      cases r with
      | tup h1 r1 => exact ⟨_, _, rfl, .inl (.inl (S.sub _ _ h1)), by rw [r1.length]; exact hl, F, env, S, ds, r1, env', e1, k⟩
    · cases e1
  · cases e1
def sAsg (f : FE D) (g : TgF) : FS := fun env => match f env with
  | some (d, env1) => match g d env1 with
    | some env2 => some (.nx env2)
    | none => none
  | none => none
theorem RAsg {is : List Nat} {te : TE} {tg : TG} {g : TgF} (hf : ∀ σ H Q, R X G p false nw f σ H Q → te σ H Q) (hg : ∀ v σ H Q, RG X G nw is g v σ H Q → tg v σ H Q) :
    ∀ E σ H, RS X G nwr (sAsg f g) E σ H → tAsg te tg E σ H := by
  rintro E σ H ⟨F, env, S, o, e1, k⟩
  unfold sAsg at e1
  split at e1
  · rename_i d env1 q1
    split at e1
    · rename_i env2 q2
      cases e1
      refine hf σ H _ ⟨F, env, S, d, env1, q1, fun F1 H1 v S1 x1 y1 r1 => hg v σ H1 _ ⟨F1, env1, S1, d, r1, env2, q2, fun F2 σ2 H2 S2 x2 _ => k F2 σ2 H2 S2 (x1.trans (x2.weak S1))⟩⟩
    · cases e1
  · cases e1
/-- a, b = e -/
theorem vs_asg {is : List Nat} {tg : Expr} {g : TgF} (h1 : VJ X G p false nw e f) (h2 : VG X G nw is tg g) (hs : swapsWithSole [tg] e pos.line X.env = pure false := by rfl) (hw : swappedStores [tg] e X.env = pure none := by rfl)
    (h3 : (assignEach [tg] X.env).map (·.2) = [assign tg X.env] := by rfl) : VS X G nwr (.Assign [tg] e pos) (sAsg f g) :=
  ⟨(ps_asg h1.pe h2.pg hs hw h3).imp (RAsg (fun _ _ _ z => z) fun _ _ _ _ z => z)⟩
/-- x = e -/
theorem vs_set {i : Nat} {x : Str} {pos' : Pos} (hN : X.N.Nodup) (hi : X.N[i]? = some x) (hx : Loc X.env.scope x) (hio : ∀ p ∈ G.io, p.1 ≠ i) (h1 : VJ X G p false nw e f) (hf : G.at i = true → nw = true)
    (hs : swapsWith e (some (.Name x pos')) pos.line X.env = pure false := by rfl) (hfn : X.fn x = true ∨ X.env.scope.names.lookup x = some .local := by first | exact .inl rfl | exact .inr rfl | assumption) :
    VS X G nwr (.Assign [.Name x pos'] e pos) (sAsg f (gSet i)) := by
  refine ⟨(ps_set hN hi hx h1.pe hs hfn).imp (RAsg (is := [i]) (g := gSet i) (fun _ _ _ z => z) fun v σ H Q ⟨F, env, S, d, r, env', e1, k⟩ => ?_)⟩
  unfold gSet at e1
  split at e1
  · rename_i hl
    cases e1
    exact k F _ H (S.setDat hl hio (r.flag hf)) (.refl S.sub) .one
  · cases e1

/-! ### new lists and dicts, not yet frozen -/
def RN (X : Cx) (G : Gh) (p nw : Bool) (f : FE D) : TE := fun σ H Q => ∃ F env, Sim X G F env σ H ∧ ∃ d env', f env = some (d, env') ∧
  ∀ F' H' a o, Sim X G F' env' σ H' → Ext0 G F F' → (p = true → Ext F H F' H') → H' a = none → OwnO X.prog X.w G.H0 F' nw a o d → Q (.ref a) (upd H' a o)
structure VN (X : Cx) (G : Gh) (p nw : Bool) (e : Expr) (f : FE D) : Prop where
  pe : PE X e (RN X G p nw f)
  pu : p = true → PureF f
theorem OwnO.dr {P : Program} {w : World} {H0 F : Hp} {a : Addr} {o : HO} {d : D} (h : OwnO P w H0 F nw a o d) (n : nw = true → H0 a = none) (hF : F a = none) : DR P w H0 (upd F a o) nw (.ref a) d := by
  have sF : Sub F (upd F a o) := Sub.updN hF
  rcases h with ⟨xs, ds, rfl, rfl, r⟩ | ⟨xs, ds, rfl, rfl, r⟩
  · exact .lst upd_same n (DRs.mono sF _ _ r)
  · exact .dct upd_same n (DRk.mono sF _ _ r)
theorem VN.vj (h : VN X G p nw e f) : VJ X G p false nw e f := by
  refine ⟨h.pe.imp fun σ H Q ⟨F, env, S, d, env', e1, k⟩ => ⟨F, env, S, d, env', e1, fun F1 H1 a o S1 x1 y1 ha r1 => ?_⟩, h.pu⟩
  have x2 := Ext.updN S1.sub ha (o := o)
  exact k _ _ _ (S1.ext x2) (x1.trans (x2.weak S1)) (fun z => (y1 z).trans x2) (r1.dr (fun _ => S1.new0 ha) (S1.sub.gone ha))
theorem vn_list {es : List Expr} {g : FE (List D)} (h : VA X G p false nw es g) : VN X G p nw (.List es pos) (fMap g gList) := by
  refine ⟨(pe_lst h.pe).imp fun σ H Q ⟨F, env, S, d, env', e1, k⟩ => ?_, fun z => fMap_pure (h.pu z)⟩
  obtain ⟨ds, h1, h2⟩ := fMap_some e1
  unfold gList at h2
  split at h2
  · rename_i hl
    cases h2
    refine ⟨F, env, S, ds, env', h1, fun F1 H1 vs S1 x1 y1 r1 => ?_⟩
    have rr := pairedDRs r1
    exact ⟨by rw [rr.length]; exact hl, fun p hp => k F1 H1 p _ S1 x1 y1 hp (.inl ⟨vs, ds, rfl, rfl, rr⟩)⟩
  · cases h2
def sOwn (f : FE D) (i : Nat) : FS := fun env => match f env with
  | some (d, env1) => if i < env1.length then some (.nx (env1.set i (.own d))) else none
  | none => none
/-- x = a new list or dict that x owns -/
theorem vs_own {i : Nat} {x : Str} {pos' : Pos} (hN : X.N.Nodup) (hi : X.N[i]? = some x) (hx : Loc X.env.scope x) (hio : ∀ p ∈ G.io, p.1 ≠ i) (h1 : VN X G p nw e f) (hf : G.at i = true → nw = true)
    (hs : swapsWith e (some (.Name x pos')) pos.line X.env = pure false := by rfl) (hfn : X.fn x = true ∨ X.env.scope.names.lookup x = some .local := by first | exact .inl rfl | exact .inr rfl | assumption) :
    VS X G nwr (.Assign [.Name x pos'] e pos) (sOwn f i) := by
  refine ⟨(ps_set hN hi hx h1.pe hs hfn).imp fun E σ H ⟨F, env, S, o, e1, k⟩ => ?_⟩
  unfold sOwn at e1
  split at e1
  · rename_i d env1 q1
    split at e1
    · rename_i hl
      cases e1
      refine ⟨F, env, S, d, env1, q1, fun F1 H1 a o S1 x1 y1 ha r1 => k F1 _ _ (S1.setOwn hl hio ha ?_) x1⟩
      rcases r1 with ⟨xs, ds, rfl, rfl, r⟩ | ⟨xs, ds, rfl, rfl, r⟩
      · exact .inl ⟨xs, ds, rfl, rfl, r.flag hf⟩
      · refine .inr ⟨xs, ds, rfl, rfl, ?_⟩
        cases hg : G.at i with
        | false => exact DRk.old _ _ r
        | true => rw [hf hg] at r; exact r
    · cases e1
  · cases e1

/-! ### loops -/
/-- a walked thing yields ds, turn by turn, while F stands -/
def Yields (X : Cx) (G : Gh) (nw : Bool) (F : Hp) (J : It) (ds : List D) : Prop :=
  ∀ (i : Nat) (F' H : Hp), Sub F F' → Sub F' H → (∀ q, H q = none → G.H0 q = none) → (ds.length = i → J.stop i H) ∧ ∀ d, ds[i]? = some d → J.go i H ∧ ∀ x H', J.yld i H x H' → ∃ F'', Ext F' H F'' H' ∧ DR X.prog X.w G.H0 F'' nw x d
def RI (X : Cx) (G : Gh) (p nw : Bool) (f : FE (List D)) : TI := fun σ H Rr => ∃ F env, Sim X G F env σ H ∧ ∃ ds env', f env = some (ds, env') ∧
  ∀ F' H' J, Sim X G F' env' σ H' → Ext0 G F F' → (p = true → Ext F H F' H') → Yields X G nw F' J ds → Rr J H'
structure VI (X : Cx) (G : Gh) (p nw : Bool) (tg iter : Expr) (f : FE (List D)) : Prop where
  pi : PI X tg iter (RI X G p nw f)
  pu : p = true → PureF f
theorem _root_.L2.PI.imp {X : Cx} {tg e : Expr} {t t' : TI} (h : PI X tg e t) (i : ∀ σ H Q, t' σ H Q → t σ H Q) : PI X tg e t' := ⟨fun pins s σ H Q I q => h.run pins s σ H Q I (i _ _ _ q)⟩
def asL : D → Option (List D)
  | .list ds => some ds
  | _ => none
def asT : D → Option (List D)
  | .tuple ds => some ds
  | _ => none
theorem vi_list {tg : Expr} (h : VJ X G p false nw e f) : VI X G p nw tg e (fMap f asL) := by
  refine ⟨(pi_list h.pe).imp fun σ H Rr ⟨F, env, S, ds, env', e1, k⟩ => ?_, fun z => fMap_pure (h.pu z)⟩
  obtain ⟨d, h1, h2⟩ := fMap_some e1
  unfold asL at h2
  split at h2
  · cases h2
    refine ⟨F, env, S, _, env', h1, fun F1 H1 v S1 x1 y1 r1 => ?_⟩
    cases r1 with
    | @lst a xs _ ha n r =>
      refine ⟨a, rfl, ⟨xs, .inl (.inl (S1.sub _ _ ha))⟩, k F1 H1 _ S1 x1 y1 fun i F' H' s1 s2 _ => ?_⟩
      have hs : SqL X.K H' a xs := .inl (.inl (s2 _ _ (s1 _ _ ha)))
      refine ⟨fun hl => ⟨xs, hs, by rw [r.length]; omega⟩, fun d hd => ?_⟩
      obtain ⟨x, hx, rx⟩ := r.get hd
      refine ⟨⟨xs, x, hs, hx⟩, fun y H2 ⟨e1, e2⟩ => ?_⟩
      subst e1
      have := e2 xs hs
      rw [hx] at this; cases this
      exact ⟨F', .refl s2, DR.mono s1 _ _ rx⟩
  · cases h2
theorem vi_tup {tg : Expr} (h : VJ X G p false nw e f) : VI X G p nw tg e (fMap f asT) := by
  refine ⟨(pi_tup h.pe).imp fun σ H Rr ⟨F, env, S, ds, env', e1, k⟩ => ?_, fun z => fMap_pure (h.pu z)⟩
  obtain ⟨d, h1, h2⟩ := fMap_some e1
  unfold asT at h2
  split at h2
  · cases h2
    refine ⟨F, env, S, _, env', h1, fun F1 H1 v S1 x1 y1 r1 => ?_⟩
    cases r1 with
    | @tup a xs _ ha r =>
      refine ⟨a, rfl, ⟨xs, .inl (.inl (S1.sub _ _ ha))⟩, k F1 H1 _ S1 x1 y1 fun i F' H' s1 s2 _ => ?_⟩
      have hs : SqT X.K H' a xs := .inl (.inl (s2 _ _ (s1 _ _ ha)))
      refine ⟨fun hl => ⟨xs, hs, by rw [r.length]; omega⟩, fun d hd => ?_⟩
      obtain ⟨x, hx, rx⟩ := r.get hd
      refine ⟨⟨xs, x, hs, hx⟩, fun y H2 ⟨e1, e2⟩ => ?_⟩
      subst e1
      have := e2 xs hs
      rw [hx] at this; cases this
      exact ⟨F', .refl s2, DR.mono s1 _ _ rx⟩
  · cases h2
/-- lo, lo + 1, .. -/
def rangeD (lo : Int) (n : Nat) : List D := (List.range n).map fun k => .int (lo + (k : Nat))
theorem yields_range {F : Hp} {lo : Int} {n : Nat} : Yields X G nw F (Itr lo n) (rangeD lo n) := by
  intro i F' H s1 s2 _
  refine ⟨fun hl => ?_, fun d hd => ?_⟩
  · have : (rangeD lo n).length = n := by simp [rangeD]
    show n ≤ i
    omega
  · unfold rangeD at hd
    rw [List.getElem?_map] at hd
    cases hr : (List.range n)[i]? with
    | none => rw [hr] at hd; cases hd
    | some k =>
      rw [hr] at hd
      obtain ⟨h1, h2⟩ := List.getElem?_eq_some_iff.mp hr
      rw [List.getElem_range] at h2
      subst h2
      cases hd
      have hi : i < n := by simpa using h1
      refine ⟨hi, fun x H' ⟨e1, e2⟩ => ?_⟩
      subst e1; subst e2
      exact ⟨F', .refl s2, .int _⟩
def asR1 : List D → Option (List D)
  | [.int n] => if n < 2 ^ 62 ∧ -(2 ^ 62) ≤ n then some (rangeD 0 n.toNat) else none
  | _ => none
def asR2 : List D → Option (List D)
  | [.int a, .int b] => if (-(2 ^ 62) ≤ a ∧ a < 2 ^ 62) ∧ -(2 ^ 62) ≤ b ∧ b < 2 ^ 62 then some (rangeD a (b - a).toNat) else none
  | _ => none
end
end Vl


set_option Elab.async false
set_option linter.all false
set_option autoImplicit false
set_option maxRecDepth 100000
set_option maxHeartbeats 1000000
/-! Layer V, part 5: loops, stores, methods of lists, names stored together. -/
namespace Vl
open PySem PySem.Spec L2

section
variable {X : Cx} {G : Gh} {p q b nw ni nwr : Bool} {e e2 : Expr} {f g : FE D} {pos : Pos} {ft : FE Bool} {st : Stmt} {sts sts2 : List Stmt} {fs fs2 : FS}

theorem vi_range1 {tg a : Expr} {fa : FE (List D)} {ppos : Pos} (hg : Gl X "range") (hm : X.mg "range" = none) (h : VA X G p b ni [a] fa) (hs : starEach [a] X.env = [(false, eval a X.env)] := by rfl) :
    VI X G p nw tg (.Call (.Name "range" ppos) [a] [] pos) (fMap fa asR1) := by
  refine ⟨(pi_range1 hg hm h.pe hs).imp fun σ H Rr ⟨F, env, S, ds, env', e1, k⟩ => ?_, fun z => fMap_pure (h.pu z)⟩
  obtain ⟨d, h1, h2⟩ := fMap_some e1
  unfold asR1 at h2
  split at h2
  · split at h2
    · rename_i n hn
      cases h2
      refine ⟨F, env, S, _, env', h1, fun F1 H1 vs S1 x1 y1 r1 => ?_⟩
      cases r1 with
      | cons r rr =>
        cases rr
        exact ⟨n, by rw [r.br.int], hn.2, hn.1, k F1 H1 _ S1 x1 y1 yields_range⟩
    · cases h2
  · cases h2
theorem vi_range2 {tg a c : Expr} {fa : FE (List D)} {ppos : Pos} (hg : Gl X "range") (hm : X.mg "range" = none) (h : VA X G p b ni [a, c] fa) (hs : starEach [a, c] X.env = [(false, eval a X.env), (false, eval c X.env)] := by rfl) (hs2 : starEach [c] X.env = [(false, eval c X.env)] := by rfl) :
    VI X G p nw tg (.Call (.Name "range" ppos) [a, c] [] pos) (fMap fa asR2) := by
  refine ⟨(pi_range2 hg hm h.pe hs hs2).imp fun σ H Rr ⟨F, env, S, ds, env', e1, k⟩ => ?_, fun z => fMap_pure (h.pu z)⟩
  obtain ⟨d, h1, h2⟩ := fMap_some e1
  unfold asR2 at h2
  split at h2
  · split at h2
    · rename_i n m hn
      cases h2
      refine ⟨F, env, S, _, env', h1, fun F1 H1 vs S1 x1 y1 r1 => ?_⟩
      cases r1 with
      | cons r rr =>
        cases rr with
        | cons r' rr =>
          cases rr
          exact ⟨n, m, by rw [r.br.int, r'.br.int], ⟨hn.1.1, hn.1.2, hn.2.1, hn.2.2⟩, k F1 H1 _ S1 x1 y1 yields_range⟩
    · cases h2
  · cases h2

/-! ### for, while -/
def loopD (g : TgF) (bd : FS) : List D → FS
  | [], env => some (.nx env)
  | d :: ds, env => match g d env with
    | none => none
    | some env1 => match bd env1 with
      | some (.nx env2) => loopD g bd ds env2
      | some (.ct env2) => loopD g bd ds env2
      | some (.bk env2) => some (.nx env2)
      | some (.rt d' env2) => some (.rt d' env2)
      | none => none
def sFor (fi : FE (List D)) (g : TgF) (bd : FS) : FS := fun env => match fi env with
  | some (ds, env1) => loopD g bd ds env1
  | none => none
theorem vs_for {is : List Nat} {tg iter : Expr} {fi : FE (List D)} {g : TgF} (hp : PassesOwn (model X.prog X.w) X.A X.env X.xe) (hc : X.calm = true) (hi : VI X G p nw tg iter fi) (hg : VG X G nw is tg g) (hb : VB X G nwr sts fs)
    (hs : ∀ x, foldedSetIterable iter X.env x = pure x := by intro _; rfl) : VS X G nwr (.For tg iter sts [] pos) (sFor fi g fs) := by
  refine ⟨(ps_for hp hc hi.pi hg.pg hb.pss hs).imp fun E σ H ⟨F, env, S, o, e1, k⟩ => ?_⟩
  unfold sFor at e1
  split at e1
  · rename_i ds env1 q1
    refine ⟨F, env, S, ds, env1, q1, fun F1 H1 J S1 x1 y1 yl => ?_⟩
    refine ⟨fun i m σ' H' => ∃ F' env', Sim X G F' env' σ' H' ∧ Ext0 G F1 F' ∧ m = ds.length - i ∧ i ≤ ds.length ∧ loopD g fs (ds.drop i) env' = some o,
      ⟨ds.length, F1, env1, S1, .refl, by omega, by omega, by simpa using e1⟩, ?_⟩
    rintro i m σ' H' ⟨F', env', S', x', hm, hi', e'⟩
    obtain ⟨ys, yg⟩ := yl i F' H' x'.f S'.sub fun q z => S'.new0 z
    by_cases hil : ds.length = i
    · left
      refine ⟨ys hil, ?_⟩
      rw [← hil, List.drop_length] at e'
      unfold loopD at e'
      cases e'
      exact k F' σ' H' S' (x1.trans x')
    · right
      have hlt : i < ds.length := by omega
      have hd : ds[i]? = some ds[i] := List.getElem?_eq_getElem hlt
      obtain ⟨go, yd⟩ := yg _ hd
      refine ⟨go, fun σ2 H2 => ∃ F2 env2, Sim X G F2 env2 σ2 H2 ∧ Ext0 G F1 F2 ∧ loopD g fs (ds.drop (i + 1)) env2 = some o, fun σ2 H2 ⟨F2, env2, S2, x2, e2⟩ => ⟨ds.length - (i + 1), by omega, F2, env2, S2, x2, rfl, by omega, e2⟩, fun x H2 hy => ?_⟩
      obtain ⟨F2, x2, r2⟩ := yd x H2 hy
      rw [List.drop_eq_getElem_cons hlt] at e'
      unfold loopD at e'
      split at e'
      · cases e'
      · rename_i env3 q3
        have S2 := S'.ext x2
        have x02 := x'.trans (x2.weak S')
        refine ⟨F2, env', S2, _, r2, env3, q3, fun F3 σ3 H3 S3 x3 _ => ?_⟩
        have x03 := x02.trans (x3.weak S2)
        split at e'
        · rename_i env4 q4
          exact ⟨F3, env3, S3, _, q4, fun F4 σ4 H4 S4 x4 => ⟨F4, env4, S4, x03.trans x4, e'⟩⟩
        · rename_i env4 q4
          exact ⟨F3, env3, S3, _, q4, fun F4 σ4 H4 S4 x4 => ⟨F4, env4, S4, x03.trans x4, e'⟩⟩
        · rename_i env4 q4
          cases e'
          exact ⟨F3, env3, S3, _, q4, fun F4 σ4 H4 S4 x4 => k F4 σ4 H4 S4 (x1.trans (x03.trans x4))⟩
        · rename_i d' env4 q4
          cases e'
          exact ⟨F3, env3, S3, _, q4, fun F4 σ4 H4 v S4 x4 r4 => k F4 σ4 H4 v S4 (x1.trans (x03.trans x4)) r4⟩
        · cases e'
  · cases e1
def whileD (t : FE Bool) (bd : FS) : Nat → FS
  | 0, _ => none
  | n + 1, env => match t env with
    | some (false, env1) => some (.nx env1)
    | some (true, env1) => match bd env1 with
      | some (.nx env2) => whileD t bd n env2
      | some (.ct env2) => whileD t bd n env2
      | some (.bk env2) => some (.nx env2)
      | some (.rt d' env2) => some (.rt d' env2)
      | none => none
    | none => none
theorem vs_while {n : Nat} (hp : PassesOwn (model X.prog X.w) X.A X.env X.xe) (hc : VT X G p e ft) (hb : VB X G nwr sts fs) : VS X G nwr (.While e sts [] pos) (whileD ft fs n) := by
  refine ⟨(ps_while hp hc.pe hb.pss).imp fun E σ H ⟨F, env, S, o, e1, k⟩ => ?_⟩
  refine ⟨fun m σ' H' => ∃ F' env', Sim X G F' env' σ' H' ∧ Ext0 G F F' ∧ whileD ft fs m env' = some o, ⟨n, F, env, S, .refl, e1⟩, ?_⟩
  rintro m σ' H' ⟨F', env', S', x', e'⟩
  cases m with
  | zero => cases e'
  | succ m =>
    unfold whileD at e'
    split at e'
    · rename_i env1 q1
      cases e'
      refine ⟨F', env', S', false, env1, q1, fun F1 H1 S1 x1 y1 => ?_⟩
      show (if (false : Bool) = true then _ else _)
      rw [if_neg Bool.false_ne_true]
      exact k F1 σ' H1 S1 (x'.trans x1)
    · rename_i env1 q1
      refine ⟨F', env', S', true, env1, q1, fun F1 H1 S1 x1 y1 => ?_⟩
      refine (if_pos rfl).mpr ⟨fun σ2 H2 => ∃ F2 env2, Sim X G F2 env2 σ2 H2 ∧ Ext0 G F F2 ∧ whileD ft fs m env2 = some o, fun σ2 H2 h2 => ⟨m, by omega, h2⟩, ?_⟩
      have x01 := x'.trans x1
      split at e'
      · rename_i env4 q4
        exact ⟨F1, env1, S1, _, q4, fun F4 σ4 H4 S4 x4 => ⟨F4, env4, S4, x01.trans x4, e'⟩⟩
      · rename_i env4 q4
        exact ⟨F1, env1, S1, _, q4, fun F4 σ4 H4 S4 x4 => ⟨F4, env4, S4, x01.trans x4, e'⟩⟩
      · rename_i env4 q4
        cases e'
        exact ⟨F1, env1, S1, _, q4, fun F4 σ4 H4 S4 x4 => k F4 σ4 H4 S4 (x01.trans x4)⟩
      · rename_i d' env4 q4
        cases e'
        exact ⟨F1, env1, S1, _, q4, fun F4 σ4 H4 v S4 x4 r4 => k F4 σ4 H4 v S4 (x01.trans x4) r4⟩
      · cases e'
    · cases e'

/-! ### x += e of ints -/
def sAugAdd (i : Nat) (f : FE D) : FS := fun env => match env[i]? with
  | some (.dat (.int a)) => match f env with
    | some (.int c, env1) => if i < env1.length then some (.nx (env1.set i (.dat (.int (a + c))))) else none
    | _ => none
  | _ => none
theorem vs_aug {i : Nat} {x : Str} {pos' : Pos} (hN : X.N.Nodup) (hi : X.N[i]? = some x) (hx : Loc X.env.scope x) (hio : ∀ p ∈ G.io, p.1 ≠ i) (h1 : VJ X G p b ni e f)
    (hfn : X.fn x = true ∨ X.env.scope.names.lookup x = some .local := by first | exact .inl rfl | exact .inr rfl | assumption) : VS X G nwr (.AugAssign (.Name x pos') .Add e pos) (sAugAdd i f) := by
  refine ⟨(ps_aug hN hi hx h1.pe ip_add hfn).imp fun E σ H ⟨F, env, S, o, e1, k⟩ => ?_⟩
  unfold sAugAdd at e1
  split at e1
  · rename_i a q0
    split at e1
    · rename_i c env1 q1
      split at e1
      · rename_i hl
        cases e1
        obtain ⟨v, hv, r⟩ := S.dat i _ q0
        cases r
        refine ⟨.int a, hv, F, env, S, _, env1, q1, fun F1 H1 v S1 x1 y1 r1 => ⟨a, c, rfl, r1.br.int, ?_⟩⟩
        exact k F1 _ H1 (S1.setDat hl hio (.int _)) x1
      · cases e1
    · cases e1
  · cases e1

/-! ### a slot's own list changed -/
def sSub (i : Nat) (f : FE D) (gi : FE D) : FS := fun env => match f env with
  | some (d, env1) => match gi env1 with
    | some (.int k, env2) => match env2[i]? with
      | some (.own (.list ds)) => match ixN ds.length k with
        | some j => some (.nx (env2.set i (.own (.list (ds.set j d)))))
        | none => none
      | _ => none
    | _ => none
  | none => none
/-- x[i] = e, x a slot's own list -/
theorem vs_sub {i : Nat} {x : Str} {pos1 pos2 : Pos} (hN : X.N[i]? = some x) (hv : Vis X.env.scope x) (h1 : VJ X G p false ni e f) (h2 : VJ X G true b nw e2 g) (hf : G.at i = true → ni = true)
    (ha : ∀ v, assign (.Subscript (.Name x pos1) e2 pos2) X.env v = (do
      let ov ← holding [v] (eval (.Name x pos1) X.env)
      let iv ← holding [v, ov] (eval e2 X.env)
      standAt pos2
      holding [v, ov, iv] (setItem ov iv v)
      release [v, ov, iv] []) := by intro _; rfl)
    (hs : swapsWithSole [.Subscript (.Name x pos1) e2 pos2] e pos.line X.env = pure false := by rfl) (hw : swappedStores [.Subscript (.Name x pos1) e2 pos2] e X.env = pure none := by rfl)
    (h3 : (assignEach [.Subscript (.Name x pos1) e2 pos2] X.env).map (·.2) = [assign (.Subscript (.Name x pos1) e2 pos2) X.env] := by rfl)
    (hd : (x == ("__debug__" : Str)) = false := by decide) (hcd : (x == ("__classdict__" : Str)) = false := by decide) :
    VS X G nwr (.Assign [.Subscript (.Name x pos1) e2 pos2] e pos) (sSub i f g) := by
  refine ⟨(ps_asg h1.pe (pg_sub (pe_var (i := i) hN hv hd hcd) h2.pe set_list ha) hs hw h3).imp fun E σ H ⟨F, env, S, o, e1, k⟩ => ?_⟩
  unfold sSub at e1
  split at e1
  · rename_i d env1 q1
    split at e1
    · rename_i n env2 q2
      split at e1
      · rename_i ds q3
        split at e1
        · rename_i j q4
          cases e1
          cases h2.pu rfl _ _ _ q2
          refine ⟨F, env, S, d, env1, q1, fun F1 H1 v S1 x1 y1 r1 => ?_⟩
          obtain ⟨a, o, hs, ho, rr, hF, h0⟩ := S1.own i _ q3
          refine ⟨.ref a, hs, F1, env1, S1, _, env1, q2, fun F2 H2 u S2 x2 y2 r2 => ?_⟩
          have yy := y2 rfl
          rcases rr with ⟨xs, es, ee, rfl, rr⟩ | ⟨_, _, ee, _⟩
          · cases ee
            refine ⟨a, xs, n, j, rfl, r2.br.int, yy.h _ _ ho, by rw [rr.length]; exact q4, ?_⟩
            refine k F2 σ _ (S2.write q3 hs (.inl ⟨_, _, rfl, rfl, ?_⟩)) (x1.trans x2)
            exact (DRs.mono x2.f _ _ rr).set j (DR.mono x2.f _ _ (r1.flag hf))
          · cases ee
        · cases e1
      · cases e1
    · cases e1
  · cases e1

def isOwnL (i : Nat) (env : SE) : Bool := match env[i]? with
  | some (.own (.list _)) => true
  | _ => false
/-- the slot's own list is changed by c, behind f's value -/
def sMeth {α : Type} (i : Nat) (f : FE α) (c : α → List D → Option (List D)) : FS := fun env => if isOwnL i env = true then match f env with
  | some (d, env1) => match env1[i]? with
    | some (.own (.list ds)) => match c d ds with
      | some es => some (.nx (env1.set i (.own (.list es))))
      | none => none
    | _ => none
  | none => none else none
def cAppend (d : D) (ds : List D) : Option (List D) := if ds.length < sizeLine then some (ds ++ [d]) else none
def cInsert (as : List D) (ds : List D) : Option (List D) := match as with
  | [.int i, d] => if ds.length < sizeLine ∧ 0 ≤ i ∧ i < 2 ^ 63 then some (ds.take i.toNat ++ [d] ++ ds.drop i.toNat) else none
  | _ => none
theorem Sim.isOwnL {X : Cx} {G : Gh} {F H : Hp} {env : SE} {σ : L2.St} {i : Nat} (S : Sim X G F env σ H) (h : isOwnL i env = true) : ∃ a, σ[i]? = some (some (.ref a)) ∧ ∃ xs, SqL X.K H a xs := by
  unfold Vl.isOwnL at h
  split at h
  · rename_i ds q
    obtain ⟨a, o, hs, ho, rr, hF, h0⟩ := S.own i _ q
    rcases rr with ⟨xs, es, ee, rfl, rr⟩ | ⟨_, _, ee, _⟩
    · exact ⟨a, hs, xs, .inl (.inl ho)⟩
    · cases ee
  · cases h
/-- the argument list of one -/
theorem one_arg {fa : FE (List D)} {env env' : SE} {ds : List D} (h : fCons f fNil env = some (ds, env')) : ∃ d, f env = some (d, env') ∧ ds = [d] := by
  obtain ⟨d, env1, ds', h1, h2, rfl⟩ := fCons_some h
  cases h2
  exact ⟨d, h1, rfl⟩
end
end Vl


set_option Elab.async false
set_option linter.all false
set_option autoImplicit false
set_option maxRecDepth 100000
set_option maxHeartbeats 1000000
/-! Layer V, part 6: append, insert, pop; names stored together. -/
namespace Vl
open PySem PySem.Spec L2

section
variable {X : Cx} {G : Gh} {p q b nw ni nwr : Bool} {e e2 : Expr} {f g : FE D} {pos cpos apos : Pos}

/-- x.append(e), x a slot's own list -/
theorem vs_append {i : Nat} {x : Str} {pos1 : Pos} (hN : X.N[i]? = some x) (hv : Vis X.env.scope x) (h1 : VJ X G p false ni e f) (hf : G.at i = true → ni = true)
    (hs : swapsWith (.Call (.Attribute (.Name x pos1) "append" apos) [e] [] cpos) none pos.line X.env = pure false := by rfl)
    (hbase : attributeBase (.Name x pos1) "append" X.env (eval (.Name x pos1) X.env) = eval (.Name x pos1) X.env := by rfl)
    (hfew : ((backTo cpos (starEach [e] X.env)).all (fun x => !x.1) && (backToKw cpos (keywordEach [] X.env)).all (fun x => x.1.isSome)
      && decide (([e] : List Expr).length + ([] : List Keyword).length + (if ([] : List Keyword).isEmpty then 0 else 1) < 30)) = true := by rfl)
    (hline : (apos.endLine == cpos.line) = true := by rfl) (hse : starEach [e] X.env = (false, eval e X.env) :: starEach [] X.env := by rfl) (hplain : (backTo cpos (starEach [] X.env)).any (·.1) = false := by rfl)
    (hd : (x == ("__debug__" : Str)) = false := by decide) (hcd : (x == ("__classdict__" : Str)) = false := by decide) :
    VS X G nwr (.Expr (.Call (.Attribute (.Name x pos1) "append" apos) [e] [] cpos) pos) (sMeth i f cAppend) := by
  refine ⟨(ps_expr (pe_bm PySem.F.plainAttrs_list PySem.F.slot_list_append PySem.F.type_list_append mt_append (pe_var (i := i) hN hv hd hcd) (pa_cons h1.pe pa_nil hse) hbase hfew hline hse hplain) hs).imp fun E σ H ⟨F, env, S, o, e1, k⟩ => ?_⟩
  unfold sMeth at e1
  split at e1
  · rename_i ho
    obtain ⟨a, hs, xs0, hx0⟩ := S.isOwnL ho
    split at e1
    · rename_i d env1 q1
      split at e1
      · rename_i ds q2
        split at e1
        · rename_i es q3
          cases e1
          unfold cAppend at q3
          split at q3
          · rename_i hl
            cases q3
            refine ⟨.ref a, hs, .inl ⟨rfl, xs0, hx0⟩, F, env, S, d, env1, q1, fun F1 H1 v S1 x1 y1 r1 => ?_⟩
            obtain ⟨a', o, hs', ho, rr, hF, h0⟩ := S1.own i _ q2
            rw [hs] at hs'; cases hs'
            rcases rr with ⟨xs, es, ee, rfl, rr⟩ | ⟨_, _, ee, _⟩
            · cases ee
              refine ⟨a, xs, v, rfl, rfl, ho, by rw [rr.length]; exact hl, ?_⟩
              exact k F1 σ _ (S1.write q2 hs (.inl ⟨_, _, rfl, rfl, rr.append (DRs.one (r1.flag hf))⟩)) x1
            · cases ee
          · cases q3
        · cases e1
      · cases e1
    · cases e1
  · cases e1
/-- x.insert(i, e), x a slot's own list -/
theorem vs_insert {i : Nat} {x : Str} {pos1 : Pos} {fa : FE (List D)} (hN : X.N[i]? = some x) (hv : Vis X.env.scope x) (h1 : VA X G p false ni [e, e2] fa) (hf : G.at i = true → ni = true)
    (hs : swapsWith (.Call (.Attribute (.Name x pos1) "insert" apos) [e, e2] [] cpos) none pos.line X.env = pure false := by rfl)
    (hbase : attributeBase (.Name x pos1) "insert" X.env (eval (.Name x pos1) X.env) = eval (.Name x pos1) X.env := by rfl)
    (hfew : ((backTo cpos (starEach [e, e2] X.env)).all (fun x => !x.1) && (backToKw cpos (keywordEach [] X.env)).all (fun x => x.1.isSome)
      && decide (([e, e2] : List Expr).length + ([] : List Keyword).length + (if ([] : List Keyword).isEmpty then 0 else 1) < 30)) = true := by rfl)
    (hline : (apos.endLine == cpos.line) = true := by rfl) (hse : starEach [e, e2] X.env = (false, eval e X.env) :: starEach [e2] X.env := by rfl) (hplain : (backTo cpos (starEach [e2] X.env)).any (·.1) = false := by rfl)
    (hd : (x == ("__debug__" : Str)) = false := by decide) (hcd : (x == ("__classdict__" : Str)) = false := by decide) :
    VS X G nwr (.Expr (.Call (.Attribute (.Name x pos1) "insert" apos) [e, e2] [] cpos) pos) (sMeth i fa cInsert) := by
  refine ⟨(ps_expr (pe_bm PySem.F.plainAttrs_list PySem.F.slot_list_insert PySem.F.type_list_insert mt_insert (pe_var (i := i) hN hv hd hcd) h1.pe hbase hfew hline hse hplain) hs).imp fun E σ H ⟨F, env, S, o, e1, k⟩ => ?_⟩
  unfold sMeth at e1
  split at e1
  · rename_i ho
    obtain ⟨a, hs, xs0, hx0⟩ := S.isOwnL ho
    split at e1
    · rename_i as env1 q1
      split at e1
      · rename_i ds q2
        split at e1
        · rename_i es q3
          cases e1
          unfold cInsert at q3
          split at q3
          · split at q3
            · rename_i n d hl
              cases q3
              refine ⟨.ref a, hs, .inl ⟨rfl, xs0, hx0⟩, F, env, S, _, env1, q1, fun F1 H1 vs S1 x1 y1 r1 => ?_⟩
              obtain ⟨a', o, hs', ho, rr, hF, h0⟩ := S1.own i _ q2
              rw [hs] at hs'; cases hs'
              have r2 := pairedDRs r1
              cases r2 with
              | cons ra rb =>
                cases rb with
                | cons rb rc =>
                  cases rc
                  cases ra
                  rcases rr with ⟨xs, es, ee, rfl, rr⟩ | ⟨_, _, ee, _⟩
                  · cases ee
                    refine ⟨a, xs, n, _, rfl, rfl, ho, by rw [rr.length]; exact hl.1, hl.2.1, hl.2.2, ?_⟩
                    exact k F1 σ _ (S1.write q2 hs (.inl ⟨_, _, rfl, rfl, ((rr.take _).append (DRs.one (rb.flag hf))).append (rr.drop _)⟩)) x1
                  · cases ee
            · cases q3
          · cases q3
        · cases e1
      · cases e1
    · cases e1
  · cases e1
/-- x.pop() -/
def fPop (i : Nat) : FE D := fun env => match env[i]? with
  | some (.own (.list ds)) => match ds[ds.length - 1]? with
    | some d => some (d, env.set i (.own (.list ds.dropLast)))
    | none => none
  | _ => none
theorem DRs.dropLast {P : Program} {w : World} {H0 F : Hp} {vs : List V} {ds : List D} (r : DRs P w H0 F nw vs ds) : DRs P w H0 F nw vs.dropLast ds.dropLast := by
  rw [List.dropLast_eq_take, List.dropLast_eq_take, r.length]
  exact r.take _
theorem v_pop {i : Nat} {x : Str} {pos1 : Pos} (hN : X.N[i]? = some x) (hv : Vis X.env.scope x)
    (hbase : attributeBase (.Name x pos1) "pop" X.env (eval (.Name x pos1) X.env) = eval (.Name x pos1) X.env := by rfl)
    (hline : (apos.endLine == cpos.line) = true := by rfl)
    (hd : (x == ("__debug__" : Str)) = false := by decide) (hcd : (x == ("__classdict__" : Str)) = false := by decide) :
    VJ X G false false (G.at i) (.Call (.Attribute (.Name x pos1) "pop" apos) [] [] cpos) (fPop i) := by
  refine ⟨(pe_bm0 PySem.F.plainAttrs_list PySem.F.slot_list_pop PySem.F.type_list_pop mt_pop (pe_var (i := i) hN hv hd hcd) hbase hline).imp fun σ H Q ⟨F, env, S, d, env', e1, k⟩ => ?_, fun z => nomatch z⟩
  unfold fPop at e1
  split at e1
  · rename_i ds q1
    split at e1
    · rename_i d' q2
      cases e1
      obtain ⟨a, o, hs, ho, rr, hF, h0⟩ := S.own i _ q1
      rcases rr with ⟨xs, es, ee, rfl, rr⟩ | ⟨_, _, ee, _⟩
      · cases ee
        obtain ⟨v, hv, rv⟩ := rr.get q2
        refine ⟨.ref a, hs, .inl ⟨rfl, xs, .inl (.inl ho)⟩, a, xs, v, rfl, rfl, ho, by rw [rr.length]; exact hv, ?_⟩
        exact k F _ v (S.write q1 hs (.inl ⟨_, _, rfl, rfl, rr.dropLast⟩)) .refl (fun z => nomatch z) rv
      · cases ee
    · cases e1
  · cases e1

/-! ### names stored together -/
/-- a value on its way to a slot: frozen, or a new object that is to be owned -/
def KR (X : Cx) (G : Gh) (env : SE) (σ : L2.St) (F H : Hp) (nw : Bool) : Bool → V → D → Prop
  | false, v, d => DR X.prog X.w G.H0 F nw v d
  | true, v, d => ∃ a o, v = .ref a ∧ H a = some o ∧ OwnO X.prog X.w G.H0 F nw a o d ∧ F a = none ∧ G.H0 a = none ∧ ∀ (j : Nat) (e : D), env[j]? = some (.own e) → σ[j]? ≠ some (some (.ref a))
def RK (X : Cx) (G : Gh) (p k nw : Bool) (f : FE D) : TE := fun σ H Q => ∃ F env, Sim X G F env σ H ∧ ∃ d env', f env = some (d, env') ∧
  ∀ F' H' v, Sim X G F' env' σ H' → Ext0 G F F' → (p = true → Ext F H F' H') → KR X G env' σ F' H' nw k v d → (p = true → k = true → ∀ a, v = .ref a → H a = none) → Q v H'
structure VK1 (X : Cx) (G : Gh) (p k nw : Bool) (e : Expr) (f : FE D) : Prop where
  pe : PE X e (RK X G p k nw f)
  pu : p = true → PureF f
theorem VJ.k (h : VJ X G p false nw e f) : VK1 X G p false nw e f := ⟨h.pe.imp fun σ H Q ⟨F, env, S, d, env', e1, k⟩ => ⟨F, env, S, d, env', e1, fun F1 H1 v S1 x1 y1 r1 => k F1 H1 v S1 x1 y1 r1 fun _ z => nomatch z⟩, h.pu⟩
theorem VN.k (h : VN X G p nw e f) : VK1 X G p true nw e f := by
  refine ⟨h.pe.imp fun σ H Q ⟨F, env, S, d, env', e1, k⟩ => ⟨F, env, S, d, env', e1, fun F1 H1 a o S1 x1 y1 ha r1 => ?_⟩, h.pu⟩
  have x2 := Ext.updH S1.sub ha (o := o)
  refine k F1 _ _ (S1.ext x2) x1 (fun z => (y1 z).trans x2) ⟨a, o, rfl, upd_same, r1, S1.sub.gone ha, S1.new0 ha, fun j e he z => ?_⟩ (fun hp _ b z => by cases z; exact (y1 hp).h.gone ha)
  obtain ⟨b, ob, b1, b2, _⟩ := S1.own j e he
  rw [b1] at z; cases z
  rw [ha] at b2; cases b2
theorem KR.ext {env : SE} {σ : L2.St} {F H F' H' : Hp} {k : Bool} {v : V} {d : D} (h : KR X G env σ F H nw k v d) (x : Ext F H F' H') : KR X G env σ F' H' nw k v d := by
  cases k with
  | false => exact DR.mono x.f _ _ h
  | true =>
    obtain ⟨a, o, e1, e2, e3, e4, e5, e6⟩ := h
    refine ⟨a, o, e1, x.h _ _ e2, e3.mono x.f, ?_, e5, e6⟩
    cases q : F' a with
    | none => rfl
    | some u =>
      rcases x.new a u q with z | z
      · rw [e4] at z; cases z
      · rw [e2] at z; cases z
def kSlot (k : Bool) (d : D) : Slot := if k = true then .own d else .dat d
/-- one name stored -/
theorem Sim.setK {F H : Hp} {env : SE} {σ : L2.St} {k : Bool} {v : V} {d : D} {i : Nat} (S : Sim X G F env σ H) (h : KR X G env σ F H nw k v d) (hi : i < env.length) (hio : ∀ p ∈ G.io, p.1 ≠ i) (hf : G.at i = true → nw = true) :
    Sim X G F (env.set i (kSlot k d)) (σ.set i (some v)) H := by
  cases k with
  | false => exact S.setDat hi hio (DR.flag hf h)
  | true =>
    obtain ⟨p, o, rfl, hp, r, hF, h0, other⟩ := h
    have his : i < σ.length := by rw [S.len]; exact hi
    show Sim X G F (env.set i (.own d)) (σ.set i (some (.ref p))) H
    refine ⟨by simpa using S.len, S.sub, S.fr, fun j e he => ?_, fun j e he => ?_, fun j k a d' e h1 h2 h3 h4 => ?_, fun q hq => ?_⟩
    · by_cases hj : j = i
      · subst hj
        rw [List.getElem?_set_self hi] at he
        cases he
      · rw [List.getElem?_set_ne (Ne.symm hj)] at he
        obtain ⟨u, a1, a2⟩ := S.dat j e he
        exact ⟨u, by rw [List.getElem?_set_ne (Ne.symm hj)]; exact a1, a2⟩
    · by_cases hj : j = i
      · subst hj
        rw [List.getElem?_set_self hi] at he
        cases he
        refine ⟨p, o, List.getElem?_set_self his, hp, ?_, hF, .inl h0⟩
        rcases r with ⟨xs, ds, rfl, rfl, r⟩ | ⟨xs, ds, rfl, rfl, r⟩
        · exact .inl ⟨xs, ds, rfl, rfl, r.flag hf⟩
        · refine .inr ⟨xs, ds, rfl, rfl, ?_⟩
          cases hg : G.at j with
          | false => exact DRk.old _ _ r
          | true => rw [hf hg] at r; exact r
      · rw [List.getElem?_set_ne (Ne.symm hj)] at he
        obtain ⟨a, o, a1, a2⟩ := S.own j e he
        exact ⟨a, o, by rw [List.getElem?_set_ne (Ne.symm hj)]; exact a1, a2⟩
    · by_cases hj : j = i
      · subst hj
        by_cases hk : k = j
        · exact hk.symm
        · rw [List.getElem?_set_ne (Ne.symm hk)] at h2 h4
          rw [List.getElem?_set_self his] at h3
          cases h3
          exact absurd h4 (other k e h2)
      · rw [List.getElem?_set_ne (Ne.symm hj)] at h1 h3
        by_cases hk : k = i
        · subst hk
          rw [List.getElem?_set_self his] at h4
          cases h4
          exact absurd h3 (other j d' h1)
        · rw [List.getElem?_set_ne (Ne.symm hk)] at h2 h4
          exact S.sep j k a d' e h1 h2 h3 h4
    · obtain ⟨h1, d', h2⟩ := S.io q hq
      exact ⟨by rw [List.getElem?_set_ne (Ne.symm (hio q hq))]; exact h1, d', by rw [List.getElem?_set_ne (Ne.symm (hio q hq))]; exact h2⟩
/-- the second of two, behind the store of the first: they are two objects -/
theorem KR.set {F H : Hp} {env : SE} {σ : L2.St} {k k' : Bool} {v v' : V} {d d' : D} {i : Nat} (h : KR X G env σ F H nw k v d) (hi : i < env.length) (his : i < σ.length) (ne : k = true → k' = true → v ≠ v') : KR X G (env.set i (kSlot k' d')) (σ.set i (some v')) F H nw k v d := by
  cases k with
  | false => exact h
  | true =>
    obtain ⟨a, o, e1, e2, e3, e4, e5, e6⟩ := h
    refine ⟨a, o, e1, e2, e3, e4, e5, fun (j : Nat) (e : D) he => ?_⟩
    by_cases hj : j = i
    · subst hj
      rw [List.getElem?_set_self hi] at he
      rw [List.getElem?_set_self his]
      intro z
      cases k' with
      | false => simp [kSlot] at he
      | true =>
        cases z
        exact ne rfl rfl e1
    · rw [List.getElem?_set_ne (Ne.symm hj)] at he ⊢
      exact e6 j e he
/-- the values k1, k2 of two expressions; behind an owned one the next is pure -/
theorem KR.pair {F H F' H' : Hp} {env env' : SE} {σ : L2.St} {k : Bool} {v : V} {d : D} {q : Bool} (h : KR X G env σ F H nw k v d) (x0 : Ext0 G F F') (x : q = true → Ext F H F' H') (hk : k = true → q = true) (he : q = true → env' = env) : KR X G env' σ F' H' nw k v d := by
  cases k with
  | false => exact DR.mono x0.f _ _ h
  | true =>
    rw [he (hk rfl)]
    exact KR.ext h (x (hk rfl))
theorem KR.ne {F H : Hp} {env : SE} {σ : L2.St} {v : V} {d : D} (h : KR X G env σ F H nw true v d) {a : Addr} (hn : H a = none) : v ≠ .ref a := by
  obtain ⟨b, o, rfl, e2, _⟩ := h
  intro z; cases z
  rw [hn] at e2; cases e2
def sPar (i j : Nat) (k1 k2 : Bool) (f g : FE D) : FS := fun env => match f env with
  | some (a, env1) => match g env1 with
    | some (c, env2) => if i < env2.length ∧ j < env2.length then some (.nx ((env2.set i (kSlot k1 a)).set j (kSlot k2 c))) else none
    | none => none
  | none => none
/-- a, b = e1, e2: two names -/
theorem vs_par {i j : Nat} {x y : Str} {px py pt : Pos} {kt k2' pt2} {k1 k2 : Bool} {nj : Bool} (hc : X.calm = true) (hN : X.N.Nodup) (hi : X.N[i]? = some x) (hj : X.N[j]? = some y) (hij : i ≠ j)
    (hx : X.env.scope.names.lookup x = some .local) (hy : X.env.scope.names.lookup y = some .local) (hio1 : ∀ p ∈ G.io, p.1 ≠ i) (hio2 : ∀ p ∈ G.io, p.1 ≠ j) (h1 : VK1 X G p k1 nw e f) (h2 : VK1 X G q k2 nj e2 g) (hk : k1 = true → q = true) (hf1 : G.at i = true → nw = true) (hf2 : G.at j = true → nj = true)
    (hw : swappedStores [.Tuple [.Name x px, .Name y py] kt pt] (.Tuple [e, e2] k2' pt2) X.env = pure (some [x, y]))
    (hs : swapsWithSole [.Tuple [.Name x px, .Name y py] kt pt] (.Tuple [e, e2] k2' pt2) pos.line X.env = pure false := by rfl)
    (hs1 : starEach (e :: [e2]) X.env = (false, eval e X.env) :: starEach [e2] X.env := by rfl) (hs2 : starEach (e2 :: []) X.env = (false, eval e2 X.env) :: starEach [] X.env := by rfl) :
    VS X G nwr (.Assign [.Tuple [.Name x px, .Name y py] kt pt] (.Tuple [e, e2] k2' pt2) pos) (sPar i j k1 k2 f g) := by
  refine ⟨(ps_par hc hN hi hj hij hx hy (pa_cons h1.pe (pa_cons h2.pe pa_nil hs2) hs1) hw hs).imp fun E σ H ⟨F, env, S, o, e1, k⟩ => ?_⟩
  unfold sPar at e1
  split at e1
  · rename_i a env1 q1
    split at e1
    · rename_i c env2 q2
      split at e1
      · rename_i hl
        cases e1
        refine ⟨F, env, S, a, env1, q1, fun F1 H1 v S1 x1 y1 r1 n1 => ⟨F1, env1, S1, c, env2, q2, fun F2 H2 u S2 x2 y2 r2 n2 => ⟨v, u, rfl, ?_⟩⟩⟩
        have r1' : KR X G env2 σ F2 H2 nw k1 v a := r1.pair x2 y2 hk fun z => h2.pu z _ _ _ q2
        have ne : k2 = true → k1 = true → u ≠ v := fun z2 z1 z => by
          subst z2; subst z1
          obtain ⟨b, o, rfl, _⟩ := r2
          exact r1.ne (n2 (hk rfl) rfl b rfl) z.symm
        have S3 := S2.setK r1' hl.1 hio1 hf1
        have r2' := r2.set (k' := k1) (d' := a) (v' := v) hl.1 (by rw [S2.len]; exact hl.1) (fun z2 z1 => ne z2 z1)
        exact k F2 _ H2 (S3.setK r2' (by simpa using hl.2) hio2 hf2) (x1.trans x2)
      · cases e1
    · cases e1
  · cases e1
def sPar3 (i j l : Nat) (k1 k2 k3 : Bool) (f g h : FE D) : FS := fun env => match f env with
  | some (a, env1) => match g env1 with
    | some (c, env2) => match h env2 with
      | some (d, env3) => if (i < env3.length ∧ j < env3.length) ∧ l < env3.length then some (.nx (((env3.set i (kSlot k1 a)).set j (kSlot k2 c)).set l (kSlot k3 d))) else none
      | none => none
    | none => none
  | none => none
theorem vs_par3 {i j l : Nat} {x y z : Str} {e3 : Expr} {h : FE D} {px py pz pt : Pos} {kt k2' pt2} {k1 k2 k3 : Bool} {n1 n2 n3 r : Bool} (hc : X.calm = true) (hN : X.N.Nodup) (hi : X.N[i]? = some x) (hj : X.N[j]? = some y) (hl : X.N[l]? = some z) (hij : i ≠ j) (hil : i ≠ l) (hjl : j ≠ l)
    (hx : X.env.scope.names.lookup x = some .local) (hy : X.env.scope.names.lookup y = some .local) (hz : X.env.scope.names.lookup z = some .local) (hio1 : ∀ p ∈ G.io, p.1 ≠ i) (hio2 : ∀ p ∈ G.io, p.1 ≠ j) (hio3 : ∀ p ∈ G.io, p.1 ≠ l)
    (h1 : VK1 X G p k1 n1 e f) (h2 : VK1 X G q k2 n2 e2 g) (h3 : VK1 X G r k3 n3 e3 h) (hk : k1 = true → q = true ∧ r = true) (hk2 : k2 = true → r = true) (hf1 : G.at i = true → n1 = true) (hf2 : G.at j = true → n2 = true) (hf3 : G.at l = true → n3 = true)
    (hw : swappedStores [.Tuple [.Name x px, .Name y py, .Name z pz] kt pt] (.Tuple [e, e2, e3] k2' pt2) X.env = pure (some [x, y, z]))
    (hs : swapsWithSole [.Tuple [.Name x px, .Name y py, .Name z pz] kt pt] (.Tuple [e, e2, e3] k2' pt2) pos.line X.env = pure false := by rfl)
    (hs1 : starEach (e :: [e2, e3]) X.env = (false, eval e X.env) :: starEach [e2, e3] X.env := by rfl) (hs2 : starEach (e2 :: [e3]) X.env = (false, eval e2 X.env) :: starEach [e3] X.env := by rfl) (hs3 : starEach (e3 :: []) X.env = (false, eval e3 X.env) :: starEach [] X.env := by rfl) :
    VS X G nwr (.Assign [.Tuple [.Name x px, .Name y py, .Name z pz] kt pt] (.Tuple [e, e2, e3] k2' pt2) pos) (sPar3 i j l k1 k2 k3 f g h) := by
  refine ⟨(ps_par3 hc hN hi hj hl hij hil hjl hx hy hz (pa_cons h1.pe (pa_cons h2.pe (pa_cons h3.pe pa_nil hs3) hs2) hs1) hw hs).imp fun E σ H ⟨F, env, S, o, e1, k⟩ => ?_⟩
  unfold sPar3 at e1
  split at e1
  · rename_i a env1 q1
    split at e1
    · rename_i c env2 q2
      split at e1
      · rename_i d env3 q3
        split at e1
        · rename_i hlen
          cases e1
          refine ⟨F, env, S, a, env1, q1, fun F1 H1 v S1 x1 y1 r1 m1 => ⟨F1, env1, S1, c, env2, q2, fun F2 H2 u S2 x2 y2 r2 m2 => ⟨F2, env2, S2, d, env3, q3, fun F3 H3 w S3 x3 y3 r3 m3 => ⟨v, u, w, rfl, ?_⟩⟩⟩⟩
          have r1' : KR X G env2 σ F2 H2 n1 k1 v a := r1.pair x2 y2 (fun z => (hk z).1) fun z => h2.pu z _ _ _ q2
          have r1'' : KR X G env3 σ F3 H3 n1 k1 v a := r1'.pair x3 y3 (fun z => (hk z).2) fun z => h3.pu z _ _ _ q3
          have r2' : KR X G env3 σ F3 H3 n2 k2 u c := r2.pair x3 y3 hk2 fun z => h3.pu z _ _ _ q3
          have ne1 : k2 = true → k1 = true → u ≠ v := fun z2 z1 z => by
            subst z2; subst z1
            obtain ⟨b, o, rfl, _⟩ := r2
            exact r1.ne (m2 (hk rfl).1 rfl b rfl) z.symm
          have ne2 : k3 = true → k1 = true → w ≠ v := fun z2 z1 z => by
            subst z2; subst z1
            obtain ⟨b, o, rfl, _⟩ := r3
            exact r1'.ne (m3 (hk rfl).2 rfl b rfl) z.symm
          have ne3 : k3 = true → k2 = true → w ≠ u := fun z2 z1 z => by
            subst z2; subst z1
            obtain ⟨b, o, rfl, _⟩ := r3
            exact r2.ne (m3 (hk2 rfl) rfl b rfl) z.symm
          have li := hlen.1.1
          have T1 := S3.setK r1'' li hio1 hf1
          have r2'' := r2'.set (k' := k1) (d' := a) (v' := v) li (by rw [S3.len]; exact li) ne1
          have r3' := r3.set (k' := k1) (d' := a) (v' := v) li (by rw [S3.len]; exact li) ne2
          have lj : j < (env3.set i (kSlot k1 a)).length := by simpa using hlen.1.2
          have T2 := T1.setK r2'' lj hio2 hf2
          have r3'' := r3'.set (k' := k2) (d' := c) (v' := u) lj (by rw [T1.len]; exact lj) ne3
          exact k F3 _ H3 (T2.setK r3'' (by simpa using hlen.2) hio3 hf3) (x1.trans (x2.trans x3))
        · cases e1
      · cases e1
    · cases e1
  · cases e1
end
end Vl


set_option Elab.async false
set_option linter.all false
set_option autoImplicit false
set_option maxRecDepth 100000
set_option maxHeartbeats 1000000
/-! Layer V, part 7: a def's promise by a function on data; calls. -/
namespace Vl
open PySem PySem.Spec L2
open PyProof.Rows (envOfC)

/-- a def on data: the parameters' slots, the answer, the slots at its end -/
abbrev FD := SE → Option (D × SE)
/-- an argument reads as a slot says; io: the places of lists that the def may change -/
def ArgOk (P : Program) (w : World) (F H : Hp) (io : Bool) (v : V) : Slot → Prop
  | .dat d => io = false ∧ DR P w H F false v d
  | .own d => io = true ∧ ∃ a o, v = .ref a ∧ H a = some o ∧ OwnO P w H F false a o d ∧ F a = none
  | .un => False
/-- no parameter may be changed -/
def sp0 (P : Program) (w : World) (n : Nat) (nwr : Bool) (T : FD) : Sp := fun vs H Q _ =>
  ∃ F ds, Sub F H ∧ DRs P w H F false vs ds ∧ ds.length = n ∧ ∃ r env', T (ds.map .dat) = some (r, env') ∧
    ∀ F' H' v, Sub F F' → Sub F' H' → (∀ q o, F' q = some o → F q = some o ∨ H q = none) → Sub H H' → DR P w H F' nwr v r → Q v H'
/-- the first parameter is a list that may be changed -/
def sp1 (P : Program) (w : World) (n : Nat) (nwr : Bool) (T : FD) : Sp := fun vs H Q _ =>
  ∃ F a o d vs' ds, vs = .ref a :: vs' ∧ Sub F H ∧ H a = some o ∧ OwnO P w H F false a o d ∧ F a = none ∧ DRs P w H F false vs' ds ∧ ds.length + 1 = n ∧ ∃ r env', T (.own d :: ds.map .dat) = some (r, env') ∧
    ∀ F' H' v o' d', Sub F F' → Sub F' H' → (∀ q u, F' q = some u → F q = some u ∨ H q = none) → (∀ q u, H q = some u → q ≠ a → H' q = some u) → F' a = none →
      env'[0]? = some (.own d') → H' a = some o' → OwnO P w H F' false a o' d' → DR P w H F' nwr v r → Q v H'

/-- a def's body run on slots: n names -/
def runD (n : Nat) (bd : FS) : FD := fun args => match bd (args ++ List.replicate (n - args.length) .un) with
  | some (.rt d env) => some (d, env)
  | some (.nx env) => some (.none, env)
  | _ => none

section
variable {P : Program} {w : World} {K : PySem.W.Frag} {mg : Str → Option Value} {base : Heap}
theorem start_len (N : List Str) (vs : List V) (h : vs.length ≤ N.length) : (L2.start N vs).length = N.length := by
  unfold L2.start
  simp
  omega
theorem start_get {N : List Str} {vs : List V} {i : Nat} {v : V} (h : vs[i]? = some v) : (L2.start N vs)[i]? = some (some v) := by
  unfold L2.start
  have hi : i < vs.length := (List.getElem?_eq_some_iff.mp h).1
  rw [List.getElem?_append_left (by simpa using hi), List.getElem?_map, h]
  rfl
theorem pad_get {args : SE} {n : Nat} {i : Nat} {s : Slot} (hs : s ≠ .un) (h : (args ++ List.replicate n Slot.un)[i]? = some s) : args[i]? = some s := by
  by_cases hi : i < args.length
  · rwa [List.getElem?_append_left hi] at h
  · rw [List.getElem?_append_right (by omega), List.getElem?_replicate] at h
    split at h
    · cases h; exact absurd rfl hs
    · cases h
theorem pad_len {args : SE} {n : Nat} : (args ++ List.replicate (n - args.length) Slot.un).length = max args.length n := by
  simp; omega

/-- a def whose parameters are only read: from its body's derivation to its promise -/
theorem fn0 {x qual : Str} {st : Stmt} {f : Addr} {fd : FuncData} {N ps : List Str} {k : Nat} {nwr : Bool} {fl : List Bool} {bd : FS} (F : Fun K x qual st f fd) (S : FnScope N ps (defScope st)) (hfl : ∀ i, i < ps.length → fl.getD i false = false) (hps : ps.length ≤ N.length)
    (hbody : ∀ (cdv : Value) (A : Around) (outer : List Env) (s : Shared) (H : Hp) (E : XK), Room k (A.deeper (envOfC qual (defScope st) s.heap.objs.size f cdv)) →
      VB (cxOf CX0 P w K mg base N qual (defScope st) f cdv A outer s H E).nox ⟨H, [], fl⟩ nwr (defBody st) bd) : FnOk P w K mg base CX0 (k + 1) f fd ps (sp0 P w ps.length nwr (runD N.length bd)) := by
  refine F.ok S (fun vs H Q E h => ?_) (fun cdv A outer s H vs Q E hr h => ?_)
  · obtain ⟨F, ds, _, r, hl, _⟩ := h
    rw [r.length, hl]
  · obtain ⟨F0, ds, sF, r, hl, res, env', hT, k0⟩ := h
    refine ⟨_, (hbody cdv A outer s H E hr).pss, ?_⟩
    have hvl : vs.length = ds.length := r.length
    have hlen : (L2.start N vs).length = N.length := start_len N vs (by omega)
    have Sm : Sim (cxOf CX0 P w K mg base N qual (defScope st) f cdv A outer s H E).nox ⟨H, [], fl⟩ F0 (ds.map .dat ++ List.replicate (N.length - ds.length) .un) (L2.start N vs) H := by
      refine ⟨by rw [hlen]; simp; omega, sF, fun q o e _ => e, fun i d e => ?_, fun i d e => ?_, fun i j a d e h1 _ _ _ => ?_, fun p hp => nomatch hp⟩
      · have e' := pad_get (by intro z; cases z) e
        rw [List.getElem?_map] at e'
        cases hd : ds[i]? with
        | none => rw [hd] at e'; cases e'
        | some d' =>
          rw [hd] at e'; cases e'
          obtain ⟨v, hv, rv⟩ := r.get hd
          refine ⟨v, start_get hv, ?_⟩
          have hi : i < ds.length := (List.getElem?_eq_some_iff.mp hd).1
          show DR P w H F0 (fl.getD i false) v d
          rw [hfl i (by omega)]
          exact rv
      · have e' := pad_get (by intro z; cases z) e
        rw [List.getElem?_map] at e'
        cases hd : ds[i]? with
        | none => rw [hd] at e'; cases e'
        | some d' => rw [hd] at e'; cases e'
      · have e' := pad_get (by intro z; cases z) h1
        rw [List.getElem?_map] at e'
        cases hd : ds[i]? with
        | none => rw [hd] at e'; cases e'
        | some d' => rw [hd] at e'; cases e'
    unfold runD at hT
    simp only [List.length_map] at hT
    split at hT
    · rename_i d env q
      cases hT
      refine ⟨F0, _, Sm, _, q, fun F' σ' H' v S' x r' => ?_⟩
      exact k0 F' H' v x.f S'.sub x.new (fun q o e => S'.fr q o e (by simp [Gh.ioA])) r'
    · rename_i env q
      cases hT
      refine ⟨F0, _, Sm, _, q, fun F' σ' H' S' x => ?_⟩
      exact k0 F' H' .non x.f S'.sub x.new (fun q o e => S'.fr q o e (by simp [Gh.ioA])) .non
    · cases hT
/-- a def that may change the list of its first parameter -/
theorem fn1 {x qual : Str} {st : Stmt} {f : Addr} {fd : FuncData} {N ps : List Str} {k : Nat} {nwr : Bool} {fl : List Bool} {bd : FS} (F : Fun K x qual st f fd) (S : FnScope N ps (defScope st)) (hfl : ∀ i, i < ps.length → fl.getD i false = false) (hps : ps.length ≤ N.length)
    (hbody : ∀ (a0 : Addr) (cdv : Value) (A : Around) (outer : List Env) (s : Shared) (H : Hp) (E : XK), Room k (A.deeper (envOfC qual (defScope st) s.heap.objs.size f cdv)) →
      VB (cxOf CX0 P w K mg base N qual (defScope st) f cdv A outer s H E).nox ⟨H, [(0, a0)], fl⟩ nwr (defBody st) bd) : FnOk P w K mg base CX0 (k + 1) f fd ps (sp1 P w ps.length nwr (runD N.length bd)) := by
  refine F.ok S (fun vs H Q E h => ?_) (fun cdv A outer s H vs Q E hr h => ?_)
  · obtain ⟨F, a, o, d, vs', ds, rfl, _, _, _, _, r, hl, _⟩ := h
    rw [← hl, ← r.length]; rfl
  · obtain ⟨F0, a0, o, d, vs', ds, rfl, sF, ho, hO, hF, r, hl, res, env', hT, k0⟩ := h
    refine ⟨_, (hbody a0 cdv A outer s H E hr).pss, ?_⟩
    have hvl : vs'.length = ds.length := r.length
    have hlen : (L2.start N (.ref a0 :: vs')).length = N.length := start_len N _ (by simp; omega)
    have get : ∀ i s, s ≠ Slot.un → ((Slot.own d :: ds.map .dat) ++ List.replicate (N.length - (ds.length + 1)) .un)[i]? = some s → (i = 0 ∧ s = .own d) ∨ ∃ j d', i = j + 1 ∧ ds[j]? = some d' ∧ s = .dat d' := fun i s hs e => by
      have e' := pad_get hs e
      cases i with
      | zero => simp at e'; exact .inl ⟨rfl, e'.symm⟩
      | succ j =>
        right
        rw [List.getElem?_cons_succ, List.getElem?_map] at e'
        cases hd : ds[j]? with
        | none => rw [hd] at e'; cases e'
        | some d' => rw [hd] at e'; cases e'; exact ⟨j, d', rfl, hd, rfl⟩
    have h00 : (L2.start N (.ref a0 :: vs'))[0]? = some (some (.ref a0)) := start_get rfl
    have fl0 : ∀ i, i < ps.length → (⟨H, [(0, a0)], fl⟩ : Gh).at i = false := fun i hi => hfl i hi
    have Sm : Sim (cxOf CX0 P w K mg base N qual (defScope st) f cdv A outer s H E).nox ⟨H, [(0, a0)], fl⟩ F0 ((Slot.own d :: ds.map .dat) ++ List.replicate (N.length - (ds.length + 1)) .un) (L2.start N (.ref a0 :: vs')) H := by
      refine ⟨by rw [hlen]; simp; omega, sF, fun q o e _ => e, fun i d' e => ?_, fun i d' e => ?_, fun i j a d1 d2 h1 h2 _ _ => ?_, fun p hp => ?_⟩
      · rcases get i _ (by intro z; cases z) e with ⟨_, z⟩ | ⟨j, d2, rfl, hd, z⟩
        · cases z
        · cases z
          obtain ⟨v, hv, rv⟩ := r.get hd
          have hj : j < ds.length := (List.getElem?_eq_some_iff.mp hd).1
          exact ⟨v, start_get (by simpa using hv), by rw [fl0 _ (by omega)]; exact rv⟩
      · rcases get i _ (by intro z; cases z) e with ⟨rfl, z⟩ | ⟨j, d2, rfl, hd, z⟩
        · cases z
          exact ⟨a0, o, h00, ho, by rw [fl0 _ (by omega)]; exact hO, hF, .inr (by simp [Gh.ioA])⟩
        · cases z
      · rcases get i _ (by intro z; cases z) h1 with ⟨rfl, _⟩ | ⟨_, _, _, _, z⟩
        · rcases get j _ (by intro z; cases z) h2 with ⟨rfl, _⟩ | ⟨_, _, _, _, z⟩
          · rfl
          · cases z
        · cases z
      · have : p = (0, a0) := by simpa using hp
        subst this
        exact ⟨h00, d, rfl⟩
    have fin : ∀ {F' σ' H' env v}, Sim (cxOf CX0 P w K mg base N qual (defScope st) f cdv A outer s H E).nox ⟨H, [(0, a0)], fl⟩ F' env σ' H' → Ext0 ⟨H, [(0, a0)], fl⟩ F0 F' → env = env' → DR P w H F' nwr v res → Q v H' := fun {F' σ' H' env v} S' x e r' => by
      subst e
      obtain ⟨z1, d', z2⟩ := S'.io (0, a0) (by simp)
      obtain ⟨b, o', b1, b2, b3, b4, _⟩ := S'.own 0 d' z2
      rw [z1] at b1; cases b1
      refine k0 F' H' v o' d' x.f S'.sub x.new (fun q u e hne => S'.fr q u e (by simp [Gh.ioA]; exact hne)) b4 z2 b2 ?_ r'
      rw [fl0 0 (by omega)] at b3
      exact b3
    unfold runD at hT
    simp only [List.length_cons, List.length_map] at hT
    split at hT
    · rename_i d2 env q
      cases hT
      exact ⟨F0, _, Sm, _, q, fun F' σ' H' v S' x r' => fin S' x rfl r'⟩
    · rename_i env q
      cases hT
      exact ⟨F0, _, Sm, _, q, fun F' σ' H' S' x => fin S' x rfl .non⟩
    · cases hT
end

mutual
theorem DR.rebase {P : Program} {w : World} {H0 H1 F : Hp} {nw : Bool} (h : nw = true → ∀ q, H0 q = none → H1 q = none) : ∀ (d : D) (v : V), DR P w H0 F nw v d → DR P w H1 F nw v d
  | .none, _, r => by cases r; exact .non
  | .bool b, _, r => by cases r; exact .bl b
  | .int i, _, r => by cases r; exact .int i
  | .str x, _, r => by cases r; exact .str x
  | .list ds, _, r => by
    cases r with
    | lst e n r => exact .lst e (fun z => h z _ (n z)) (DRs.rebase h ds _ r)
  | .tuple ds, _, r => by
    cases r with
    | tup e r => exact .tup e (DRs.rebase h ds _ r)
  | .dict ds, _, r => by
    cases r with
    | dct e n r => exact .dct e (fun z => h z _ (n z)) (DRk.rebase h ds _ r)
theorem DRs.rebase {P : Program} {w : World} {H0 H1 F : Hp} {nw : Bool} (h : nw = true → ∀ q, H0 q = none → H1 q = none) : ∀ (ds : List D) (vs : List V), DRs P w H0 F nw vs ds → DRs P w H1 F nw vs ds
  | [], _, r => by cases r; exact .nil
  | d :: ds, _, r => by
    cases r with
    | cons a b => exact .cons (DR.rebase h d _ a) (DRs.rebase h ds _ b)
theorem DRk.rebase {P : Program} {w : World} {H0 H1 F : Hp} {nw : Bool} (h : nw = true → ∀ q, H0 q = none → H1 q = none) : ∀ (ds : List (D × D)) (kvs : List (NestedKey × Addr × V)), DRk P w H0 F nw kvs ds → DRk P w H1 F nw kvs ds
  | [], _, r => by cases r; exact .nil
  | (kd, d) :: ds, _, r => by
    cases r with
    | cons a e b c => exact .cons (DR.rebase h kd _ a) e (DR.rebase h d _ b) (DRk.rebase h ds _ c)
end

/-! ### calls -/
section
variable {X : Cx} {G : Gh} {p q b nw ni nwr : Bool} {e e2 : Expr} {es : List Expr} {f g : FE D} {fa : FE (List D)} {pos ppos : Pos} {x : Str} {T : FD} {k n : Nat} {fA : Addr} {fd : FuncData} {ps : List Str}

def fCall (n : Nat) (dds : List D) (fa : FE (List D)) (T : FD) : FE D := fMap fa fun ds => if ds.length + dds.length = n then (T ((ds ++ dds).map .dat)).map (·.1) else none
theorem Paired.br {F H : Hp} {vs : List V} {ds : List D} (r : Paired (VRb X G b F H nw) vs ds) : Paired (BR X.prog X.w G.H0 F H nw) vs ds := by
  induction r with
  | nil => exact .nil
  | cons a _ ih => exact .cons a.br ih
/-- frozen arguments, then the defaults -/
theorem v_call {dvs : List V} {dds : List D} {ds : List Value} (FN : FnOk X.prog X.w X.K X.mg X.base CX0 k fA fd ps (sp0 X.prog X.w n nwr T)) (hr : Room k X.A) (hg : Gl X x) (hm : X.mg x = some (.ref fA)) (hk : PySem.W.keepIn X.K (.ref fA) = true) (hb : Binds X.K fd ps ds) (hd : Vals dvs ds)
    (hdd : ∀ F, DRs X.prog X.w G.H0 F false dvs dds) (h : VA X G p false ni (e :: es) fa)
    (hdb : (x == ("__debug__" : Str)) = false := by decide) (he : starEach (e :: es) X.env = (false, eval e X.env) :: starEach es X.env := by rfl) (hpl : (backTo pos (starEach es X.env)).any (·.1) = false := by rfl) :
    VJ X G p false nwr (.Call (.Name x ppos) (e :: es) [] pos) (fCall n dds fa T) := by
  refine ⟨(pe_call FN hr hg hm hk hb hd pass0 h.pe hdb he hpl).imp fun σ H Q ⟨F, env, S, c, env', e1, k1⟩ => ?_, fun z => fMap_pure (h.pu z)⟩
  obtain ⟨ds2, h3, h2⟩ := fMap_some e1
  split at h2
  case isFalse => cases h2
  rename_i hlen
  cases hT : T ((ds2 ++ dds).map .dat) with
  | none => rw [hT] at h2; cases h2
  | some y =>
    obtain ⟨res, envF⟩ := y
    rw [hT] at h2
    cases h2
    refine ⟨F, env, S, ds2, env', h3, fun F1 H1 vs S1 x1 y1 r1 => ?_⟩
    have rr : DRs X.prog X.w H1 F1 false (vs ++ dvs) (ds2 ++ dds) := DRs.rebase (nw := false) (fun z => nomatch z) _ _ ((DRs.old _ _ (pairedDRs r1)).append (hdd F1))
    refine ⟨F1, ds2 ++ dds, S1.sub, rr, by rw [List.length_append]; exact hlen, res, envF, hT, fun F2 H2 v s1 s2 nw2 s3 r2 => ?_⟩
    have x2 : Ext F1 H1 F2 H2 := ⟨s1, s3, s2, nw2⟩
    exact k1 F2 H2 v (S1.ext x2) (x1.trans (x2.weak S1)) (fun z => (y1 z).trans x2) (DR.rebase (fun _ q z => S1.new0 z) _ _ r2)
/-- the first argument a slot's own list, which the callee may change; the others frozen -/
def isOwn (i : Nat) (env : SE) : Bool := match env[i]? with
  | some (Slot.own _) => true
  | _ => false
def fCall1 (n i : Nat) (fa : FE (List D)) (T : FD) : FE D := fun env => if isOwn i env = true then match fa env with
  | some (ds, env1) => if ds.length + 1 = n then match env1[i]? with
    | some (Slot.own d) => match (T (Slot.own d :: ds.map Slot.dat) : Option (D × SE)) with
      | some (r, envF) => match (envF[0]? : Option Slot) with
        | some (Slot.own d') => some (r, env1.set i (.own d'))
        | _ => none
      | none => none
    | _ => none
    else none
  | none => none
  else none
theorem Sim.call1 {F1 H1 F2 H2 : Hp} {env : SE} {σ : L2.St} {i : Nat} {a : Addr} {d d' : D} {o' : HO} (S : Sim X G F1 env σ H1) (he : env[i]? = some (.own d)) (hs : σ[i]? = some (some (.ref a))) (hfl : G.at i = false)
    (s1 : Sub F1 F2) (s2 : Sub F2 H2) (nw2 : ∀ q u, F2 q = some u → F1 q = some u ∨ H1 q = none) (s3 : ∀ q u, H1 q = some u → q ≠ a → H2 q = some u) (hF : F2 a = none) (ho : H2 a = some o') (r : OwnO X.prog X.w H1 F2 false a o' d') :
    Sim X G F2 (env.set i (.own d')) σ H2 := by
  have hi : i < env.length := (List.getElem?_eq_some_iff.mp he).1
  obtain ⟨a', o, hs', ho', _, hF1, h0⟩ := S.own i d he
  rw [hs] at hs'; cases hs'
  have r' : OwnO X.prog X.w G.H0 F2 (G.at i) a o' d' := by
    rw [hfl]
    rcases r with ⟨xs, ds, e1, e2, r⟩ | ⟨xs, ds, e1, e2, r⟩
    · exact .inl ⟨xs, ds, e1, e2, DRs.rebase (nw := false) (fun z => nomatch z) _ _ r⟩
    · exact .inr ⟨xs, ds, e1, e2, DRk.rebase (nw := false) (fun z => nomatch z) _ _ r⟩
  refine ⟨by simpa using S.len, s2, fun q u e n => ?_, fun j e hj => ?_, fun j e hj => ?_, fun j k b c e h1 h2 h3 h4 => ?_, fun p hp => ?_⟩
  · refine s3 _ _ (S.fr q u e n) ?_
    rintro rfl
    rcases h0 with z | z
    · rw [e] at z; cases z
    · exact n z
  · by_cases hji : j = i
    · subst hji
      rw [List.getElem?_set_self hi] at hj
      cases hj
    · rw [List.getElem?_set_ne (Ne.symm hji)] at hj
      obtain ⟨v, a1, a2⟩ := S.dat j e hj
      exact ⟨v, a1, DR.mono s1 _ _ a2⟩
  · by_cases hji : j = i
    · subst hji
      rw [List.getElem?_set_self hi] at hj
      cases hj
      exact ⟨a, o', hs, ho, r', hF, h0⟩
    · rw [List.getElem?_set_ne (Ne.symm hji)] at hj
      obtain ⟨b, ob, b1, b2, b3, b4, b5⟩ := S.own j e hj
      refine ⟨b, ob, b1, s3 _ _ b2 ?_, b3.mono s1, ?_, b5⟩
      · rintro rfl
        exact hji (S.sep j i b e d hj he b1 hs)
      · cases q : F2 b with
        | none => rfl
        | some u =>
          rcases nw2 b u q with z | z
          · rw [b4] at z; cases z
          · rw [b2] at z; cases z
  · by_cases hj : j = i
    · subst hj
      by_cases hk : k = j
      · exact hk.symm
      · rw [List.getElem?_set_ne (Ne.symm hk)] at h2
        exact S.sep j k b d e he h2 h3 h4
    · rw [List.getElem?_set_ne (Ne.symm hj)] at h1
      by_cases hk : k = i
      · subst hk
        exact S.sep j k b c d h1 he h3 h4
      · rw [List.getElem?_set_ne (Ne.symm hk)] at h2
        exact S.sep j k b c e h1 h2 h3 h4
  · obtain ⟨h1, c, h2⟩ := S.io p hp
    refine ⟨h1, ?_⟩
    by_cases hpi : p.1 = i
    · exact ⟨d', by rw [hpi, List.getElem?_set_self hi]⟩
    · exact ⟨c, by rw [List.getElem?_set_ne (Ne.symm hpi)]; exact h2⟩
theorem v_call1 {i : Nat} {y : Str} {ypos : Pos} (FN : FnOk X.prog X.w X.K X.mg X.base CX0 k fA fd ps (sp1 X.prog X.w n nwr T)) (hr : Room k X.A) (hg : Gl X x) (hm : X.mg x = some (.ref fA)) (hk : PySem.W.keepIn X.K (.ref fA) = true) (hb : Binds X.K fd ps [])
    (hN : X.N[i]? = some y) (hv : Vis X.env.scope y) (hfl : G.at i = false) (h : VA X G p false ni es fa)
    (hdb : (x == ("__debug__" : Str)) = false := by decide) (hdy : (y == ("__debug__" : Str)) = false := by decide) (hcdy : (y == ("__classdict__" : Str)) = false := by decide) (he : starEach (.Name y ypos :: es) X.env = (false, eval (.Name y ypos) X.env) :: starEach es X.env := by rfl) (hpl : (backTo pos (starEach es X.env)).any (·.1) = false := by rfl) :
    VJ X G false false nwr (.Call (.Name x ppos) (.Name y ypos :: es) [] pos) (fCall1 n i fa T) := by
  refine ⟨(pe_call FN hr hg hm hk hb .nil pass0 (pa_cons (pe_var (i := i) hN hv hdy hcdy) h.pe he) hdb he hpl).imp fun σ H Q ⟨F, env, S, c, env', e1, k1⟩ => ?_, fun z => nomatch z⟩
  unfold fCall1 at e1
  split at e1
  case isFalse => cases e1
  rename_i hown
  have hown' : ∃ d0, env[i]? = some (Slot.own d0) := by
    unfold isOwn at hown
    split at hown
    · rename_i d0 q; exact ⟨d0, q⟩
    · cases hown
  obtain ⟨d0, q0⟩ := hown'
  split at e1
  · rename_i ds1 env1 q1
    split at e1
    case isFalse => cases e1
    rename_i hlen
    split at e1
    · rename_i d1 q2
      split at e1
      · rename_i res envF q3
        split at e1
        · rename_i d' q4
          cases e1
          obtain ⟨a, o0, hs, _⟩ := S.own i d0 q0
          refine ⟨.ref a, hs, F, env, S, ds1, env1, q1, fun F1 H1 vs S1 x1 y1 r1 => ?_⟩
          obtain ⟨a', o, hs', ho, hO, hF, h0⟩ := S1.own i d1 q2
          rw [hs] at hs'; cases hs'
          rw [List.append_nil]
          have rr : DRs X.prog X.w H1 F1 false vs ds1 := DRs.rebase (nw := false) (fun z => nomatch z) _ _ (DRs.old _ _ (pairedDRs r1))
          have hO' : OwnO X.prog X.w H1 F1 false a o d1 := by
            rcases hO with ⟨xs, ds, e1, e2, r⟩ | ⟨xs, ds, e1, e2, r⟩
            · exact .inl ⟨xs, ds, e1, e2, DRs.rebase (nw := false) (fun z => nomatch z) _ _ (DRs.old _ _ r)⟩
            · exact .inr ⟨xs, ds, e1, e2, DRk.rebase (nw := false) (fun z => nomatch z) _ _ (DRk.old _ _ r)⟩
          refine ⟨F1, a, o, d1, vs, ds1, rfl, S1.sub, ho, hO', hF, rr, hlen, _, envF, q3, fun F2 H2 v o' d2 s1 s2 nw2 s3 hF2 ef ho2 hO2 r2 => ?_⟩
          rw [q4] at ef; cases ef
          have S2 := S1.call1 q2 hs hfl s1 s2 nw2 s3 hF2 ho2 hO2
          exact k1 F2 H2 v S2 (x1.trans ⟨s1, fun q u z => (nw2 q u z).imp (fun z => z) fun z => S1.new0 z⟩) (fun z => nomatch z) (DR.rebase (fun _ q z => S1.new0 z) _ _ r2)
        · cases e1
      · cases e1
    · cases e1
  · cases e1
end
end Vl


set_option Elab.async false
set_option linter.all false
set_option autoImplicit false
set_option maxRecDepth 100000
set_option maxHeartbeats 1000000
/-! Layer V, part 8: built-ins on data. -/
namespace Vl
open PySem PySem.Spec L2
open PySem.W (dataLe alike AllAlike Sortable EachIs)

/-! ### a stable sort that computes -/
section
variable {α : Type}
def insr (le : α → α → Bool) (a : α) : List α → List α
  | [] => [a]
  | b :: bs => if le a b = true then a :: b :: bs else b :: insr le a bs
def isort (le : α → α → Bool) : List α → List α
  | [] => []
  | a :: as => insr le a (isort le as)
theorem insr_perm (le : α → α → Bool) (a : α) : ∀ l, (insr le a l).Perm (a :: l)
  | [] => .refl _
  | b :: bs => by
    unfold insr
    split
    · exact .refl _
    · exact ((insr_perm le a bs).cons b).trans (List.Perm.swap a b bs)
theorem isort_perm (le : α → α → Bool) : ∀ l, (isort le l).Perm l
  | [] => .refl _
  | a :: as => (insr_perm le a _).trans ((isort_perm le as).cons a)
theorem insr_pairwise {le : α → α → Bool} (h : PySem.W.TotalLe le) (a : α) : ∀ l, l.Pairwise (fun a b => le a b = true) → (insr le a l).Pairwise (fun a b => le a b = true)
  | [], _ => by simp [insr]
  | b :: bs, p => by
    unfold insr
    rw [List.pairwise_cons] at p
    split
    · rename_i hab
      refine List.pairwise_cons.mpr ⟨fun c hc => ?_, List.pairwise_cons.mpr p⟩
      rcases List.mem_cons.mp hc with rfl | hc
      · exact hab
      · exact h.trans a b c hab (p.1 c hc)
    · rename_i hab
      have hba : le b a = true := by
        rcases h.total a b with z | z
        · exact absurd z hab
        · exact z
      refine List.pairwise_cons.mpr ⟨fun c hc => ?_, insr_pairwise h a bs p.2⟩
      rcases List.mem_cons.mp ((insr_perm le a bs).mem_iff.mp hc) with rfl | hc
      · exact hba
      · exact p.1 c hc
theorem isort_pairwise {le : α → α → Bool} (h : PySem.W.TotalLe le) : ∀ l, (isort le l).Pairwise (fun a b => le a b = true)
  | [] => .nil
  | a :: as => insr_pairwise h a _ (isort_pairwise h as)
theorem insr_filter {le : α → α → Bool} (h : PySem.W.TotalLe le) (c a : α) : ∀ l, (insr le a l).filter (PySem.W.sameRank le c) = (a :: l).filter (PySem.W.sameRank le c)
  | [] => rfl
  | b :: bs => by
    unfold insr
    split
    · rfl
    · rename_i hab
      have ih := insr_filter h c a bs
      rw [List.filter_cons, ih]
      by_cases h1 : PySem.W.sameRank le c a = true
      · by_cases h2 : PySem.W.sameRank le c b = true
        · exfalso
          unfold PySem.W.sameRank at h1 h2
          rw [Bool.and_eq_true] at h1 h2
          exact hab (h.trans a c b h1.2 h2.1)
        · simp [List.filter_cons, h1, h2]
      · simp [List.filter_cons, h1]
theorem isort_filter {le : α → α → Bool} (h : PySem.W.TotalLe le) (c : α) : ∀ l, (isort le l).filter (PySem.W.sameRank le c) = l.filter (PySem.W.sameRank le c)
  | [] => rfl
  | a :: as => by
    show (insr le a (isort le as)).filter _ = _
    rw [insr_filter h, List.filter_cons, List.filter_cons, isort_filter h c as]
theorem isort_eq {le : α → α → Bool} (h : PySem.W.TotalLe le) (l : List α) : isort le l = l.mergeSort le := PySem.W.sort_unique h (isort_pairwise h l) fun c => isort_filter h c l
end

def leD : D → D → Bool := dataLe false id
theorem leD_total : PySem.W.TotalLe leD := by
  unfold leD dataLe
  exact PySem.W.sortLe_total _ _ _
def allAlike (ds : List D) : Bool := ds.all fun d => ds.all fun e => alike d e
def tupC : D → Bool
  | .tuple (_ :: _) => true
  | _ => false
def plainC : D → Bool
  | .tuple _ => false
  | .none => false
  | _ => true
def sortable (ds : List D) : Bool := (ds.all tupC || ds.all plainC) && ds.all fun d => SeqAt.shaped d
def sortD (ds : List D) : Option (List D) := if (allAlike ds = true ∧ sortable ds = true) ∧ ds.length ≤ sizeLine then some (isort leD ds) else none
theorem allAlike_of {ds : List D} (h : allAlike ds = true) : AllAlike (ds.map id) := by
  intro d hd d' hd'
  rw [List.map_id] at hd hd'
  unfold allAlike at h
  have h1 := List.all_eq_true.mp h d hd
  exact List.all_eq_true.mp h1 d' hd'
theorem sortable_of {ds : List D} (h : sortable ds = true) : Sortable (ds.map id) ∧ ∀ d ∈ ds, SeqAt.shaped d = true := by
  unfold sortable at h
  rw [Bool.and_eq_true, Bool.or_eq_true] at h
  refine ⟨?_, fun d hd => List.all_eq_true.mp h.2 d hd⟩
  rcases h.1 with h1 | h1
  · refine .inl fun d hd => ?_
    rw [List.map_id] at hd
    have := List.all_eq_true.mp h1 d hd
    unfold tupC at this
    split at this
    · exact ⟨_, _, rfl⟩
    · cases this
  · refine .inr fun d hd => ?_
    rw [List.map_id] at hd
    have := List.all_eq_true.mp h1 d hd
    unfold plainC at this
    refine ⟨?_, fun xs => ?_⟩ <;> (intro z; subst z; simp at this)

section
variable {X : Cx} {G : Gh} {ni nw : Bool}
/-- values and what they read as -/
theorem each_of {P : Program} {w : World} {H0 F : Hp} {vs : List V} {us : List Value} {ds : List D} (r : DRs P w H0 F nw vs ds) (rv : Vals vs us) : EachIs (fun u d => ∃ v, RelV v u ∧ DR P w H0 F nw v d) us ds := by
  induction ds generalizing vs us with
  | nil => cases r; cases rv; exact .nil
  | cons d ds ih =>
    cases r with
    | cons a b =>
      cases rv with
      | cons p q => exact .cons ⟨_, p, a⟩ (ih b q)
theorem of_each {P : Program} {w : World} {H0 F : Hp} {us : List Value} {ds : List D} (r : EachIs (fun u d => ∃ v, RelV v u ∧ DR P w H0 F nw v d) us ds) : ∃ vs, Vals vs us ∧ DRs P w H0 F nw vs ds := by
  induction r with
  | nil => exact ⟨[], .nil, .nil⟩
  | cons a _ ih =>
    obtain ⟨v, p, q⟩ := a
    obtain ⟨vs, h1, h2⟩ := ih
    exact ⟨v :: vs, .cons p h1, .cons q h2⟩
def rSortD (X : Cx) (G : Gh) (nw : Bool) : List V → Hp → VK → Prop := fun xs H Q => ∃ (a : Addr) (vs : List V) (ds : List D) (F : Hp), xs = [.ref a] ∧ H a = some (.lst vs) ∧ Sub F H ∧ DRs X.prog X.w G.H0 F nw vs ds ∧ (allAlike ds = true ∧ sortable ds = true) ∧
  ∀ p vs', H p = none → DRs X.prog X.w G.H0 F nw vs' (isort leD ds) → Q (.ref p) (upd H p (.lst vs'))
theorem cr_sortD (hu : X.A.units + 70 < cLine) : CallR X (.builtin "sorted") (rSortD X G nw) := by
  intro pins s σ H xs us Q I r h
  obtain ⟨a, vs, ds, F, rfl, ha, sF, rr, ⟨h1, h2⟩, q⟩ := h
  obtain ⟨u, rfl, ru⟩ := vals1 r
  cases ru
  obtain ⟨its, rv, pl, hz⟩ := I.list (SqL.of ha)
  obtain ⟨hs, hsh⟩ := sortable_of h2
  have er : EachIs (fun u d => ∃ v, RelV v u ∧ DR X.prog X.w G.H0 F nw v d) its ds := each_of rr rv
  have hlen : ds.length ≤ sizeLine := by rw [← rr.length]; exact hz
  have er2 : EachIs (fun v b => ∃ as, Reads s.heap v (id b) as) its ds := by
    have all : ∀ d ∈ ds, SeqAt.shaped d = true := hsh
    clear h1 h2 hs hsh hlen q pl hz ha rr
    induction er generalizing vs with
    | nil => exact .nil
    | cons a t ih =>
      cases rv with
      | cons p' rv' =>
        obtain ⟨v, p, w⟩ := a
        refine .cons ?_ (ih _ rv' fun d hd => all d (List.mem_cons_of_mem _ hd))
        exact Dp.reads I _ v _ (DR.dp X.K _ _ (canLay_noDict _ (SeqAt.canLay_of_shaped (all _ List.mem_cons_self))) (DR.mono sF _ _ w)) p
  refine PySem.W.sorted_data (enc := id) pl.isList er er2 (allAlike_of h1) hs hlen (fun b hb => ?_) fun out hol ho => ?_
  · have := SeqAt.depth_of_shaped (hsh b hb)
    show X.A.units + 2 + b.depth < cLine
    omega
  · have ho' : EachIs (fun u d => ∃ v, RelV v u ∧ DR X.prog X.w G.H0 F nw v d) out (isort leD ds) := by rw [isort_eq leD_total]; exact ho
    obtain ⟨vs', k1, k2⟩ := of_each ho'
    obtain ⟨ep, he'⟩ := PyProof.Rows.sortedAll_at s.heap its out.toArray
    have hlen2 : vs'.length ≤ sizeLine := by rw [k1.length, hol]; exact hlen
    exact ⟨.ref _, upd H (s.heap.objs.size + 1) (.lst vs'), I.laid (t' := s.toks) (fun _ _ => PyProof.Rows.sortedAll_old) (Nat.le_succ _) ⟨hlen2, out, ep, k1, he'⟩, rfl, q _ vs' (I.hok.fresh (Nat.le_succ _)) k2⟩
end
end Vl


set_option Elab.async false
set_option linter.all false
set_option autoImplicit false
set_option maxRecDepth 100000
set_option maxHeartbeats 1000000
/-! Layer V, part 8b: built-ins on data, as primitives. -/
namespace Vl
open PySem PySem.Spec L2
open PySem.W (dataLe alike dataLt)

section
variable {X : Cx} {G : Gh} {ni nw : Bool}

theorem _root_.PySem.Paired.one1 {α β : Type} {P : α → β → Prop} {xs : List α} {d : β} (r : Paired P xs [d]) : ∃ x, xs = [x] ∧ P x d := by
  cases r with
  | cons a b => cases b; exact ⟨_, rfl, a⟩
theorem _root_.PySem.Paired.two2 {α β : Type} {P : α → β → Prop} {xs : List α} {d e : β} (r : Paired P xs [d, e]) : ∃ x y, xs = [x, y] ∧ P x d ∧ P y e := by
  cases r with
  | cons a b =>
    obtain ⟨y, rfl, h⟩ := b.one1
    exact ⟨_, y, rfl, a, h⟩

/-! sorted -/
def gSorted : List D → Option D
  | [.list ds] => (sortD ds).map .list
  | _ => none
theorem prim_sorted : PrimN X G ni ni (rSortD X G ni) gSorted := by
  intro F H xs ds c Q s n r e k
  unfold gSorted at e
  split at e
  · rename_i ds
    obtain ⟨x, rfl, rx⟩ := r.one1
    obtain ⟨a, vs, rfl, ha, rr⟩ := rx.list s
    unfold sortD at e
    split at e
    · rename_i hc
      cases e
      refine ⟨a, vs, ds, F, rfl, ha, s, rr, hc.1, fun p vs' hp rr' => ?_⟩
      have x2 := Ext.updN s hp (o := .lst vs')
      exact k _ _ _ x2 (.lst upd_same (fun _ => n p hp) (DRs.mono x2.f _ _ rr'))
    · cases e
  · cases e

/-! len -/
def gLen : List D → Option D
  | [.list ds] => some (.int ds.length)
  | [.tuple ds] => some (.int ds.length)
  | [.str x] => if x.length ≤ sizeLine then some (.int x.length) else none
  | _ => none
theorem prim_len : PrimN X G ni nw (fun xs H Q => ∃ x n, xs = [x] ∧ LenV X.K x H n ∧ Q (.int n) H) gLen := by
  intro F H xs ds c Q s n r e k
  unfold gLen at e
  split at e
  · cases e
    obtain ⟨x, rfl, rx⟩ := r.one1
    obtain ⟨a, vs, rfl, ha, rr⟩ := rx.list s
    exact ⟨_, _, rfl, .inl ⟨vs, .inl (.inl ha), rr.length.symm⟩, k F H _ (.refl s) (.int _)⟩
  · cases e
    obtain ⟨x, rfl, rx⟩ := r.one1
    obtain ⟨a, vs, rfl, ha, _, rr⟩ := rx.tuple s
    exact ⟨_, _, rfl, .inr ⟨vs, .inl (.inl ha), rr.length.symm⟩, k F H _ (.refl s) (.int _)⟩
  · split at e
    · rename_i hl
      cases e
      obtain ⟨x, rfl, rx⟩ := r.one1
      cases rx.str
      exact ⟨_, _, rfl, ⟨hl, rfl⟩, k F H _ (.refl s) (.int _)⟩
    · cases e
  · cases e

/-! int(n), abs(n) -/
def gInt : List D → Option D
  | [.int i] => some (.int i)
  | [.bool b] => some (.int (if b then 1 else 0))
  | _ => none
theorem prim_intOf : PrimN X G ni nw (fun xs H Q => (∃ i, xs = [.int i] ∧ Q (.int i) H) ∨ ∃ k, xs = [.bl k] ∧ Q (.int (if k then 1 else 0)) H) gInt := by
  intro F H xs ds c Q s n r e k
  unfold gInt at e
  split at e
  · cases e
    obtain ⟨x, rfl, rx⟩ := r.one1
    cases rx.int
    exact .inl ⟨_, rfl, k F H _ (.refl s) (.int _)⟩
  · cases e
    obtain ⟨x, rfl, rx⟩ := r.one1
    cases rx.bool
    exact .inr ⟨_, rfl, k F H _ (.refl s) (.int _)⟩
  · cases e
def gAbs : List D → Option D
  | [.int i] => some (.int (if i < 0 then -i else i))
  | _ => none
theorem prim_abs : PrimN X G ni nw (fun xs H Q => ∃ i, xs = [.int i] ∧ Q (.int (if i < 0 then -i else i)) H) gAbs := by
  intro F H xs ds c Q s n r e k
  unfold gAbs at e
  split at e
  · cases e
    obtain ⟨x, rfl, rx⟩ := r.one1
    cases rx.int
    exact ⟨_, rfl, k F H _ (.refl s) (.int _)⟩
  · cases e

/-! list(x) -/
def gListOf : List D → Option D
  | [.list ds] => some (.list ds)
  | [.tuple ds] => some (.list ds)
  | _ => none
theorem prim_listOf : PrimN X G ni ni (fun xs H Q => ∃ p ys, xs = [.ref p] ∧ (SqL X.K H p ys ∨ SqT X.K H p ys) ∧ ∀ l, H l = none → Q (.ref l) (upd H l (.lst ys))) gListOf := by
  intro F H xs ds c Q s n r e k
  unfold gListOf at e
  split at e
  · cases e
    obtain ⟨x, rfl, rx⟩ := r.one1
    obtain ⟨a, vs, rfl, ha, rr⟩ := rx.list s
    refine ⟨a, vs, rfl, .inl (.inl (.inl ha)), fun l hl => ?_⟩
    have x2 := Ext.updN s hl (o := .lst vs)
    exact k _ _ _ x2 (.lst upd_same (fun _ => n l hl) (DRs.mono x2.f _ _ rr))
  · cases e
    obtain ⟨x, rfl, rx⟩ := r.one1
    obtain ⟨a, vs, rfl, ha, _, rr⟩ := rx.tuple s
    refine ⟨a, vs, rfl, .inr (.inl (.inl ha)), fun l hl => ?_⟩
    have x2 := Ext.updN s hl (o := .lst vs)
    exact k _ _ _ x2 (.lst upd_same (fun _ => n l hl) (DRs.mono x2.f _ _ rr))
  · cases e

/-! sum, all, any of ints, of bools -/
def intsOf : List D → Option (List Int)
  | [] => some []
  | .int i :: ds => (intsOf ds).map (i :: ·)
  | _ :: _ => none
def boolsOf : List D → Option (List Bool)
  | [] => some []
  | .bool i :: ds => (boolsOf ds).map (i :: ·)
  | _ :: _ => none
theorem intsOf_vs {P : Program} {w : World} {H0 F : Hp} : ∀ {ds : List D} {vs : List V} {ns : List Int}, DRs P w H0 F ni vs ds → intsOf ds = some ns → vs = ns.map V.int
  | [], _, ns, r, e => by cases r; cases e; rfl
  | .int i :: ds, _, ns, r, e => by
    cases r with
    | cons a b =>
      cases a
      unfold intsOf at e
      cases h : intsOf ds with
      | none => rw [h] at e; cases e
      | some ms =>
        rw [h] at e; cases e
        rw [intsOf_vs b h]; rfl
  | .none :: _, _, _, _, e | .bool _ :: _, _, _, _, e | .str _ :: _, _, _, _, e | .list _ :: _, _, _, _, e | .tuple _ :: _, _, _, _, e | .dict _ :: _, _, _, _, e => by cases e
theorem boolsOf_vs {P : Program} {w : World} {H0 F : Hp} : ∀ {ds : List D} {vs : List V} {ns : List Bool}, DRs P w H0 F ni vs ds → boolsOf ds = some ns → vs = ns.map V.bl
  | [], _, ns, r, e => by cases r; cases e; rfl
  | .bool i :: ds, _, ns, r, e => by
    cases r with
    | cons a b =>
      cases a
      unfold boolsOf at e
      cases h : boolsOf ds with
      | none => rw [h] at e; cases e
      | some ms =>
        rw [h] at e; cases e
        rw [boolsOf_vs b h]; rfl
  | .none :: _, _, _, _, e | .int _ :: _, _, _, _, e | .str _ :: _, _, _, _, e | .list _ :: _, _, _, _, e | .tuple _ :: _, _, _, _, e | .dict _ :: _, _, _, _, e => by cases e
def gSum : List D → Option D
  | [.list ds] => (intsOf ds).map fun ns => .int ns.sum
  | _ => none
theorem prim_sum : PrimN X G ni nw (rSum X.K) gSum := by
  intro F H xs ds c Q s n r e k
  unfold gSum at e
  split at e
  · rename_i ds
    obtain ⟨x, rfl, rx⟩ := r.one1
    obtain ⟨a, vs, rfl, ha, rr⟩ := rx.list s
    cases h : intsOf ds with
    | none => rw [h] at e; cases e
    | some ns =>
      rw [h] at e; cases e
      exact ⟨a, ns, rfl, by rw [← intsOf_vs rr h]; exact .inl (.inl ha), k F H _ (.refl s) (.int _)⟩
  · cases e
def gAll : List D → Option D
  | [.list ds] => (boolsOf ds).map fun ns => .bool (ns.all id)
  | _ => none
def gAny : List D → Option D
  | [.list ds] => (boolsOf ds).map fun ns => .bool (ns.any id)
  | _ => none
theorem prim_all : PrimN X G ni nw (rAll X.K) gAll := by
  intro F H xs ds c Q s n r e k
  unfold gAll at e
  split at e
  · rename_i ds
    obtain ⟨x, rfl, rx⟩ := r.one1
    obtain ⟨a, vs, rfl, ha, rr⟩ := rx.list s
    cases h : boolsOf ds with
    | none => rw [h] at e; cases e
    | some ns =>
      rw [h] at e; cases e
      exact ⟨a, ns, rfl, by rw [← boolsOf_vs rr h]; exact .inl (.inl ha), k F H _ (.refl s) (.bl _)⟩
  · cases e
theorem prim_any : PrimN X G ni nw (rAny X.K) gAny := by
  intro F H xs ds c Q s n r e k
  unfold gAny at e
  split at e
  · rename_i ds
    obtain ⟨x, rfl, rx⟩ := r.one1
    obtain ⟨a, vs, rfl, ha, rr⟩ := rx.list s
    cases h : boolsOf ds with
    | none => rw [h] at e; cases e
    | some ns =>
      rw [h] at e; cases e
      exact ⟨a, ns, rfl, by rw [← boolsOf_vs rr h]; exact .inl (.inl ha), k F H _ (.refl s) (.bl _)⟩
  · cases e
end
end Vl


set_option Elab.async false
set_option linter.all false
set_option autoImplicit false
set_option maxRecDepth 100000
set_option maxHeartbeats 1000000
/-! Layer V, part 8c: least, greatest, kinds. -/
namespace Vl
open PySem PySem.Spec L2
open PySem.W (dataLe alike dataLt AlikeAll argBest_fold iter_listW iter_tupleW cmpIn_lt cmpIn_gt moved_old)

/-- the call min(a, b) (max(a, b)) over items that are compared where the heap H stands -/
theorem min_twoH {prog : Program} {w : World} {A : Around} {E : Value → Shared → Prop} {s : Shared} {a b : Value} {Q : Value → Shared → Prop}
    (h : wpAny (model prog w) A.in1 (pyIter (.ref s.heap.objs.size)) (fun it s₂ => ∃ I fp wr J n P St Hh bt, it = .ref I ∧ WalksS prog w A.in1 I fp wr J n P St ∧ St 0 s₂ ∧ (∀ b ∈ fp, b < s₂.heap.objs.size) ∧ 0 < n ∧
        (∀ b o, Hh.get? b = some o → b ∉ wr) ∧ (∀ b o, Hh.get? b = some o → s₂.heap.get? b = some o) ∧ CmpIn prog w A.in1 .Lt Hh P bt ∧ ∀ v s', P (argBest bt (n - 1)) v → Moved wr J s₂ s' → Q v s') E
      { s with heap := s.heap.push { cls := .type "tuple", data := .seq #[a, b] } }) :
    wpAny (model prog w) A (call (.builtin "min") [a, b]) Q E s := by
  have nm : (toString "min" ++ toString ".loop" : String) = "min.loop" := by decide
  refine call_function_tree F.kind_min F.plain_min F.entry_min (F.args_min2 _ _) ?_
  show wpAny _ A.in1 (Builtin.Builtins.bindParams "min" ["key", "default"] 0 ⟨[], []⟩ >>= _) _ _ s
  refine wpAny_bind (wpAny_of_eq (show Builtin.Builtins.bindParams "min" ["key", "default"] 0 ⟨[], []⟩ = pure [none, none] from rfl)
    ?_)
  show wpAny _ A.in1 (newTuple [a, b] >>= _) _ _ s
  refine wpAny_bind (wpAny_newObj_type ?_)
  refine wpAny_bind (wpAny_mono h (fun it s₂ g => ?_) fun _ _ e => e)
  obtain ⟨I, fp, wr, J, n, P, St, Hh, bt, rfl, W, hst, hfp, hn, hw, hkeep, hcmp, hQ⟩ := g
  refine wpAny_bind (wpAny_newObj_type ?_)
  have hSf : s₂.heap.objs.size ∉ fp := fun hm => absurd (hfp _ hm) (Nat.lt_irrefl _)
  rw [nm]
  refine wpAny_pure ⟨plainId_quiet F.plain_min_loop _,
    codeAny_min_loop_firstH W Hh hw bt hcmp s₂.heap.objs.size hSf (fresh_in hkeep) _ hn (fun b o e => Heap.get?_push_of_some _ (hkeep b o e)) (W.frame 0 s₂ _ s₂.toks hst (Nat.le_refl _) fun b _ o e => Heap.get?_push_of_some _ e) (Heap.get?_push_size _ rfl) fun v s' hP hm => ?_⟩
  exact hQ v s' hP (Moved.drop_new (tk := s₂.toks) hm (Nat.le_refl _))
theorem max_twoH {prog : Program} {w : World} {A : Around} {E : Value → Shared → Prop} {s : Shared} {a b : Value} {Q : Value → Shared → Prop}
    (h : wpAny (model prog w) A.in1 (pyIter (.ref s.heap.objs.size)) (fun it s₂ => ∃ I fp wr J n P St Hh bt, it = .ref I ∧ WalksS prog w A.in1 I fp wr J n P St ∧ St 0 s₂ ∧ (∀ b ∈ fp, b < s₂.heap.objs.size) ∧ 0 < n ∧
        (∀ b o, Hh.get? b = some o → b ∉ wr) ∧ (∀ b o, Hh.get? b = some o → s₂.heap.get? b = some o) ∧ CmpIn prog w A.in1 .Gt Hh P bt ∧ ∀ v s', P (argBest bt (n - 1)) v → Moved wr J s₂ s' → Q v s') E
      { s with heap := s.heap.push { cls := .type "tuple", data := .seq #[a, b] } }) :
    wpAny (model prog w) A (call (.builtin "max") [a, b]) Q E s := by
  have nm : (toString "max" ++ toString ".loop" : String) = "max.loop" := by decide
  refine call_function_tree F.kind_max F.plain_max F.entry_max (F.args_max2 _ _) ?_
  show wpAny _ A.in1 (Builtin.Builtins.bindParams "max" ["key", "default"] 0 ⟨[], []⟩ >>= _) _ _ s
  refine wpAny_bind (wpAny_of_eq (show Builtin.Builtins.bindParams "max" ["key", "default"] 0 ⟨[], []⟩ = pure [none, none] from rfl)
    ?_)
  show wpAny _ A.in1 (newTuple [a, b] >>= _) _ _ s
  refine wpAny_bind (wpAny_newObj_type ?_)
  refine wpAny_bind (wpAny_mono h (fun it s₂ g => ?_) fun _ _ e => e)
  obtain ⟨I, fp, wr, J, n, P, St, Hh, bt, rfl, W, hst, hfp, hn, hw, hkeep, hcmp, hQ⟩ := g
  refine wpAny_bind (wpAny_newObj_type ?_)
  have hSf : s₂.heap.objs.size ∉ fp := fun hm => absurd (hfp _ hm) (Nat.lt_irrefl _)
  rw [nm]
  refine wpAny_pure ⟨plainId_quiet F.plain_max_loop _,
    codeAny_max_loop_firstH W Hh hw bt hcmp s₂.heap.objs.size hSf (fresh_in hkeep) _ hn (fun b o e => Heap.get?_push_of_some _ (hkeep b o e)) (W.frame 0 s₂ _ s₂.toks hst (Nat.le_refl _) fun b _ o e => Heap.get?_push_of_some _ e) (Heap.get?_push_size _ rfl) fun v s' hP hm => ?_⟩
  exact hQ v s' hP (Moved.drop_new (tk := s₂.toks) hm (Nat.le_refl _))

/-- the first of the least, of the greatest: a fold -/
def minF (x : D) (xs : List D) : D := xs.foldl (fun a y => if dataLt y a then y else a) x
def maxF (x : D) (xs : List D) : D := xs.foldl (fun a y => if dataLt a y then y else a) x
def alikeB (ds : List D) : Bool := (allAlike ds && ds.all fun d => !isNone d) && ds.all fun d => SeqAt.shaped d
theorem depthAll_le {n : Nat} : ∀ {ds : List D}, (∀ d ∈ ds, d.depth ≤ n) → PyData.depthAll ds ≤ n
  | [], _ => by simp [PyData.depthAll]
  | d :: ds, h => by
    rw [PyData.depthAll]
    have h1 := h d List.mem_cons_self
    have h2 := depthAll_le (ds := ds) fun d hd => h d (List.mem_cons_of_mem _ hd)
    omega
theorem alikeB_of {ds : List D} (h : alikeB ds = true) : AlikeAll ds ∧ (∀ d ∈ ds, SeqAt.shaped d = true) ∧ PyData.depthAll ds ≤ 64 := by
  unfold alikeB at h
  rw [Bool.and_eq_true, Bool.and_eq_true] at h
  obtain ⟨⟨h1, h2⟩, h3⟩ := h
  have sh : ∀ d ∈ ds, SeqAt.shaped d = true := fun d hd => List.all_eq_true.mp h3 d hd
  refine ⟨⟨fun x hx y hy => ?_, fun x hx z => ?_⟩, sh, depthAll_le fun d hd => SeqAt.depth_of_shaped (sh d hd)⟩
  · have := allAlike_of h1
    rw [List.map_id] at this
    exact this x hx y hy
  · have := List.all_eq_true.mp h2 x hx
    subst z
    simp [isNone] at this
theorem fold_mem {α : Type} (f : α → α → Bool) : ∀ (xs : List α) (x : α), xs.foldl (fun a y => if f y a then y else a) x = x ∨ xs.foldl (fun a y => if f y a then y else a) x ∈ xs
  | [], x => .inl rfl
  | y :: ys, x => by
    rw [List.foldl_cons]
    split
    · rcases fold_mem f ys y with h | h
      · rw [h]; exact .inr List.mem_cons_self
      · exact .inr (List.mem_cons_of_mem _ h)
    · rcases fold_mem f ys x with h | h
      · exact .inl h
      · exact .inr (List.mem_cons_of_mem _ h)

section
variable {X : Cx} {G : Gh} {ni nw : Bool}
theorem reads_of {P : Program} {pins : List (Addr × Obj)} {s : Shared} {σ : L2.St} {H F H0 : Hp} (I : Inv X pins σ H s) (sF : Sub F H) {ds : List D} {vs : List V} {us : List Value} (h : ∀ d ∈ ds, SeqAt.shaped d = true) (r : DRs X.prog X.w H0 F ni vs ds) (rv : Vals vs us) : ∃ as, ReadsAll s.heap us ds as := by
  refine Dp.readsAll I ds vs us ?_ rv
  have nd : noDicts ds = true := by
    clear r rv
    induction ds with
    | nil => rfl
    | cons d ds ih =>
      rw [noDicts, canLay_noDict d (SeqAt.canLay_of_shaped (h d List.mem_cons_self)), ih fun d hd => h d (List.mem_cons_of_mem _ hd)]
      rfl
  exact DRs.dp X.K ds vs nd (DRs.mono sF _ _ r)
/-- one answer among the values: the place of the best -/
theorem best_at {P : Program} {w : World} {H0 F : Hp} {vs : List V} {us : List Value} {x : D} {xs : List D} {f : D → D → Bool} (r : DRs P w H0 F ni vs (x :: xs)) (rv : Vals vs us) {v : Value}
    (hv : us.toArray[argBest (fun i j => f ((x :: xs).getD i .none) ((x :: xs).getD j .none)) xs.length]? = some v) : ∃ y, RelV y v ∧ DR P w H0 F ni y (xs.foldl (fun a y => if f y a then y else a) x) := by
  obtain ⟨h1, h2⟩ := argBest_fold f PyData.none x xs xs.length (Nat.le_refl _)
  rw [List.take_length] at h2
  have hl := r.length
  have hd : (x :: xs)[argBest (fun i j => f ((x :: xs).getD i .none) ((x :: xs).getD j .none)) xs.length]? = some (xs.foldl (fun a y => if f y a then y else a) x) := by
    rw [← h2, List.getD_eq_getElem?_getD]
    have : argBest (fun i j => f ((x :: xs).getD i .none) ((x :: xs).getD j .none)) xs.length < (x :: xs).length := by rw [List.length_cons]; exact Nat.lt_succ_of_le h1
    rw [List.getElem?_eq_getElem this]; rfl
  obtain ⟨y, hy, ry⟩ := r.get hd
  obtain ⟨u, hu, ru⟩ := rv.get hy
  rw [← Array.getElem?_toList] at hv
  rw [hu] at hv; cases hv
  exact ⟨y, ru, ry⟩
def rBestL (X : Cx) (G : Gh) (ni : Bool) (f : D → D → Bool) : List V → Hp → VK → Prop := fun vs H Q => ∃ (a : Addr) (us : List V) (x : D) (xs : List D) (F : Hp), vs = [.ref a] ∧ H a = some (.lst us) ∧ Sub F H ∧ DRs X.prog X.w G.H0 F ni us (x :: xs) ∧ alikeB (x :: xs) = true ∧
  ∀ y, DR X.prog X.w G.H0 F ni y (xs.foldl (fun a y => if f y a then y else a) x) → Q y H
theorem cr_minD (hc : X.calm = true) (hu : X.A.units + 70 < cLine) : CallR X (.builtin "min") (rBestL X G ni dataLt) := by
  intro pins s σ H vs us Q I r h
  obtain ⟨a, us', x, xs, F, rfl, ha, sF, rr, hal, q⟩ := h
  obtain ⟨u, rfl, ru⟩ := vals1 r
  cases ru
  obtain ⟨its, rv, pl, hz⟩ := I.list (SqL.of ha)
  obtain ⟨h1, h2, h3⟩ := alikeB_of hal
  obtain ⟨as, hr⟩ := reads_of (P := X.prog) I sF h2 rr rv
  have hn : its.toArray.size = xs.length + 1 := by rw [List.size_toArray, ← rv.length, rr.length]; rfl
  refine call_min_walkH (iter_listW (A := X.A.in1) (I.ok.hd hc) pl.isList fun s₂ e W st hfp hw hk => ?_)
  refine ⟨_, _, _, _, _, _, _, s.heap, _, rfl, W, st, hfp, by omega, hw, hk, cmpIn_lt (A := X.A.in1) hr h1 (by show X.A.units + 1 + _ < _; omega), fun v s' hP m => ?_⟩
  obtain ⟨h', tk, rfl, hk'⟩ := moved_old e rfl m
  rw [show its.toArray.size - 1 = xs.length by omega] at hP
  obtain ⟨y, ry, dy⟩ := best_at (f := dataLt) rr rv hP
  exact ⟨y, H, I.kept hk', ry, q y dy⟩
theorem cr_maxD (hc : X.calm = true) (hu : X.A.units + 70 < cLine) : CallR X (.builtin "max") (rBestL X G ni fun a b => dataLt b a) := by
  intro pins s σ H vs us Q I r h
  obtain ⟨a, us', x, xs, F, rfl, ha, sF, rr, hal, q⟩ := h
  obtain ⟨u, rfl, ru⟩ := vals1 r
  cases ru
  obtain ⟨its, rv, pl, hz⟩ := I.list (SqL.of ha)
  obtain ⟨h1, h2, h3⟩ := alikeB_of hal
  obtain ⟨as, hr⟩ := reads_of (P := X.prog) I sF h2 rr rv
  have hn : its.toArray.size = xs.length + 1 := by rw [List.size_toArray, ← rv.length, rr.length]; rfl
  refine call_max_walkH (iter_listW (A := X.A.in1) (I.ok.hd hc) pl.isList fun s₂ e W st hfp hw hk => ?_)
  refine ⟨_, _, _, _, _, _, _, s.heap, _, rfl, W, st, hfp, by omega, hw, hk, cmpIn_gt (A := X.A.in1) hr h1 (by show X.A.units + 1 + _ < _; omega), fun v s' hP m => ?_⟩
  obtain ⟨h', tk, rfl, hk'⟩ := moved_old e rfl m
  rw [show its.toArray.size - 1 = xs.length by omega] at hP
  obtain ⟨y, ry, dy⟩ := best_at (f := fun a b => dataLt b a) rr rv hP
  exact ⟨y, H, I.kept hk', ry, q y dy⟩
def rBest2 (X : Cx) (G : Gh) (ni : Bool) (f : D → D → Bool) : List V → Hp → VK → Prop := fun vs H Q => ∃ (x1 x2 : V) (x y : D) (F : Hp), vs = [x1, x2] ∧ Sub F H ∧ DR X.prog X.w G.H0 F ni x1 x ∧ DR X.prog X.w G.H0 F ni x2 y ∧ alikeB [x, y] = true ∧
  ∀ z, DR X.prog X.w G.H0 F ni z (if f y x then y else x) → Q z H
theorem cr_min2D (hc : X.calm = true) (hu : X.A.units + 70 < cLine) : CallR X (.builtin "min") (rBest2 X G ni dataLt) := by
  intro pins s σ H vs us Q I r h
  obtain ⟨x1, x2, x, y, F, rfl, sF, r1, r2, hal, q⟩ := h
  obtain ⟨u1, u2, rfl, ru1, ru2⟩ := vals2 r
  obtain ⟨h1, h2, h3⟩ := alikeB_of hal
  have rr : DRs X.prog X.w G.H0 F ni [x1, x2] [x, y] := .cons r1 (.cons r2 .nil)
  obtain ⟨as, hr⟩ := reads_of (P := X.prog) I sF h2 rr r
  have hk0 : ∀ b o, s.heap.get? b = some o → (s.heap.push { cls := .type "tuple", data := .seq #[u1, u2] }).get? b = some o := fun b o e => Heap.get?_push_of_some _ e
  have hT : (s.heap.push { cls := .type "tuple", data := .seq #[u1, u2] }).IsTuple s.heap.objs.size #[u1, u2] := ⟨_, Heap.get?_push_size _ rfl, rfl, 0, rfl⟩
  have hr' : ReadsAll (s.heap.push { cls := .type "tuple", data := .seq #[u1, u2] }) (#[u1, u2] : Array Value).toList [x, y] as := PyProof.Rows.ReadsAll.keeps hk0 hr
  refine min_twoH (iter_tupleW (s := { s with heap := s.heap.push { cls := .type "tuple", data := .seq #[u1, u2] } }) (A := X.A.in1) (I.ok.hd hc) hT fun s₂ e W st hfp hw hk => ?_)
  refine ⟨_, _, _, _, _, _, _, s.heap.push { cls := .type "tuple", data := .seq #[u1, u2] }, _, rfl, W, st, hfp, (by show 0 < 2; exact Nat.zero_lt_two), hw, hk, cmpIn_lt (s := { s with heap := s.heap.push { cls := .type "tuple", data := .seq #[u1, u2] } }) (A := X.A.in1) hr' h1 (by show X.A.units + 1 + _ < _; omega), fun v s' hP m => ?_⟩
  obtain ⟨h', tk, rfl, hk'⟩ := moved_old (s := { s with heap := s.heap.push { cls := .type "tuple", data := .seq #[u1, u2] } }) e rfl m
  obtain ⟨z, rz, dz⟩ := best_at (f := dataLt) rr r hP
  exact ⟨z, H, I.kept fun b o e => hk' b o (hk0 b o e), rz, q z dz⟩
theorem cr_max2D (hc : X.calm = true) (hu : X.A.units + 70 < cLine) : CallR X (.builtin "max") (rBest2 X G ni fun a b => dataLt b a) := by
  intro pins s σ H vs us Q I r h
  obtain ⟨x1, x2, x, y, F, rfl, sF, r1, r2, hal, q⟩ := h
  obtain ⟨u1, u2, rfl, ru1, ru2⟩ := vals2 r
  obtain ⟨h1, h2, h3⟩ := alikeB_of hal
  have rr : DRs X.prog X.w G.H0 F ni [x1, x2] [x, y] := .cons r1 (.cons r2 .nil)
  obtain ⟨as, hr⟩ := reads_of (P := X.prog) I sF h2 rr r
  have hk0 : ∀ b o, s.heap.get? b = some o → (s.heap.push { cls := .type "tuple", data := .seq #[u1, u2] }).get? b = some o := fun b o e => Heap.get?_push_of_some _ e
  have hT : (s.heap.push { cls := .type "tuple", data := .seq #[u1, u2] }).IsTuple s.heap.objs.size #[u1, u2] := ⟨_, Heap.get?_push_size _ rfl, rfl, 0, rfl⟩
  have hr' : ReadsAll (s.heap.push { cls := .type "tuple", data := .seq #[u1, u2] }) (#[u1, u2] : Array Value).toList [x, y] as := PyProof.Rows.ReadsAll.keeps hk0 hr
  refine max_twoH (iter_tupleW (s := { s with heap := s.heap.push { cls := .type "tuple", data := .seq #[u1, u2] } }) (A := X.A.in1) (I.ok.hd hc) hT fun s₂ e W st hfp hw hk => ?_)
  refine ⟨_, _, _, _, _, _, _, s.heap.push { cls := .type "tuple", data := .seq #[u1, u2] }, _, rfl, W, st, hfp, (by show 0 < 2; exact Nat.zero_lt_two), hw, hk, cmpIn_gt (s := { s with heap := s.heap.push { cls := .type "tuple", data := .seq #[u1, u2] } }) (A := X.A.in1) hr' h1 (by show X.A.units + 1 + _ < _; omega), fun v s' hP m => ?_⟩
  obtain ⟨h', tk, rfl, hk'⟩ := moved_old (s := { s with heap := s.heap.push { cls := .type "tuple", data := .seq #[u1, u2] } }) e rfl m
  obtain ⟨z, rz, dz⟩ := best_at (f := fun a b => dataLt b a) rr r hP
  exact ⟨z, H, I.kept fun b o e => hk' b o (hk0 b o e), rz, q z dz⟩
/-- min, max of a list, of two -/
def plain1 : D → Bool
  | .list _ => false
  | .dict _ => false
  | _ => true
def gBest (f : D → D → Bool) : List D → Option D
  | [.list (x :: xs)] => if alikeB (x :: xs) = true then some (xs.foldl (fun a y => if f y a then y else a) x) else none
  | [x, y] => if alikeB [x, y] = true ∧ (plain1 x && plain1 y) = true then some (if f y x then y else x) else none
  | _ => none
theorem prim_best {f : D → D → Bool} : PrimN X G ni ni (fun xs H Q => rBestL X G ni f xs H Q ∨ rBest2 X G ni f xs H Q) (gBest f) := by
  intro F H xs ds c Q s n r e k
  unfold gBest at e
  split at e
  · split at e
    · rename_i x xs hal
      cases e
      obtain ⟨x, rfl, rx⟩ := r.one1
      obtain ⟨a, vs, rfl, ha, rr⟩ := rx.list s
      exact .inl ⟨a, vs, _, _, F, rfl, ha, s, rr, hal, fun y ry => k F H y (.refl s) ry⟩
    · cases e
  · split at e
    · rename_i hal
      cases e
      obtain ⟨x1, x2, rfl, rx, ry⟩ := r.two2
      rw [Bool.and_eq_true] at hal
      have nd : ∀ (d : D) (v : V), BR X.prog X.w G.H0 F H ni v d → plain1 d = true → DR X.prog X.w G.H0 F ni v d := fun d v h hs => by
        rcases h with h | ⟨a, o, rfl, _, h⟩
        · exact h
        · rcases h with ⟨xs, ds, rfl, _, _⟩ | ⟨xs, ds, rfl, _, _⟩ <;> simp [plain1] at hs
      exact .inr ⟨x1, x2, _, _, F, rfl, s, nd _ _ rx hal.2.1, nd _ _ ry hal.2.2, hal.1, fun z rz => k F H z (.refl s) rz⟩
    · cases e
  · cases e
end
end Vl


set_option Elab.async false
set_option linter.all false
set_option autoImplicit false
set_option maxRecDepth 100000
set_option maxHeartbeats 1000000
/-! Layer V, part 9: list comprehensions. -/
namespace Vl
open PySem PySem.Spec L2
open PyProof.Rows (envOfC)

/-- the slots at vs forgotten -/
def wipeE (env : SE) : List Nat → SE
  | [] => env
  | v :: vs => (wipeE env vs).set v .un
theorem wipeE_len (env : SE) : ∀ vs, (wipeE env vs).length = env.length
  | [] => rfl
  | v :: vs => by unfold wipeE; rw [List.length_set, wipeE_len env vs]
theorem wipeE_get {env : SE} {i : Nat} {s : Slot} (hs : s ≠ .un) : ∀ {vs : List Nat}, (wipeE env vs)[i]? = some s → env[i]? = some s ∧ i ∉ vs
  | [], h => ⟨h, by simp⟩
  | v :: vs, h => by
    unfold wipeE at h
    by_cases hi : v = i
    · subst hi
      by_cases hv : v < (wipeE env vs).length
      · rw [List.getElem?_set_self hv] at h; cases h; exact absurd rfl hs
      · rw [List.getElem?_eq_none (by simpa using hv)] at h; cases h
    · rw [List.getElem?_set_ne hi] at h
      obtain ⟨h1, h2⟩ := wipeE_get hs h
      exact ⟨h1, by simp [h2, Ne.symm hi]⟩
theorem wipe_ne {σ : L2.St} {i : Nat} : ∀ {vs : List Nat}, i ∉ vs → (wipe σ vs)[i]? = σ[i]?
  | [], _ => rfl
  | v :: vs, h => by
    unfold wipe
    rw [List.mem_cons, not_or] at h
    rw [List.getElem?_set_ne (Ne.symm h.1)]
    exact wipe_ne h.2
theorem wipe_in {σ : L2.St} {i : Nat} (hi : i < σ.length) : ∀ {vs : List Nat}, i ∈ vs → (wipe σ vs)[i]? = some none
  | v :: vs, h => by
    unfold wipe
    by_cases hv : v = i
    · subst hv
      rw [List.getElem?_set_self (by rw [wipe_length]; exact hi)]
    · rw [List.getElem?_set_ne hv]
      exact wipe_in hi ((List.mem_cons.mp h).resolve_left (Ne.symm hv))
theorem wipe_wipe {σ σ2 : L2.St} {vs is : List Nat} (h : SetIn is (wipe σ vs) σ2) (hs : ∀ i ∈ is, i ∈ vs) : wipe σ2 vs = wipe σ vs := by
  have hl : σ2.length = σ.length := by rw [h.1, wipe_length]
  refine List.ext_getElem? fun j => ?_
  by_cases hj : j ∈ vs
  · by_cases hlt : j < σ.length
    · rw [wipe_in hlt hj, wipe_in (by rw [hl]; exact hlt) hj]
    · rw [List.getElem?_eq_none (by rw [wipe_length]; omega), List.getElem?_eq_none (by rw [wipe_length]; omega)]
  · rw [wipe_ne hj, h.2 j fun z => hj (hs j z)]
section
variable {X : Cx} {G : Gh} {F H : Hp} {env : SE} {σ : L2.St}
theorem Sim.wiped (S : Sim X G F env σ H) {vs : List Nat} (hio : ∀ p ∈ G.io, p.1 ∉ vs) : Sim X G F (wipeE env vs) (wipe σ vs) H := by
  refine ⟨by rw [wipe_length, wipeE_len]; exact S.len, S.sub, S.fr, fun i d e => ?_, fun i d e => ?_, fun i j a d e h1 h2 h3 h4 => ?_, fun p hp => ?_⟩
  · obtain ⟨h1, h2⟩ := wipeE_get (by intro z; cases z) e
    obtain ⟨v, k1, k2⟩ := S.dat i d h1
    exact ⟨v, by rw [wipe_ne h2]; exact k1, k2⟩
  · obtain ⟨h1, h2⟩ := wipeE_get (by intro z; cases z) e
    obtain ⟨a, o, k1, k2⟩ := S.own i d h1
    exact ⟨a, o, by rw [wipe_ne h2]; exact k1, k2⟩
  · obtain ⟨g1, g2⟩ := wipeE_get (by intro z; cases z) h1
    obtain ⟨g3, g4⟩ := wipeE_get (by intro z; cases z) h2
    rw [wipe_ne g2] at h3
    rw [wipe_ne g4] at h4
    exact S.sep i j a d e g1 g3 h3 h4
  · obtain ⟨h1, d, h2⟩ := S.io p hp
    have hn := hio p hp
    refine ⟨by rw [wipe_ne hn]; exact h1, d, ?_⟩
    have : ∀ vs : List Nat, p.1 ∉ vs → (wipeE env vs)[p.1]? = env[p.1]? := by
      intro vs
      induction vs with
      | nil => intro _; rfl
      | cons v vs ih =>
        intro h
        rw [List.mem_cons, not_or] at h
        unfold wipeE
        rw [List.getElem?_set_ne (Ne.symm h.1)]
        exact ih h.2
    rw [this vs hn]; exact h2

/-- what is made turn by turn; t: the test (none: always) -/
def compD (g : TgF) (t : FE Bool) (f : FE D) (envw : SE) : List D → Option (List D)
  | [] => some []
  | d :: ds => match g d envw with
    | none => none
    | some env1 => match t env1 with
      | some (true, _) => match f env1 with
        | some (y, _) => match compD g t f envw ds with
          | some ys => some (y :: ys)
          | none => none
        | none => none
      | some (false, _) => compD g t f envw ds
      | none => none
def fComp (vs : List Nat) (fi : FE (List D)) (g : TgF) (t : FE Bool) (f : FE D) : FE D := fun env => match fi env with
  | some (ds, env1) => if ds.length ≤ sizeLine then match compD g t f (wipeE env1 vs) ds with
    | some ys => some (.list ys, env1)
    | none => none
    else none
  | none => none
theorem fComp_pure {vs : List Nat} {fi : FE (List D)} {g : TgF} {t : FE Bool} {f : FE D} (h : PureF fi) : PureF (fComp vs fi g t f) := fun env d env' e => by
  unfold fComp at e
  split at e
  · rename_i ds env1 q1
    split at e
    · split at e
      · cases e; exact h _ _ _ q1
      · cases e
    · cases e
  · cases e
def fYes : FE Bool := fun env => some (true, env)
theorem compD_len {g : TgF} {t : FE Bool} {f : FE D} {envw : SE} : ∀ {ds ys : List D}, compD g t f envw ds = some ys → ys.length ≤ ds.length
  | [], ys, e => by cases e; exact Nat.le_refl _
  | d :: ds, ys, e => by
    unfold compD at e
    split at e
    · cases e
    · split at e
      · split at e
        · split at e
          · rename_i ys' q
            cases e
            have := compD_len q
            simp; omega
          · cases e
        · cases e
      · have := compD_len e
        simp; omega
      · cases e
/-- H without D -/
def cutH (H : Hp) (a : Addr) : Hp := fun b => if b = a then none else H b
theorem cutH_at {H : Hp} {a : Addr} : cutH H a a = none := by simp [cutH]
theorem cutH_ne {H : Hp} {a b : Addr} (h : b ≠ a) : cutH H a b = H b := by simp [cutH, h]
theorem cutH_upd {H : Hp} {a : Addr} {o : HO} : upd (cutH H a) a o = upd H a o := by
  funext b
  unfold L2.upd cutH
  split <;> rfl
theorem upd_cutH {H : Hp} {a : Addr} {o : HO} (h : H a = some o) : upd (cutH H a) a o = H := by
  funext b
  unfold L2.upd cutH
  split
  · rename_i e; rw [e, h]
  · rfl
/-- behind a growth of a heap in which D stands: the same without D -/
theorem Ext.cut {F H F' H' : Hp} {a : Addr} {o : HO} (hn : H a = none) (s : Sub F H) (x : Ext F (upd H a o) F' H') : Ext F H F' (cutH H' a) := by
  have hF : F a = none := s.gone hn
  have hF' : F' a = none := by
    cases q : F' a with
    | none => rfl
    | some u =>
      rcases x.new a u q with z | z
      · rw [hF] at z; cases z
      · rw [upd_same] at z; cases z
  refine ⟨x.f, fun q u e => ?_, fun q u e => ?_, fun q u e => ?_⟩
  · have ne : q ≠ a := ne_of_none e hn
    rw [cutH_ne ne]
    exact x.h q u (by rw [upd_ne ne]; exact e)
  · have ne : q ≠ a := ne_of_none e hF'
    rw [cutH_ne ne]
    exact x.sub q u e
  · rcases x.new q u e with z | z
    · exact .inl z
    · right
      have ne : q ≠ a := by rintro rfl; rw [upd_same] at z; cases z
      rw [upd_ne ne] at z; exact z
end

section
variable {X : Cx} {G : Gh} {p nw ni : Bool} {tg iter elt : Expr} {fi : FE (List D)} {g : TgF} {t : FE Bool} {f : FE D} {pos : Pos}
/-- a comprehension's reading from its parts' -/
theorem RComp {wi : TI} {tgr : TG} {tt : TT} {te : TE} {vs is : List Nat} (hio : ∀ q ∈ G.io, q.1 ∉ vs) (his : ∀ i ∈ is, i ∈ vs)
    (hi : ∀ σ H Q, RI X G p ni fi σ H Q → wi σ H Q) (hg : ∀ v σ H Q, RG X G ni is g v σ H Q → tgr v σ H Q) (ht : ∀ σ H Q, RT X G true t σ H Q → tt σ H Q) (pt : PureF t)
    (he : ∀ σ H Q, R X G true false nw f σ H Q → te σ H Q) (pf : PureF f) : ∀ σ H Q, RN X G p nw (fComp vs fi g t f) σ H Q → tLc wi tgr tt te vs σ H Q := by
  rintro σ H Q ⟨F, env, S, d, env', e1, k⟩
  unfold fComp at e1
  split at e1
  · rename_i ds env1 q1
    split at e1
    · rename_i hlen
      split at e1
      · rename_i ys q2
        cases e1
        refine hi σ H _ ⟨F, env, S, ds, _, q1, fun F1 H1 J S1 x1 y1 yl A hA => ?_⟩
        have Sw := Sim.wiped S1 hio
        refine ⟨fun i m Hc => ∃ F' H' acc accD rest, Hc = upd H' A (.lst acc) ∧ H' A = none ∧ Ext F1 H1 F' H' ∧ DRs X.prog X.w G.H0 F' nw acc accD ∧ m = ds.length - i ∧ i ≤ ds.length ∧ compD g t f (wipeE env' vs) (ds.drop i) = some rest ∧ ys = accD ++ rest ∧ accD.length ≤ i,
          ⟨ds.length, F1, H1, [], [], ys, rfl, hA, .refl S1.sub, .nil, by omega, by omega, by simpa using q2, rfl, by simp⟩, ?_⟩
        rintro i m Hc ⟨F', H', acc, accD, rest, rfl, hA', x', ra, hm, hi', q', hy, hac⟩
        have Sx : SimP X.prog X.w G F' (wipeE env' vs) (wipe σ vs) H' := Sim.ext Sw x'
        have xA : Ext F' H' F' (upd H' A (.lst acc)) := Ext.updH x'.sub hA'
        have Sa : SimP X.prog X.w G F' (wipeE env' vs) (wipe σ vs) (upd H' A (.lst acc)) := Sim.ext Sx xA
        obtain ⟨ye, yg⟩ := yl i F' (upd H' A (.lst acc)) x'.f xA.sub fun q z => Sim.new0 Sa z
        by_cases hil : ds.length = i
        · left
          refine ⟨ye hil, ?_⟩
          rw [← hil, List.drop_length] at q'
          unfold compD at q'
          cases q'
          rw [List.append_nil] at hy
          subst hy
          exact k F' H' A (.lst acc) (S1.ext x') (x1.trans (x'.weak S1)) (fun z => (y1 z).trans x') hA' (.inl ⟨acc, _, rfl, rfl, ra⟩)
        · right
          have hlt : i < ds.length := by omega
          have hd : ds[i]? = some ds[i] := List.getElem?_eq_getElem hlt
          obtain ⟨go, yd⟩ := yg _ hd
          refine ⟨go, fun Hn => ∃ F2 H2 acc2 accD2 rest2, Hn = upd H2 A (.lst acc2) ∧ H2 A = none ∧ Ext F1 H1 F2 H2 ∧ DRs X.prog X.w G.H0 F2 nw acc2 accD2 ∧ compD g t f (wipeE env' vs) (ds.drop (i + 1)) = some rest2 ∧ ys = accD2 ++ rest2 ∧ accD2.length ≤ i + 1,
            fun Hn ⟨F2, H2, acc2, accD2, rest2, a1, a2, a3, a4, a5, a6, a7⟩ => ⟨ds.length - (i + 1), by omega, F2, H2, acc2, accD2, rest2, a1, a2, a3, a4, rfl, by omega, a5, a6, a7⟩, fun x Hx hx => ?_⟩
          obtain ⟨F2, x2, r2⟩ := yd x Hx hx
          rw [List.drop_eq_getElem_cons hlt] at q'
          unfold compD at q'
          split at q'
          · cases q'
          · rename_i env3 q3
            have S2 : SimP X.prog X.w G F2 (wipeE env' vs) (wipe σ vs) Hx := Sim.ext Sa x2
            refine hg x (wipe σ vs) Hx _ ⟨F2, _, S2, _, r2, env3, q3, fun F3 σ3 H3 S3 x3 z3 => ⟨wipe_wipe z3 his, ?_⟩⟩
            split at q'
            · rename_i envt qt
              refine ht σ3 H3 _ ⟨F3, env3, S3, true, envt, qt, fun F4 H4 S4 x4 y4 => ?_⟩
              cases pt _ _ _ qt
              refine (if_pos rfl).mpr ?_
              split at q'
              · rename_i y envy qf
                split at q'
                · rename_i ys' qr
                  cases q'
                  refine he σ3 H4 _ ⟨F4, _, S4, y, envy, qf, fun F5 H5 v S5 x5 y5 r5 => ?_⟩
                  have xx : Ext F' (upd H' A (.lst acc)) F5 H5 := x2.trans (x3.trans ((y4 rfl).trans (y5 rfl)))
                  have xc := Ext.cut hA' x'.sub xx
                  have hD : H5 A = some (.lst acc) := xx.h _ _ upd_same
                  have hl2 := compD_len qr
                  refine ⟨acc, hD, by rw [ra.length]; omega, F5, cutH H5 A, acc ++ [v], accD ++ [y], ys', (cutH_upd).symm, cutH_at, x'.trans xc, (DRs.mono xc.f _ _ ra).append (DRs.one r5), qr, by rw [hy]; simp, by simp; omega⟩
                · cases q'
              · cases q'
            · rename_i envt qt
              refine ht σ3 H3 _ ⟨F3, env3, S3, false, envt, qt, fun F4 H4 S4 x4 y4 => ?_⟩
              show (if (false : Bool) = true then _ else _)
              rw [if_neg Bool.false_ne_true]
              have xx : Ext F' (upd H' A (.lst acc)) F4 H4 := x2.trans (x3.trans (y4 rfl))
              have xc := Ext.cut hA' x'.sub xx
              have hD : H4 A = some (.lst acc) := xx.h _ _ upd_same
              exact ⟨F4, cutH H4 A, acc, accD, rest, (upd_cutH hD).symm, cutH_at, x'.trans xc, DRs.mono xc.f _ _ ra, q', hy, by omega⟩
            · cases q'
      · cases e1
    · cases e1
  · cases e1
theorem fYes_pure : PureF fYes := fun env d env' e => by cases e; rfl
/-- [elt for target in iter] -/
theorem vn_comp {is : List Nat} {scope : Scope} {own : List (Str × Nat)} (hc : X.calm = true) (hN : X.N.Nodup) (hio : ∀ q ∈ G.io, q.1 ∉ own.map (·.2)) (his : ∀ i ∈ is, i ∈ own.map (·.2)) (hi : VI X G p ni tg iter fi) (ok : BlkOk X.N X.env.scope scope own)
    (hg : ∀ (s : Shared) (H : Hp) (C : Addr) (cl : List (Str × Addr)) (fp : List Addr), VG (X.blk s H scope (compEnvC scope cl C X.env) fp) G ni is tg g)
    (he : ∀ (s : Shared) (H : Hp) (C : Addr) (cl : List (Str × Addr)) (fp : List Addr), VJ (X.blk s H scope (compEnvC scope cl C X.env) fp) G true false nw elt f)
    (hs : ∀ x, foldedSetIterable iter X.env x = pure x := by intro _; rfl) : VN X G p nw (.ListComp elt [⟨tg, iter, [], 0⟩] scope pos) (fComp (own.map (·.2)) fi g fYes f) := by
  have pf : PureF f := (he X.s_0 X.H_0 0 [] []).pu rfl
  exact ⟨(pe_lc hc hN hi.pi ok (fun s H C cl fp => (hg s H C cl fp).pg) (fun _ _ _ _ _ => pts_nil) (fun s H C cl fp => (he s H C cl fp).pe) hs).imp
    (RComp hio his (fun _ _ _ z => z) (fun _ _ _ _ z => z) (fun σ H Q ⟨F, env, S, d, env', e1, k⟩ => by cases e1; exact k F H S .refl fun _ => .refl S.sub) fYes_pure (fun _ _ _ z => z) pf), fun z => fComp_pure (hi.pu z)⟩
/-- [elt for target in iter if c] -/
theorem vn_compIf {c : Expr} {is : List Nat} {scope : Scope} {own : List (Str × Nat)} (hc : X.calm = true) (hN : X.N.Nodup) (hio : ∀ q ∈ G.io, q.1 ∉ own.map (·.2)) (his : ∀ i ∈ is, i ∈ own.map (·.2)) (hi : VI X G p ni tg iter fi) (ok : BlkOk X.N X.env.scope scope own)
    (hg : ∀ (s : Shared) (H : Hp) (C : Addr) (cl : List (Str × Addr)) (fp : List Addr), VG (X.blk s H scope (compEnvC scope cl C X.env) fp) G ni is tg g)
    (ht : ∀ (s : Shared) (H : Hp) (C : Addr) (cl : List (Str × Addr)) (fp : List Addr), VT (X.blk s H scope (compEnvC scope cl C X.env) fp) G true c t)
    (he : ∀ (s : Shared) (H : Hp) (C : Addr) (cl : List (Str × Addr)) (fp : List Addr), VJ (X.blk s H scope (compEnvC scope cl C X.env) fp) G true false nw elt f)
    (hs : ∀ x, foldedSetIterable iter X.env x = pure x := by intro _; rfl) : VN X G p nw (.ListComp elt [⟨tg, iter, [c], 0⟩] scope pos) (fComp (own.map (·.2)) fi g t f) := by
  have pf : PureF f := (he X.s_0 X.H_0 0 [] []).pu rfl
  have pt : PureF t := (ht X.s_0 X.H_0 0 [] []).pu rfl
  exact ⟨(pe_lc hc hN hi.pi ok (fun s H C cl fp => (hg s H C cl fp).pg) (fun s H C cl fp => pts_one (ht s H C cl fp).pe) (fun s H C cl fp => (he s H C cl fp).pe) hs).imp
    (RComp hio his (fun _ _ _ z => z) (fun _ _ _ _ z => z) (fun _ _ _ z => z) pt (fun _ _ _ z => z) pf), fun z => fComp_pure (hi.pu z)⟩
/-- name = [elt for target in iter if ..], on one line: what ps_setLc does with the store -/
theorem RAsgC {te : TE} {i : Nat} {f : FE D} {nwr : Bool} (hio : ∀ p ∈ G.io, p.1 ≠ i) (hf : G.at i = true → nw = true) (h : ∀ σ H Q, RN X G p nw f σ H Q → te σ H Q) : ∀ E σ H, RS X G nwr (sAsg f (gSet i)) E σ H → tAsg te (gName i) E σ H := by
  rintro E σ H ⟨F, env, S, o, e1, k⟩
  unfold sAsg at e1
  split at e1
  · rename_i d env1 q1
    unfold gSet at e1
    split at e1
    · rename_i env2 q2
      split at q2
      · rename_i hl
        cases q2; cases e1
        refine h σ H _ ⟨F, env, S, d, env1, q1, fun F1 H1 a o S1 x1 y1 ha r1 => ?_⟩
        have x2 := Ext.updN S1.sub ha (o := o)
        exact k _ _ _ ((Sim.ext S1 x2).setDat hl hio (DR.flag hf (r1.dr (fun _ => S1.new0 ha) (S1.sub.gone ha)))) (x1.trans (x2.weak S1))
      · cases q2
    · cases e1
  · cases e1
theorem ROwnC {te : TE} {i : Nat} {f : FE D} {nwr : Bool} (hio : ∀ p ∈ G.io, p.1 ≠ i) (hf : G.at i = true → nw = true) (h : ∀ σ H Q, RN X G p nw f σ H Q → te σ H Q) : ∀ E σ H, RS X G nwr (sOwn f i) E σ H → tAsg te (gName i) E σ H := by
  rintro E σ H ⟨F, env, S, o, e1, k⟩
  unfold sOwn at e1
  split at e1
  · rename_i d env1 q1
    split at e1
    · rename_i hl
      cases e1
      refine h σ H _ ⟨F, env, S, d, env1, q1, fun F1 H1 a o S1 x1 y1 ha r1 => k F1 _ _ (S1.setOwn hl hio ha ?_) x1⟩
      rcases r1 with ⟨xs, ds, rfl, rfl, r⟩ | ⟨xs, ds, rfl, rfl, r⟩
      · exact .inl ⟨xs, ds, rfl, rfl, r.flag hf⟩
      · refine .inr ⟨xs, ds, rfl, rfl, ?_⟩
        cases hg : G.at i with
        | false => exact DRk.old _ _ r
        | true => rw [hf hg] at r; exact r
    · cases e1
  · cases e1
theorem vs_setComp {y : Str} {py spos : Pos} {i : Nat} {nwr : Bool} {is : List Nat} {scope : Scope} {own : List (Str × Nat)} (hc : X.calm = true) (hN : X.N.Nodup) (hy : X.N[i]? = some y) (hyl : X.env.scope.names.lookup y = some .local) (hi0 : ∀ p ∈ G.io, p.1 ≠ i) (hf : G.at i = true → nw = true)
    (hsw : swapsWith (.ListComp elt [⟨tg, iter, [], 0⟩] scope pos) (some (.Name y py)) spos.line X.env = pure true)
    (hio : ∀ q ∈ G.io, q.1 ∉ own.map (·.2)) (his : ∀ i ∈ is, i ∈ own.map (·.2)) (hi : VI X G p ni tg iter fi) (ok : BlkOk X.N X.env.scope scope own)
    (hg : ∀ (s : Shared) (H : Hp) (C : Addr) (cl : List (Str × Addr)) (fp : List Addr), VG (X.blk s H scope (compEnvC scope cl C X.env) fp) G ni is tg g)
    (he : ∀ (s : Shared) (H : Hp) (C : Addr) (cl : List (Str × Addr)) (fp : List Addr), VJ (X.blk s H scope (compEnvC scope cl C X.env) fp) G true false nw elt f)
    (hs : ∀ x, foldedSetIterable iter X.env x = pure x := by intro _; rfl) : VS X G nwr (.Assign [.Name y py] (.ListComp elt [⟨tg, iter, [], 0⟩] scope pos) spos) (sAsg (fComp (own.map (·.2)) fi g fYes f) (gSet i)) := by
  have pf : PureF f := (he X.s_0 X.H_0 0 [] []).pu rfl
  exact ⟨(ps_setLc hc hN hy hyl hsw hi.pi ok (fun s H C cl fp => (hg s H C cl fp).pg) (fun _ _ _ _ _ => pts_nil) (fun s H C cl fp => (he s H C cl fp).pe) hs).imp
    (RAsgC (p := p) (nw := nw) hi0 hf (RComp hio his (fun _ _ _ z => z) (fun _ _ _ _ z => z) (fun σ H Q ⟨F, env, S, d, env', e1, k⟩ => by cases e1; exact k F H S .refl fun _ => .refl S.sub) fYes_pure (fun _ _ _ z => z) pf))⟩
theorem vs_setCompIf {c : Expr} {y : Str} {py spos : Pos} {i : Nat} {nwr : Bool} {is : List Nat} {scope : Scope} {own : List (Str × Nat)} (hc : X.calm = true) (hN : X.N.Nodup) (hy : X.N[i]? = some y) (hyl : X.env.scope.names.lookup y = some .local) (hi0 : ∀ p ∈ G.io, p.1 ≠ i) (hf : G.at i = true → nw = true)
    (hsw : swapsWith (.ListComp elt [⟨tg, iter, [c], 0⟩] scope pos) (some (.Name y py)) spos.line X.env = pure true)
    (hio : ∀ q ∈ G.io, q.1 ∉ own.map (·.2)) (his : ∀ i ∈ is, i ∈ own.map (·.2)) (hi : VI X G p ni tg iter fi) (ok : BlkOk X.N X.env.scope scope own)
    (hg : ∀ (s : Shared) (H : Hp) (C : Addr) (cl : List (Str × Addr)) (fp : List Addr), VG (X.blk s H scope (compEnvC scope cl C X.env) fp) G ni is tg g)
    (ht : ∀ (s : Shared) (H : Hp) (C : Addr) (cl : List (Str × Addr)) (fp : List Addr), VT (X.blk s H scope (compEnvC scope cl C X.env) fp) G true c t)
    (he : ∀ (s : Shared) (H : Hp) (C : Addr) (cl : List (Str × Addr)) (fp : List Addr), VJ (X.blk s H scope (compEnvC scope cl C X.env) fp) G true false nw elt f)
    (hs : ∀ x, foldedSetIterable iter X.env x = pure x := by intro _; rfl) : VS X G nwr (.Assign [.Name y py] (.ListComp elt [⟨tg, iter, [c], 0⟩] scope pos) spos) (sAsg (fComp (own.map (·.2)) fi g t f) (gSet i)) := by
  have pf : PureF f := (he X.s_0 X.H_0 0 [] []).pu rfl
  have pt : PureF t := (ht X.s_0 X.H_0 0 [] []).pu rfl
  exact ⟨(ps_setLc hc hN hy hyl hsw hi.pi ok (fun s H C cl fp => (hg s H C cl fp).pg) (fun s H C cl fp => pts_one (ht s H C cl fp).pe) (fun s H C cl fp => (he s H C cl fp).pe) hs).imp
    (RAsgC (p := p) (nw := nw) hi0 hf (RComp hio his (fun _ _ _ z => z) (fun _ _ _ _ z => z) (fun _ _ _ z => z) pt (fun _ _ _ z => z) pf))⟩
end
end Vl


set_option Elab.async false
set_option linter.all false
set_option autoImplicit false
set_option maxRecDepth 100000
set_option maxHeartbeats 1000000
/-! Layer V, part 10: zip, enumerate. -/
namespace Vl
open PySem PySem.Spec L2 RZ
open PyProof.Rows (envOfC)

section
variable {X : Cx} {G : Gh} {p q b nw ni nwr : Bool} {e e2 : Expr} {f g : FE D} {pos : Pos}
def zipD : List D → List D → List D
  | a :: as, b :: bs => .tuple [a, b] :: zipD as bs
  | _, _ => []
theorem zipD_len : ∀ (as bs : List D), (zipD as bs).length = min as.length bs.length
  | [], bs => by simp [zipD]
  | a :: as, [] => by simp [zipD]
  | a :: as, b :: bs => by
    rw [zipD, List.length_cons, zipD_len as bs]; simp <;> omega
theorem zipD_get : ∀ {as bs : List D} {i : Nat} {d : D}, (zipD as bs)[i]? = some d → ∃ a b, as[i]? = some a ∧ bs[i]? = some b ∧ d = .tuple [a, b]
  | [], bs, _, _, h => by simp [zipD] at h
  | a :: as, [], _, _, h => by simp [zipD] at h
  | a :: as, b :: bs, 0, _, h => by
    simp [zipD] at h
    exact ⟨a, b, rfl, rfl, h.symm⟩
  | a :: as, b :: bs, i + 1, _, h => by
    rw [zipD, List.getElem?_cons_succ] at h
    obtain ⟨x, y, h1, h2, h3⟩ := zipD_get h
    exact ⟨x, y, by simpa using h1, by simpa using h2, h3⟩
def asZip : List D → Option (List D)
  | [.list as, .list bs] => some (zipD as bs)
  | [.tuple as, .tuple bs] => some (zipD as bs)
  | _ => none
theorem vi_zip {kk : Nat} {elts : List Expr} {ppos tpos : Pos} {fa : FE (List D)} (hg : Gl X "zip") (hm : X.mg "zip" = none) (h : VA X G p false nw [e, e2] fa)
    (hs : starEach [e, e2] X.env = (false, eval e X.env) :: starEach [e2] X.env := by rfl) (hpl : (backTo pos (starEach [e2] X.env)).any (·.1) = false := by rfl) :
    VI X G p nw (.Tuple elts kk tpos) (.Call (.Name "zip" ppos) [e, e2] [] pos) (fMap fa asZip) := by
  refine ⟨(pi_zipA hg hm h.pe hs hpl).imp fun σ H Rr ⟨F, env, S, ds, env', e1, k⟩ => ?_, fun z => fMap_pure (h.pu z)⟩
  obtain ⟨d, h1, h2⟩ := fMap_some e1
  unfold asZip at h2
  split at h2
  · rename_i as bs
    cases h2
    refine ⟨F, env, S, _, env', h1, fun F1 H1 v S1 x1 y1 r1 => ?_⟩
    cases r1 with
    | cons ra rr =>
    cases rr with
    | cons rb rr =>
    cases rr
    have ra' : DR X.prog X.w G.H0 F1 nw _ _ := ra
    have rb' : DR X.prog X.w G.H0 F1 nw _ _ := rb
    cases ra' with
    | @lst a xs _ ha na rx =>
    cases rb' with
    | @lst b ys _ hb nb ry =>
      refine ⟨a, b, xs, ys, rfl, .inl ⟨.inl (.inl (S1.sub _ _ ha)), .inl (.inl (S1.sub _ _ hb)), k F1 H1 _ S1 x1 y1 fun i F' H' s1 s2 n0 => ?_⟩⟩
      have hqa : SqL X.K H' a xs := .inl (.inl (s2 _ _ (s1 _ _ ha)))
      have hqb : SqL X.K H' b ys := .inl (.inl (s2 _ _ (s1 _ _ hb)))
      refine ⟨fun hl => ⟨xs, ys, hqa, hqb, ?_⟩, fun d hd => ?_⟩
      · rw [zipD_len] at hl
        have e1 := rx.length
        have e2 := ry.length
        omega
      · obtain ⟨da, db, h1, h2, rfl⟩ := zipD_get hd
        obtain ⟨x, hx, rxi⟩ := rx.get h1
        obtain ⟨y, hy, ryi⟩ := ry.get h2
        refine ⟨⟨xs, ys, x, y, hqa, hqb, hx, hy⟩, fun z H2 ⟨T, x', y', ez, hT, eH, e5, e6⟩ => ?_⟩
        have q1 := e5 xs hqa
        have q2 := e6 ys hqb
        rw [hx] at q1; cases q1
        rw [hy] at q2; cases q2
        subst ez; subst eH
        have xx := Ext.updN s2 hT (o := .tup [x, y])
        exact ⟨_, xx, .tup upd_same (.cons (DR.mono xx.f _ _ (DR.mono s1 _ _ rxi)) (.cons (DR.mono xx.f _ _ (DR.mono s1 _ _ ryi)) .nil))⟩
  · rename_i as bs
    cases h2
    refine ⟨F, env, S, _, env', h1, fun F1 H1 v S1 x1 y1 r1 => ?_⟩
    cases r1 with
    | cons ra rr =>
    cases rr with
    | cons rb rr =>
    cases rr
    have ra' : DR X.prog X.w G.H0 F1 nw _ _ := ra
    have rb' : DR X.prog X.w G.H0 F1 nw _ _ := rb
    cases ra' with
    | @tup a xs _ ha rx =>
    cases rb' with
    | @tup b ys _ hb ry =>
      refine ⟨a, b, xs, ys, rfl, .inr ⟨.inl (.inl (S1.sub _ _ ha)), .inl (.inl (S1.sub _ _ hb)), k F1 H1 _ S1 x1 y1 fun i F' H' s1 s2 n0 => ?_⟩⟩
      have hqa : SqT X.K H' a xs := .inl (.inl (s2 _ _ (s1 _ _ ha)))
      have hqb : SqT X.K H' b ys := .inl (.inl (s2 _ _ (s1 _ _ hb)))
      refine ⟨fun hl => ⟨xs, ys, hqa, hqb, ?_⟩, fun d hd => ?_⟩
      · rw [zipD_len] at hl
        have e1 := rx.length
        have e2 := ry.length
        omega
      · obtain ⟨da, db, h1, h2, rfl⟩ := zipD_get hd
        obtain ⟨x, hx, rxi⟩ := rx.get h1
        obtain ⟨y, hy, ryi⟩ := ry.get h2
        refine ⟨⟨xs, ys, x, y, hqa, hqb, hx, hy⟩, fun z H2 ⟨T, x', y', ez, hT, eH, e5, e6⟩ => ?_⟩
        have q1 := e5 xs hqa
        have q2 := e6 ys hqb
        rw [hx] at q1; cases q1
        rw [hy] at q2; cases q2
        subst ez; subst eH
        have xx := Ext.updN s2 hT (o := .tup [x, y])
        exact ⟨_, xx, .tup upd_same (.cons (DR.mono xx.f _ _ (DR.mono s1 _ _ rxi)) (.cons (DR.mono xx.f _ _ (DR.mono s1 _ _ ryi)) .nil))⟩
  · cases h2
end
end Vl


set_option Elab.async false
set_option linter.all false
set_option autoImplicit false
set_option maxRecDepth 100000
set_option maxHeartbeats 1000000
/-! Layer V, part 11: dicts whose keys are tuples. -/
namespace Vl
open PySem PySem.Spec L2
open PyProof.Rows (envOfC)

abbrev KVs := List (NestedKey × Addr × V)
def PRk (p : NestedKey × Addr × V) (q : NestedKey × Addr × Value) : Prop := p.1 = q.1 ∧ p.2.1 = q.2.1 ∧ RelV p.2.2 q.2.2
def hasK (k : NestedKey) (p : D × D) : Bool := decide (keyOf p.1 = some k)
def atD (ds : List (D × D)) (k : NestedKey) : Option D := (ds.find? (hasK k)).map (·.2)
def delD (ds : List (D × D)) (k : NestedKey) : List (D × D) := ds.filter fun p => !hasK k p
def putD (ds : List (D × D)) (kd : D) (k : NestedKey) (d : D) : List (D × D) := if (atD ds k).isSome then ds.map (fun p => if hasK k p then (p.1, d) else p) else ds ++ [(kd, d)]
def delV (kvs : KVs) (k : NestedKey) : KVs := kvs.filter fun x => decide (x.1 ≠ k)
def atV (kvs : KVs) (k : NestedKey) : Option (Addr × V) := (kvs.find? fun x => decide (x.1 = k)).map (·.2)
def putV (kvs : KVs) (k : NestedKey) (a : Addr) (v : V) : KVs := if (atV kvs k).isSome then kvs.map (fun x => if x.1 = k then (x.1, x.2.1, v) else x) else kvs ++ [(k, a, v)]

section
variable {P : Program} {w : World} {H0 F H : Hp} {nw : Bool} {h : Heap}
theorem atV_rel (k : NestedKey) : ∀ {kvs : KVs} {xs : List (NestedKey × Addr × Value)}, Paired PRk kvs xs → (atV kvs k = none ∧ atKey xs k = none) ∨ ∃ a v u, atV kvs k = some (a, v) ∧ atKey xs k = some (a, u) ∧ RelV v u
  | _, _, .nil => .inl ⟨rfl, rfl⟩
  | (k1, a1, v1) :: _, (k2, a2, v2) :: _, .cons r t => by
    obtain ⟨e1, e2, e3⟩ := r
    dsimp only at e1 e2 e3
    subst e1 e2
    by_cases e : k1 = k
    · exact .inr ⟨a1, v1, v2, by simp [atV, List.find?_cons, e], by simp [atKey, List.find?_cons, e], e3⟩
    · have := atV_rel k t
      simpa [atV, atKey, List.find?_cons, e] using this
theorem atD_rel (k : NestedKey) : ∀ {kvs : KVs} {ds : List (D × D)}, DRk P w H0 F nw kvs ds → (atV kvs k = none ∧ atD ds k = none) ∨ ∃ a v d, atV kvs k = some (a, v) ∧ atD ds k = some d ∧ DR P w H0 F nw v d
  | _, [], h => by cases h; exact .inl ⟨rfl, rfl⟩
  | (k1, a1, v1) :: kvs, (kd, d) :: ds, h => by
    cases h with
    | cons h1 h2 h3 h4 =>
      by_cases e : k1 = k
      · subst e
        exact .inr ⟨a1, v1, d, by simp [atV, List.find?_cons], by simp [atD, hasK, List.find?_cons, h2], h3⟩
      · have := atD_rel k h4
        have e' : ¬ (keyOf kd = some k) := by rw [h2]; simpa using e
        simpa [atV, atD, hasK, List.find?_cons, e, e'] using this
theorem PRk.del (k : NestedKey) : ∀ {kvs : KVs} {xs : List (NestedKey × Addr × Value)}, Paired PRk kvs xs → Paired PRk (delV kvs k) (withoutH xs k)
  | _, _, .nil => .nil
  | (k1, a1, v1) :: _, (k2, a2, v2) :: _, .cons r t => by
    have e1 := r.1
    dsimp only at e1
    subst e1
    have := PRk.del k t
    by_cases e : k1 = k
    · simpa [delV, withoutH, e] using this
    · have q : Paired PRk ((k1, a1, v1) :: delV _ k) ((k1, a2, v2) :: withoutH _ k) := .cons r this
      simpa [delV, withoutH, e] using q
theorem DRk.del (k : NestedKey) : ∀ {kvs : KVs} {ds : List (D × D)}, DRk P w H0 F nw kvs ds → DRk P w H0 F nw (delV kvs k) (delD ds k)
  | _, [], h => by cases h; exact .nil
  | (k1, a1, v1) :: kvs, (kd, d) :: ds, h => by
    cases h with
    | cons h1 h2 h3 h4 =>
      have := DRk.del k h4
      by_cases e : k1 = k
      · subst e
        simpa [delV, delD, hasK, h2] using this
      · have e' : ¬ (keyOf kd = some k) := by rw [h2]; simpa using e
        have q : DRk P w H0 F nw ((k1, a1, v1) :: delV kvs k) ((kd, d) :: delD ds k) := .cons h1 h2 h3 this
        simpa [delV, delD, hasK, e, e'] using q
theorem Paired_append {α β : Type} {R : α → β → Prop} : ∀ {as : List α} {bs : List β} {cs : List α} {ds : List β}, Paired R as bs → Paired R cs ds → Paired R (as ++ cs) (bs ++ ds)
  | _, _, _, _, .nil, h => h
  | _, _, _, _, .cons r t, h => .cons r (Paired_append t h)
theorem PRk.put (k : NestedKey) (a : Addr) {v : V} {u : Value} (ru : RelV v u) {kvs : KVs} {xs : List (NestedKey × Addr × Value)} (r : Paired PRk kvs xs) : Paired PRk (putV kvs k a v) (storedH xs k a u) := by
  have hm : ∀ {kvs : KVs} {xs : List (NestedKey × Addr × Value)}, Paired PRk kvs xs → Paired PRk (kvs.map (fun x => if x.1 = k then (x.1, x.2.1, v) else x)) (xs.map (putAt k u)) := by
    intro kvs xs r
    induction r with
    | nil => exact .nil
    | @cons p q ps qs h t ih =>
      obtain ⟨e1, e2, e3⟩ := h
      refine .cons ?_ ih
      unfold putAt
      dsimp only
      by_cases e : p.1 = k
      · rw [if_pos e, if_pos (e1 ▸ e)]; exact ⟨e1, e2, ru⟩
      · rw [if_neg e, if_neg (e1 ▸ e)]; exact ⟨e1, e2, e3⟩
  unfold putV storedH
  rcases atV_rel k r with ⟨e1, e2⟩ | ⟨b, y, z, e1, e2, _⟩
  · rw [e1, e2]
    exact Paired_append r (.cons ⟨rfl, rfl, ru⟩ .nil)
  · rw [e1, e2]
    exact hm r
theorem DRk.append : ∀ {kvs us : KVs} {ds es : List (D × D)}, DRk P w H0 F nw kvs ds → DRk P w H0 F nw us es → DRk P w H0 F nw (kvs ++ us) (ds ++ es)
  | _, _, [], _, h, k => by cases h; exact k
  | _, _, _ :: _, _, h, k => by
    cases h with
    | cons a b c e => exact .cons a b c (DRk.append e k)
theorem DRk.put {kd d : D} {k : NestedKey} {a : Addr} {v : V} (rk : DR P w H0 F nw (.ref a) kd) (ek : keyOf kd = some k) (rv : DR P w H0 F nw v d) {kvs : KVs} {ds : List (D × D)} (r : DRk P w H0 F nw kvs ds) : DRk P w H0 F nw (putV kvs k a v) (putD ds kd k d) := by
  have hm : ∀ {kvs : KVs} {ds : List (D × D)}, DRk P w H0 F nw kvs ds → DRk P w H0 F nw (kvs.map (fun x => if x.1 = k then (x.1, x.2.1, v) else x)) (ds.map (fun p => if hasK k p then (p.1, d) else p)) := by
    intro kvs ds r
    induction ds generalizing kvs with
    | nil => cases r; exact .nil
    | cons p ds ih =>
      cases r with
      | @cons k1 a1 v1 kd1 d1 kvs ds h1 h2 h3 h4 =>
        rw [List.map_cons, List.map_cons]
        by_cases e : k1 = k
        · have e' : hasK k (kd1, d1) = true := by simp [hasK, h2, e]
          rw [if_pos e, if_pos e']
          exact .cons h1 h2 rv (ih h4)
        · have e' : ¬ hasK k (kd1, d1) = true := by simp [hasK, h2, e]
          rw [if_neg e, if_neg e']
          exact .cons h1 h2 h3 (ih h4)
  unfold putV putD
  rcases atD_rel k r with ⟨e1, e2⟩ | ⟨b, y, z, e1, e2, _⟩
  · rw [e1, e2]
    exact r.append (.cons rk ek rv .nil)
  · rw [e1, e2]
    exact hm r
mutual
theorem nested_of (x : HOk P w H h) : ∀ (d : D) (k : NestedKey) (v : V) (u : Value), DR P w H0 H nw v d → keyOf d = some k → RelV v u → NestedIs h k u
  | .none, _, _, _, r, e, ru => by cases r; cases e; rw [show _ = Value.none from ru]; exact .none
  | .bool b, _, _, _, r, e, ru => by cases r; cases e; rw [show _ = Value.bool b from ru]; exact .bool rfl
  | .int i, _, _, _, r, e, ru => by cases r; cases e; obtain ⟨t, rfl⟩ := ru; exact .int _ _
  | .str y, _, _, _, r, e, ru => by cases r; cases e; obtain ⟨t, rfl⟩ := ru; exact .text _ _
  | .list ds, _, _, _, r, e, ru => by cases e
  | .dict ds, _, _, _, r, e, ru => by cases e
  | .tuple ds, k, _, _, r, e, ru => by
    cases r with
    | @tup a xs _ ha r =>
      rw [show _ = Value.ref a from ru]
      obtain ⟨_, its, rv, o, ho, hc, n, hd⟩ := x a _ ha
      unfold keyOf at e
      cases q : keysOf ds with
      | none => rw [q] at e; cases e
      | some ks =>
        rw [q] at e; cases e
        refine .tup ho hc hd ?_
        exact nesteds_of x ds ks xs its r q rv
theorem nesteds_of (x : HOk P w H h) : ∀ (ds : List D) (ks : List NestedKey) (vs : List V) (us : List Value), DRs P w H0 H nw vs ds → keysOf ds = some ks → Vals vs us → NestedAll h ks us
  | [], _, _, _, r, e, ru => by cases r; cases e; cases ru; exact .nil
  | d :: ds, _, _, _, r, e, ru => by
    cases r with
    | cons r1 r2 =>
      cases ru with
      | cons u1 u2 =>
        unfold keysOf at e
        split at e
        · rename_i k1 ks1 q1 q2
          cases e
          exact .cons (nested_of x d _ _ _ r1 q1 u1) (nesteds_of x ds _ _ _ r2 q2 u2)
        · cases e
end
theorem dictO_at {a : Addr} {kvs : KVs} (x : HOk P w H h) (e : H a = some (DictO P w a kvs)) : DictAt P w a kvs h := by
  obtain ⟨z, _, _⟩ := x a _ e
  exact z
theorem dictO_ok {a : Addr} {kvs : KVs} {H' : Hp} (z : DictAt P w a kvs h) : ObjOk P w H' h a (DictO P w a kvs) := by
  have z' := z
  obtain ⟨_, _, _, _, xs, _, o, es, ep, ho, _⟩ := z'
  refine ⟨z, ⟨o, ho⟩, fun h1 h2 y k => ?_⟩
  obtain ⟨y1, y2, y3, y4, ys, y5, o1, es1, ep1, ho1, y6⟩ := y
  exact ⟨y1, y2, y3, y4, ys, y5, o1, es1, ep1, k _ ho1, y6⟩
theorem dictAt_H {a : Addr} {kvs : KVs} {ds : List (D × D)} (x : HOk P w H h) (z : DictAt P w a kvs h) (r : DRk P w H0 H nw kvs ds) : ∃ xs, Paired PRk kvs xs ∧ h.DictOfH (nestedKind P w) a xs := by
  obtain ⟨_, _, nd, dep, xs, rel, o, es, ep, ho, hc, hd, he⟩ := z
  have hk : ∀ {kvs : KVs} {xs : List (NestedKey × Addr × Value)} {ds : List (D × D)}, Paired PRk kvs xs → DRk P w H0 H nw kvs ds → (∀ p ∈ kvs, p.1.depth ≤ 8) → ∀ x ∈ xs, (nestedKind P w).is h x.1 x.2.1 := by
    intro kvs xs ds rel
    induction rel generalizing ds with
    | nil => intro _ _ x hx; cases hx
    | @cons p q ps qs e t ih =>
      intro r dp y hy
      cases r with
      | cons r1 r2 r3 r4 =>
        rcases List.mem_cons.mp hy with rfl | hy
        · obtain ⟨e1, e2, _⟩ := e
          dsimp only at e1 e2
          rw [← e1, ← e2]
          exact ⟨nested_of x _ _ _ _ r1 r2 rfl, dp _ List.mem_cons_self⟩
        · exact ih r4 (fun p hp => dp p (List.mem_cons_of_mem _ hp)) y hy
  refine ⟨xs, rel, o, es, ep, ho, hc, hd, he, hk rel r dep, ?_⟩
  have : ∀ {kvs : KVs} {xs : List (NestedKey × Addr × Value)}, Paired PRk kvs xs → kvs.map (·.1) = xs.map (·.1) := by
    intro kvs xs rel
    induction rel with
    | nil => rfl
    | cons e t ih => rw [List.map_cons, List.map_cons, e.1, ih]
  rw [← this rel]; exact nd
theorem dictAt_of {a : Addr} {kvs : KVs} {xs : List (NestedKey × Addr × Value)} (rel : Paired PRk kvs xs) (hs : (a == sysModules) = false) (hl : kvs.length ≤ sizeLine) (z : h.DictOfH (nestedKind P w) a xs) : DictAt P w a kvs h := by
  obtain ⟨o, es, ep, ho, hc, hd, he, hk, nd⟩ := z
  have : ∀ {kvs : KVs} {xs : List (NestedKey × Addr × Value)}, Paired PRk kvs xs → kvs.map (·.1) = xs.map (·.1) ∧ ((∀ x ∈ xs, (nestedKind P w).is h x.1 x.2.1) → ∀ p ∈ kvs, p.1.depth ≤ 8) := by
    intro kvs xs rel
    induction rel with
    | nil => exact ⟨rfl, fun _ _ hp => nomatch hp⟩
    | @cons p q ps qs e t ih =>
      refine ⟨by rw [List.map_cons, List.map_cons, e.1, ih.1], fun hk y hy => ?_⟩
      rcases List.mem_cons.mp hy with rfl | hy
      · rw [e.1]; exact (hk q (by simp)).2
      · exact ih.2 (fun x hx => hk x (by simp [hx])) y hy
  refine ⟨hl, hs, by rw [(this rel).1]; exact nd, (this rel).2 hk, xs, rel, o, es, ep, ho, hc, hd, he⟩
theorem DRk.nkeys : ∀ {kvs : KVs} {ds : List (D × D)}, DRk P w H0 F nw kvs ds → ds.map (fun p => keyOf p.1) = kvs.map (fun p => some p.1)
  | _, [], h => by cases h; rfl
  | (k1, a1, v1) :: kvs, (kd, d) :: ds, h => by
    cases h with
    | cons h1 h2 h3 h4 => rw [List.map_cons, List.map_cons, DRk.nkeys h4, h2]
end

/-! ### in -/
section
variable {X : Cx} {G : Gh} {p q b nw ni nwr : Bool} {e e2 : Expr} {f g : FE D} {pos : Pos}
/-- the key, where it is a tuple that may stand in a dict -/
def tupKey (d : D) : Option NestedKey := match d with
  | .tuple ds => match keysOf ds with
    | some ks => if (NestedKey.tup ks).depth ≤ 8 then some (.tup ks) else none
    | none => none
  | _ => none
theorem tupKey_some {d : D} {k : NestedKey} (h : tupKey d = some k) : keyOf d = some k ∧ k.depth ≤ 8 ∧ ∃ ds, d = .tuple ds := by
  unfold tupKey at h
  split at h
  · rename_i ds
    split at h
    · rename_i ks q
      split at h
      · rename_i hd
        cases h
        exact ⟨by unfold keyOf; rw [q]; rfl, hd, ds, rfl⟩
      · cases h
    · cases h
  · cases h
def rInN (X : Cx) (c : Bool → Bool) : R2 := fun x y H Q => ∃ kd a b kvs ds k, DR X.prog X.w H H false x kd ∧ tupKey kd = some k ∧ x = .ref b ∧ y = .ref a ∧ H a = some (DictO X.prog X.w a kvs) ∧ DRk X.prog X.w H H false kvs ds ∧ Q (.bl (c (atD ds k).isSome)) H
theorem op_inN (hu : X.A.units + 65 < cLine) : OpR X (compareOp .In) (rInN X fun z => z) := by
  intro pins s σ H x y v u Q I rx ry h
  obtain ⟨kd, a, b, kvs, ds, k, rk, ek, rfl, rfl, ha, rd, q⟩ := h
  obtain ⟨e1, e2, _⟩ := tupKey_some ek
  rw [show v = Value.ref b from rx, show u = Value.ref a from ry]
  have z := dictO_at I.hok ha
  obtain ⟨xs, rel, dh⟩ := dictAt_H I.hok z rd
  refine wpAny_in_heap (knd := nestedKind X.prog X.w) (k := k) (by show X.A.in1.units + 8 < cLine; rw [Around.in1_units]; omega) ⟨nested_of I.hok _ _ _ _ rk e1 rfl, e2⟩ z.2.1 dh ?_
  refine ⟨.bl _, H, I.tok _, ?_, q⟩
  show Value.bool _ = Value.bool _
  congr 1
  rcases atV_rel k rel with ⟨q1, q2⟩ | ⟨_, _, _, q1, q2, _⟩ <;> rcases atD_rel k rd with ⟨q3, q4⟩ | ⟨_, _, _, q3, q4, _⟩ <;> rw [q2, q4] <;> simp_all
theorem op_notInN (hu : X.A.units + 65 < cLine) : OpR X (compareOp .NotIn) (rInN X fun z => !z) := by
  intro pins s σ H x y v u Q I rx ry h
  obtain ⟨kd, a, b, kvs, ds, k, rk, ek, rfl, rfl, ha, rd, q⟩ := h
  obtain ⟨e1, e2, _⟩ := tupKey_some ek
  rw [show v = Value.ref b from rx, show u = Value.ref a from ry]
  have z := dictO_at I.hok ha
  obtain ⟨xs, rel, dh⟩ := dictAt_H I.hok z rd
  refine notIn_keyed (knd := nestedKind X.prog X.w) (k := k) (kvs := pairsH xs) (by show X.A.in1.units + 8 < cLine; rw [Around.in1_units]; omega) ⟨nested_of I.hok _ _ _ _ rk e1 rfl, e2⟩ z.2.1 ⟨xs, dh, rfl⟩ ?_
  refine ⟨.bl _, H, I.tok _, ?_, q⟩
  show Value.bool _ = Value.bool _
  congr 2
  rw [valueAt_pairsH, Option.isSome_map]
  rcases atV_rel k rel with ⟨q1, q2⟩ | ⟨_, _, _, q1, q2, _⟩ <;> rcases atD_rel k rd with ⟨q3, q4⟩ | ⟨_, _, _, q3, q4, _⟩ <;> rw [q2, q4] <;> simp_all
def inN (c : Bool → Bool) (a b : D) : Option D := match b with
  | .dict ds => match tupKey a with
    | some k => some (.bool (c (atD ds k).isSome))
    | none => none
  | _ => none
theorem prim_inN {c : Bool → Bool} : Prim2 X G ni nw (rInN X c) (inN c) := by
  intro F H x y a b r Q s n rx ry e k
  unfold inN at e
  split at e
  · split at e
    · rename_i ds _ k' q
      cases e
      obtain ⟨p, kvs, rfl, hp, rd⟩ := ry.dict s
      obtain ⟨_, _, ks, rfl⟩ := tupKey_some q
      have rx0 := rx
      obtain ⟨t, xs, rfl, _⟩ := rx.tuple s
      refine ⟨_, p, t, kvs, ds, k', DR.rebase (nw := false) (fun z => nomatch z) _ _ (rx0.dr s), q, rfl, rfl, hp, ?_, k F H _ (.refl s) (.bl _)⟩
      exact DRk.rebase (nw := false) (fun z => nomatch z) _ _ (DRk.old _ _ (DRk.mono s _ _ rd))
    · cases e
  · cases e
end
end Vl


set_option Elab.async false
set_option linter.all false
set_option autoImplicit false
set_option maxRecDepth 100000
set_option maxHeartbeats 1000000
/-! Layer V, part 12: dicts made, d.pop(k). -/
namespace Vl
open PySem PySem.Spec L2
open PyProof.Rows (envOfC)

section
variable {P : Program} {w : World} {H0 F H : Hp} {nw : Bool} {h : Heap}
/-- pairs (key, value), the keys tuples that may stand in a dict -/
def asPairs : List D → Option (List (D × D))
  | [] => some []
  | .tuple [k, v] :: ds => match tupKey k, asPairs ds with
    | some _, some ps => some ((k, v) :: ps)
    | _, _ => none
  | _ :: _ => none
def PairV (F : Hp) (t : V) (p : NestedKey × Addr × V) : Prop := ∃ b, t = .ref b ∧ F b = some (.tup [.ref p.2.1, p.2.2])
theorem asPairs_of : ∀ (ds : List D) (ps : List (D × D)) (vs : List V), asPairs ds = some ps → DRs P w H0 F nw vs ds →
    ∃ kvs : KVs, Paired (PairV F) vs kvs ∧ DRk P w H0 F nw kvs ps ∧ ∀ p ∈ kvs, p.1.depth ≤ 8
  | [], _, _, e, r => by
    cases e; cases r
    exact ⟨[], .nil, .nil, fun _ h => nomatch h⟩
  | d :: ds, _, _, e, r => by
    cases r with
    | cons r1 r2 =>
      unfold asPairs at e
      split at e
      · rename_i hq
        cases hq
      · rename_i k v ds' q
        injection q with q1 q2
        subst q1 q2
        split at e
        · rename_i key ps' h1 h2
          cases e
          obtain ⟨kvs, k1, k2, k3⟩ := asPairs_of ds ps' _ h2 r2
          cases r1 with
          | @tup a xs _ ha rx =>
            cases rx with
            | cons ra rb =>
              cases rb with
              | cons rb rc =>
                cases rc
                obtain ⟨e1, e2, es, e3⟩ := tupKey_some h1
                subst e3
                cases ra with
                | @tup ka kx _ hka rk =>
                  refine ⟨(key, ka, _) :: kvs, .cons ⟨a, rfl, ha⟩ k1, .cons (.tup hka rk) e1 rb k2, fun p hp => ?_⟩
                  rcases List.mem_cons.mp hp with rfl | hp
                  · exact e2
                  · exact k3 p hp
        · cases e
      · cases e
end

section
variable {X : Cx} {G : Gh} {p q b nw ni nwr : Bool} {e e2 : Expr} {f g : FE D} {pos apos cpos : Pos}
def tDNewN (X : Cx) : TE := fun _ H Q => ∀ p, H p = none → Q (.ref p) (upd H p (DictO X.prog X.w p []))
theorem pe_dnewN : PE X (.Dict [] [] pos) (tDNewN X) := ⟨fun pins s σ H Q I h => by
  refine wpAny_Dict_empty ⟨.ref s.heap.objs.size, _, I.laid (a := s.heap.objs.size) (o := DictO X.prog X.w s.heap.objs.size []) (t' := s.toks) (fun _ _ q => Heap.get?_push_of_some _ q) (Nat.le_refl _) (dictO_ok ?_), rfl, h _ (I.hok.fresh (Nat.le_refl _))⟩
  have hb := I.big
  exact ⟨Nat.zero_le _, beq_eq_false_iff_ne.mpr (Ne.symm (Nat.ne_of_lt hb)), List.nodup_nil, (fun _ h => nomatch h), [], .nil, _, #[], 0, Heap.get?_push_size _ rfl, ⟨rfl, rfl, rfl⟩, rfl, rfl⟩⟩
def fDNew : FE D := fun env => some (.dict [], env)
theorem vn_dnew : VN X G true nw (.Dict [] [] pos) fDNew :=
  ⟨pe_dnewN.imp fun σ H Q ⟨F, env, S, d, env', e1, k⟩ => by
    cases e1
    exact fun p hp => k F H p _ S .refl (fun _ => .refl S.sub) hp (.inr ⟨[], [], rfl, rfl, .nil⟩), fun _ env d env' h => by cases h; rfl⟩

/-- dict(a list of pairs), the keys unlike -/
def rDictN (X : Cx) : List V → Hp → VK → Prop := fun xs H Q => ∃ a ts kvs ds, xs = [.ref a] ∧ H a = some (.lst ts) ∧ Paired (PairV H) ts kvs ∧ DRk X.prog X.w H H false kvs ds ∧ (∀ p ∈ kvs, p.1.depth ≤ 8) ∧ (kvs.map (·.1)).Nodup ∧ kvs.length ≤ sizeLine ∧
  ∀ p, H p = none → Q (.ref p) (upd H p (DictO X.prog X.w p kvs))
theorem cr_dictN (hc : X.calm = true) (hu : X.A.units + 65 < cLine) : CallR X (.type "dict") (rDictN X) := by
  intro pins s σ H xs us Q I rxs h
  obtain ⟨a, ts, kvs, ds, rfl, ha, pr, rd, dep, nd, hl, q⟩ := h
  obtain ⟨u, rfl, ru⟩ := rxs.one
  rw [show u = Value.ref a from ru]
  obtain ⟨_, its, n, rv, hg⟩ := I.hok a _ ha
  -- the tuples' objects
  have tup : ∀ {ts : List V} {kvs : KVs} {its : List Value}, Paired (PairV H) ts kvs → Vals ts its →
      ∃ (Ts : Nat → Addr) (ps : List (NestedKey × Addr × Value)), Paired PRk kvs ps ∧ its.length = ps.length ∧ ∀ (j : Nat) (k v : Value), (ps.map fun x => (Value.ref x.2.1, x.2.2))[j]? = some (k, v) → its[j]? = some (.ref (Ts j)) ∧ PairAt s.heap (Ts j) k v := by
    intro ts kvs its pr
    induction pr generalizing its with
    | nil =>
      intro rv
      cases rv
      exact ⟨fun _ => 0, [], .nil, rfl, fun j k v e => by simp at e⟩
    | @cons t kv ts kvs h1 h2 ih =>
      intro rv
      cases rv with
      | cons r1 r2 =>
        obtain ⟨Ts, ps, g1, g2, g3⟩ := ih r2
        obtain ⟨tb, rfl, htb⟩ := h1
        obtain ⟨_, tits, rt, ob, ho, hcl, m, hdat⟩ := I.hok tb _ htb
        obtain ⟨u1, uv, rfl, t1, t2⟩ := rt.two
        have t1 : u1 = Value.ref kv.2.1 := t1
        subst t1
        · · skip
            refine ⟨fun j => if j = 0 then tb else Ts (j - 1), (kv.1, kv.2.1, uv) :: ps, .cons ⟨rfl, rfl, t2⟩ g1, by simp [g2], fun j k v e => ?_⟩
            cases j with
            | zero =>
              simp at e
              obtain ⟨rfl, rfl⟩ := e
              refine ⟨?_, .inl ⟨ob, ho, hcl, m, hdat⟩⟩
              simp
              exact r1
            | succ j =>
              rw [List.map_cons, List.getElem?_cons_succ] at e
              have := g3 j k v e
              simpa using this
  obtain ⟨Ts, ps, g1, g2, g3⟩ := tup pr rv
  have len : ∀ {kvs : KVs} {ps : List (NestedKey × Addr × Value)}, Paired PRk kvs ps → kvs.length = ps.length ∧ kvs.map (·.1) = ps.map (·.1) := by
    intro kvs ps r
    induction r with
    | nil => exact ⟨rfl, rfl⟩
    | cons e t ih => exact ⟨by simp [ih.1], by rw [List.map_cons, List.map_cons, ih.2, e.1]⟩
  have nd' : (ps.map (·.1)).Nodup := by rw [← (len g1).2]; exact nd
  have keys : ∀ {kvs : KVs} {ps : List (NestedKey × Addr × Value)} {ds : List (D × D)}, Paired PRk kvs ps → DRk X.prog X.w H H false kvs ds → (∀ p ∈ kvs, p.1.depth ≤ 8) → ∀ x ∈ ps, (nestedKind X.prog X.w).is s.heap x.1 x.2.1 := by
    intro kvs ps ds rel
    induction rel generalizing ds with
    | nil => intro _ _ x hx; cases hx
    | @cons p q ps qs e t ih =>
      intro r dp y hy
      cases r with
      | cons r1 r2 r3 r4 =>
        rcases List.mem_cons.mp hy with rfl | hy
        · obtain ⟨e1, e2, _⟩ := e
          dsimp only at e1 e2
          rw [← e1, ← e2]
          exact ⟨nested_of I.hok _ _ _ _ r1 r2 rfl, dp _ List.mem_cons_self⟩
        · exact ih r4 (fun p hp => dp p (List.mem_cons_of_mem _ hp)) y hy
  refine call_dict_pairsH (knd := nestedKind X.prog X.w) (ps := ps) (wr := []) (PairArg.list a its.toArray Ts (ps.map fun x => (Value.ref x.2.1, x.2.2))) (I.ok.hd hc) (by show X.A.in1.in1.units + 8 < cLine; rw [Around.in1_units, Around.in1_units]; omega) ⟨⟨_, n, hg, rfl, rfl, rfl⟩, by simp [g2], fun j k v e => ?_⟩ ⟨by simp, fun i key v e => ?_⟩ (fun h' hk x hx => ?_) (by rw [List.length_map, ← (len g1).1]; exact hl) fun h' tk hd' hk => ?_
  · obtain ⟨h1, h2⟩ := g3 j k v e
    exact ⟨by simpa using h1, h2⟩
  · have e : (ps.map fun x => (Value.ref x.2.1, x.2.2))[i]? = some (key, v) := e
    rw [List.getElem?_map] at e
    cases q : ps[i]? with
    | none => rw [q] at e; cases e
    | some x =>
      rw [q] at e
      cases e
      exact ⟨x.1, x.2.1, rfl, rfl⟩
  · exact nestedKind_stays.stays (fun b o vs m e _ => hk b o (Nat.ne_of_lt (Heap.lt_size e)) (fun z => nomatch z) e) (keys g1 rd dep x hx)
  · rw [storedAllH_nil_of_nodup _ nd'] at hd'
    have hb := I.big
    have z : DictAt X.prog X.w s.heap.objs.size kvs h' := dictAt_of g1 (beq_eq_false_iff_ne.mpr (Ne.symm (Nat.ne_of_lt hb))) hl hd'
    exact ⟨.ref s.heap.objs.size, _, I.laid (a := s.heap.objs.size) (o := DictO X.prog X.w s.heap.objs.size kvs) (h' := h') (t' := tk) (fun b o e => hk b o (fun z => nomatch z) e) (Nat.le_refl _) (dictO_ok z), rfl, q _ (I.hok.fresh (Nat.le_refl _))⟩
def gDict (ds : List D) : Option D := match ds with
  | [.list ds] => match asPairs ds with
    | some ps => if ps.length ≤ sizeLine ∧ (ps.map fun p => keyOf p.1).Nodup then some (.dict ps) else none
    | none => none
  | _ => none
theorem nodup_some {α : Type} : ∀ {l : List α}, (l.map some).Nodup → l.Nodup
  | [], _ => List.nodup_nil
  | a :: l, h => by
    rw [List.map_cons, List.nodup_cons] at h
    rw [List.nodup_cons]
    exact ⟨fun z => h.1 (List.mem_map.mpr ⟨a, z, rfl⟩), nodup_some h.2⟩
theorem vn_dict {ppos : Pos} {fa : FE (List D)} (hc : X.calm = true) (hu : X.A.units + 65 < cLine) (hg : Gl X "dict") (hm : X.mg "dict" = none) (h : VA X G p false nw [e] fa)
    (he : starEach [e] X.env = (false, eval e X.env) :: starEach [] X.env := by rfl) (hpl : (backTo pos (starEach [] X.env)).any (·.1) = false := by rfl) :
    VN X G p nw (.Call (.Name "dict" ppos) [e] [] pos) (fMap fa gDict) := by
  refine ⟨(pe_callTy (cr_dictN hc hu) hg hm PyProof.Rows.boot_dict h.pe (by decide) (by decide) he hpl).imp fun σ H Q ⟨F, env, S, d, env', e1, k⟩ => ?_, fun z => fMap_pure (h.pu z)⟩
  obtain ⟨ds, h1, h2⟩ := fMap_some e1
  unfold gDict at h2
  split at h2
  · rename_i ds
    split at h2
    · rename_i ps q1
      split at h2
      · rename_i hl
        cases h2
        refine ⟨F, env, S, _, env', h1, fun F1 H1 vs S1 x1 y1 r1 => ?_⟩
        cases r1 with
        | cons ra rr =>
        cases rr
        have ra' : DR X.prog X.w G.H0 F1 nw _ _ := ra
        cases ra' with
        | @lst a xs _ ha na rx =>
          obtain ⟨kvs, k1, k2, k3⟩ := asPairs_of _ _ _ q1 rx
          have kl := k2.length
          refine ⟨a, xs, kvs, ps, rfl, S1.sub _ _ ha, L2.Paired.mapP k1 fun t p ⟨b, e1, e2⟩ => ⟨b, e1, S1.sub _ _ e2⟩, DRk.rebase (nw := false) (fun z => nomatch z) _ _ (DRk.old _ _ (DRk.mono S1.sub _ _ k2)), k3, ?_, by omega, fun p hp => k F1 H1 p _ S1 x1 y1 hp (.inr ⟨kvs, ps, rfl, rfl, k2⟩)⟩
          have := hl.2
          rw [k2.nkeys] at this
          refine nodup_some ?_
          rwa [List.map_map]
      · cases h2
    · cases h2
  · cases h2
end
end Vl


set_option Elab.async false
set_option linter.all false
set_option autoImplicit false
set_option maxRecDepth 100000
set_option maxHeartbeats 1000000
/-! Layer V, part 13: d.pop(k), d[k] = v, len(d). -/
namespace Vl
open PySem PySem.Spec L2
open PyProof.Rows (envOfC)

section
variable {X : Cx} {G : Gh} {p q b nw ni nwr : Bool} {e e2 : Expr} {f g : FE D} {pos apos cpos : Pos}
theorem dictO_is {pins : List (Addr × Obj)} {σ : L2.St} {H : Hp} {s : Shared} {a : Addr} {kvs : KVs} (I : Inv X pins σ H s) (e : H a = some (DictO X.prog X.w a kvs)) :
    s.TypeIs (.ref a) "dict" ∧ ∀ b, Value.ref a = .ref b → ∃ ob, s.heap.get? b = some ob ∧ ob.dict = none := by
  obtain ⟨_, _, _, _, xs, _, o, es, ep, ho, hc, _⟩ := dictO_at I.hok e
  exact ⟨⟨o, ho, hc.1⟩, fun b z => by cases z; exact ⟨o, ho, hc.2.1⟩⟩
/-- a method of a dict of tuples -/
def tBMN (X : Cx) (r : V → List V → Hp → VK → Prop) (to : TE) (t : TA) : TE := fun σ H Q => to σ H fun x H1 => (∃ a kvs, x = .ref a ∧ H1 a = some (DictO X.prog X.w a kvs)) ∧ t σ H1 fun xs H2 => r x xs H2 Q
theorem pe_bmN {o : Expr} {es : List Expr} {to : TE} {t : TA} {name : Str} {id : String} {r : V → List V → Hp → VK → Prop} (slot : PySem.Slot "dict" name id) (hty : typeOf (.builtin id) = pure (.type "method_descriptor")) (hm : MtR X id r) (ho : PE X o to) (ha : PA X (e :: es) t)
    (hbase : attributeBase o name X.env (eval o X.env) = eval o X.env := by rfl)
    (hfew : ((backTo cpos (starEach (e :: es) X.env)).all (fun x => !x.1) && (backToKw cpos (keywordEach [] X.env)).all (fun x => x.1.isSome)
      && decide ((e :: es).length + ([] : List Keyword).length + (if ([] : List Keyword).isEmpty then 0 else 1) < 30)) = true := by rfl)
    (hline : (apos.endLine == cpos.line) = true := by rfl) (hs : starEach (e :: es) X.env = (false, eval e X.env) :: starEach es X.env := by rfl) (hplain : (backTo cpos (starEach es X.env)).any (·.1) = false := by rfl) :
    PE X (.Call (.Attribute o name apos) (e :: es) [] cpos) (tBMN X r to t) := by
  refine ⟨fun pins s σ H Q I h => wpAny_Call_method_late hbase hfew hline rfl (thn (ho.run pins s σ H _ I h) ?_)⟩
  rintro v s1 ⟨x, H1, I1, r1, ⟨a, kvs, rfl, ha1⟩, q1⟩
  cases (show v = Value.ref a from r1)
  obtain ⟨h1, h2⟩ := dictO_is I1 ha1
  have hA := ha.run cpos pins s1 σ H1 _ I1 q1
  rw [hs] at hA ⊢
  have hp : ((false, eval e X.env) :: backTo cpos (starEach es X.env)).any (·.1) = false := by simp only [List.any_cons, Bool.false_or]; exact hplain
  exact ⟨"dict", id, PySem.F.plainAttrs_dict, slot, hty, h1, h2, Calls.callWith_builtin hp (Calls.evalArgs_plain (thn hA fun us s2 ⟨vs, H2, I2, r2, q2⟩ => hm pins s2 σ H2 (.ref a) vs _ us Q I2 rfl r2 q2))⟩
def rPopN (X : Cx) : V → List V → Hp → VK → Prop := fun x xs H Q => ∃ a b kd kvs ds k c v, x = .ref a ∧ xs = [.ref b] ∧ DR X.prog X.w H H false (.ref b) kd ∧ tupKey kd = some k ∧ H a = some (DictO X.prog X.w a kvs) ∧ DRk X.prog X.w H H false kvs ds ∧ atV kvs k = some (c, v) ∧ Q v (upd H a (DictO X.prog X.w a (delV kvs k)))
theorem mt_popN (hu : X.A.units + 65 < cLine) : MtR X "dict.pop" (rPopN X) := by
  intro pins s σ H x xs v us Q I rx rxs h
  obtain ⟨a, b, kd, kvs, ds, k, c, y, rfl, rfl, rk, ek, ha, rd, ey, q⟩ := h
  obtain ⟨u, rfl, ru⟩ := rxs.one
  cases (show v = Value.ref a from rx)
  cases (show u = Value.ref b from ru)
  obtain ⟨e1, e2, _⟩ := tupKey_some ek
  have z := dictO_at I.hok ha
  obtain ⟨ys, rel, dh⟩ := dictAt_H I.hok z rd
  have yl : kvs.length = ys.length := Paired.length rel
  rcases atV_rel k rel with ⟨q1, q2⟩ | ⟨c', y', w', q1, q2, q3⟩
  · rw [ey] at q1; cases q1
  rw [ey] at q1; cases q1
  refine call_pop_heap (knd := nestedKind X.prog X.w) (k := k) (more := []) (.inl rfl) (PySem.F.args_dict_pop_2 _ _) (by show X.A.in1.units + 8 < cLine; rw [Around.in1_units]; omega) ⟨nested_of I.hok _ _ _ _ rk e1 rfl, e2⟩ z.2.1 dh q2 (fun h' dh' hs => ?_) (by rw [← yl]; exact z.1)
  have dl : (delV kvs k).length ≤ sizeLine := Nat.le_trans (List.length_filter_le _ _) z.1
  have z' : DictAt X.prog X.w a (delV kvs k) h' := dictAt_of (PRk.del k rel) z.2.1 dl dh'
  have he : ∃ q, h'.get? a = some q := let ⟨o, _, _, ho, _⟩ := dh'; ⟨o, ho⟩
  exact ⟨y, _, d_write I (by rw [ha]; exact True.intro) hs he (dictO_ok z'), q3, q⟩
def isOwnK (i : Nat) (env : SE) : Bool := match env[i]? with
  | some (.own (.dict _)) => true
  | _ => false
theorem Sim.isOwnK {F H : Hp} {env : SE} {σ : L2.St} {i : Nat} (S : Sim X G F env σ H) (h : isOwnK i env = true) : ∃ a, σ[i]? = some (some (.ref a)) ∧ ∃ kvs, H a = some (DictO X.prog X.w a kvs) := by
  unfold Vl.isOwnK at h
  split at h
  · rename_i ds q
    obtain ⟨a, o, hs, ho, rr, hF, h0⟩ := S.own i _ q
    rcases rr with ⟨_, _, ee, _⟩ | ⟨kvs, es, ee, rfl, rr⟩
    · cases ee
    · exact ⟨a, hs, kvs, ho⟩
  · cases h
/-- d.pop(k), d the slot's own -/
def fPopK (i : Nat) (f : FE D) : FE D := fun env => if isOwnK i env = true then match f env with
  | some (kd, env1) => match env1[i]? with
    | some (.own (.dict ds)) => match tupKey kd with
      | some k => match atD ds k with
        | some d => some (d, env1.set i (.own (.dict (delD ds k))))
        | none => none
      | none => none
    | _ => none
  | none => none else none
theorem v_popK {i : Nat} {x : Str} {pos1 : Pos} (hu : X.A.units + 65 < cLine) (hN : X.N[i]? = some x) (hv : Vis X.env.scope x) (h1 : VJ X G p false ni e f)
    (hbase : attributeBase (.Name x pos1) "pop" X.env (eval (.Name x pos1) X.env) = eval (.Name x pos1) X.env := by rfl)
    (hfew : ((backTo cpos (starEach [e] X.env)).all (fun x => !x.1) && (backToKw cpos (keywordEach [] X.env)).all (fun x => x.1.isSome)
      && decide (([e] : List Expr).length + ([] : List Keyword).length + (if ([] : List Keyword).isEmpty then 0 else 1) < 30)) = true := by rfl)
    (hline : (apos.endLine == cpos.line) = true := by rfl) (hse : starEach [e] X.env = (false, eval e X.env) :: starEach [] X.env := by rfl) (hplain : (backTo cpos (starEach [] X.env)).any (·.1) = false := by rfl)
    (hd : (x == ("__debug__" : Str)) = false := by decide) (hcd : (x == ("__classdict__" : Str)) = false := by decide) :
    VJ X G false false (G.at i) (.Call (.Attribute (.Name x pos1) "pop" apos) [e] [] cpos) (fPopK i f) := by
  refine ⟨(pe_bmN PySem.F.slot_dict_pop PySem.F.type_dict_pop (mt_popN hu) (pe_var (i := i) hN hv hd hcd) (pa_cons h1.pe pa_nil hse) hbase hfew hline hse hplain).imp fun σ H Q ⟨F, env, S, d, env', e1, k⟩ => ?_, fun z => nomatch z⟩
  unfold fPopK at e1
  split at e1
  case isFalse => cases e1
  rename_i ho
  obtain ⟨a, hs, kvs0, hk0⟩ := S.isOwnK ho
  split at e1
  case h_2 => cases e1
  rename_i kd env1 q1
  split at e1
  case h_2 => cases e1
  rename_i ds q2
  split at e1
  case h_2 => cases e1
  rename_i key q3
  split at e1
  case h_2 => cases e1
  rename_i vd q4
  cases e1
  refine ⟨.ref a, hs, ⟨a, kvs0, rfl, hk0⟩, F, env, S, kd, env1, q1, fun F1 H1 v S1 x1 y1 r1 => ?_⟩
  obtain ⟨a', o, hs', ho', rr, hF, h0⟩ := S1.own i _ q2
  rw [hs] at hs'; cases hs'
  rcases rr with ⟨_, _, ee, _⟩ | ⟨kvs, es, ee, rfl, rr⟩
  · cases ee
  cases ee
  obtain ⟨_, _, ks, rfl⟩ := tupKey_some q3
  have r1' : DR X.prog X.w G.H0 F1 ni v _ := r1
  have r1'' := r1'
  cases r1'' with
  | @tup b xs _ hb rx =>
  rcases atD_rel key rr with ⟨z1, z2⟩ | ⟨c, y, d', z1, z2, z3⟩
  · rw [q4] at z2; cases z2
  rw [q4] at z2; cases z2
  refine ⟨a, b, _, kvs, _, key, c, y, rfl, rfl, DR.rebase (nw := false) (fun z => nomatch z) _ _ (DR.old _ _ (DR.mono S1.sub _ _ r1')), q3, ho', DRk.rebase (nw := false) (fun z => nomatch z) _ _ (DRk.old _ _ (DRk.mono S1.sub _ _ rr)), z1, ?_⟩
  exact k F1 _ y (S1.write q2 hs (.inr ⟨_, _, rfl, rfl, rr.del key⟩)) x1 (fun z => nomatch z) z3
end
end Vl


set_option Elab.async false
set_option linter.all false
set_option autoImplicit false
set_option maxRecDepth 100000
set_option maxHeartbeats 1000000
/-! Layer V, part 14: isinstance. -/
namespace Vl
open PySem PySem.Spec L2
open PyProof.Rows (envOfC)

section
variable {X : Cx} {G : Gh} {p q b nw ni nwr : Bool} {e e2 : Expr} {f g : FE D} {pos apos cpos : Pos}
def tyN : D → Option String
  | .none => some "NoneType"
  | .bool _ => some "bool"
  | .int _ => some "int"
  | .str _ => some "str"
  | .list _ => some "list"
  | .tuple _ => some "tuple"
  | .dict _ => none
def isiAny (t : String) : List String → Option Bool
  | [] => some false
  | T :: Ts => match kitB t T with
    | some true => some true
    | some false => isiAny t Ts
    | none => none
def isiD (T : String) (d : D) : Option D := match tyN d with
  | some t => (kitB t T).map .bool
  | none => none
def isiTD (Ts : List String) (d : D) : Option D := match tyN d with
  | some t => (isiAny t Ts).map .bool
  | none => none
theorem tyN_of {F H : Hp} {v : V} {d : D} {t : String} (s : Sub F H) (r : BR X.prog X.w G.H0 F H ni v d) (e : tyN d = some t) : TyX X.K H v (.type t) := by
  unfold tyN at e
  split at e <;> cases e
  · rw [r.non]; exact .base .non
  · rw [r.bool]; exact .base (.bl _)
  · rw [r.int]; exact .base (.int _)
  · rw [r.str]; exact .base (.str _)
  · obtain ⟨a, xs, rfl, h, _⟩ := r.list s; exact .base (.lst h)
  · obtain ⟨a, xs, rfl, h, _⟩ := r.tuple s; exact .base (.tup h)
theorem v_isi {x : Str} {n : String} {ppos tpos : Pos} (hg : Gl X "isinstance") (hm : X.mg "isinstance" = none) (hgT : Gl X x) (hmT : X.mg x = none) (hvT : bootBuiltins x = some (.type n)) (h : VJ X G p true ni e f)
    (hn : x ≠ "__name__" := by decide) (hdb : (x == ("__debug__" : Str)) = false := by decide)
    (he : starEach [e, .Name x tpos] X.env = (false, eval e X.env) :: starEach [.Name x tpos] X.env := by rfl) (he2 : starEach [.Name x tpos] X.env = (false, eval (.Name x tpos) X.env) :: starEach [] X.env := by rfl) (hpl : (backTo pos (starEach [.Name x tpos] X.env)).any (·.1) = false := by rfl) :
    VJ X G p false nw (.Call (.Name "isinstance" ppos) [e, .Name x tpos] [] pos) (fMap f (isiD n)) := by
  refine ⟨(pe_callB call_isi hg hm (by decide +kernel) (pa_cons h.pe (pa_cons (pe_bltn (v := .ty n) hgT hmT hvT rfl hn hdb) pa_nil he2) he) (by decide) (by decide) he hpl).imp fun σ H Q ⟨F, env, S, d, env', e1, k⟩ => ?_, fun z => fMap_pure (h.pu z)⟩
  obtain ⟨d0, h1, h2⟩ := fMap_some e1
  unfold isiD at h2
  split at h2
  · rename_i t q1
    obtain ⟨b0, q2, rfl⟩ := Option.map_eq_some_iff.mp h2
    refine ⟨F, env, S, d0, env', h1, fun F1 H1 v S1 x1 y1 r1 => ?_⟩
    exact ⟨v, .ty n, .type t, .type n, b0, rfl, .ty n, tyN_of S1.sub r1.br q1, kit_ty q2, k F1 H1 _ S1 x1 y1 (.bl _)⟩
  · cases h2
/-- names of types in a display -/
def tTys (Ts : List String) : TA := fun _ H Q => Q (Ts.map .ty) H
theorem pa_ty0 : PA X [] (tTys []) := pa_nil.imp fun σ H Q q => q
theorem pa_ty {x : Str} {n : String} {Ts : List String} {es : List Expr} {tpos : Pos} (hgT : Gl X x) (hmT : X.mg x = none) (hvT : bootBuiltins x = some (.type n)) (h : PA X es (tTys Ts))
    (hn : x ≠ "__name__" := by decide) (hdb : (x == ("__debug__" : Str)) = false := by decide)
    (he2 : starEach (.Name x tpos :: es) X.env = (false, eval (.Name x tpos) X.env) :: starEach es X.env := by rfl) : PA X (.Name x tpos :: es) (tTys (n :: Ts)) :=
  (pa_cons (pe_bltn (v := .ty n) hgT hmT hvT rfl hn hdb) h he2).imp fun σ H Q q => q
theorem isiAny_kit {K : PySem.W.Frag} {t : String} : ∀ {Ts : List String} {b : Bool}, isiAny t Ts = some b → PySem.W.kitAny K (.type t) (Ts.map Value.type) = some b
  | [], _, e => by cases e; rfl
  | T :: Ts, b, e => by
    unfold isiAny at e
    split at e
    · rename_i q
      cases e
      exact kitAny_cons (kit_ty q) (fun z => nomatch z) fun _ => rfl
    · rename_i q
      exact kitAny_cons (kit_ty q) (fun _ => isiAny_kit e) fun z => nomatch z
    · cases e
theorem v_isiT {Ts : List String} {es : List Expr} {m : Nat} {ppos tpos : Pos} (hg : Gl X "isinstance") (hm : X.mg "isinstance" = none) (hT : PA X es (tTys Ts)) (hl : Ts.length ≤ sizeLine) (h : VJ X G p true ni e f)
    (he : starEach [e, .Tuple es m tpos] X.env = (false, eval e X.env) :: starEach [.Tuple es m tpos] X.env := by rfl) (he2 : starEach [.Tuple es m tpos] X.env = (false, eval (.Tuple es m tpos) X.env) :: starEach [] X.env := by rfl) (hpl : (backTo pos (starEach [.Tuple es m tpos] X.env)).any (·.1) = false := by rfl) :
    VJ X G p false nw (.Call (.Name "isinstance" ppos) [e, .Tuple es m tpos] [] pos) (fMap f (isiTD Ts)) := by
  refine ⟨(pe_callB call_isiT hg hm (by decide +kernel) (pa_cons h.pe (pa_cons (pe_tup hT) pa_nil he2) he) (by decide) (by decide) he hpl).imp fun σ H Q ⟨F, env, S, d, env', e1, k⟩ => ?_, fun z => fMap_pure (h.pu z)⟩
  obtain ⟨d0, h1, h2⟩ := fMap_some e1
  unfold isiTD at h2
  split at h2
  · rename_i t q1
    obtain ⟨b0, q2, rfl⟩ := Option.map_eq_some_iff.mp h2
    refine ⟨F, env, S, d0, env', h1, fun F1 H1 v S1 x1 y1 r1 => ⟨by simpa using hl, fun a ha => ?_⟩⟩
    have x2 := Ext.updH S1.sub ha (o := .tup (Ts.map .ty))
    have cls : ∀ Us : List String, Paired ClsV (Us.map V.ty) (Us.map Value.type) := by
      intro Us
      induction Us with
      | nil => exact .nil
      | cons T Us ih => exact .cons (.ty T) ih
    exact ⟨v, a, _, .type t, _, b0, rfl, upd_same, cls Ts, tyN_of (S1.ext x2).sub (r1.br.ext x2) q1, isiAny_kit q2, k F1 _ _ (S1.ext x2) (x1.trans (x2.weak S1)) (fun z => (y1 z).trans x2) (.bl _)⟩
  · cases h2
end
end Vl


set_option Elab.async false
set_option linter.all false
set_option autoImplicit false
set_option maxRecDepth 100000
set_option maxHeartbeats 1000000
/-! Layer V, part 15: defs that ask that no repr is under way; calls by keywords alone. -/
namespace Vl
open PySem PySem.Spec L2
open PyProof.Rows (envOfC)

/-- room, and no repr under way -/
structure RoomG (k : Nat) (A : Around) : Prop where
  room : Room k A
  calm : A.guards = some []
theorem RoomG.mono {j k : Nat} {A : Around} (r : RoomG k A) (h : j ≤ k) : RoomG j A := ⟨r.room.mono h, r.calm⟩
theorem RoomG.deeper {k : Nat} {A : Around} (r : RoomG (k + 1) A) (env : Env) : RoomG k (A.deeper env) := ⟨r.room.deeper env, r.calm⟩
/-- a def that keeps its promise where no repr is under way -/
structure FnG (P : Program) (w : World) (K : PySem.W.Frag) (mg : Str → Option Value) (base : Heap) (k : Nat) (f : Addr) (fd : FuncData) (ps : List Str) (sp : Sp) : Prop where
  len : ∀ vs H Q E, sp vs H Q E → vs.length = ps.length
  run : ∀ (A : Around) (outer : List Env) (s : Shared) (H : Hp) (args : Args) (us : List Value) (vs : List V) (Q : VK) (E : XK), RoomG k A → Env0 P w K mg base A outer s H → BindsTo s fd args (ps.zip us) → Vals vs us → sp vs H Q E →
    codeAny (model P w) A (.call (.ref f) args) (CR CX0 outer P w H s Q E) s
theorem FnOk.guarded {P : Program} {w : World} {K : PySem.W.Frag} {mg : Str → Option Value} {base : Heap} {k : Nat} {f : Addr} {fd : FuncData} {ps : List Str} {sp : Sp} (h : FnOk P w K mg base CX0 k f fd ps sp) : FnG P w K mg base k f fd ps sp :=
  ⟨h.len, fun A outer s H args us vs Q E hr => h.run A outer s H args us vs Q E hr.room⟩

section
variable {P : Program} {w : World} {K : PySem.W.Frag} {mg : Str → Option Value} {base : Heap}
theorem fng_of {x qual : Str} {st : Stmt} {f : Addr} {fd : FuncData} {N ps : List Str} {k : Nat} {sp : Sp} (F : Fun K x qual st f fd) (S : FnScope N ps (defScope st)) (len : ∀ vs H Q E, sp vs H Q E → vs.length = ps.length)
    (hbody : ∀ (cdv : Value) (A : Around) (outer : List Env) (s : Shared) (H : Hp) (vs : List V) (Q : VK) (E : XK), RoomG k (A.deeper (envOfC qual (defScope st) s.heap.objs.size f cdv)) → sp vs H Q E →
      ∃ t, PSs (cxOf CX0 P w K mg base N qual (defScope st) f cdv A outer s H E).nox (defBody st) t ∧ t { nx := fun _ H' => Q .non H', rt := Q } (L2.start N vs) H) : FnG P w K mg base (k + 1) f fd ps sp := by
  obtain ⟨oc, od, kV, doc, pm, an, cdv, ct, osl, rfl, lk, hcd⟩ := F.ex
  refine ⟨len, ?_⟩
  intro A outer s H args us vs Q E room e0 binds rv hsp
  have below : ∀ {b : Addr} {o : Obj}, base.get? b = some o → s.heap.get? b = some o := fun e => (e0.bs _ _ e).1
  have inK : K.In s.heap := e0.mod.kin.keeps fun _ _ => below
  have lookups : ∀ y ∈ ps.zip us, (defScope st).names.lookup y.1 = some .local ∨ ((defScope st).names.lookup y.1 = some .cell ∧ ((cellsFrom (s.heap.objs.size + 1) (defScope st).names []).lookup y.1).isSome = true) := by
    rintro ⟨n, v⟩ mem
    rcases S.par n (List.of_mem_zip mem).1 with loc | cel
    · exact Or.inl loc
    · exact Or.inr ⟨cel, PySem.W.cellsFrom_some _ _ _ (Or.inl cel)⟩
  refine codeAny_call_function room.room.depth (inK _ _ lk) rfl S.co S.gen rfl (PySem.W.codeRec_of inK hcd) (binds _ _ _ _ (wpAny_newFunctionEnv_cells S.kind lookups ?_))
  rintro env rfl s1 frame
  refine ⟨(e0.mod.nolimit.keeps fun _ _ => below).keeps frame.toInCall.keep, codeAny_func ?_⟩
  obtain ⟨t, body, start⟩ := hbody cdv A outer s H vs Q E (room.deeper _) hsp
  refine wpAny_mono (body.nox.run [] s1 (L2.start N vs) H _ (inv_start S room.room.hd e0 (len _ _ _ _ hsp) rv frame) start) ?_ fun _ _ out => out
  intro fl s' out
  match fl, out with
  | .ret u, ⟨v, σ', H', J, r, q⟩ => exact ⟨v, H', J.os, J.bare, J.base, J.hok, r, q⟩
  | .next, ⟨σ', H', J, q⟩ => exact ⟨.non, H', J.os, J.bare, J.base, J.hok, rfl, q⟩
  | .brk, ⟨_, _, _, q⟩ => exact q.elim
  | .cont, ⟨_, _, _, q⟩ => exact q.elim
end

section
variable {X : Cx} {k : Nat} {f : Addr} {fd : FuncData} {ps ks : List Str} {sp : Sp} {x : Str} {pos ppos : Pos} {e : Expr} {es : List Expr} {t tk : TA} {dvs : List V} {ds : List Value} {n : Nat} {kws : List Keyword} {g : List Value → List Value → List Value} {gV : List V → List V → List V}
theorem pe_callG (F : FnG X.prog X.w X.K X.mg X.base k f fd ps sp) (room : RoomG k X.A) (hg : Gl X x) (hm : X.mg x = some (.ref f)) (hk : PySem.W.keepIn X.K (.ref f) = true) (hb : Binds X.K fd ps ds) (hd : Vals dvs ds) (ha : PA X (e :: es) t)
    (hdb : (x == ("__debug__" : Str)) = false := by decide) (he : starEach (e :: es) X.env = (false, eval e X.env) :: starEach es X.env := by rfl) (hpl : (backTo pos (starEach es X.env)).any (·.1) = false := by rfl) :
    PE X (.Call (.Name x ppos) (e :: es) [] pos) (tCall sp dvs E0 t) := by
  constructor
  intro pins s σ H Q I h
  refine wpAny_Call_Name_kw (ld_glob I hg hm (PySem.W.callWith_K (h₀ := X.base) I.ok.mod.kin hk (thn (ha.run pos pins s σ H _ I h) ?_) he hpl) hdb)
  rintro us s1 ⟨vs, H1, I1, rv, q⟩
  have rall : Vals (vs ++ dvs) (us ++ ds) := rv.append hd
  have many : (us ++ ds).length = ps.length := rall.length.symm.trans (F.len _ _ _ _ q)
  refine ⟨I1.kIn, wpAny_call (codeAny_mono (F.run X.A X.stack s1 H1 ⟨us, []⟩ (us ++ ds) (vs ++ dvs) Q E0 room I1.env0 (hb s1 us I1.kIn many) rall q) ?_)⟩
  intro r s' out
  match r, out with
  | .error _, no => exact (no : False).elim
  | .ok (.ret _), yes => exact I1.after yes
  | .ok .next, no => exact (no : False).elim
  | .ok .brk, no => exact (no : False).elim
  | .ok .cont, no => exact (no : False).elim
/-- f(k = v, ..): no positional value -/
def tCallO (m : Nat) (sp : Sp) (gV : List V → List V → List V) (tk : TA) : TE := fun σ H Q => tk σ H fun zs H2 => zs.length = m ∧ sp (gV [] zs) H2 Q E0
theorem pe_callO (F : FnOk X.prog X.w X.K X.mg X.base CX0 k f fd ps sp) (room : Room k X.A) (hg : Gl X x) (hm : X.mg x = some (.ref f)) (hk : PySem.W.keepIn X.K (.ref f) = true) (hb : KBn X.K fd ps 0 ks g gV) (hkw : PK X kws tk)
    (hall : (backToKw pos (keywordEach kws X.env)).all (·.1.isSome) = true := by rfl) (hks : (backToKw pos (keywordEach kws X.env)).filterMap (·.1) = ks := by rfl)
    (hdb : (x == ("__debug__" : Str)) = false := by decide) (hpl : ((backTo pos (starEach [] X.env)).any (·.1) || (backToKw pos (keywordEach kws X.env)).any (·.1.isNone)) = false := by rfl) :
    PE X (.Call (.Name x ppos) [] kws pos) (tCallO ks.length sp gV tk) := by
  constructor
  intro pins s σ H Q I h
  refine wpAny_Call_Name_kw (ld_glob I hg hm (PySem.W.callWith_KW0 (h₀ := X.base) I.ok.mod.kin hk hall (thn (hkw.run pos pins s σ H _ I h) ?_) hpl) hdb)
  rintro ws s1 ⟨zs, H1, I1, rz, len, q⟩
  rw [hks]
  exact ⟨I1.kIn, run_fnN (us := []) F room hb pass0 I1 .nil rz rfl len q⟩
end
end Vl


set_option Elab.async false
set_option linter.all false
set_option autoImplicit false
set_option maxRecDepth 100000
set_option maxHeartbeats 1000000
/-! Layer V, part 16: the end: a law's def that asks that no repr is under way. -/
namespace Vl
open PySem PySem.Spec L2 PyProof.Rows

section
variable {P : Program} {w : World} {K : PySem.W.Frag} {mg mb : Str → Option Value} {k : Nat} {fa a : Addr} {fd : FuncData} {x : Str} {sp : Sp} {s : Shared} {vs : List Value} {ns : List Int}
/-- from an abstract heap that tracks the script alone, or nothing -/
theorem law_from {H : Hp} (inK : K.In s.heap) (globals : s.heap.Ns mainGlobals mg) (hb : s.heap.Ns builtinsNs mb) (hbb : ∀ x : Str, x ≠ "__name__" → mb x = bootBuiltins x) (nolim : s.heap.NoLimit) (nogens : s.gens = #[])
    (lst : ∃ o : Obj, s.heap.get? a = some o ∧ ∀ es ep, o.data ≠ .dict es ep) (room : RoomG k callerA)
    (F : ∀ base : Heap, K.In base → base.Ns mainGlobals mg → FnG P w K mg base k fa fd [x] sp) (hbind : ∀ (s : Shared) (u : Value), BindsTo s fd ⟨[u], []⟩ [(x, u)])
    (only : Only H) (hsp : sp [.ref a] H (fun v _ => v = .bl true) E0) (ok : HOk P w H s.heap) (track : ∀ b, H b ≠ none → b = a) (apart : H a ≠ none → K.lookup a = none) :
    codeAny (model P w) callerA (.call (.ref fa) ⟨[.ref a], []⟩) (fun r s' => r = .ok (.ret (.bool true)) ∧ OldK s.heap s'.heap ∧ s'.os = s.os ∧ AllBare s'.gens) s := by
  obtain ⟨oa, hoa, nodict⟩ := lst
  have untracked : ∀ b, b ≠ a → H b = none := fun b ne => Classical.byContradiction fun z => ne (track b z)
  -- the module's objects and dicts stand in the base
  have kept : ∀ {b : Addr} {o : Obj}, s.heap.get? b = some o → H b = none → (hidT s.heap H).get? b = some o := fun e n => hidT_get e n
  have space : ∀ {b : Addr} {m : Str → Option Value}, s.heap.Ns b m → (hidT s.heap H).Ns b m := by
    rintro b m ⟨o, es, ep, e, d, r⟩
    refine ⟨o, es, ep, kept e (untracked b ?_), d, r⟩
    rintro rfl
    rw [hoa] at e
    cases e
    exact nodict _ _ d
  have kBase : K.In (hidT s.heap H) := by
    intro b o e
    refine kept (inK b o e) ?_
    by_cases hb : b = a
    · subst hb
      refine Classical.byContradiction fun z => ?_
      rw [apart z] at e
      cases e
    · exact untracked b hb
  have nolim' : (hidT s.heap H).NoLimit := by
    obtain ⟨mc, h1, h2⟩ := nolim
    exact ⟨mc, space h1, h2⟩
  have env0 : Env0 P w K mg (hidT s.heap H) callerA [] s H :=
    ⟨rfl, ⟨kBase, space globals, ⟨mb, space hb, hbb⟩, nolim'⟩, fun b o e => of_hidT e, Nat.le_of_eq (hidT_size _ _), trivial, (fun b z => absurd (show b ∈ ([] : List Addr) from z) (by simp)), ok, .of_eq nogens⟩
  have run := (F _ kBase (space globals)).run callerA [] s H ⟨[.ref a], []⟩ [.ref a] [.ref a] _ _ room env0 (hbind s (.ref a)) (.cons rfl .nil) hsp
  refine codeAny_mono run ?_
  intro r s' out
  match r, out with
  | .error _, no => exact (no : False).elim
  | .ok .next, no => exact (no : False).elim
  | .ok .brk, no => exact (no : False).elim
  | .ok .cont, no => exact (no : False).elim
  | .ok (.ret u), ⟨v, H', os, bare, un, ok', rv, q⟩ =>
    have q : v = .bl true := q
    subst q
    have ru : u = Value.bool true := rv
    subst ru
    refine ⟨rfl, OldK.of_keep ?_, os, bare⟩
    intro b o e
    cases hb : H b with
    | none => exact un.keep b o e hb (fun z => absurd (show b ∈ ([] : List Addr) from z) (by simp)) (by simp)
    | some u =>
      rcases only b with z | ⟨ob, xs, z⟩
      · rw [hb] at z; cases z
      · have old := (ok b _ z).1
        rw [e] at old
        cases old
        exact (ok' b _ (un.frzs b _ _ z)).1
theorem law_callG (inK : K.In s.heap) (globals : s.heap.Ns mainGlobals mg) (hb : s.heap.Ns builtinsNs mb) (hbb : ∀ x : Str, x ≠ "__name__" → mb x = bootBuiltins x) (nolim : s.heap.NoLimit) (nogens : s.gens = #[])
    (script : s.heap.get? a = some { cls := .type "list", data := .seq vs.toArray }) (allInt : IntsAre vs ns) (few : ns.length ≤ sizeLine) (room : RoomG k callerA)
    (F : ∀ base : Heap, K.In base → base.Ns mainGlobals mg → FnG P w K mg base k fa fd [x] sp) (hbind : ∀ (s : Shared) (u : Value), BindsTo s fd ⟨[u], []⟩ [(x, u)])
    (hsp : ∀ H : Hp, Only H → SqL K H a (ns.map V.int) → sp [.ref a] H (fun v _ => v = .bl true) E0) :
    codeAny (model P w) callerA (.call (.ref fa) ⟨[.ref a], []⟩) (fun r s' => r = .ok (.ret (.bool true)) ∧ OldK s.heap s'.heap ∧ s'.os = s.os ∧ AllBare s'.gens) s := by
  have rv := vals_ints allInt
  have lst : ∃ o : Obj, s.heap.get? a = some o ∧ ∀ es ep, o.data ≠ .dict es ep := ⟨_, script, fun _ _ z => by cases z⟩
  cases own : K.lookup a with
  | some o =>
    have same := inK a o own
    rw [script] at same
    cases same
    have only : Only fun _ => none := fun _ => Or.inl rfl
    refine law_from inK globals hb hbb nolim nogens lst room F hbind only (hsp _ only (Or.inr ⟨_, vs.toArray, _, own, rfl, rfl, rfl, ?_, by simpa using rv⟩)) (fun _ _ z => nomatch z) (fun _ z => (z rfl).elim) fun z => (z rfl).elim
    rw [List.size_toArray, allInt.length]
    exact few
  | none =>
    have only : Only (upd (fun _ => none) a (.frz { cls := .type "list", data := .seq vs.toArray } (.lst (ns.map V.int)))) := by
      intro b
      by_cases e : b = a
      · subst e; exact Or.inr ⟨_, _, upd_same⟩
      · exact Or.inl (by rw [upd_ne e])
    refine law_from inK globals hb hbb nolim nogens lst room F hbind only (hsp _ only (Or.inl (Or.inr ⟨_, upd_same⟩))) ?_ ?_ fun _ => own
    · intro b u z
      by_cases e : b = a
      · subst e
        rw [upd_same] at z
        cases z
        exact ⟨script, by rw [List.length_map]; exact few, vs, _, rv, script⟩
      · rw [upd_ne e] at z
        cases z
    · intro b z
      refine Classical.byContradiction fun e => z ?_
      rw [upd_ne e]
end
theorem walk_ofG {l : PySem.W.OpenLaw} {n k : Nat} {q : Program} {loose : List Str} {XP : (Str → Option Value) → Heap → Prop} {YP : World → Heap → Prop} {d : DefRec} {K : Params → PySem.W.Frag} {sp : World → Sp} {x : Str}
    (most : l.most = some n) (small : n ≤ sizeLine) (nodef : d.params.defaults = []) (room : RoomG k callerA) (hY : ∀ (w : World) (h : Heap), YP w h → (K w.params).In h)
    (F : ∀ (w : World) (mg : Str → Option Value) (fa : Addr) (h : Heap), (K w.params).In h → h.Ns mainGlobals mg → mg d.name = some (.ref fa) →
      ∃ fd : FuncData, (∀ (s : Shared) (u : Value), BindsTo s fd ⟨[u], []⟩ [(x, u)]) ∧ ∀ base : Heap, (K w.params).In base → base.Ns mainGlobals mg → FnG l.prog w (K w.params) mg base k fa fd [x] (sp w))
    (hsp : ∀ (w : World) (H : Hp) (a : Addr) (ns : List Int), ns.length ≤ n → Only H → SqL (K w.params) H a (ns.map V.int) → sp w [.ref a] H (fun v _ => v = .bl true) E0) :
    PySem.W.WalkO q loose XP YP l.row.toRowW d [] (fun f vs => PySem.call f vs) := by
  refine Att.attach_call most nodef ?_
  intro w s₀ s₁ mg mb fa o pm cd doc a vs ns G Y ho hd hcd hmg hobj allInt short nogens
  obtain ⟨fd, binds, promise⟩ := F w mg fa _ (hY w _ Y) G.T.g hmg
  exact law_callG (hY w _ Y) G.T.g G.T.b G.T.builtins G.T.nolimit nogens hobj allInt (Nat.le_trans short small) room promise binds fun H hO hS => hsp w H a ns short hO hS
end Vl


set_option Elab.async false
set_option linter.all false
set_option autoImplicit false
set_option maxRecDepth 100000
set_option maxHeartbeats 1000000
/-! Layer V, part 17: guarded defs, calls by keywords, calls that look at an own list, repr. -/
namespace Vl
open PySem PySem.Spec L2
open PyProof.Rows (envOfC)
section
variable {P : Program} {w : World} {K : PySem.W.Frag} {mg : Str → Option Value} {base : Heap}
/-- a def whose parameters are only read: from its body's derivation to its promise -/
theorem fn0G {x qual : Str} {st : Stmt} {f : Addr} {fd : FuncData} {N ps : List Str} {k : Nat} {nwr : Bool} {fl : List Bool} {bd : FS} (F : Fun K x qual st f fd) (S : FnScope N ps (defScope st)) (hfl : ∀ i, i < ps.length → fl.getD i false = false) (hps : ps.length ≤ N.length)
    (hbody : ∀ (cdv : Value) (A : Around) (outer : List Env) (s : Shared) (H : Hp) (E : XK), RoomG k (A.deeper (envOfC qual (defScope st) s.heap.objs.size f cdv)) →
      VB (cxOf CX0 P w K mg base N qual (defScope st) f cdv A outer s H E).nox ⟨H, [], fl⟩ nwr (defBody st) bd) : FnG P w K mg base (k + 1) f fd ps (sp0 P w ps.length nwr (runD N.length bd)) := by
  refine fng_of F S (fun vs H Q E h => ?_) (fun cdv A outer s H vs Q E hr h => ?_)
  · obtain ⟨F, ds, _, r, hl, _⟩ := h
    rw [r.length, hl]
  · obtain ⟨F0, ds, sF, r, hl, res, env', hT, k0⟩ := h
    refine ⟨_, (hbody cdv A outer s H E hr).pss, ?_⟩
    have hvl : vs.length = ds.length := r.length
    have hlen : (L2.start N vs).length = N.length := start_len N vs (by omega)
    have Sm : Sim (cxOf CX0 P w K mg base N qual (defScope st) f cdv A outer s H E).nox ⟨H, [], fl⟩ F0 (ds.map .dat ++ List.replicate (N.length - ds.length) .un) (L2.start N vs) H := by
      refine ⟨by rw [hlen]; simp; omega, sF, fun q o e _ => e, fun i d e => ?_, fun i d e => ?_, fun i j a d e h1 _ _ _ => ?_, fun p hp => nomatch hp⟩
      · have e' := pad_get (by intro z; cases z) e
        rw [List.getElem?_map] at e'
        cases hd : ds[i]? with
        | none => rw [hd] at e'; cases e'
        | some d' =>
          rw [hd] at e'; cases e'
          obtain ⟨v, hv, rv⟩ := r.get hd
          refine ⟨v, start_get hv, ?_⟩
          have hi : i < ds.length := (List.getElem?_eq_some_iff.mp hd).1
          show DR P w H F0 (fl.getD i false) v d
          rw [hfl i (by omega)]
          exact rv
      · have e' := pad_get (by intro z; cases z) e
        rw [List.getElem?_map] at e'
        cases hd : ds[i]? with
        | none => rw [hd] at e'; cases e'
        | some d' => rw [hd] at e'; cases e'
      · have e' := pad_get (by intro z; cases z) h1
        rw [List.getElem?_map] at e'
        cases hd : ds[i]? with
        | none => rw [hd] at e'; cases e'
        | some d' => rw [hd] at e'; cases e'
    unfold runD at hT
    simp only [List.length_map] at hT
    split at hT
    · rename_i d env q
      cases hT
      refine ⟨F0, _, Sm, _, q, fun F' σ' H' v S' x r' => ?_⟩
      exact k0 F' H' v x.f S'.sub x.new (fun q o e => S'.fr q o e (by simp [Gh.ioA])) r'
    · rename_i env q
      cases hT
      refine ⟨F0, _, Sm, _, q, fun F' σ' H' S' x => ?_⟩
      exact k0 F' H' .non x.f S'.sub x.new (fun q o e => S'.fr q o e (by simp [Gh.ioA])) .non
    · cases hT
/-- the same, guarded -/
theorem fn1G {x qual : Str} {st : Stmt} {f : Addr} {fd : FuncData} {N ps : List Str} {k : Nat} {nwr : Bool} {fl : List Bool} {bd : FS} (F : Fun K x qual st f fd) (S : FnScope N ps (defScope st)) (hfl : ∀ i, i < ps.length → fl.getD i false = false) (hps : ps.length ≤ N.length)
    (hbody : ∀ (a0 : Addr) (cdv : Value) (A : Around) (outer : List Env) (s : Shared) (H : Hp) (E : XK), RoomG k (A.deeper (envOfC qual (defScope st) s.heap.objs.size f cdv)) →
      VB (cxOf CX0 P w K mg base N qual (defScope st) f cdv A outer s H E).nox ⟨H, [(0, a0)], fl⟩ nwr (defBody st) bd) : FnG P w K mg base (k + 1) f fd ps (sp1 P w ps.length nwr (runD N.length bd)) := by
  refine fng_of F S (fun vs H Q E h => ?_) (fun cdv A outer s H vs Q E hr h => ?_)
  · obtain ⟨F, a, o, d, vs', ds, rfl, _, _, _, _, r, hl, _⟩ := h
    rw [← hl, ← r.length]; rfl
  · obtain ⟨F0, a0, o, d, vs', ds, rfl, sF, ho, hO, hF, r, hl, res, env', hT, k0⟩ := h
    refine ⟨_, (hbody a0 cdv A outer s H E hr).pss, ?_⟩
    have hvl : vs'.length = ds.length := r.length
    have hlen : (L2.start N (.ref a0 :: vs')).length = N.length := start_len N _ (by simp; omega)
    have get : ∀ i s, s ≠ Slot.un → ((Slot.own d :: ds.map .dat) ++ List.replicate (N.length - (ds.length + 1)) .un)[i]? = some s → (i = 0 ∧ s = .own d) ∨ ∃ j d', i = j + 1 ∧ ds[j]? = some d' ∧ s = .dat d' := fun i s hs e => by
      have e' := pad_get hs e
      cases i with
      | zero => simp at e'; exact .inl ⟨rfl, e'.symm⟩
      | succ j =>
        right
        rw [List.getElem?_cons_succ, List.getElem?_map] at e'
        cases hd : ds[j]? with
        | none => rw [hd] at e'; cases e'
        | some d' => rw [hd] at e'; cases e'; exact ⟨j, d', rfl, hd, rfl⟩
    have h00 : (L2.start N (.ref a0 :: vs'))[0]? = some (some (.ref a0)) := start_get rfl
    have fl0 : ∀ i, i < ps.length → (⟨H, [(0, a0)], fl⟩ : Gh).at i = false := fun i hi => hfl i hi
    have Sm : Sim (cxOf CX0 P w K mg base N qual (defScope st) f cdv A outer s H E).nox ⟨H, [(0, a0)], fl⟩ F0 ((Slot.own d :: ds.map .dat) ++ List.replicate (N.length - (ds.length + 1)) .un) (L2.start N (.ref a0 :: vs')) H := by
      refine ⟨by rw [hlen]; simp; omega, sF, fun q o e _ => e, fun i d' e => ?_, fun i d' e => ?_, fun i j a d1 d2 h1 h2 _ _ => ?_, fun p hp => ?_⟩
      · rcases get i _ (by intro z; cases z) e with ⟨_, z⟩ | ⟨j, d2, rfl, hd, z⟩
        · cases z
        · cases z
          obtain ⟨v, hv, rv⟩ := r.get hd
          have hj : j < ds.length := (List.getElem?_eq_some_iff.mp hd).1
          exact ⟨v, start_get (by simpa using hv), by rw [fl0 _ (by omega)]; exact rv⟩
      · rcases get i _ (by intro z; cases z) e with ⟨rfl, z⟩ | ⟨j, d2, rfl, hd, z⟩
        · cases z
          exact ⟨a0, o, h00, ho, by rw [fl0 _ (by omega)]; exact hO, hF, .inr (by simp [Gh.ioA])⟩
        · cases z
      · rcases get i _ (by intro z; cases z) h1 with ⟨rfl, _⟩ | ⟨_, _, _, _, z⟩
        · rcases get j _ (by intro z; cases z) h2 with ⟨rfl, _⟩ | ⟨_, _, _, _, z⟩
          · rfl
          · cases z
        · cases z
      · have : p = (0, a0) := by simpa using hp
        subst this
        exact ⟨h00, d, rfl⟩
    have fin : ∀ {F' σ' H' env v}, Sim (cxOf CX0 P w K mg base N qual (defScope st) f cdv A outer s H E).nox ⟨H, [(0, a0)], fl⟩ F' env σ' H' → Ext0 ⟨H, [(0, a0)], fl⟩ F0 F' → env = env' → DR P w H F' nwr v res → Q v H' := fun {F' σ' H' env v} S' x e r' => by
      subst e
      obtain ⟨z1, d', z2⟩ := S'.io (0, a0) (by simp)
      obtain ⟨b, o', b1, b2, b3, b4, _⟩ := S'.own 0 d' z2
      rw [z1] at b1; cases b1
      refine k0 F' H' v o' d' x.f S'.sub x.new (fun q u e hne => S'.fr q u e (by simp [Gh.ioA]; exact hne)) b4 z2 b2 ?_ r'
      rw [fl0 0 (by omega)] at b3
      exact b3
    unfold runD at hT
    simp only [List.length_cons, List.length_map] at hT
    split at hT
    · rename_i d2 env q
      cases hT
      exact ⟨F0, _, Sm, _, q, fun F' σ' H' v S' x r' => fin S' x rfl r'⟩
    · rename_i env q
      cases hT
      exact ⟨F0, _, Sm, _, q, fun F' σ' H' S' x => fin S' x rfl .non⟩
    · cases hT
end
section
variable {X : Cx} {G : Gh} {p q b nw ni nwr : Bool} {e e2 : Expr} {es : List Expr} {f g : FE D} {fa : FE (List D)} {pos ppos : Pos} {x : Str} {T : FD} {k n : Nat} {fA : Addr} {fd : FuncData} {ps : List Str}
theorem v_call1G {i : Nat} {y : Str} {ypos : Pos} (FN : FnG X.prog X.w X.K X.mg X.base k fA fd ps (sp1 X.prog X.w n nwr T)) (hr : RoomG k X.A) (hg : Gl X x) (hm : X.mg x = some (.ref fA)) (hk : PySem.W.keepIn X.K (.ref fA) = true) (hb : Binds X.K fd ps [])
    (hN : X.N[i]? = some y) (hv : Vis X.env.scope y) (hfl : G.at i = false) (h : VA X G p false ni es fa)
    (hdb : (x == ("__debug__" : Str)) = false := by decide) (hdy : (y == ("__debug__" : Str)) = false := by decide) (hcdy : (y == ("__classdict__" : Str)) = false := by decide) (he : starEach (.Name y ypos :: es) X.env = (false, eval (.Name y ypos) X.env) :: starEach es X.env := by rfl) (hpl : (backTo pos (starEach es X.env)).any (·.1) = false := by rfl) :
    VJ X G false false nwr (.Call (.Name x ppos) (.Name y ypos :: es) [] pos) (fCall1 n i fa T) := by
  refine ⟨(pe_callG FN hr hg hm hk hb .nil (pa_cons (pe_var (i := i) hN hv hdy hcdy) h.pe he) hdb he hpl).imp fun σ H Q ⟨F, env, S, c, env', e1, k1⟩ => ?_, fun z => nomatch z⟩
  unfold fCall1 at e1
  split at e1
  case isFalse => cases e1
  rename_i hown
  have hown' : ∃ d0, env[i]? = some (Slot.own d0) := by
    unfold isOwn at hown
    split at hown
    · rename_i d0 q; exact ⟨d0, q⟩
    · cases hown
  obtain ⟨d0, q0⟩ := hown'
  split at e1
  · rename_i ds1 env1 q1
    split at e1
    case isFalse => cases e1
    rename_i hlen
    split at e1
    · rename_i d1 q2
      split at e1
      · rename_i res envF q3
        split at e1
        · rename_i d' q4
          cases e1
          obtain ⟨a, o0, hs, _⟩ := S.own i d0 q0
          refine ⟨.ref a, hs, F, env, S, ds1, env1, q1, fun F1 H1 vs S1 x1 y1 r1 => ?_⟩
          obtain ⟨a', o, hs', ho, hO, hF, h0⟩ := S1.own i d1 q2
          rw [hs] at hs'; cases hs'
          rw [List.append_nil]
          have rr : DRs X.prog X.w H1 F1 false vs ds1 := DRs.rebase (nw := false) (fun z => nomatch z) _ _ (DRs.old _ _ (pairedDRs r1))
          have hO' : OwnO X.prog X.w H1 F1 false a o d1 := by
            rcases hO with ⟨xs, ds, e1, e2, r⟩ | ⟨xs, ds, e1, e2, r⟩
            · exact .inl ⟨xs, ds, e1, e2, DRs.rebase (nw := false) (fun z => nomatch z) _ _ (DRs.old _ _ r)⟩
            · exact .inr ⟨xs, ds, e1, e2, DRk.rebase (nw := false) (fun z => nomatch z) _ _ (DRk.old _ _ r)⟩
          refine ⟨F1, a, o, d1, vs, ds1, rfl, S1.sub, ho, hO', hF, rr, hlen, _, envF, q3, fun F2 H2 v o' d2 s1 s2 nw2 s3 hF2 ef ho2 hO2 r2 => ?_⟩
          rw [q4] at ef; cases ef
          have S2 := S1.call1 q2 hs hfl s1 s2 nw2 s3 hF2 ho2 hO2
          exact k1 F2 H2 v S2 (x1.trans ⟨s1, fun q u z => (nw2 q u z).imp (fun z => z) fun z => S1.new0 z⟩) (fun z => nomatch z) (DR.rebase (fun _ q z => S1.new0 z) _ _ r2)
        · cases e1
      · cases e1
    · cases e1
  · cases e1

/-! ### keywords alone -/
structure VKw (X : Cx) (G : Gh) (p b nw : Bool) (kws : List Keyword) (f : FE (List D)) : Prop where
  pk : PK X kws (RA X G p b nw f)
  pu : p = true → PureF f
theorem _root_.L2.PK.imp {X : Cx} {e : List Keyword} {t t' : TA} (h : PK X e t) (i : ∀ σ H Q, t' σ H Q → t σ H Q) : PK X e t' := ⟨fun pos pins s σ H Q I q => h.run pos pins s σ H Q I (i _ _ _ q)⟩
theorem vk_nil {nw : Bool} : VKw X G true b nw [] fNil :=
  ⟨pk_nil.imp fun σ H Q ⟨F, env, S, d, env', e1, k⟩ => by
    cases e1
    exact k F H [] S .refl (fun _ => .refl S.sub) .nil, fun _ env d env' h => by cases h; rfl⟩
theorem vk_cons {q : Bool} {kws : List Keyword} {g : FE (List D)} {nm : Option Str} {kpos : Pos} (h : VJ X G p b nw e f) (t : VKw X G q b nw kws g) (hb : b = true → q = true := by decide) : VKw X G (p && q) b nw (⟨nm, e, kpos⟩ :: kws) (fCons f g) := by
  refine ⟨(pk_cons h.pe t.pk).imp fun σ H Q ⟨F, env, S, ds, env', e1, k⟩ => ?_, fun z env ds env' e1 => ?_⟩
  · obtain ⟨d, env1, ds', h1, h2, rfl⟩ := fCons_some e1
    refine ⟨F, env, S, d, env1, h1, fun F1 H1 v S1 x1 y1 r1 => ⟨F1, env1, S1, ds', env', h2, fun F2 H2 vs S2 x2 y2 r2 => ?_⟩⟩
    refine k F2 H2 (v :: vs) S2 (x1.trans x2) (fun z => ?_) (.cons (r1.step hb x2 y2) r2)
    rw [Bool.and_eq_true] at z
    exact (y1 z.1).trans (y2 z.2)
  · rw [Bool.and_eq_true] at z
    obtain ⟨d, env1, ds', h1, h2, rfl⟩ := fCons_some e1
    rw [t.pu z.2 _ _ _ h2, h.pu z.1 _ _ _ h1]
theorem kbn_mk {K : PySem.W.Frag} {x qual : Str} {st : Stmt} {f : Addr} {fd : FuncData} {ps ks : List Str} {g : {α : Type} → List α → List α} (F : Fun K x qual st f fd) (hg : ∀ {vs : List V} {us : List Value}, Vals vs us → Vals (g vs) (g us))
    (h : ∀ (kV doc pm : Value) (an : Option Addr) (cdv ct : Value) (ws : List Value), ws.length = ks.length → bindArgs (PySem.W.fnOf x qual (defArgs st) (defBody st) (defScope st) .none kV doc pm an cdv ct) ⟨[], ks.zip ws⟩ = pure (ps.zip (g ws))) : KBn K fd ps 0 ks (fun _ ws => g ws) (fun _ zs => g zs) := by
  obtain ⟨oc, od, kV, doc, pm, an, cdv, ct, osl, rfl, lk, hcd⟩ := F.ex
  refine ⟨fun s us ws X l1 l2 => ?_, fun r rz => hg rz⟩
  cases us with
  | nil => exact .of_eq (h kV doc pm an cdv ct ws l2)
  | cons u us => simp at l1
theorem DRs_perm1 {F H : Hp} {vs : List V} {ds : List D} (r : DRs X.prog X.w H F nw vs ds) : DRs X.prog X.w H F nw vs ds := r
/-- r: the keywords stand in the parameters' order (false) or backwards (true) -/
def turnL {α : Type} (r : Bool) (l : List α) : List α := if r = true then l.reverse else l
theorem turnL_vals {r : Bool} {vs : List V} {us : List Value} (h : Vals vs us) : Vals (turnL r vs) (turnL r us) := by
  cases r with
  | true => exact Vals.reverse h
  | false => exact h
def fCallO (n : Nat) (r : Bool) (fa : FE (List D)) (T : FD) : FE D := fMap fa fun ds => if ds.length = n then (T ((turnL r ds).map .dat)).map (·.1) else none
theorem v_callO {r : Bool} {ks : List Str} {kws : List Keyword} (FN : FnOk X.prog X.w X.K X.mg X.base CX0 k fA fd ps (sp0 X.prog X.w n nwr T)) (hr : Room k X.A) (hg : Gl X x) (hm : X.mg x = some (.ref fA)) (hk : PySem.W.keepIn X.K (.ref fA) = true)
    (hb : KBn X.K fd ps 0 ks (fun _ ws => turnL r ws) (fun _ zs => turnL r zs)) (hn : ks.length = n) (h : VKw X G p false ni kws fa)
    (hall : (backToKw pos (keywordEach kws X.env)).all (·.1.isSome) = true := by rfl) (hks : (backToKw pos (keywordEach kws X.env)).filterMap (·.1) = ks := by rfl)
    (hdb : (x == ("__debug__" : Str)) = false := by decide) (hpl : ((backTo pos (starEach [] X.env)).any (·.1) || (backToKw pos (keywordEach kws X.env)).any (·.1.isNone)) = false := by rfl) :
    VJ X G p false nwr (.Call (.Name x ppos) [] kws pos) (fCallO n r fa T) := by
  refine ⟨(pe_callO FN hr hg hm hk hb h.pk hall hks hdb hpl).imp fun σ H Q ⟨F, env, S, c, env', e1, k1⟩ => ?_, fun z => fMap_pure (h.pu z)⟩
  obtain ⟨ds2, h3, h2⟩ := fMap_some e1
  split at h2
  case isFalse => cases h2
  rename_i hlen
  cases hT : T ((turnL r ds2).map .dat) with
  | none => rw [hT] at h2; cases h2
  | some y =>
    obtain ⟨res, envF⟩ := y
    rw [hT] at h2
    cases h2
    refine ⟨F, env, S, ds2, env', h3, fun F1 H1 vs S1 x1 y1 r1 => ?_⟩
    have rr0 : DRs X.prog X.w H1 F1 false vs ds2 := DRs.rebase (nw := false) (fun z => nomatch z) _ _ (DRs.old _ _ (pairedDRs r1))
    have rr : DRs X.prog X.w H1 F1 false (turnL r vs) (turnL r ds2) := by
      cases r with
      | true => exact rr0.reverse
      | false => exact rr0
    have ll : (turnL r ds2).length = n := by
      cases r with
      | true => simp [turnL, hlen]
      | false => exact hlen
    refine ⟨by rw [rr0.length, hlen, hn], F1, turnL r ds2, S1.sub, rr, ll, res, envF, hT, fun F2 H2 v s1 s2 nw2 s3 r2 => ?_⟩
    have x2 : Ext F1 H1 F2 H2 := ⟨s1, s3, s2, nw2⟩
    exact k1 F2 H2 v (S1.ext x2) (x1.trans (x2.weak S1)) (fun z => (y1 z).trans x2) (DR.rebase (fun _ q z => S1.new0 z) _ _ r2)

/-! ### f(own list, a list that is looked at) -/
def flatL : D → Bool
  | .list ds => noLists ds
  | _ => false
def fCall1B (i j : Nat) (T : FD) : FE D := fun env => match env[i]? with
  | some (Slot.own d) => match env[j]? with
    | some (Slot.own (.list es)) => if i ≠ j then match (T [.own d, .dat (.list es)] : Option (D × SE)) with
      | some (r, envF) => match (envF[0]? : Option Slot) with
        | some (Slot.own d') => if noList r = true ∧ flatL d' = true then some (r, env.set i (.own d')) else none
        | _ => none
      | none => none
      else none
    | _ => none
  | _ => none
theorem v_call1B {i j : Nat} {y z : Str} {ypos zpos : Pos} (FN : FnOk X.prog X.w X.K X.mg X.base CX0 k fA fd ps (sp1 X.prog X.w 2 false T)) (hr : Room k X.A) (hg : Gl X x) (hm : X.mg x = some (.ref fA)) (hk : PySem.W.keepIn X.K (.ref fA) = true) (hb : Binds X.K fd ps [])
    (hN : X.N[i]? = some y) (hv : Vis X.env.scope y) (hfl : G.at i = false) (hN2 : X.N[j]? = some z) (hv2 : Vis X.env.scope z)
    (hdb : (x == ("__debug__" : Str)) = false := by decide) (hdy : (y == ("__debug__" : Str)) = false := by decide) (hcdy : (y == ("__classdict__" : Str)) = false := by decide) (hdz : (z == ("__debug__" : Str)) = false := by decide) (hcdz : (z == ("__classdict__" : Str)) = false := by decide)
    (he : starEach [.Name y ypos, .Name z zpos] X.env = (false, eval (.Name y ypos) X.env) :: starEach [.Name z zpos] X.env := by rfl) (he2 : starEach [.Name z zpos] X.env = (false, eval (.Name z zpos) X.env) :: starEach [] X.env := by rfl) (hpl : (backTo pos (starEach [.Name z zpos] X.env)).any (·.1) = false := by rfl) :
    VJ X G false false nw (.Call (.Name x ppos) [.Name y ypos, .Name z zpos] [] pos) (fCall1B i j T) := by
  refine ⟨(pe_call FN hr hg hm hk hb .nil pass0 (pa_cons (pe_var (i := i) hN hv hdy hcdy) (pa_cons (pe_var (i := j) hN2 hv2 hdz hcdz) pa_nil he2) he) hdb he hpl).imp fun σ H Q ⟨F, env, S, c, env', e1, k1⟩ => ?_, fun z => nomatch z⟩
  unfold fCall1B at e1
  split at e1
  case h_2 => cases e1
  rename_i d q1
  split at e1
  case h_2 => cases e1
  rename_i es q2
  split at e1
  case isFalse => cases e1
  rename_i hij
  split at e1
  case h_2 => cases e1
  rename_i res envF q3
  split at e1
  case h_2 => cases e1
  rename_i d' q4
  split at e1
  case isFalse => cases e1
  rename_i hno
  cases e1
  obtain ⟨a, o, hs, ho, hO, hF, h0⟩ := S.own i d q1
  obtain ⟨l, u, ls, lo, lO, lF, l0⟩ := S.own j _ q2
  have hal : a ≠ l := by
    rintro rfl
    exact hij (S.sep i j a d _ q1 q2 hs ls)
  rcases lO with ⟨xs, ds, ee, rfl, lr⟩ | ⟨_, _, ee, _⟩
  case inr => cases ee
  cases ee
  refine ⟨.ref a, hs, .ref l, ls, ?_⟩
  show sp1 X.prog X.w 2 false T [.ref a, .ref l] H Q E0
  have sF1 : Sub F (upd F l (.lst xs)) := Sub.updN lF
  have hO' : OwnO X.prog X.w H (upd F l (.lst xs)) false a o d := by
    rcases hO with ⟨xs, ds, e1, e2, r⟩ | ⟨xs, ds, e1, e2, r⟩
    · exact .inl ⟨xs, ds, e1, e2, DRs.mono sF1 _ _ (DRs.rebase (nw := false) (fun z => nomatch z) _ _ (DRs.old _ _ r))⟩
    · exact .inr ⟨xs, ds, e1, e2, DRk.mono sF1 _ _ (DRk.rebase (nw := false) (fun z => nomatch z) _ _ (DRk.old _ _ r))⟩
  have rl : DRs X.prog X.w H (upd F l (.lst xs)) false [.ref l] [.list es] := .cons (.lst upd_same (fun z => nomatch z) (DRs.mono sF1 _ _ (DRs.rebase (nw := false) (fun z => nomatch z) _ _ (DRs.old _ _ lr)))) .nil
  refine ⟨upd F l (.lst xs), a, o, d, [.ref l], [.list es], rfl, ?_, ho, hO', by rw [upd_ne hal]; exact hF, rl, rfl, _, envF, q3, fun F2 H2 v o' d2 s1 s2 nw2 s3 hF2 ef ho2 hO2 r2 => ?_⟩
  · intro q u e
    by_cases hq : q = l
    · subst hq; rw [upd_same] at e; cases e; exact lo
    · rw [upd_ne hq] at e; exact S.sub q u e
  rw [q4] at ef; cases ef
  have lF2 : F2 l = some (.lst xs) := s1 _ _ upd_same
  have tk : ∀ q xs, F2 q = some (.tup xs) → cutH F2 l q = some (.tup xs) := fun q ys e => by
    rw [cutH_ne (by rintro rfl; rw [lF2] at e; cases e)]; exact e
  have sFc : Sub F (cutH F2 l) := fun q u e => by
    rw [cutH_ne (ne_of_none e lF)]
    exact s1 _ _ (sF1 _ _ e)
  have sc2 : Sub (cutH F2 l) H2 := fun q u e => by
    by_cases hq : q = l
    · subst hq; rw [cutH_at] at e; cases e
    · rw [cutH_ne hq] at e; exact s2 _ _ e
  have nwc : ∀ q u, cutH F2 l q = some u → F q = some u ∨ H q = none := fun q u e => by
    by_cases hq : q = l
    · subst hq; rw [cutH_at] at e; cases e
    · rw [cutH_ne hq] at e
      rcases nw2 _ _ e with z | z
      · rw [upd_ne hq] at z; exact .inl z
      · exact .inr z
  have hOc : OwnO X.prog X.w H (cutH F2 l) false a o' d' := by
    rcases hO2 with ⟨ys, gs, rfl, e2, r⟩ | ⟨ys, gs, rfl, e2, r⟩
    · exact .inl ⟨ys, gs, rfl, e2, DRs.tups tk _ _ hno.2 r⟩
    · exact absurd hno.2 (by simp [flatL])
  have S2 := S.call1 q1 hs hfl sFc sc2 nwc s3 (by rw [cutH_ne hal]; exact hF2) ho2 hOc
  exact k1 _ H2 v S2 ⟨sFc, fun q u z => (nwc q u z).imp (fun z => z) fun z => S.new0 z⟩ (fun z => nomatch z) (DR.fresh _ _ hno.1 (DR.rebase (nw := false) (fun z => nomatch z) _ _ (DR.tups tk _ _ hno.1 r2)))

/-! ### repr -/
def rReprD (K : PySem.W.Frag) : List V → Hp → VK → Prop := fun xs H Q => ∃ a d, xs = [.ref a] ∧ Dp K H (.ref a) d ∧ d.canLay0 = true ∧ d.showable = true ∧ d.depth ≤ 40 ∧ d.shown.length ≤ sizeLine ∧ Q (.str d.shown) H
theorem cr_repr (calm : X.A.guards = some []) (hu : X.A.units + 65 < cLine) : CallR X (.builtin "repr") (rReprD X.K) := by
  intro pins s σ H xs us Q I rv h
  obtain ⟨a, d, rfl, rd, lay, sh, dp, sz, q⟩ := h
  obtain ⟨u, rfl, ru⟩ := rv.one
  cases (show u = Value.ref a from ru)
  obtain ⟨as, rds⟩ := Dp.reads I d _ _ rd rfl
  exact repr_of_reads' rds sh (PyData.noDict_hsm (PyData.hasDict_of_canLay d lay)) calm (by omega) (fun _ _ e => e) (fun h' u tk keep => ⟨.str d.shown, H, I.kept keep, ⟨u, rfl⟩, q⟩) sz
def gRepr (ds : List D) : Option D := match ds with
  | [.list es] => if (PyData.list es).canLay0 = true ∧ (PyData.list es).showable = true ∧ (PyData.list es).depth ≤ 40 ∧ (PyData.list es).shown.length ≤ sizeLine then some (.str (PyData.list es).shown) else none
  | _ => none
theorem prim_repr : PrimN X G ni nw (rReprD X.K) gRepr := by
  intro F H xs ds c Q s n r e k
  unfold gRepr at e
  split at e
  · rename_i es
    split at e
    · rename_i hc
      cases e
      cases r with
      | cons ra rb =>
        cases rb
        have rd := ra.dr s
        obtain ⟨a, ys, rfl, _, _⟩ := ra.list s
        exact ⟨a, _, rfl, DR.dp X.K _ _ (canLay_noDict _ hc.1) rd, hc.1, hc.2.1, hc.2.2.1, hc.2.2.2, k F H _ (.refl s) (.str _)⟩
    · cases e
  · cases e
end
end Vl


set_option Elab.async false
set_option linter.all false
set_option autoImplicit false
set_option maxRecDepth 100000
set_option maxHeartbeats 1000000
/-! Layer V, part 18: told lists are asked, then spoilt: what stood before stays. -/
namespace Vl
open PySem PySem.Spec L2
open PyProof.Rows (envOfC)

section
variable {P : Program} {w : World} {H0 H1 F : Hp} {nw nw' : Bool}
mutual
theorem DR.inj : ∀ (d e : D) (v : V), noDict d = true → DR P w H0 F nw v d → DR P w H1 F nw' v e → d = e
  | .none, _, _, _, r, q => by cases r; cases q; rfl
  | .bool b, _, _, _, r, q => by cases r; cases q; rfl
  | .int i, _, _, _, r, q => by cases r; cases q; rfl
  | .str x, _, _, _, r, q => by cases r; cases q; rfl
  | .dict ds, _, _, n, r, q => by simp [noDict] at n
  | .list ds, _, _, n, r, q => by
    cases r with
    | lst h1 _ r1 =>
      cases q with
      | lst k1 _ q1 =>
        rw [h1] at k1; cases k1
        rw [DRs.inj ds _ _ (by simpa [noDict] using n) r1 q1]
      | tup k1 q1 => rw [h1] at k1; cases k1
      | dct k1 _ q1 => rw [h1] at k1; cases k1
  | .tuple ds, _, _, n, r, q => by
    cases r with
    | tup h1 r1 =>
      cases q with
      | tup k1 q1 =>
        rw [h1] at k1; cases k1
        rw [DRs.inj ds _ _ (by simpa [noDict] using n) r1 q1]
      | lst k1 _ q1 => rw [h1] at k1; cases k1
      | dct k1 _ q1 => rw [h1] at k1; cases k1
theorem DRs.inj : ∀ (ds es : List D) (vs : List V), noDicts ds = true → DRs P w H0 F nw vs ds → DRs P w H1 F nw' vs es → ds = es
  | [], _, _, _, r, q => by cases r; cases q; rfl
  | d :: ds, _, _, n, r, q => by
    rw [noDicts, Bool.and_eq_true] at n
    cases r with
    | cons r1 r2 =>
      cases q with
      | cons q1 q2 => rw [DR.inj d _ _ n.1 r1 q1, DRs.inj ds _ _ n.2 r2 q2]
end
end
theorem mem_size {d : D} {ds : List D} (h : d ∈ ds) : sizeOf d < sizeOf (PyData.list ds) := by
  have := List.sizeOf_lt_of_mem h
  have : sizeOf (PyData.list ds) = 1 + sizeOf ds := by simp
  omega

/-- told: a list whose first item is a list of lists, none of them too long -/
def spoils : D → Bool
  | .list (.list ds :: r) => noDicts (.list ds :: r) && ds.all (fun d => match d with
    | .list es => decide (es.length + ds.length < sizeLine)
    | _ => false) && decide (ds.length < sizeLine)
  | _ => false
def hideOwn (env : SE) : SE := env.map fun s => match s with
  | .own _ => .un
  | s => s
theorem hideOwn_get {env : SE} {i : Nat} {d : D} : (hideOwn env)[i]? = some (.dat d) ↔ env[i]? = some (.dat d) := by
  unfold hideOwn
  rw [List.getElem?_map]
  cases h : env[i]? with
  | none => simp
  | some s => cases s <;> simp
theorem hideOwn_own {env : SE} {i : Nat} {d : D} : (hideOwn env)[i]? ≠ some (.own d) := by
  unfold hideOwn
  rw [List.getElem?_map]
  cases h : env[i]? with
  | none => simp
  | some s => cases s <;> simp
/-- the told thing in slot i; the walk's name in slot j; the answer of the test must be «no» -/
def fTold (i j : Nat) (f : FE D) (t : FE Bool) (fr : FS) : FS := fun env => if i < env.length ∧ j < env.length ∧ i ≠ j then match f (hideOwn env) with
  | some (d, _) => if spoils d = true then match t ((hideOwn env).set i (.dat d)) with
    | some (false, _) => fr ((env.set i .un).set j .un)
    | _ => none
    else none
  | none => none
  else none

section
variable {X : Cx} {G : Gh} {F H : Hp} {env : SE} {σ : L2.St}
/-- the state, seen from here on: all that stands is old -/
theorem Sim.here (S : Sim X G F env σ H) (fl : List Bool) (hfl : ∀ i, i < env.length → fl.getD i false = true → ∀ d, env[i]? ≠ some (.dat d)) : Sim X ⟨H, [], fl⟩ F (hideOwn env) σ H := by
  refine ⟨by simpa [hideOwn] using S.len, S.sub, fun q o e _ => e, fun i d e => ?_, fun i d e => absurd e hideOwn_own, fun i j a d e h1 => absurd h1 hideOwn_own, fun p hp => nomatch hp⟩
  obtain ⟨v, h1, h2⟩ := S.dat i d (hideOwn_get.mp e)
  refine ⟨v, h1, ?_⟩
  have hi : i < env.length := (List.getElem?_eq_some_iff.mp (hideOwn_get.mp e)).1
  show DR _ _ H F (fl.getD i false) v d
  cases q : fl.getD i false with
  | false => exact DR.rebase (nw := false) (fun z => nomatch z) _ _ (DR.old _ _ h2)
  | true => exact absurd (hideOwn_get.mp e) (hfl i hi q d)
theorem Sim.back (S : Sim X G F env σ H) {σ' : L2.St} {H' : Hp} {i j : Nat} (hi : ∀ p ∈ G.io, p.1 ≠ i) (hj : ∀ p ∈ G.io, p.1 ≠ j) (hl : σ'.length = σ.length) (hs : ∀ m, m ≠ i → m ≠ j → σ'[m]? = σ[m]?) (hh : Sub H H') :
    Sim X G F ((env.set i .un).set j .un) σ' H' := by
  have get : ∀ {m : Nat} {s : Slot}, s ≠ .un → ((env.set i .un).set j .un)[m]? = some s → env[m]? = some s ∧ m ≠ i ∧ m ≠ j := by
    intro m s hn e
    by_cases h1 : m = j
    · subst h1
      by_cases h2 : m < (env.set i .un).length
      · rw [List.getElem?_set_self h2] at e; cases e; exact absurd rfl hn
      · rw [List.getElem?_eq_none (by simpa using h2)] at e; cases e
    · rw [List.getElem?_set_ne (Ne.symm h1)] at e
      by_cases h2 : m = i
      · subst h2
        by_cases h3 : m < env.length
        · rw [List.getElem?_set_self h3] at e; cases e; exact absurd rfl hn
        · rw [List.getElem?_eq_none (by simpa using h3)] at e; cases e
      · rw [List.getElem?_set_ne (Ne.symm h2)] at e
        exact ⟨e, h2, h1⟩
  refine ⟨by simpa [hl] using S.len, S.sub.trans hh, fun q o e n => hh _ _ (S.fr q o e n), fun m d e => ?_, fun m d e => ?_, fun m k a d e h1 h2 h3 h4 => ?_, fun p hp => ?_⟩
  · obtain ⟨e1, e2, e3⟩ := get (by intro z; cases z) e
    rw [hs m e2 e3]
    exact S.dat m d e1
  · obtain ⟨e1, e2, e3⟩ := get (by intro z; cases z) e
    obtain ⟨a, o, b1, b2, b3⟩ := S.own m d e1
    exact ⟨a, o, by rw [hs m e2 e3]; exact b1, hh _ _ b2, b3⟩
  · obtain ⟨e1, e2, e3⟩ := get (by intro z; cases z) h1
    obtain ⟨g1, g2, g3⟩ := get (by intro z; cases z) h2
    rw [hs m e2 e3] at h3
    rw [hs k g2 g3] at h4
    exact S.sep m k a d e e1 g1 h3 h4
  · obtain ⟨h1, d, h2⟩ := S.io p hp
    have n1 := hi p hp
    have n2 := hj p hp
    refine ⟨by rw [hs _ n1 n2]; exact h1, d, ?_⟩
    rw [List.getElem?_set_ne (Ne.symm n2), List.getElem?_set_ne (Ne.symm n1)]
    exact h2
end

theorem pe_ex {X : Cx} {e : Expr} {ι : Type} {t : ι → TE} (h : ∀ i, PE X e (t i)) : PE X e (fun σ H Q => ∃ i, t i σ H Q) := ⟨fun pins s σ H Q I ⟨i, q⟩ => (h i).run pins s σ H Q I q⟩
theorem pt_ex {X : Cx} {e : Expr} {ι : Type} {t : ι → TT} (h : ∀ i, PT X e (t i)) : PT X e (fun σ H Q => ∃ i, t i σ H Q) := ⟨fun pins s σ H Q I ⟨i, q⟩ => (h i).run pins s σ H Q I q⟩
section
variable {X : Cx} {G : Gh} {nw nwr : Bool} {eT c : Expr} {f : FE D} {ft : FE Bool} {fr : FS}
/-- x = e; if c: ..; for y in x[0]: y.append(s1); x[0].append(s2) -/
theorem vb_told {i j : Nat} {x y : Str} {fl : List Bool} {then_ rest : List Stmt} {s1 s2 : Str} {n1 n2 n3 n4 : Nat} {px posA posB py pi1 pi2 pa pc pe pk pl pF pX pi3 pi4 pb pd pk2 pE pp : Pos}
    (hp : PassesOwn (model X.prog X.w) X.A X.env X.xe) (hc : X.calm = true) (hN : X.N.Nodup) (hi : X.N[i]? = some x) (hx : Loc X.env.scope x) (hvx : Vis X.env.scope x) (hj : X.N[j]? = some y) (hy : Loc X.env.scope y) (hvy : Vis X.env.scope y)
    (hioi : ∀ p ∈ G.io, p.1 ≠ i) (hioj : ∀ p ∈ G.io, p.1 ≠ j) (hfi : ∀ m, fl.getD m false = true → m = i) (hfi2 : fl.getD i false = true)
    (h1 : ∀ H : Hp, VJ X ⟨H, [], []⟩ true false true eT f) (h2 : ∀ H : Hp, VT X ⟨H, [], fl⟩ true c ft) (h3 : VB X G nwr rest fr)
    (hfx : X.fn x = true ∨ X.env.scope.names.lookup x = some .local := by first | exact .inl rfl | exact .inr rfl | assumption) (hfy : X.fn y = true ∨ X.env.scope.names.lookup y = some .local := by first | exact .inl rfl | exact .inr rfl | assumption)
    (hs1 : swapsWith eT (some (.Name x px)) posA.line X.env = pure false := by rfl)
    (hfs : ∀ v, foldedSetIterable (.Subscript (.Name x pi1) (.Constant (.int 0) n1 pi2) pi3) X.env v = pure v := by intro _; rfl)
    (hse : swapsWith (.Call (.Attribute (.Name y pa) "append" pb) [.Constant (.str s1) n2 pc] [] pd) none pe.line X.env = pure false := by rfl)
    (hb1 : attributeBase (.Name y pa) "append" X.env (eval (.Name y pa) X.env) = eval (.Name y pa) X.env := by rfl)
    (hf1 : ((backTo pd (starEach [.Constant (.str s1) n2 pc] X.env)).all (fun x => !x.1) && (backToKw pd (keywordEach [] X.env)).all (fun x => x.1.isSome)
      && decide (([.Constant (.str s1) n2 pc] : List Expr).length + ([] : List Keyword).length + (if ([] : List Keyword).isEmpty then 0 else 1) < 30)) = true := by rfl)
    (hl1 : (pb.endLine == pd.line) = true := by rfl) (hst1 : starEach [.Constant (.str s1) n2 pc] X.env = (false, eval (.Constant (.str s1) n2 pc) X.env) :: starEach [] X.env := by rfl) (hp1 : (backTo pd (starEach [] X.env)).any (·.1) = false := by rfl)
    (hse2 : swapsWith (.Call (.Attribute (.Subscript (.Name x pk) (.Constant (.int 0) n3 pl) pF) "append" pX) [.Constant (.str s2) n4 pi4] [] pk2) none pE.line X.env = pure false := by rfl)
    (hb2 : attributeBase (.Subscript (.Name x pk) (.Constant (.int 0) n3 pl) pF) "append" X.env (eval (.Subscript (.Name x pk) (.Constant (.int 0) n3 pl) pF) X.env) = eval (.Subscript (.Name x pk) (.Constant (.int 0) n3 pl) pF) X.env := by rfl)
    (hf2 : ((backTo pk2 (starEach [.Constant (.str s2) n4 pi4] X.env)).all (fun x => !x.1) && (backToKw pk2 (keywordEach [] X.env)).all (fun x => x.1.isSome)
      && decide (([.Constant (.str s2) n4 pi4] : List Expr).length + ([] : List Keyword).length + (if ([] : List Keyword).isEmpty then 0 else 1) < 30)) = true := by rfl)
    (hl2 : (pX.endLine == pk2.line) = true := by rfl) (hst2 : starEach [.Constant (.str s2) n4 pi4] X.env = (false, eval (.Constant (.str s2) n4 pi4) X.env) :: starEach [] X.env := by rfl) (hp2 : (backTo pk2 (starEach [] X.env)).any (·.1) = false := by rfl)
    (hix1 : PlainIx (.Constant (.int 0) n1 pi2) := by intro _ _; rfl) (hix2 : PlainIx (.Constant (.int 0) n3 pl) := by intro _ _; rfl)
    (hd : (x == ("__debug__" : Str)) = false := by decide) (hcd : (x == ("__classdict__" : Str)) = false := by decide) (hdy : (y == ("__debug__" : Str)) = false := by decide) (hcdy : (y == ("__classdict__" : Str)) = false := by decide) :
    VB X G nwr (.Assign [.Name x px] eT posA :: .If c then_ [] posB :: .For (.Name y py) (.Subscript (.Name x pi1) (.Constant (.int 0) n1 pi2) pi3) [.Expr (.Call (.Attribute (.Name y pa) "append" pb) [.Constant (.str s1) n2 pc] [] pd) pe] [] pp ::
      .Expr (.Call (.Attribute (.Subscript (.Name x pk) (.Constant (.int 0) n3 pl) pF) "append" pX) [.Constant (.str s2) n4 pi4] [] pk2) pE :: rest) (fTold i j f ft fr) := by
  have P1 := ps_set (pos := posA) (pos' := px) hN hi hx (pe_ex fun H => (h1 H).pe) hs1 hfx
  have P2 := ps_if (pos := posB) (pt_ex fun H => (h2 H).pe) (pss_never (sts := then_)) (pss_nil (X := X))
  have P3 := ps_for (pos := pp) hp hc (pi_list (tg := .Name y py) (pe_ix (pos := pi3) ix_list (pe_var (i := i) hi hvx hd hcd) pe_int hix1)) (pg_name hN hj hy hfy) (pss_one (ps_expr (pos := pe) (pe_bm PySem.F.plainAttrs_list PySem.F.slot_list_append PySem.F.type_list_append mt_append (pe_var (i := j) hj hvy hdy hcdy) (pa_cons pe_str pa_nil hst1) hb1 hf1 hl1 hst1 hp1) hse)) hfs
  have P4 := ps_expr (pos := pE) (pe_bm PySem.F.plainAttrs_list PySem.F.slot_list_append PySem.F.type_list_append mt_append (pe_ix (pos := pF) ix_list (pe_var (i := i) hi hvx hd hcd) pe_int hix2) (pa_cons pe_str pa_nil hst2) hb2 hf2 hl2 hst2 hp2) hse2
  refine ⟨(pss_cons P1 (pss_cons P2 (pss_cons P3 (pss_cons P4 h3.pss)))).imp fun E σ H ⟨F, env, S, o, e1, k⟩ => ?_⟩
  unfold fTold at e1
  split at e1
  case isFalse => cases e1
  rename_i hlt
  obtain ⟨li, lj, hij⟩ := hlt
  split at e1
  case h_2 => cases e1
  rename_i d env1 q1
  split at e1
  case isFalse => cases e1
  rename_i hsp
  split at e1
  case h_2 => cases e1
  rename_i env2 q2
  refine ⟨H, F, hideOwn env, S.here [] (fun m _ z => by simp at z), d, env1, q1, fun F1 H1 v S1 _ y1 r1 => ?_⟩
  cases (h1 H).pu rfl _ _ _ q1
  have y1 := y1 rfl
  have r1 : DR X.prog X.w H F1 true v d := r1
  have lh : (hideOwn env).length = env.length := by simp [hideOwn]
  have S1' := S1.setDat (i := i) (d := d) (v := v) (by rw [lh]; exact li) (fun p hp => nomatch hp) r1.old
  have S2 : Sim X ⟨H, [], fl⟩ F1 ((hideOwn env).set i (.dat d)) (σ.set i (some v)) H1 := by
    refine ⟨S1'.len, S1'.sub, S1'.fr, fun m d' e => ?_, fun m d' e => ?_, fun m k a d' e' h1 h2 h3 h4 => S1'.sep m k a d' e' h1 h2 h3 h4, fun p hp => nomatch hp⟩
    · by_cases hm : m = i
      · subst hm
        rw [List.getElem?_set_self (by rw [lh]; exact li)] at e
        cases e
        exact ⟨v, List.getElem?_set_self (by rw [S.len]; exact li), DR.flag (fun _ => rfl) r1⟩
      · obtain ⟨u, a1, a2⟩ := S1'.dat m d' e
        refine ⟨u, a1, ?_⟩
        show DR _ _ H F1 (fl.getD m false) u d'
        have : fl.getD m false = false := by
          cases q : fl.getD m false with
          | false => rfl
          | true => exact absurd (hfi m q) hm
        rw [this]
        exact a2
    · obtain ⟨a, ob, a1, a2, a3, a4⟩ := S1'.own m d' e
      rw [List.getElem?_set] at e
      split at e
      · split at e <;> cases e
      · exact absurd e hideOwn_own
  refine ⟨H, F1, _, S2, false, env2, q2, fun F2 H2 S3 _ y3 => ?_⟩
  cases (h2 H).pu rfl _ _ _ q2
  have y3 := y3 rfl
  show (if (false : Bool) = true then _ else _)
  rw [if_neg Bool.false_ne_true]
  -- what was told
  unfold spoils at hsp
  split at hsp
  case h_2 => cases hsp
  rename_i ds r _
  rw [Bool.and_eq_true, Bool.and_eq_true] at hsp
  obtain ⟨⟨nd, short⟩, dl⟩ := hsp
  have dl := of_decide_eq_true dl
  have nd0 : noDicts ds = true := by
    simp only [noDicts, noDict, Bool.and_eq_true] at nd
    exact nd.1
  have r2 := DR.mono y3.f _ _ r1
  have r2' := r2
  cases r2 with
  | @lst T0 ts _ hT hTn rts =>
  cases rts with
  | @cons p0 ps' _ _ rp rps =>
  have rp' := rp
  cases rp with
  | @lst P0 fs _ hP hPn rf =>
  have hTn := hTn rfl
  have hPn := hPn rfl
  have rfl' := rf.length
  -- the items
  have item : ∀ (m : Nat) (u : V), fs[m]? = some u → ∃ l zs, u = .ref l ∧ F2 l = some (.lst zs) ∧ H l = none ∧ zs.length + ds.length < sizeLine ∧ l ≠ P0 ∧ l ≠ T0 := by
    intro m u hu
    obtain ⟨e, he, re⟩ := rf.getV hu
    have hmem := List.mem_of_getElem? he
    have hx := List.all_eq_true.mp short e hmem
    split at hx
    case h_2 => cases hx
    rename_i es
    have hx := of_decide_eq_true hx
    have re' := re
    cases re with
    | @lst l zs _ hl hln rz =>
      have lz := rz.length
      refine ⟨l, zs, rfl, hl, hln rfl, by omega, ?_, ?_⟩
      · rintro rfl
        have := DR.inj _ _ _ (by simpa [noDict] using nd0) rp' re'
        have hz := mem_size hmem
        rw [← this] at hz
        exact absurd hz (by omega)
      · rintro rfl
        have := DR.inj _ _ _ (by simpa [noDict] using nd) r2' re'
        have hz := mem_size hmem
        have h2 : sizeOf (PyData.list ds) < sizeOf (PyData.list (.list ds :: r)) := mem_size List.mem_cons_self
        rw [← this] at hz
        exact absurd hz (by omega)
  have hT2 := S3.sub _ _ hT
  have hP2 := S3.sub _ _ hP
  have lsig : i < σ.length := by rw [S.len]; exact li
  have lsigj : j < σ.length := by rw [S.len]; exact lj
  have vi : (σ.set i (some (V.ref T0)))[i]? = some (some (V.ref T0)) := List.getElem?_set_self lsig
  have at0 : L2.atI (V.ref P0 :: ps') 0 = some (V.ref P0) := by simp [L2.atI, L2.ixN]
  refine ⟨V.ref T0, vi, ⟨T0, _, 0, _, rfl, rfl, .inl (.inl hT2), at0, P0, rfl, ⟨fs, .inl (.inl hP2)⟩, ?_⟩⟩
  let Good : Nat → L2.St → Hp → Prop := fun m σ' H' => σ'.length = σ.length ∧ (∀ n, n ≠ j → σ'[n]? = (σ.set i (some (V.ref T0)))[n]?) ∧ (∀ q, (∀ t : Nat, fs[t]? ≠ some (V.ref q)) → H' q = H2 q) ∧ (∀ (t : Nat) (l : Addr), fs[t]? = some (V.ref l) → ∃ ys, H' l = some (.lst ys) ∧ ys.length + (fs.length - m) < sizeLine) ∧ m ≤ fs.length
  refine ⟨fun m mm σ' H' => Good m σ' H' ∧ mm = fs.length - m, ⟨fs.length, ⟨by simp, fun _ _ => rfl, fun _ _ => rfl, fun t l hl => ?_, Nat.zero_le _⟩, by omega⟩, ?_⟩
  · obtain ⟨l', zs, e, h1, _, h3, _⟩ := item t _ hl
    cases e
    exact ⟨zs, S3.sub _ _ h1, by omega⟩
  rintro m mm σ' H' ⟨⟨g1, g2, g3, g4, g5⟩, rfl⟩
  have offP : ∀ t : Nat, fs[t]? ≠ some (V.ref P0) := fun t e => by
    obtain ⟨l, _, e1, _, _, _, n1, _⟩ := item t _ e
    cases e1
    exact n1 rfl
  have offT : ∀ t : Nat, fs[t]? ≠ some (V.ref T0) := fun t e => by
    obtain ⟨l, _, e1, _, _, _, _, n1⟩ := item t _ e
    cases e1
    exact n1 rfl
  have hP3 : H' P0 = some (.lst fs) := (g3 P0 offP).trans hP2
  have hT3 : H' T0 = some (.lst (V.ref P0 :: ps')) := (g3 T0 offT).trans hT2
  by_cases hm : m = fs.length
  · left
    refine ⟨⟨fs, .inl (.inl hP3), by omega⟩, ?_⟩
    -- the last statement
    refine ⟨V.ref T0, (g2 i hij).trans vi, T0, _, 0, _, rfl, rfl, .inl (.inl hT3), at0, .inl ⟨rfl, fs, .inl (.inl hP3)⟩, P0, fs, .str s2, rfl, rfl, hP3, by omega, ?_⟩
    refine ⟨F, _, S.back hioi hioj g1 (fun n n1 n2 => ?_) (fun q u e => ?_), o, e1, k⟩
    · rw [g2 n n2, List.getElem?_set_ne (Ne.symm n1)]
    · have hqP : q ≠ P0 := by rintro rfl; rw [hPn] at e; cases e
      rw [upd_ne hqP, g3 q (fun t z => ?_)]
      · exact y3.h _ _ (y1.h _ _ e)
      · obtain ⟨l, _, e1, _, n1, _⟩ := item t _ z
        cases e1
        rw [n1] at e; cases e
  · right
    have hlt : m < fs.length := by omega
    have hf : fs[m]? = some fs[m] := List.getElem?_eq_getElem hlt
    refine ⟨⟨fs, _, .inl (.inl hP3), hf⟩, fun σ2 H3 => Good (m + 1) σ2 H3, fun σ2 H3 g => ⟨fs.length - (m + 1), by omega, g, rfl⟩, fun u H3 ⟨e1, e2⟩ => ?_⟩
    subst e1
    have := e2 fs (.inl (.inl hP3))
    rw [hf] at this
    obtain ⟨l, _, e, _⟩ := item m _ hf
    rw [e] at this
    cases this
    rw [e] at hf
    obtain ⟨ys, hy1, hy2⟩ := g4 m l hf
    refine ⟨V.ref l, List.getElem?_set_self (by rw [g1]; exact lsigj), .inl ⟨rfl, ys, .inl (.inl hy1)⟩, l, ys, .str s1, rfl, rfl, hy1, by omega, ?_⟩
    refine ⟨by simp [g1], fun n hn => by rw [List.getElem?_set_ne (Ne.symm hn)]; exact g2 n hn, fun q hq => ?_, fun t l' hl => ?_, hlt⟩
    · rw [upd_ne (by rintro rfl; exact hq m hf)]
      exact g3 q hq
    · by_cases e : l' = l
      · subst e
        exact ⟨_, upd_same, by simp; omega⟩
      · obtain ⟨zs, z1, z2⟩ := g4 t l' hl
        exact ⟨zs, by rw [upd_ne e]; exact z1, by omega⟩
end
end Vl


set_option Elab.async false
set_option linter.all false
set_option autoImplicit false
set_option maxRecDepth 100000
set_option maxHeartbeats 1000000
/-! Layer V, part 19: short words for the printed derivations. -/
namespace Vl
open PySem PySem.Spec L2
open PyProof.Rows (envOfC)

theorem io0 {i : Nat} : ∀ p ∈ ([] : List (Nat × Addr)), p.1 ≠ i := fun _ h => nomatch h
theorem io1 {a : Addr} {s i : Nat} (h : s ≠ i) : ∀ p ∈ [((s : Nat), a)], p.1 ≠ i := fun p hp => by
  have : p = (s, a) := by simpa using hp
  subst this; exact h
theorem ios0 {l : List Nat} : ∀ p ∈ ([] : List (Nat × Addr)), p.1 ∉ l := fun _ h => nomatch h
theorem ios1 {a : Addr} {s : Nat} {l : List Nat} (h : s ∉ l) : ∀ p ∈ [((s : Nat), a)], p.1 ∉ l := fun p hp => by
  have : p = (s, a) := by simpa using hp
  subst this; exact h
theorem hu65 {A : Around} {k : Nat} (hr : Room k A) : A.units + 65 < cLine := by have := hr.un; omega
theorem hu64 {A : Around} {k : Nat} (hr : Room k A) : A.units + 64 < cLine := by have := hr.un; omega
section
variable {X : Cx} {G : Gh} {p q b nw ni nwr : Bool} {e e2 : Expr} {f g : FE D} {pos apos cpos : Pos}
theorem nm (i : Nat) {x : Str} (hN : X.N[i]? = some x := by rfl) (hv : Vis X.env.scope x := by first | exact Or.inl rfl | exact Or.inr (Or.inl rfl) | exact Or.inr (Or.inr rfl)) (hd : (x == ("__debug__" : Str)) = false := by decide) (hcd : (x == ("__classdict__" : Str)) = false := by decide) :
    VJ X G true false (G.at i) (.Name x pos) (fName i) := v_name hN hv hd hcd
theorem lk (i : Nat) {x : Str} (hN : X.N[i]? = some x := by rfl) (hv : Vis X.env.scope x := by first | exact Or.inl rfl | exact Or.inr (Or.inl rfl) | exact Or.inr (Or.inr rfl)) (hd : (x == ("__debug__" : Str)) = false := by decide) (hcd : (x == ("__classdict__" : Str)) = false := by decide) :
    VJ X G true true (G.at i) (.Name x pos) (fLook i) := v_look hN hv hd hcd
theorem fz (i : Nat) {x : Str} (hio : ∀ p ∈ G.io, p.1 ≠ i) (hN : X.N[i]? = some x := by rfl) (hv : Vis X.env.scope x := by first | exact Or.inl rfl | exact Or.inr (Or.inl rfl) | exact Or.inr (Or.inr rfl)) (hd : (x == ("__debug__" : Str)) = false := by decide) (hcd : (x == ("__classdict__" : Str)) = false := by decide) :
    VJ X G false false (G.at i) (.Name x pos) (fFreeze i) := v_freeze hio hN hv hd hcd
theorem anyflag (h : VJ X G p b true e f) : VJ X G p b nw e f := h.weak (fun z => z) (fun z => z) fun _ => rfl
theorem ci {i : Int} {j : Nat} : VJ X G true false nw (.Constant (.int i) j pos) (fC (.int i)) := anyflag v_int
theorem cb {i : Bool} {j : Nat} : VJ X G true false nw (.Constant (.bool i) j pos) (fC (.bool i)) := anyflag v_bl
theorem cn {j : Nat} : VJ X G true false nw (.Constant .none j pos) (fC .none) := anyflag v_non
theorem cs {x : Str} {j : Nat} : VJ X G true false nw (.Constant (.str x) j pos) (fC (.str x)) := anyflag v_str
theorem vb_never {sts : List Stmt} : VB X G nwr sts sNever := ⟨pss_never.imp fun E σ H ⟨F, env, S, o, e1, k⟩ => by cases e1⟩
/-- the value of a call is frozen and may be read as looked at -/
theorem VW.test {ft : FE Bool} (h : VW X G p e ft) : VT X G p e ft := by
  exact h.vt
def fBits (f : FE D) : FE D := fMap f fun d => match d with
  | .int i => some (.int (Builtin.Int.intBits i : Nat))
  | _ => none
theorem v_bits (h : VJ X G p b ni e f) (hbase : attributeBase e "bit_length" X.env (eval e X.env) = eval e X.env := by rfl) (hline : (apos.endLine == pos.line) = true := by rfl) : VJ X G p false nw (.Call (.Attribute e "bit_length" apos) [] [] pos) (fBits f) := by
  refine ⟨(L2.pe_bits h.pe hbase hline).imp fun σ H Q ⟨F, env, S, d, env', e1, k⟩ => ?_, fun z => fMap_pure (h.pu z)⟩
  obtain ⟨d0, h1, h2⟩ := fMap_some e1
  split at h2
  · cases h2
    refine ⟨F, env, S, _, env', h1, fun F1 H1 v S1 x1 y1 r1 => ⟨_, r1.br.int, k F1 H1 _ S1 x1 y1 (.int _)⟩⟩
  · cases h2
def rNotInTD (K : PySem.W.Frag) (c : Bool → Bool) : R2 := fun x y H Q => ∃ d ds, Dp K H x d ∧ Dp K H y (.tuple ds) ∧ SeqAt.shaped d = true ∧ SeqAt.shaped (.tuple ds) = true ∧ Q (.bl (c (ds.any fun z => PyData.eqv z d))) H
theorem op_inTD (hu : X.A.units + 65 < cLine) : OpR X (compareOp .In) (rNotInTD X.K fun c => c) := by
  intro pins s σ H x y v u Q I rx ry h
  obtain ⟨d, ds, hd, he, sd, se, q⟩ := h
  obtain ⟨as, r1⟩ := Dp.reads I d x v hd rx
  obtain ⟨bs, r2⟩ := Dp.reads I (.tuple ds) y u he ry
  exact SeqAt.in_tuple_reads r2 r1 (SeqAt.canLay_of_shaped se) (SeqAt.canLay_of_shaped sd) (PyProof.Rows.room_in_shaped sd hu) ⟨.bl _, H, I, rfl, q⟩
theorem op_notInTD (hu : X.A.units + 65 < cLine) : OpR X (compareOp .NotIn) (rNotInTD X.K fun c => !c) := by
  intro pins s σ H x y v u Q I rx ry h
  obtain ⟨d, ds, hd, he, sd, se, q⟩ := h
  obtain ⟨as, r1⟩ := Dp.reads I d x v hd rx
  obtain ⟨bs, r2⟩ := Dp.reads I (.tuple ds) y u he ry
  exact SeqAt.notIn_tuple_reads r2 r1 (SeqAt.canLay_of_shaped se) (SeqAt.canLay_of_shaped sd) (PyProof.Rows.room_in_shaped sd hu) ⟨.bl _, H, I, rfl, q⟩
def inT (c : Bool → Bool) : D → D → Option D
  | a, .tuple ds => if SeqAt.shaped a = true ∧ SeqAt.shaped (.tuple ds) = true then some (.bool (c (ds.any fun z => PyData.eqv z a))) else none
  | _, _ => none
theorem prim_inT {c : Bool → Bool} : Prim2 X G ni nw (rNotInTD X.K c) (inT c) := by
  intro F H x y a b r Q s n rx ry e k
  unfold inT at e
  split at e
  · split at e
    · rename_i h
      cases e
      exact ⟨_, _, rx.dp s h.1, ry.dp s h.2, h.1, h.2, k F H _ (.refl s) (.bl _)⟩
    · cases e
  · cases e
/-- in a list, a tuple, a dict of tuples -/
def inA (c : Bool → Bool) (a b : D) : Option D := match b with
  | .list ds => if SeqAt.shaped a = true ∧ SeqAt.shaped (.list ds) = true then some (.bool (c (ds.any fun z => PyData.eqv z a))) else none
  | .tuple ds => inT c a (.tuple ds)
  | .dict ds => inN c a (.dict ds)
  | _ => none
def rInA (X : Cx) : R2 := fun x y H Q => rInD X.K x y H Q ∨ rNotInTD X.K (fun c => c) x y H Q ∨ rInN X (fun z => z) x y H Q
def rNotInA (X : Cx) : R2 := fun x y H Q => rNotInD X.K x y H Q ∨ rNotInTD X.K (fun c => !c) x y H Q ∨ rInN X (fun z => !z) x y H Q
theorem op_inA (hu : X.A.units + 65 < cLine) : OpR X (compareOp .In) (rInA X) := (op_inD hu).or ((op_inTD hu).or (op_inN hu))
theorem op_notInA (hu : X.A.units + 65 < cLine) : OpR X (compareOp .NotIn) (rNotInA X) := (op_notInD hu).or ((op_notInTD hu).or (op_notInN hu))
theorem prim_inA : Prim2 X G ni nw (rInA X) (inA fun c => c) := by
  intro F H x y a b r Q s n rx ry e k
  unfold inA at e
  split at e
  · exact .inl (prim_inL (X := X) (G := G) (ni := ni) (nw := nw) F H x y _ _ r Q s n rx ry e k)
  · exact .inr (.inl (prim_inT (X := X) (G := G) (ni := ni) (nw := nw) F H x y _ _ r Q s n rx ry e k))
  · exact .inr (.inr (prim_inN (X := X) (G := G) (ni := ni) (nw := nw) F H x y _ _ r Q s n rx ry e k))
  · cases e
theorem prim_notInA : Prim2 X G ni nw (rNotInA X) (inA fun c => !c) := by
  intro F H x y a b r Q s n rx ry e k
  unfold inA at e
  split at e
  · exact .inl (prim_notInL (X := X) (G := G) (ni := ni) (nw := nw) F H x y _ _ r Q s n rx ry e k)
  · exact .inr (.inl (prim_inT (X := X) (G := G) (ni := ni) (nw := nw) F H x y _ _ r Q s n rx ry e k))
  · exact .inr (.inr (prim_inN (X := X) (G := G) (ni := ni) (nw := nw) F H x y _ _ r Q s n rx ry e k))
  · cases e
end
end Vl


set_option Elab.async false
set_option linter.all false
set_option autoImplicit false
set_option maxRecDepth 100000
set_option maxHeartbeats 1000000
/-! Layer V, part 20: defs with defaults, defs that call themselves, built-ins' names. -/
namespace Vl
open PySem PySem.Spec L2
open PyProof.Rows (envOfC)
section
variable {P : Program} {w : World} {K : PySem.W.Frag} {mg : Str → Option Value} {base : Heap}
/-- a def whose parameters are only read: from its body's derivation to its promise -/
theorem fn0D {x qual : Str} {st : Stmt} {f : Addr} {fd : FuncData} {N ps : List Str} {k : Nat} {nwr : Bool} {fl : List Bool} {bd : FS} {dvs : List V} {kws : List (Str × V)} (F : FunD K x qual (defArgs st) (defBody st) (defScope st) dvs kws f fd) (S : FnScope N ps (defScope st)) (hfl : ∀ i, i < ps.length → fl.getD i false = false) (hps : ps.length ≤ N.length)
    (hbody : ∀ (cdv : Value) (A : Around) (outer : List Env) (s : Shared) (H : Hp) (E : XK), Room k (A.deeper (envOfC qual (defScope st) s.heap.objs.size f cdv)) →
      VB (cxOf CX0 P w K mg base N qual (defScope st) f cdv A outer s H E).nox ⟨H, [], fl⟩ nwr (defBody st) bd) : FnOk P w K mg base CX0 (k + 1) f fd ps (sp0 P w ps.length nwr (runD N.length bd)) := by
  refine FunD.ok F S (fun vs H Q E h => ?_) (fun cdv A outer s H vs Q E hr h => ?_)
  · obtain ⟨F, ds, _, r, hl, _⟩ := h
    rw [r.length, hl]
  · obtain ⟨F0, ds, sF, r, hl, res, env', hT, k0⟩ := h
    refine ⟨_, (hbody cdv A outer s H E hr).pss.nox, ?_⟩
    have hvl : vs.length = ds.length := r.length
    have hlen : (L2.start N vs).length = N.length := start_len N vs (by omega)
    have Sm : Sim (cxOf CX0 P w K mg base N qual (defScope st) f cdv A outer s H E).nox ⟨H, [], fl⟩ F0 (ds.map .dat ++ List.replicate (N.length - ds.length) .un) (L2.start N vs) H := by
      refine ⟨by rw [hlen]; simp; omega, sF, fun q o e _ => e, fun i d e => ?_, fun i d e => ?_, fun i j a d e h1 _ _ _ => ?_, fun p hp => nomatch hp⟩
      · have e' := pad_get (by intro z; cases z) e
        rw [List.getElem?_map] at e'
        cases hd : ds[i]? with
        | none => rw [hd] at e'; cases e'
        | some d' =>
          rw [hd] at e'; cases e'
          obtain ⟨v, hv, rv⟩ := r.get hd
          refine ⟨v, start_get hv, ?_⟩
          have hi : i < ds.length := (List.getElem?_eq_some_iff.mp hd).1
          show DR P w H F0 (fl.getD i false) v d
          rw [hfl i (by omega)]
          exact rv
      · have e' := pad_get (by intro z; cases z) e
        rw [List.getElem?_map] at e'
        cases hd : ds[i]? with
        | none => rw [hd] at e'; cases e'
        | some d' => rw [hd] at e'; cases e'
      · have e' := pad_get (by intro z; cases z) h1
        rw [List.getElem?_map] at e'
        cases hd : ds[i]? with
        | none => rw [hd] at e'; cases e'
        | some d' => rw [hd] at e'; cases e'
    unfold runD at hT
    simp only [List.length_map] at hT
    split at hT
    · rename_i d env q
      cases hT
      refine ⟨F0, _, Sm, _, q, fun F' σ' H' v S' x r' => ?_⟩
      exact k0 F' H' v x.f S'.sub x.new (fun q o e => S'.fr q o e (by simp [Gh.ioA])) r'
    · rename_i env q
      cases hT
      refine ⟨F0, _, Sm, _, q, fun F' σ' H' S' x => ?_⟩
      exact k0 F' H' .non x.f S'.sub x.new (fun q o e => S'.fr q o e (by simp [Gh.ioA])) .non
    · cases hT
end
/-- a product of ints, a list over again -/
def mulA (a b : D) : Option D := match a, b with
  | .list ds, .int n => if ds.length * n.toNat ≤ sizeLine ∧ ds.length < 1000 ∧ 0 ≤ n ∧ n < 1000 then some (.list (List.replicate n.toNat ds).flatten) else none
  | _, _ => mulD a b
theorem DRs.flat {P : Program} {w : World} {H0 F : Hp} {nw : Bool} {vs : List V} {ds : List D} (r : DRs P w H0 F nw vs ds) : ∀ n : Nat, DRs P w H0 F nw (List.replicate n vs).flatten (List.replicate n ds).flatten
  | 0 => .nil
  | n + 1 => by
    rw [List.replicate_succ, List.replicate_succ, List.flatten_cons, List.flatten_cons]
    exact r.append (DRs.flat r n)
theorem op_mulA {X : Cx} : OpR X (binaryOp .Mult) (fun x y H Q => rI CMulW (fun i j => .int (i * j)) x y H Q ∨ rRep x y H Q) := op_mulW.or op_rep
theorem prim_mulA {X : Cx} {G : Gh} {ni : Bool} : Prim2 X G ni ni (fun x y H Q => rI CMulW (fun i j => .int (i * j)) x y H Q ∨ rRep x y H Q) mulA := by
  intro F H x y a b c Q s n rx ry e k
  unfold mulA at e
  split at e
  · split at e
    · rename_i ds m hl
      cases e
      obtain ⟨l, us, rfl, h1, r1⟩ := rx.list s
      have hm : m < 2 ^ 63 := by omega
      · refine .inr ⟨l, m, us, rfl, ry.int, h1, by omega, hm, by rw [r1.length]; exact hl.1, fun p hp => ?_⟩
        have x2 := Ext.updN s hp (o := .lst (List.replicate m.toNat us).flatten)
        exact k _ _ _ x2 (.lst upd_same (fun _ => n p hp) (DRs.mono x2.f _ _ (r1.flat _)))
    · cases e
  · exact .inl (prim_mul (X := X) (G := G) F H x y _ _ c Q s n rx ry e k)
def fuel : Nat := 1000000
/-- a def that calls itself, to depth n -/
def lev (L : FD → FD) : Nat → FD
  | 0 => fun _ => none
  | n + 1 => L (lev L n)
theorem lev_ok {P : Program} {w : World} {K : PySem.W.Frag} {mg : Str → Option Value} {base : Heap} {f : Addr} {fd : FuncData} {ps : List Str} {np : Nat} {nwr : Bool} (L : FD → FD) {k : Nat}
    (h : ∀ (j : Nat) (F : FD), FnOk P w K mg base CX0 j f fd ps (sp0 P w np nwr F) → k ≤ j → FnOk P w K mg base CX0 (j + 1) f fd ps (sp0 P w np nwr (L F))) (hn : np = ps.length := by rfl) : ∀ n : Nat, FnOk P w K mg base CX0 (k + n) f fd ps (sp0 P w np nwr (lev L n))
  | 0 => by
    refine ⟨fun vs H Q E q => ?_, fun A outer s H args us vs Q E _ _ _ _ q => ?_⟩ <;> obtain ⟨_, _, _, _, _, _, _, e, _⟩ := q <;> cases e
  | n + 1 => h (k + n) _ (lev_ok L h hn n) (Nat.le_add_right _ _)
theorem fl_only {i : Nat} {fl : List Bool} (h : ∀ m < fl.length, fl.getD m false = true → m = i) : ∀ m, fl.getD m false = true → m = i := fun m hm => by
  by_cases hl : m < fl.length
  · exact h m hl hm
  · rw [List.getD_eq_getElem?_getD, List.getElem?_eq_none (by omega)] at hm
    cases hm
theorem hu70 {A : Around} {k : Nat} (hr : Room k A) : A.units + 70 < cLine := by have := hr.un; omega
theorem callr_or {X : Cx} {f : Value} {r r' : List V → Hp → VK → Prop} (h : CallR X f r) (h' : CallR X f r') : CallR X f (fun xs H Q => r xs H Q ∨ r' xs H Q) := fun pins s σ H xs us Q I rv q => q.elim (h pins s σ H xs us Q I rv) (h' pins s σ H xs us Q I rv)
theorem cr_min {X : Cx} {G : Gh} {ni : Bool} (hc : X.calm = true) (hu : X.A.units + 70 < cLine) : CallR X (.builtin "min") (fun xs H Q => rBestL X G ni PySem.W.dataLt xs H Q ∨ rBest2 X G ni PySem.W.dataLt xs H Q) := callr_or (cr_minD hc hu) (cr_min2D hc hu)
theorem cr_max {X : Cx} {G : Gh} {ni : Bool} (hc : X.calm = true) (hu : X.A.units + 70 < cLine) : CallR X (.builtin "max") (fun xs H Q => rBestL X G ni (fun a b => PySem.W.dataLt b a) xs H Q ∨ rBest2 X G ni (fun a b => PySem.W.dataLt b a) xs H Q) := callr_or (cr_maxD hc hu) (cr_max2D hc hu)
theorem bf_len : bootBuiltins "len" = some (.builtin "len") := by decide +kernel
theorem bf_sum : bootBuiltins "sum" = some (.builtin "sum") := by decide +kernel
theorem bf_all : bootBuiltins "all" = some (.builtin "all") := by decide +kernel
theorem bf_any : bootBuiltins "any" = some (.builtin "any") := by decide +kernel
theorem bf_sorted : bootBuiltins "sorted" = some (.builtin "sorted") := by decide +kernel
theorem bf_min : bootBuiltins "min" = some (.builtin "min") := by decide +kernel
theorem bf_max : bootBuiltins "max" = some (.builtin "max") := by decide +kernel
theorem bf_abs : bootBuiltins "abs" = some (.builtin "abs") := by decide +kernel
theorem bf_repr : bootBuiltins "repr" = some (.builtin "repr") := by decide +kernel
theorem bf_int : bootBuiltins "int" = some (.type "int") := by decide +kernel
theorem bf_list : bootBuiltins "list" = some (.type "list") := by decide +kernel
theorem bf_bool : bootBuiltins "bool" = some (.type "bool") := by decide +kernel
theorem bf_tuple : bootBuiltins "tuple" = some (.type "tuple") := by decide +kernel
theorem bf_dict : bootBuiltins "dict" = some (.type "dict") := by decide +kernel
theorem bf_str : bootBuiltins "str" = some (.type "str") := by decide +kernel
end Vl


set_option Elab.async false
set_option linter.all false
set_option autoImplicit false
set_option maxRecDepth 100000
set_option maxHeartbeats 1000000
/-! Layer V, part 21: purses: what draws are made of; the walk over them in a law's def. -/
namespace Vl
open PySem PySem.Spec L2
open PyProof.Rows (envOfC)

/-- a purse: digits left, seed, draws so far (at most k), place -/
def PurseL (k : Int) (ms : List Int) : Prop := ∃ big sd n i : Int, ms = [big, sd, n, i] ∧ (0 ≤ big ∧ big < 10 ^ 480) ∧ (0 ≤ sd ∧ sd < 2147483629) ∧ (0 ≤ n ∧ n ≤ k) ∧ 0 ≤ i ∧ i ≤ 62
theorem PurseL.mono {k k' : Int} {ms : List Int} (h : PurseL k ms) (hk : k ≤ k') : PurseL k' ms := by
  obtain ⟨a, b, c, d, h1, h2, h3, h4, h5⟩ := h
  exact ⟨a, b, c, d, h1, h2, h3, ⟨h4.1, by omega⟩, h5⟩
def purseD (ms : List Int) : D := .list (ms.map .int)
theorem ints_dr {P : Program} {w : World} {H0 F : Hp} {nw : Bool} : ∀ ms : List Int, DRs P w H0 F nw (ms.map V.int) (ms.map PyData.int)
  | [] => .nil
  | m :: ms => .cons (.int m) (ints_dr ms)
theorem dr_ints {P : Program} {w : World} {H0 F : Hp} {nw : Bool} : ∀ {ms : List Int} {vs : List V}, DRs P w H0 F nw vs (ms.map PyData.int) → vs = ms.map V.int
  | [], _, h => by cases h; rfl
  | m :: ms, _, h => by
    cases h with
    | cons a b => cases a; rw [dr_ints b]; rfl
theorem cutV_ints (ns : List Int) (lo hi : Option Int) : cutV (ns.map V.int) lo hi = (cutL ns lo hi).map V.int := by
  unfold cutV cutL
  rw [List.length_map, List.map_take, List.map_drop]
/-- _law_purse(script, at) -/
def spPurse (K : PySem.W.Frag) : Sp := fun vs H Q _ => ∃ (a : Addr) (ns : List Int) (i : Int), vs = [.ref a, .int i] ∧ SqL K H a (ns.map V.int) ∧ 0 ≤ i ∧ i ≤ 62 ∧
  ∀ p H' ms, Sub H H' → H p = none → H' p = some (.lst (ms.map V.int)) → PurseL 0 ms → Q (.ref p) H'
/-- a list of purses -/
def Purses (k : Int) (H H' : Hp) (P : Addr) (ps : List V) : Prop := H P = none ∧ H' P = some (.lst ps) ∧ ps.length ≤ 64 ∧ ∀ v ∈ ps, ∃ p ms, v = .ref p ∧ H p = none ∧ H' p = some (.lst (ms.map V.int)) ∧ PurseL k ms
/-- _law_purses(script, few) -/
def spPurses (K : PySem.W.Frag) : Sp := fun vs H Q _ => ∃ (a : Addr) (ns : List Int) (few : Int), vs = [.ref a, .int few] ∧ SqL K H a (ns.map V.int) ∧ ns.length ≤ 63 ∧ 0 ≤ few ∧ few ≤ 62 ∧
  ∀ P H' ps, Sub H H' → Purses 0 H H' P ps → Q (.ref P) H'
/-- law(script): True -/
def spLaw (K : PySem.W.Frag) : Sp := fun vs H Q _ => ∃ (a : Addr) (ns : List Int), vs = [.ref a] ∧ SqL K H a (ns.map V.int) ∧ ns.length ≤ 63 ∧ ∀ H', Q (.bl true) H'
theorem SqL.sub {K : PySem.W.Frag} {H H' : Hp} {a : Addr} {xs : List V} (h : SqL K H a xs) (s : Sub H H') : SqL K H' a xs := by
  rcases h with (h | ⟨o, h⟩) | h
  · exact .inl (.inl (s _ _ h))
  · exact .inl (.inr ⟨o, s _ _ h⟩)
  · exact .inr h
theorem FnG.mono {P : Program} {w : World} {K : PySem.W.Frag} {mg : Str → Option Value} {base : Heap} {j k : Nat} {f : Addr} {fd : FuncData} {ps : List Str} {sp : Sp} (h : FnG P w K mg base j f fd ps sp) (hk : j ≤ k) : FnG P w K mg base k f fd ps sp :=
  ⟨h.len, fun A outer s H args us vs Q E hr => h.run A outer s H args us vs Q E (hr.mono hk)⟩
def forBody : Stmt → List Stmt
  | .For _ _ b _ _ => b
  | _ => []
theorem pss_ex {X : Cx} {sts : List Stmt} {ι : Type} {t : ι → TS} (h : ∀ i, PSs X sts (t i)) : PSs X sts (fun E σ H => ∃ i, t i E σ H) := ⟨fun pins s σ H E I ⟨i, q⟩ => (h i).run pins s σ H E I q⟩

section
variable {X : Cx} {K : PySem.W.Frag} {n : Nat}
def uns (n : Nat) : SE := List.replicate n .un
theorem uns_get {n i : Nat} {s : Slot} (h : (uns n)[i]? = some s) : s = .un := by
  unfold uns at h
  rw [List.getElem?_replicate] at h
  split at h <;> cases h
  rfl
/-- nothing is known of the slots -/
theorem sim_uns {G0 : Hp} {σ : L2.St} {H : Hp} (hl : σ.length = n) (fr : Sub G0 H) : Sim X ⟨G0, [], []⟩ (fun _ => none) (uns n) σ H := by
  refine ⟨by simp [uns, hl], (fun _ _ z => nomatch z), fun q o e _ => fr _ _ e, fun i d e => ?_, fun i d e => ?_, fun i j a d e h1 => ?_, fun p hp => nomatch hp⟩
  · cases uns_get e
  · cases uns_get e
  · cases uns_get h1
/-- .. but for the purse's slot -/
theorem sim_purse {σ : L2.St} {H : Hp} {i : Nat} {p : Addr} {ms : List Int} (hl : σ.length = n) (hi : i < n) (hs : σ[i]? = some (some (.ref p))) (hp : H p = some (.lst (ms.map V.int))) :
    Sim X ⟨H, [(i, p)], []⟩ (fun _ => none) ((uns n).set i (.own (purseD ms))) σ H := by
  have hil : i < (uns n).length := by simp [uns, hi]
  have get : ∀ {j : Nat} {s : Slot}, s ≠ .un → ((uns n).set i (.own (purseD ms)))[j]? = some s → j = i ∧ s = .own (purseD ms) := fun {j s} hn e => by
    by_cases hj : j = i
    · subst hj
      rw [List.getElem?_set_self hil] at e
      cases e
      exact ⟨rfl, rfl⟩
    · rw [List.getElem?_set_ne (Ne.symm hj)] at e
      exact absurd (uns_get e) hn
  refine ⟨by simp [uns, hl], (fun _ _ z => nomatch z), fun q o e _ => e, fun j d e => ?_, fun j d e => ?_, fun j k a d e h1 h2 _ _ => ?_, fun q hq => ?_⟩
  · cases (get (by intro z; cases z) e).2
  · obtain ⟨rfl, e2⟩ := get (by intro z; cases z) e
    cases e2
    exact ⟨p, _, hs, hp, .inl ⟨_, _, rfl, rfl, ints_dr ms⟩, rfl, .inr (by simp [Gh.ioA])⟩
  · rw [(get (by intro z; cases z) h1).1, (get (by intro z; cases z) h2).1]
  · have : q = (i, p) := by simpa using hq
    subst this
    exact ⟨hs, _, List.getElem?_set_self hil⟩
/-- the walk over the purses: bd keeps each a purse -/
theorem for_purses {nwr : Bool} {i : Nat} {bd : FS} {σ : L2.St} {H0 H : Hp} {P : Addr} {ps : List V} {E : Ends} (step : Int) (hstep : 0 ≤ step) (hl : σ.length = n) (hi : i < n) (pr : Purses 0 H0 H P ps) (sub : Sub H0 H)
    (hbd : ∀ (t : Nat) (ms : List Int), t ≤ 64 → PurseL (step * t) ms → ∃ env' ms', bd ((uns n).set i (.own (purseD ms))) = some (.nx env') ∧ env'.length = n ∧ env'[i]? = some (.own (purseD ms')) ∧ PurseL (step * (t + 1)) ms')
    (hend : ∀ σ' H', σ'.length = n → Sub H0 H' → E.nx σ' H') :
    ∃ W : Nat → Nat → L2.St → Hp → Prop, (∃ m, W 0 m σ H) ∧ ∀ j m σ H, W j m σ H →
      ((Itl X.K P).stop j H ∧ E.nx σ H) ∨ ((Itl X.K P).go j H ∧ ∃ N : L2.St → Hp → Prop, (∀ σ' H', N σ' H' → ∃ m', m' < m ∧ W (j + 1) m' σ' H') ∧ ∀ x H', (Itl X.K P).yld j H x H' → gName i x σ H' fun σ2 H2 => (∃ q : Hp × Addr, RS X ⟨q.1, [(i, q.2)], []⟩ nwr bd { E with nx := N, ct := N, bk := E.nx } σ2 H2)) := by
  have hP : ∀ {H' : Hp} {t : Nat}, Purses (step * t) H0 H' P ps → ∀ j, j < ps.length → ∃ p ms, ps[j]? = some (.ref p) ∧ H0 p = none ∧ H' p = some (.lst (ms.map V.int)) ∧ PurseL (step * t) ms := fun {H' t} h j hj => by
    obtain ⟨_, _, _, all⟩ := h
    obtain ⟨p, ms, e, h1, h2, h3⟩ := all _ (List.getElem_mem hj)
    exact ⟨p, ms, by rw [List.getElem?_eq_getElem hj, e], h1, h2, h3⟩
  refine ⟨fun j m σ' H' => m = ps.length - j ∧ j ≤ ps.length ∧ σ'.length = n ∧ Purses (step * j) H0 H' P ps ∧ Sub H0 H', ⟨ps.length, rfl, Nat.zero_le _, hl, by simpa using pr, sub⟩, ?_⟩
  rintro j m σ1 H1 ⟨rfl, hj, hl1, pr1, s1⟩
  have pr1' := pr1
  obtain ⟨nP, hP1, len, all⟩ := pr1'
  have hq : SqL X.K H1 P ps := .inl (.inl hP1)
  by_cases hlt : j < ps.length
  · right
    obtain ⟨p, ms, e1, e2, e3, e4⟩ := hP pr1 j hlt
    refine ⟨⟨ps, _, hq, e1⟩, fun σ2 H2 => σ2.length = n ∧ Purses (step * ((j + 1 : Nat) : Int)) H0 H2 P ps ∧ Sub H0 H2, fun σ2 H2 ⟨a, b, c⟩ => ⟨ps.length - (j + 1), by omega, rfl, hlt, a, b, c⟩, fun x H2 ⟨y1, y2⟩ => ?_⟩
    subst y1
    have := y2 ps hq
    rw [e1] at this
    cases this
    show ∃ q : Hp × Addr, _
    refine ⟨(H2, p), ?_⟩
    have hls : (σ1.set i (some (V.ref p))).length = n := by simp [hl1]
    obtain ⟨env', ms', b1, bl, b2, b3⟩ := hbd j ms (by omega) e4
    refine ⟨fun _ => none, _, sim_purse hls hi (List.getElem?_set_self (by rw [hl1]; exact hi)) e3, _, b1, fun F3 σ3 H3 S3 x3 => ?_⟩
    obtain ⟨z1, d', z2⟩ := S3.io (i, p) (by simp)
    rw [b2] at z2; cases z2
    obtain ⟨b, o', c1, c2, c3, _, _⟩ := S3.own i _ b2
    rw [z1] at c1; cases c1
    have ho : o' = .lst (ms'.map V.int) := by
      rcases c3 with ⟨us, ds, q1, q2, q3⟩ | ⟨_, _, q1, _⟩
      · cases q1
        rw [q2, dr_ints q3]
      · cases q1
    subst ho
    have keep : ∀ q u, H2 q = some u → q ≠ p → H3 q = some u := fun q u e hne => S3.fr q u e (by simp [Gh.ioA]; exact hne)
    have nPp : P ≠ p := by
      rintro rfl
      rw [hP1] at e3
      injection e3 with e3
      injection e3 with e3
      have hm := all _ (List.mem_of_getElem? e1)
      rw [e3] at e1
      rw [List.getElem?_map] at e1
      cases hms : ms[j]? with
      | none => rw [hms] at e1; cases e1
      | some z => rw [hms] at e1; cases e1
    refine ⟨?_, ⟨nP, keep _ _ hP1 nPp, len, fun v hv => ?_⟩, fun q u e => ?_⟩
    · rw [S3.len, bl]
    · obtain ⟨p2, ms2, v1, v2, v3, v4⟩ := all v hv
      by_cases hp2 : p2 = p
      · subst hp2
        exact ⟨p2, ms', v1, v2, c2, by simpa using b3⟩
      · exact ⟨p2, ms2, v1, v2, keep _ _ v3 hp2, v4.mono (by
          rw [Int.natCast_add, Int.mul_add]
          have : 0 ≤ step * ((1 : Nat) : Int) := by simpa using hstep
          omega)⟩
    · refine keep _ _ (s1 _ _ e) ?_
      rintro rfl
      rw [e2] at e; cases e
  · left
    exact ⟨⟨ps, hq, by omega⟩, hend σ1 H1 hl1 s1⟩
end
end Vl


set_option Elab.async false
set_option linter.all false
set_option autoImplicit false
set_option maxRecDepth 100000
set_option maxHeartbeats 1000000
/-! Floors, part 0: cells, lists of cells as data; equality, order, sorting. -/
namespace Fl
open PySem Vl

abbrev Cell := Int × Int
def cD (c : Cell) : D := .tuple [.int c.1, .int c.2]
def lD (l : List Cell) : D := .list (l.map cD)
def llD (l : List (List Cell)) : D := .list (l.map lD)
theorem eqv_cD (a b : Cell) : PyData.eqv (cD a) (cD b) = decide (a = b) := by
  obtain ⟨a1, a2⟩ := a
  obtain ⟨b1, b2⟩ := b
  simp [cD, PyData.eqv, PyData.eqvAll, Bool.decide_and]
  rfl
theorem eqvAll_cD : ∀ (l m : List Cell), PyData.eqvAll (l.map cD) (m.map cD) = decide (l = m)
  | [], [] => by simp [PyData.eqvAll]
  | [], _ :: _ => by simp [PyData.eqvAll]
  | _ :: _, [] => by simp [PyData.eqvAll]
  | a :: l, b :: m => by
    rw [List.map_cons, List.map_cons, PyData.eqvAll, eqv_cD, eqvAll_cD l m]
    simp [Bool.decide_and]
theorem eqv_lD (l m : List Cell) : PyData.eqv (lD l) (lD m) = decide (l = m) := by
  unfold lD
  rw [PyData.eqv, eqvAll_cD]
theorem eqvAll_lD : ∀ (l m : List (List Cell)), PyData.eqvAll (l.map lD) (m.map lD) = decide (l = m)
  | [], [] => by simp [PyData.eqvAll]
  | [], _ :: _ => by simp [PyData.eqvAll]
  | _ :: _, [] => by simp [PyData.eqvAll]
  | a :: l, b :: m => by
    rw [List.map_cons, List.map_cons, PyData.eqvAll, eqv_lD, eqvAll_lD l m]
    simp [Bool.decide_and]
theorem eqv_llD (l m : List (List Cell)) : PyData.eqv (llD l) (llD m) = decide (l = m) := by
  unfold llD
  rw [PyData.eqv, eqvAll_lD]
theorem cD_inj {a b : Cell} (h : cD a = cD b) : a = b := by
  unfold cD at h
  injection h with h
  injection h with h1 h2
  injection h2 with h2 _
  injection h1 with h1
  injection h2 with h2
  exact Prod.ext h1 h2
theorem lay_cD (c : Cell) : (cD c).canLay0 = true := by simp [cD, PyData.canLay0, PyData.canLayAll0]
theorem lays_cD : ∀ l : List Cell, PyData.canLayAll0 (l.map cD) = true
  | [] => rfl
  | c :: l => by rw [List.map_cons, PyData.canLayAll0, lay_cD, lays_cD l]; rfl
theorem lay_lD (l : List Cell) : (lD l).canLay0 = true := by unfold lD; rw [PyData.canLay0]; exact lays_cD l
theorem lays_lD : ∀ l : List (List Cell), PyData.canLayAll0 (l.map lD) = true
  | [] => rfl
  | c :: l => by rw [List.map_cons, PyData.canLayAll0, lay_lD, lays_lD l]; rfl
theorem lay_llD (l : List (List Cell)) : (llD l).canLay0 = true := by unfold llD; rw [PyData.canLay0]; exact lays_lD l
theorem depth_cD (c : Cell) : (cD c).depth = 1 := by simp [cD, PyData.depth, PyData.depthAll]
theorem depths_cD : ∀ l : List Cell, PyData.depthAll (l.map cD) ≤ 1
  | [] => by simp [PyData.depthAll]
  | c :: l => by rw [List.map_cons, PyData.depthAll, depth_cD]; have := depths_cD l; omega
theorem depth_lD (l : List Cell) : (lD l).depth ≤ 2 := by unfold lD; rw [PyData.depth]; have := depths_cD l; omega
theorem depths_lD : ∀ l : List (List Cell), PyData.depthAll (l.map lD) ≤ 2
  | [] => by simp [PyData.depthAll]
  | c :: l => by rw [List.map_cons, PyData.depthAll]; have := depths_lD l; have := depth_lD c; omega
theorem depth_llD (l : List (List Cell)) : (llD l).depth ≤ 3 := by unfold llD; rw [PyData.depth]; have := depths_lD l; omega
theorem sh_cD (c : Cell) : SeqAt.shaped (cD c) = true := by unfold SeqAt.shaped; rw [lay_cD, depth_cD]; rfl
theorem sh_lD (l : List Cell) : SeqAt.shaped (lD l) = true := by unfold SeqAt.shaped; rw [lay_lD, Bool.true_and]; have := depth_lD l; exact decide_eq_true (by omega)
theorem sh_llD (l : List (List Cell)) : SeqAt.shaped (llD l) = true := by unfold SeqAt.shaped; rw [lay_llD, Bool.true_and]; have := depth_llD l; exact decide_eq_true (by omega)

/-! ### order -/
def ltC (a b : Cell) : Bool := decide (a.1 < b.1) || (decide (a.1 = b.1) && decide (a.2 < b.2))
def ltL : List Cell → List Cell → Bool
  | [], [] => false
  | [], _ :: _ => true
  | _ :: _, [] => false
  | a :: l, b :: m => if a = b then ltL l m else ltC a b
def leC (a b : Cell) : Bool := !ltC b a
def leL (a b : List Cell) : Bool := !ltL b a
theorem al_int (a b : Int) : PySem.W.alike (.int a) (.int b) = true := rfl
theorem al_cD (a b : Cell) : PySem.W.alike (cD a) (cD b) = true := rfl
theorem als_cD : ∀ l m : List Cell, PySem.W.alikeAll (l.map cD) (m.map cD) = true
  | [], _ => by simp [PySem.W.alikeAll]
  | _ :: _, [] => by simp [PySem.W.alikeAll]
  | a :: l, b :: m => by rw [List.map_cons, List.map_cons, PySem.W.alikeAll, al_cD, als_cD l m]; rfl
theorem al_lD (l m : List Cell) : PySem.W.alike (lD l) (lD m) = true := by unfold lD; rw [PySem.W.alike]; exact als_cD l m
theorem lex_all {x y : D} {xs ys : List D} (h : PySem.W.alike x y = true) : PyProof.Rows.lexLt PyProof.Rows.itemOrd (PySem.W.keyToksAll (x :: xs)) (PySem.W.keyToksAll (y :: ys)) =
    if PyData.eqv x y = true then PyProof.Rows.lexLt PyProof.Rows.itemOrd (PySem.W.keyToksAll xs) (PySem.W.keyToksAll ys) else PySem.W.dataLt x y := by
  cases e : PyData.eqv x y with
  | true => rw [if_pos rfl]; exact PySem.W.dataLt_all_yes h e
  | false => rw [if_neg (by simp)]; exact PySem.W.dataLt_all_no h e
theorem lt_cD (a b : Cell) : PySem.W.dataLt (cD a) (cD b) = ltC a b := by
  obtain ⟨a1, a2⟩ := a
  obtain ⟨b1, b2⟩ := b
  unfold cD
  rw [PySem.W.dataLt_tuple, lex_all (al_int _ _), lex_all (al_int _ _), PySem.W.dataLt_int, PySem.W.dataLt_int]
  simp only [PyData.eqv, decide_eq_true_eq]
  unfold ltC
  by_cases h : a1 = b1
  · subst h
    by_cases h2 : a2 = b2
    · subst h2
      simp [PySem.W.keyToksAll, PyProof.Rows.lexLt, PyProof.Rows.itemLt]
    · simp [h2]
  · simp [h]
theorem lts_cD : ∀ l m : List Cell, PyProof.Rows.lexLt PyProof.Rows.itemOrd (PySem.W.keyToksAll (l.map cD)) (PySem.W.keyToksAll (m.map cD)) = ltL l m
  | [], [] => by simp [ltL, PySem.W.keyToksAll, PyProof.Rows.lexLt, PyProof.Rows.itemLt]
  | [], b :: m => by simp [ltL, PySem.W.keyToksAll, PyProof.Rows.lexLt, PyProof.Rows.itemLt]
  | a :: l, [] => by simp [ltL, PySem.W.keyToksAll, PyProof.Rows.lexLt, PyProof.Rows.itemLt]
  | a :: l, b :: m => by
    rw [List.map_cons, List.map_cons, lex_all (al_cD _ _), lts_cD l m, eqv_cD, lt_cD]
    rw [show ltL (a :: l) (b :: m) = if a = b then ltL l m else ltC a b from rfl]
    simp
theorem lt_lD (l m : List Cell) : PySem.W.dataLt (lD l) (lD m) = ltL l m := by
  unfold lD
  rw [PySem.W.dataLt_list, lts_cD]
theorem le_cD (a b : Cell) : leD (cD a) (cD b) = leC a b := by
  show (!PySem.W.dataLt (cD b) (cD a)) = _
  rw [lt_cD]; rfl
theorem le_lD (a b : List Cell) : leD (lD a) (lD b) = leL a b := by
  show (!PySem.W.dataLt (lD b) (lD a)) = _
  rw [lt_lD]; rfl
theorem insr_map {α : Type} {le : α → α → Bool} {e : α → D} (h : ∀ a b, leD (e a) (e b) = le a b) (a : α) : ∀ l : List α, insr leD (e a) (l.map e) = (insr le a l).map e
  | [] => rfl
  | b :: l => by
    rw [List.map_cons]
    unfold insr
    rw [h]
    split
    · rfl
    · rw [List.map_cons, insr_map h a l]
theorem isort_map {α : Type} {le : α → α → Bool} {e : α → D} (h : ∀ a b, leD (e a) (e b) = le a b) : ∀ l : List α, isort leD (l.map e) = (isort le l).map e
  | [] => rfl
  | a :: l => by
    rw [List.map_cons]
    show insr leD (e a) (isort leD (l.map e)) = _
    rw [isort_map h l, insr_map h]; rfl
def sortC (l : List Cell) : List Cell := isort leC l
def sortL (l : List (List Cell)) : List (List Cell) := isort leL l
theorem sortD_cD (l : List Cell) (hl : l.length ≤ sizeLine) : sortD (l.map cD) = some ((sortC l).map cD) := by
  have h1 : allAlike (l.map cD) = true := by
    unfold allAlike
    simp [List.all_eq_true, al_cD]
  have h2 : sortable (l.map cD) = true := by
    unfold sortable
    rw [Bool.and_eq_true, Bool.or_eq_true]
    refine ⟨.inl ?_, ?_⟩
    · simp [List.all_eq_true, tupC, cD]
    · simp [List.all_eq_true, sh_cD]
  unfold sortD
  rw [if_pos ⟨⟨h1, h2⟩, by simpa using hl⟩, isort_map le_cD]; rfl
theorem sortD_lD (l : List (List Cell)) (hl : l.length ≤ sizeLine) : sortD (l.map lD) = some ((sortL l).map lD) := by
  have h1 : allAlike (l.map lD) = true := by
    unfold allAlike
    simp [List.all_eq_true, al_lD]
  have h2 : sortable (l.map lD) = true := by
    unfold sortable
    rw [Bool.and_eq_true, Bool.or_eq_true]
    refine ⟨.inr ?_, ?_⟩
    · simp [List.all_eq_true, plainC, lD]
    · simp [List.all_eq_true, sh_lD]
  unfold sortD
  rw [if_pos ⟨⟨h1, h2⟩, by simpa using hl⟩, isort_map le_lD]; rfl

/-! ### the order is total -/
theorem ltC_iff {a b : Cell} : ltC a b = true ↔ a.1 < b.1 ∨ (a.1 = b.1 ∧ a.2 < b.2) := by
  unfold ltC; simp
theorem leC_iff {a b : Cell} : leC a b = true ↔ a.1 < b.1 ∨ (a.1 = b.1 ∧ a.2 ≤ b.2) := by
  unfold leC
  rw [Bool.not_eq_true', ← Bool.not_eq_true, ltC_iff]
  omega
theorem leC_total : PySem.W.TotalLe leC where
  trans a b c h1 h2 := by
    rw [leC_iff] at *
    omega
  total a b := by
    rw [leC_iff, leC_iff]
    omega
theorem leC_antisymm {a b : Cell} (h1 : leC a b = true) (h2 : leC b a = true) : a = b := by
  rw [leC_iff] at *
  refine Prod.ext ?_ ?_ <;> omega
theorem leL_total : PySem.W.TotalLe leL where
  trans a b c h1 h2 := by
    rw [← le_lD] at *
    exact leD_total.trans _ _ _ h1 h2
  total a b := by
    rw [← le_lD, ← le_lD]
    exact leD_total.total _ _
theorem ltL_tri : ∀ (a b : List Cell), ltL a b = false → ltL b a = false → a = b
  | [], [], _, _ => rfl
  | [], _ :: _, h, _ => by cases h
  | _ :: _, [], _, h => by cases h
  | a :: l, b :: m, h1, h2 => by
    rw [show ltL (a :: l) (b :: m) = if a = b then ltL l m else ltC a b from rfl] at h1
    rw [show ltL (b :: m) (a :: l) = if b = a then ltL m l else ltC b a from rfl] at h2
    by_cases e : a = b
    · subst e
      rw [if_pos rfl] at h1 h2
      rw [ltL_tri l m h1 h2]
    · rw [if_neg e] at h1
      rw [if_neg (Ne.symm e)] at h2
      exfalso
      refine e (leC_antisymm ?_ ?_)
      · unfold leC; rw [h2]; rfl
      · unfold leC; rw [h1]; rfl
theorem leL_antisymm {a b : List Cell} (h1 : leL a b = true) (h2 : leL b a = true) : a = b := by
  unfold leL at *
  rw [Bool.not_eq_true'] at h1 h2
  exact ltL_tri a b h2 h1
/-- a sorted list is told by its items -/
theorem sorted_unique {α : Type} {le : α → α → Bool} (an : ∀ a b, le a b = true → le b a = true → a = b) : ∀ {l m : List α}, l.Perm m → l.Pairwise (fun a b => le a b = true) → m.Pairwise (fun a b => le a b = true) → l = m := by
  intro l
  induction l with
  | nil => intro m p _ _; rw [List.nil_perm.mp p]
  | cons a l ih =>
    intro m p h1 h2
    cases m with
    | nil => exact absurd p.symm (by simp)
    | cons b m =>
      rw [List.pairwise_cons] at h1 h2
      have hab : a = b := by
        have ha : a ∈ b :: m := p.mem_iff.mp List.mem_cons_self
        have hb : b ∈ a :: l := p.mem_iff.mpr List.mem_cons_self
        rcases List.mem_cons.mp ha with e | ha
        · exact e
        · rcases List.mem_cons.mp hb with e | hb
          · exact e.symm
          · exact an _ _ (h1.1 b hb) (h2.1 a ha)
      subst hab
      rw [ih (List.Perm.cons_inv p) h1.2 h2.2]
theorem sortC_perm (l : List Cell) : (sortC l).Perm l := isort_perm _ _
theorem sortC_eq {l m : List Cell} (h : l.Perm m) : sortC l = sortC m :=
  sorted_unique (fun _ _ => leC_antisymm) (((sortC_perm l).trans h).trans (sortC_perm m).symm) (isort_pairwise leC_total _) (isort_pairwise leC_total _)
theorem sortC_id {l : List Cell} (h : l.Pairwise (fun a b => leC a b = true)) : sortC l = l :=
  sorted_unique (fun _ _ => leC_antisymm) (sortC_perm l) (isort_pairwise leC_total _) h
theorem sortL_perm (l : List (List Cell)) : (sortL l).Perm l := isort_perm _ _
theorem sortL_eq {l m : List (List Cell)} (h : l.Perm m) : sortL l = sortL m :=
  sorted_unique (fun _ _ => leL_antisymm) (((sortL_perm l).trans h).trans (sortL_perm m).symm) (isort_pairwise leL_total _) (isort_pairwise leL_total _)
end Fl


set_option Elab.async false
set_option linter.all false
set_option autoImplicit false
set_option maxRecDepth 100000
set_option maxHeartbeats 1000000
/-! Floors, part 1: comprehensions, loops on data. -/
namespace Fl
open PySem Vl

theorem compD_map {α : Type} {g : TgF} {t : FE Bool} {f : FE D} {envw : SE} (enc : α → D) (p : α → Bool) (φ : α → D) : ∀ l : List α, (∀ a ∈ l, ∃ env1 e2, g (enc a) envw = some env1 ∧ t env1 = some (p a, e2) ∧ (p a = true → ∃ e3, f env1 = some (φ a, e3))) → compD g t f envw (l.map enc) = some ((l.filter p).map φ)
  | [], _ => rfl
  | a :: l, h => by
    obtain ⟨env1, e2, h1, h2, h3⟩ := h a List.mem_cons_self
    have ih := compD_map enc p φ l fun b hb => h b (List.mem_cons_of_mem _ hb)
    rw [List.map_cons]
    unfold compD
    rw [h1]
    dsimp only
    rw [h2]
    cases hp : p a with
    | true =>
      obtain ⟨e3, h4⟩ := h3 hp
      dsimp only
      rw [h4]
      dsimp only
      rw [ih]
      simp [List.filter_cons, hp]
    | false =>
      dsimp only
      rw [ih]
      simp [List.filter_cons, hp]
theorem compD_all {α : Type} {g : TgF} {f : FE D} {envw : SE} (enc : α → D) (φ : α → D) (l : List α) (h : ∀ a ∈ l, ∃ env1 e3, g (enc a) envw = some env1 ∧ f env1 = some (φ a, e3)) : compD g fYes f envw (l.map enc) = some (l.map φ) := by
  have := compD_map (t := fYes) enc (fun _ => true) φ l fun a ha => by
    obtain ⟨env1, e3, h1, h2⟩ := h a ha
    exact ⟨env1, env1, h1, rfl, fun _ => ⟨e3, h2⟩⟩
  rw [this, List.filter_eq_self.mpr (fun _ _ => rfl)]
/-- a comprehension over a list of codes -/
theorem fComp_of {α : Type} {vs : List Nat} {fi : FE (List D)} {g : TgF} {t : FE Bool} {f : FE D} {env : SE} (enc : α → D) (l : List α) (p : α → Bool) (φ : α → D) (hi : fi env = some (l.map enc, env)) (hl : l.length ≤ sizeLine)
    (h : ∀ a ∈ l, ∃ env1 e2, g (enc a) (wipeE env vs) = some env1 ∧ t env1 = some (p a, e2) ∧ (p a = true → ∃ e3, f env1 = some (φ a, e3))) : fComp vs fi g t f env = some (.list ((l.filter p).map φ), env) := by
  unfold fComp
  rw [hi]
  dsimp only
  rw [if_pos (by simpa using hl), compD_map enc p φ l h]
theorem fComp_all {α : Type} {vs : List Nat} {fi : FE (List D)} {g : TgF} {f : FE D} {env : SE} (enc : α → D) (l : List α) (φ : α → D) (hi : fi env = some (l.map enc, env)) (hl : l.length ≤ sizeLine)
    (h : ∀ a ∈ l, ∃ env1 e3, g (enc a) (wipeE env vs) = some env1 ∧ f env1 = some (φ a, e3)) : fComp vs fi g fYes f env = some (.list (l.map φ), env) := by
  unfold fComp
  rw [hi]
  dsimp only
  rw [if_pos (by simpa using hl), compD_all enc φ l h]
/-- a loop by an invariant; every turn comes to its end -/
theorem loopD_inv {α : Type} {g : TgF} {bd : FS} (enc : α → D) (I : Nat → SE → Prop) : ∀ (l : List α) (k : Nat) (env : SE), I k env →
    (∀ (i : Nat) (a : α) (env : SE), l[i]? = some a → I (k + i) env → ∃ env1 env2, g (enc a) env = some env1 ∧ (bd env1 = some (.nx env2) ∨ bd env1 = some (.ct env2)) ∧ I (k + i + 1) env2) → ∃ env', loopD g bd (l.map enc) env = some (.nx env') ∧ I (k + l.length) env'
  | [], k, env, h0, _ => ⟨env, rfl, h0⟩
  | a :: l, k, env, h0, h => by
    obtain ⟨env1, env2, h1, h2, h3⟩ := h 0 a env rfl h0
    obtain ⟨env', h4, h5⟩ := loopD_inv enc I l (k + 1) env2 h3 fun i b env hb hI => by
      have e : k + 1 + i = k + (i + 1) := by omega
      rw [e] at hI ⊢
      exact h (i + 1) b env (by simpa using hb) hI
    refine ⟨env', ?_, by rw [List.length_cons]; rw [show k + (l.length + 1) = k + 1 + l.length by omega]; exact h5⟩
    rw [List.map_cons]
    unfold loopD
    rw [h1]
    dsimp only
    rcases h2 with h2 | h2 <;> rw [h2] <;> exact h4
theorem sFor_inv {α : Type} {g : TgF} {bd : FS} {fi : FE (List D)} {env env0 : SE} (enc : α → D) (l : List α) (I : Nat → SE → Prop) (hi : fi env = some (l.map enc, env0)) (h0 : I 0 env0)
    (h : ∀ (i : Nat) (a : α) (env : SE), l[i]? = some a → I i env → ∃ env1 env2, g (enc a) env = some env1 ∧ (bd env1 = some (.nx env2) ∨ bd env1 = some (.ct env2)) ∧ I (i + 1) env2) : ∃ env', sFor fi g bd env = some (.nx env') ∧ I l.length env' := by
  unfold sFor
  rw [hi]
  obtain ⟨env', h1, h2⟩ := loopD_inv (g := g) (bd := bd) enc I l 0 env0 h0 fun i a env ha hI => by
    rw [Nat.zero_add] at hI ⊢
    exact h i a env ha hI
  exact ⟨env', h1, by rw [Nat.zero_add] at h2; exact h2⟩
/-- a while by an invariant with a measure -/
theorem whileD_inv {t : FE Bool} {bd : FS} (I : Nat → SE → Prop) (Post : SE → Prop) (h : ∀ m env, I m env → (∃ env', t env = some (false, env') ∧ Post env') ∨ ∃ env1 env2 m', t env = some (true, env1) ∧ (bd env1 = some (.nx env2) ∨ bd env1 = some (.ct env2)) ∧ m' < m ∧ I m' env2) :
    ∀ (n m : Nat) (env : SE), I m env → m < n → ∃ env', whileD t bd n env = some (.nx env') ∧ Post env'
  | 0, m, env, _, hn => absurd hn (Nat.not_lt_zero _)
  | n + 1, m, env, hI, hn => by
    rcases h m env hI with ⟨env', h1, h2⟩ | ⟨env1, env2, m', h1, h2, h3, h4⟩
    · exact ⟨env', by unfold whileD; rw [h1], h2⟩
    · obtain ⟨env', h5, h6⟩ := whileD_inv I Post h n m' env2 h4 (by omega)
      refine ⟨env', ?_, h6⟩
      unfold whileD
      rw [h1]
      dsimp only
      rcases h2 with h2 | h2 <;> rw [h2] <;> exact h5
theorem and_b {f g : FE D} {env env1 : SE} {b : Bool} (h : f env = some (.bool b, env1)) : fAnd f g env = cond b (g env1) (some (.bool false, env1)) := by
  unfold fAnd; rw [h]; cases b <;> rfl
theorem or_b {f g : FE D} {env env1 : SE} {b : Bool} (h : f env = some (.bool b, env1)) : fOr f g env = cond b (some (.bool true, env1)) (g env1) := by
  unfold fOr; rw [h]; cases b <;> rfl
theorem andB_b {f g : FE Bool} {env env1 : SE} {b : Bool} (h : f env = some (b, env1)) : fAndB f g env = cond b (g env1) (some (false, env1)) := by
  unfold fAndB; rw [h]; cases b <;> rfl
theorem orB_b {f g : FE Bool} {env env1 : SE} {b : Bool} (h : f env = some (b, env1)) : fOrB f g env = cond b (some (true, env1)) (g env1) := by
  unfold fOrB; rw [h]; cases b <;> rfl
theorem if_b {t : FE Bool} {f g : FS} {env env1 : SE} {b : Bool} (h : t env = some (b, env1)) : sIf t f g env = cond b (f env1) (g env1) := by
  unfold sIf; rw [h]; cases b <;> rfl
theorem fuel_big {n : Nat} (h : n < 1000000) : n < fuel := h
/-- statements one behind another -/
theorem seq_nx {f g : FS} {env env1 : SE} (h : f env = some (.nx env1)) : sSeq f g env = g env1 := by
  unfold sSeq; rw [h]
theorem seq_rt {f g : FS} {env env1 : SE} {d : D} (h : f env = some (.rt d env1)) : sSeq f g env = some (.rt d env1) := by
  unfold sSeq; rw [h]
theorem if_t {t : FE Bool} {f g : FS} {env env1 : SE} (h : t env = some (true, env1)) : sIf t f g env = f env1 := by
  unfold sIf; rw [h]
theorem if_f {t : FE Bool} {f g : FS} {env env1 : SE} (h : t env = some (false, env1)) : sIf t f g env = g env1 := by
  unfold sIf; rw [h]
theorem ifE_t {α : Type} {t : FE Bool} {f g : FE α} {env env1 : SE} (h : t env = some (true, env1)) : fIf t f g env = f env1 := by
  unfold fIf; rw [h]
theorem ifE_f {α : Type} {t : FE Bool} {f g : FE α} {env env1 : SE} (h : t env = some (false, env1)) : fIf t f g env = g env1 := by
  unfold fIf; rw [h]
theorem asg_of {f : FE D} {g : TgF} {env env1 env2 : SE} {d : D} (h : f env = some (d, env1)) (h2 : g d env1 = some env2) : sAsg f g env = some (.nx env2) := by
  unfold sAsg; rw [h]; dsimp only; rw [h2]
theorem own_of {f : FE D} {env env1 : SE} {d : D} {i : Nat} (h : f env = some (d, env1)) (h2 : i < env1.length) : sOwn f i env = some (.nx (env1.set i (.own d))) := by
  unfold sOwn; rw [h]; dsimp only; rw [if_pos h2]
theorem ret_of {f : FE D} {env env1 : SE} {d : D} (h : f env = some (d, env1)) : sRet f env = some (.rt d env1) := by
  unfold sRet; rw [h]
theorem map_of {α β : Type} {f : FE α} {g : α → Option β} {env env1 : SE} {a : α} {b : β} (h : f env = some (a, env1)) (h2 : g a = some b) : fMap f g env = some (b, env1) := by
  unfold fMap; rw [h]; dsimp only; rw [h2]
theorem cons_of {f : FE D} {g : FE (List D)} {env env1 env2 : SE} {d : D} {ds : List D} (h : f env = some (d, env1)) (h2 : g env1 = some (ds, env2)) : fCons f g env = some (d :: ds, env2) := by
  unfold fCons; rw [h]; dsimp only; rw [h2]
theorem f2_of {f g : FE D} {h : D → D → Option D} {env env1 env2 : SE} {a b c : D} (h1 : f env = some (a, env1)) (h2 : g env1 = some (b, env2)) (h3 : h a b = some c) : f2 f g h env = some (c, env2) := by
  unfold f2; rw [h1]; dsimp only; rw [h2]; dsimp only; rw [h3]
theorem call_of {n : Nat} {dds ds : List D} {fa : FE (List D)} {T : FD} {env env1 envF : SE} {r : D} (h : fa env = some (ds, env1)) (hn : ds.length + dds.length = n) (hT : T ((ds ++ dds).map .dat) = some (r, envF)) : fCall n dds fa T env = some (r, env1) := by
  unfold fCall
  refine map_of h ?_
  rw [if_pos hn, hT]; rfl
theorem call1_of {n i : Nat} {ds : List D} {fa : FE (List D)} {T : FD} {env env1 envF : SE} {r d d' : D} (h0 : isOwn i env = true) (h : fa env = some (ds, env1)) (hn : ds.length + 1 = n) (hd : env1[i]? = some (.own d)) (hT : T (.own d :: ds.map .dat) = some (r, envF)) (hF : envF[0]? = some (.own d')) :
    fCall1 n i fa T env = some (r, env1.set i (.own d')) := by
  unfold fCall1
  rw [if_pos h0, h]
  dsimp only
  rw [if_pos hn, hd]
  dsimp only
  rw [hT]
  dsimp only
  rw [hF]
theorem meth_of {α : Type} {i : Nat} {f : FE α} {c : α → List D → Option (List D)} {env env1 : SE} {a : α} {ds es : List D} (h0 : isOwnL i env = true) (h : f env = some (a, env1)) (hd : env1[i]? = some (.own (.list ds))) (hc : c a ds = some es) : sMeth i f c env = some (.nx (env1.set i (.own (.list es)))) := by
  unfold sMeth
  rw [if_pos h0, h]
  dsimp only
  rw [hd]
  dsimp only
  rw [hc]
theorem for_of {g : TgF} {bd : FS} {fi : FE (List D)} {env env0 : SE} {ds : List D} {r : Option Out} (hi : fi env = some (ds, env0)) (h : loopD g bd ds env0 = r) : sFor fi g bd env = r := by
  unfold sFor
  rw [hi]
  exact h
theorem for_2 {g : TgF} {bd : FS} {fi : FE (List D)} {env env0 e1 e2 e3 e4 : SE} {a b : D} (hi : fi env = some ([a, b], env0)) (h1 : g a env0 = some e1) (h2 : bd e1 = some (.nx e2)) (h3 : g b e2 = some e3) (h4 : bd e3 = some (.nx e4)) : sFor fi g bd env = some (.nx e4) := by
  unfold sFor
  rw [hi]
  dsimp only
  unfold loopD
  rw [h1]
  dsimp only
  rw [h2]
  dsimp only
  unfold loopD
  rw [h3]
  dsimp only
  rw [h4]
  rfl
theorem run_rt {n : Nat} {bd : FS} {args env : SE} {d : D} (h : bd (args ++ List.replicate (n - args.length) .un) = some (.rt d env)) : runD n bd args = some (d, env) := by
  unfold runD; rw [h]
theorem run_nx {n : Nat} {bd : FS} {args env : SE} (h : bd (args ++ List.replicate (n - args.length) .un) = some (.nx env)) : runD n bd args = some (.none, env) := by
  unfold runD; rw [h]
end Fl


set_option Elab.async false
set_option linter.all false
set_option autoImplicit false
set_option maxRecDepth 100000
set_option maxHeartbeats 1000000
/-! Floors, part 2: cells that hang together; dicts of cells. -/
namespace Fl
open PySem Vl

def besC (c : Cell) : List Cell := [(c.1 - 1, c.2), (c.1, c.2 - 1), (c.1, c.2 + 1), (c.1 + 1, c.2)]
theorem besC_mem {a b : Cell} : b ∈ besC a ↔ (b.1 = a.1 - 1 ∧ b.2 = a.2) ∨ (b.1 = a.1 ∧ b.2 = a.2 - 1) ∨ (b.1 = a.1 ∧ b.2 = a.2 + 1) ∨ (b.1 = a.1 + 1 ∧ b.2 = a.2) := by
  obtain ⟨a1, a2⟩ := a
  obtain ⟨b1, b2⟩ := b
  simp [besC]
theorem besC_symm {a b : Cell} (h : b ∈ besC a) : a ∈ besC b := by
  rw [besC_mem] at *
  omega
/-- grown cell by cell, each beside one that was there -/
inductive Gr : List Cell → Prop
  | one (c : Cell) : Gr [c]
  | add {l : List Cell} {c d : Cell} : Gr l → c ∈ l → d ∈ besC c → Gr (l ++ [d])
theorem Gr.ne {l : List Cell} (h : Gr l) : l ≠ [] := by
  cases h <;> simp
/-- a part that is closed and holds one holds all -/
theorem Gr.closed {l : List Cell} (h : Gr l) : ∀ T : List Cell, (∀ t ∈ T, t ∈ l) → T ≠ [] → (∀ t ∈ T, ∀ q ∈ besC t, q ∈ l → q ∈ T) → ∀ q ∈ l, q ∈ T := by
  induction h with
  | one c =>
    intro T h1 h2 h3 q hq
    cases T with
    | nil => exact absurd rfl h2
    | cons t T =>
      have : t = c := by simpa using h1 t List.mem_cons_self
      have hq' : q = c := by simpa using hq
      rw [hq', ← this]; exact List.mem_cons_self
  | @add l c d hg hc hd ih =>
    intro T h1 h2 h3
    have key : ∀ q ∈ l, q ∈ T := by
      have hex : ∃ t, t ∈ T ∧ t ∈ l := by
        cases T with
        | nil => exact absurd rfl h2
        | cons t T =>
          rcases List.mem_append.mp (h1 t List.mem_cons_self) with h | h
          · exact ⟨t, List.mem_cons_self, h⟩
          · have : t = d := by simpa using h
            subst this
            exact ⟨c, h3 t List.mem_cons_self c (besC_symm hd) (List.mem_append_left _ hc), hc⟩
      obtain ⟨t, ht, htl⟩ := hex
      have := ih (T.filter fun x => decide (x ∈ l)) (fun x hx => by
        rw [List.mem_filter] at hx
        exact of_decide_eq_true hx.2) (by
          intro z
          have : t ∈ T.filter fun x => decide (x ∈ l) := List.mem_filter.mpr ⟨ht, decide_eq_true htl⟩
          rw [z] at this; cases this) (fun x hx q hq hql => by
          rw [List.mem_filter] at hx
          exact List.mem_filter.mpr ⟨h3 x hx.1 q hq (List.mem_append_left _ hql), decide_eq_true hql⟩)
      intro q hq
      exact (List.mem_filter.mp (this q hq)).1
    intro q hq
    rcases List.mem_append.mp hq with h | h
    · exact key q h
    · have : q = d := by simpa using h
      subst this
      exact h3 c (key c hc) q hd (List.mem_append_right _ (by simp))
/-- all hang together -/
def Conn (l : List Cell) : Prop := l ≠ [] ∧ ∀ T : List Cell, (∀ t ∈ T, t ∈ l) → T ≠ [] → (∀ t ∈ T, ∀ q ∈ besC t, q ∈ l → q ∈ T) → ∀ q ∈ l, q ∈ T
theorem Gr.conn {l : List Cell} (h : Gr l) : Conn l := ⟨h.ne, h.closed⟩
theorem Conn.iff {l m : List Cell} (h : Conn l) (hm : ∀ c, c ∈ l ↔ c ∈ m) : Conn m := by
  refine ⟨?_, fun T h1 h2 h3 q hq => h.2 T (fun t ht => (hm t).mpr (h1 t ht)) h2 (fun t ht q hq hql => h3 t ht q hq ((hm q).mp hql)) q ((hm q).mpr hq)⟩
  rintro rfl
  cases l with
  | nil => exact h.1 rfl
  | cons a l => exact absurd ((hm a).mp List.mem_cons_self) (by simp)
/-- one more cell beside one -/
theorem Conn.add {l : List Cell} {c d : Cell} (h : Conn l) (hc : c ∈ l) (hd : d ∈ besC c) : Conn (l ++ [d]) := by
  refine ⟨by simp, fun T h1 h2 h3 => ?_⟩
  have key : ∀ q ∈ l, q ∈ T := by
    have hex : ∃ t, t ∈ T ∧ t ∈ l := by
      cases T with
      | nil => exact absurd rfl h2
      | cons t T =>
        rcases List.mem_append.mp (h1 t List.mem_cons_self) with h | h
        · exact ⟨t, List.mem_cons_self, h⟩
        · have : t = d := by simpa using h
          subst this
          exact ⟨c, h3 t List.mem_cons_self c (besC_symm hd) (List.mem_append_left _ hc), hc⟩
    obtain ⟨t, ht, htl⟩ := hex
    have := h.2 (T.filter fun x => decide (x ∈ l)) (fun x hx => by
      rw [List.mem_filter] at hx
      exact of_decide_eq_true hx.2) (by
        intro z
        have : t ∈ T.filter fun x => decide (x ∈ l) := List.mem_filter.mpr ⟨ht, decide_eq_true htl⟩
        rw [z] at this; cases this) (fun x hx q hq hql => by
        rw [List.mem_filter] at hx
        exact List.mem_filter.mpr ⟨h3 x hx.1 q hq (List.mem_append_left _ hql), decide_eq_true hql⟩)
    intro q hq
    exact (List.mem_filter.mp (this q hq)).1
  intro q hq
  rcases List.mem_append.mp hq with h | h
  · exact key q h
  · have : q = d := by simpa using h
    subst this
    exact h3 c (key c hc) q hd (List.mem_append_right _ (by simp))
/-- moved, turned, mirrored: what keeps neighbours keeps the rest -/
theorem Conn.map {l : List Cell} {f g : Cell → Cell} (h : Conn l) (hf : ∀ c, g (f c) = c) (hn : ∀ a b, b ∈ besC a → f b ∈ besC (f a)) : Conn (l.map f) := by
  refine ⟨by simpa using h.1, fun T h1 h2 h3 => ?_⟩
  have := h.2 (T.map g) (fun t ht => by
    obtain ⟨u, hu, rfl⟩ := List.mem_map.mp ht
    obtain ⟨v, hv, rfl⟩ := List.mem_map.mp (h1 u hu)
    rw [hf]; exact hv) (by simpa using h2) (fun t ht q hq hql => by
    obtain ⟨u, hu, rfl⟩ := List.mem_map.mp ht
    obtain ⟨v, hv, rfl⟩ := List.mem_map.mp (h1 u hu)
    rw [hf] at hq
    exact List.mem_map.mpr ⟨f q, h3 (f v) hu (f q) (hn v q hq) (List.mem_map.mpr ⟨q, hql, rfl⟩), hf q⟩)
  intro q hq
  obtain ⟨v, hv, rfl⟩ := List.mem_map.mp hq
  obtain ⟨u, hu, e⟩ := List.mem_map.mp (this v hv)
  obtain ⟨w, hw, rfl⟩ := List.mem_map.mp (h1 u hu)
  rw [hf] at e
  subst e
  exact hu

/-! ### dicts of cells -/
def kC (c : Cell) : NestedKey := .tup [.num c.1, .num c.2]
theorem key_cD (c : Cell) : keyOf (cD c) = some (kC c) := by rfl
theorem tup_cD (c : Cell) : tupKey (cD c) = some (kC c) := by rfl
theorem tup_pair (a b : Cell) : tupKey (.tuple [cD a, cD b]) = some (.tup [kC a, kC b]) := by rfl
theorem kC_inj {a b : Cell} (h : kC a = kC b) : a = b := by
  unfold kC at h
  injection h with h
  injection h with h1 h2
  injection h2 with h2 _
  injection h1 with h1
  injection h2 with h2
  exact Prod.ext h1 h2
def mkD (l : List Cell) : List (D × D) := l.map fun c => (cD c, .bool true)
theorem hasK_cD (a b : Cell) : hasK (kC a) (cD b, .bool true) = decide (b = a) := by
  unfold hasK
  dsimp only
  rw [key_cD]
  by_cases h : b = a
  · subst h; simp
  · rw [decide_eq_false h, decide_eq_false]
    intro z
    exact h (kC_inj (Option.some.inj z))
theorem atD_mk (c : Cell) : ∀ l : List Cell, atD (mkD l) (kC c) = if c ∈ l then some (.bool true) else none
  | [] => rfl
  | a :: l => by
    have ih := atD_mk c l
    unfold atD mkD at *
    rw [List.map_cons, List.find?_cons, hasK_cD]
    by_cases h : a = c
    · subst h; simp
    · rw [decide_eq_false h]
      dsimp only
      rw [ih]
      have : ¬ c = a := fun z => h z.symm
      simp [this]
theorem delD_mk (c : Cell) : ∀ l : List Cell, delD (mkD l) (kC c) = mkD (l.filter fun x => decide (x ≠ c))
  | [] => rfl
  | a :: l => by
    have ih := delD_mk c l
    unfold delD mkD at *
    rw [List.map_cons, List.filter_cons, hasK_cD, ih, List.filter_cons]
    by_cases h : a = c
    · subst h; simp
    · simp [h]
theorem inA_mk (f : Bool → Bool) (c : Cell) (l : List Cell) : inA f (cD c) (.dict (mkD l)) = some (.bool (f (decide (c ∈ l)))) := by
  unfold inA inN
  dsimp only
  rw [tup_cD]
  dsimp only
  rw [atD_mk]
  by_cases h : c ∈ l
  · rw [if_pos h, decide_eq_true h]; rfl
  · rw [if_neg h, decide_eq_false h]; rfl
theorem asPairs_mk : ∀ l : List Cell, asPairs (l.map fun c => PyData.tuple [cD c, .bool true]) = some (mkD l)
  | [] => rfl
  | c :: l => by
    rw [List.map_cons]
    unfold asPairs
    rw [tup_cD, asPairs_mk l]; rfl
theorem gDict_mk {l : List Cell} (h : l.Nodup) (hl : l.length ≤ sizeLine) : gDict [.list (l.map fun c => PyData.tuple [cD c, .bool true])] = some (.dict (mkD l)) := by
  unfold gDict
  dsimp only
  rw [asPairs_mk]
  dsimp only
  refine if_pos ⟨by simpa [mkD] using hl, ?_⟩
  unfold mkD
  rw [List.map_map]
  have : ((fun p : D × D => keyOf p.1) ∘ fun c : Cell => (cD c, (.bool true : D))) = fun c => some (kC c) := by
    funext c; exact key_cD c
  rw [this]
  refine List.Pairwise.map _ (fun a b hne => ?_) h
  exact fun z => hne (kC_inj (Option.some.inj z))

/-! ### the flood, on cells -/
def fl1 (s : List Cell × List Cell) (c : Cell) : List Cell × List Cell := if c ∈ s.1 then (s.1.filter (fun x => decide (x ≠ c)), s.2 ++ [c]) else s
theorem fl1_inv {P L T : List Cell} {c : Cell} (h : (P ++ T ++ L).Nodup) : (P ++ (fl1 (L, T) c).2 ++ (fl1 (L, T) c).1).Perm (P ++ T ++ L) ∧ 2 * (fl1 (L, T) c).1.length + (fl1 (L, T) c).2.length ≤ 2 * L.length + T.length ∧ c ∉ (fl1 (L, T) c).1 ∧ (∀ x ∈ T, x ∈ (fl1 (L, T) c).2) ∧ (∀ x ∈ (fl1 (L, T) c).1, x ∈ L) ∧ (∀ x ∈ L, x ∈ (fl1 (L, T) c).1 ∨ x ∈ (fl1 (L, T) c).2) := by
  unfold fl1
  dsimp only
  have nL : L.Nodup := (List.nodup_append.mp h).2.1
  split
  · rename_i hc
    dsimp only
    have e : L.filter (fun x => decide (x ≠ c)) = L.erase c := by
      rw [List.Nodup.erase_eq_filter nL]
      refine List.filter_congr fun x _ => ?_
      by_cases z : x = c <;> simp [z]
    rw [e]
    have pm := List.perm_cons_erase hc
    refine ⟨?_, ?_, fun z => ?_, fun x hx => List.mem_append_left _ hx, fun x hx => List.mem_of_mem_erase hx, fun x hx => ?_⟩
    · have : (P ++ (T ++ [c]) ++ L.erase c).Perm (P ++ T ++ (c :: L.erase c)) := by
        simp [List.append_assoc]
      exact this.trans (List.Perm.append_left _ pm.symm)
    · have := pm.length_eq
      simp at this
      rw [List.length_append, List.length_singleton]
      omega
    · exact (List.Nodup.not_mem_erase nL) z
    · by_cases z : x = c
      · subst z; exact .inr (by simp)
      · exact .inl ((List.mem_erase_of_ne z).mpr hx)
  · rename_i hc
    exact ⟨.refl _, Nat.le_refl _, hc, fun x hx => hx, fun x hx => hx, fun x hx => .inl hx⟩
def flN (s : List Cell × List Cell) (cs : List Cell) : List Cell × List Cell := cs.foldl fl1 s
theorem flN_inv : ∀ (cs : List Cell) {P L T : List Cell}, (P ++ T ++ L).Nodup → (P ++ (flN (L, T) cs).2 ++ (flN (L, T) cs).1).Perm (P ++ T ++ L) ∧ 2 * (flN (L, T) cs).1.length + (flN (L, T) cs).2.length ≤ 2 * L.length + T.length ∧ (∀ c ∈ cs, c ∉ (flN (L, T) cs).1) ∧ (∀ x ∈ T, x ∈ (flN (L, T) cs).2) ∧ (∀ x ∈ (flN (L, T) cs).1, x ∈ L)
  | [], P, L, T, _ => ⟨.refl _, Nat.le_refl _, (fun _ h => nomatch h), fun x hx => hx, fun x hx => hx⟩
  | c :: cs, P, L, T, h => by
    obtain ⟨a1, a2, a3, a4, a5, _⟩ := fl1_inv (c := c) h
    have h' : (P ++ (fl1 (L, T) c).2 ++ (fl1 (L, T) c).1).Nodup := a1.nodup_iff.mpr h
    obtain ⟨b1, b2, b3, b4, b5⟩ := flN_inv cs h'
    show _ ∧ _ ∧ (∀ x ∈ c :: cs, x ∉ (flN (fl1 (L, T) c) cs).1) ∧ _
    refine ⟨b1.trans a1, Nat.le_trans b2 a2, fun x hx => ?_, fun x hx => b4 x (a4 x hx), fun x hx => a5 x (b5 x hx)⟩
    rcases List.mem_cons.mp hx with rfl | hx
    · exact fun z => a3 (b5 _ z)
    · exact b3 x hx
end Fl


set_option Elab.async false
set_option linter.all false
set_option autoImplicit false
set_option maxRecDepth 100000
set_option maxHeartbeats 4000000
namespace K65
open PySem PySem.Spec L2 Vl
open PyProof.Rows (envOfC)
def top (i : Nat) : Stmt := PySem.Challenge.pw_seenfromwithin_k65_whole_forms.main.body.getD i (.Pass ⟨0, 0, 0, 0⟩)
structure Txt (K : PySem.W.Frag) (mg : Str → Option Value) : Type where
  a_is_whole : Addr
  d_is_whole : FuncData
  f_is_whole : Fun K "is_whole" "is_whole" (top 1) a_is_whole d_is_whole
  b_is_whole : Binds K d_is_whole ["value"] []
  m_is_whole : mg "is_whole" = some (.ref a_is_whole)
  a_is_count : Addr
  d_is_count : FuncData
  f_is_count : FunD K "is_count" "is_count" (defArgs (top 2)) (defBody (top 2)) (defScope (top 2)) [.int 0] [] a_is_count d_is_count
  v_is_count : List Value
  e_is_count : Vals [.int 0] v_is_count ∧ Binds K d_is_count ["value", "least"] v_is_count
  m_is_count : mg "is_count" = some (.ref a_is_count)
  a_is_tuple_of : Addr
  d_is_tuple_of : FuncData
  f_is_tuple_of : Fun K "is_tuple_of" "is_tuple_of" (top 3) a_is_tuple_of d_is_tuple_of
  b_is_tuple_of : Binds K d_is_tuple_of ["value", "size"] []
  m_is_tuple_of : mg "is_tuple_of" = some (.ref a_is_tuple_of)
  a_is_cell : Addr
  d_is_cell : FuncData
  f_is_cell : Fun K "is_cell" "is_cell" (top 9) a_is_cell d_is_cell
  b_is_cell : Binds K d_is_cell ["value"] []
  m_is_cell : mg "is_cell" = some (.ref a_is_cell)
  a_beside : Addr
  d_beside : FuncData
  f_beside : Fun K "beside" "beside" (top 10) a_beside d_beside
  b_beside : Binds K d_beside ["cell"] []
  m_beside : mg "beside" = some (.ref a_beside)
  a_parts_there : Addr
  d_parts_there : FuncData
  f_parts_there : Fun K "parts_there" "parts_there" (top 11) a_parts_there d_parts_there
  b_parts_there : Binds K d_parts_there ["cells", "walls"] []
  m_parts_there : mg "parts_there" = some (.ref a_parts_there)
  a_is_floor : Addr
  d_is_floor : FuncData
  f_is_floor : Fun K "is_floor" "is_floor" (top 12) a_is_floor d_is_floor
  b_is_floor : Binds K d_is_floor ["value"] []
  m_is_floor : mg "is_floor" = some (.ref a_is_floor)
  a_check_floor : Addr
  d_check_floor : FuncData
  f_check_floor : Fun K "check_floor" "check_floor" (top 13) a_check_floor d_check_floor
  b_check_floor : Binds K d_check_floor ["value"] []
  m_check_floor : mg "check_floor" = some (.ref a_check_floor)
  a_moved_least : Addr
  d_moved_least : FuncData
  f_moved_least : Fun K "moved_least" "moved_least" (top 14) a_moved_least d_moved_least
  b_moved_least : Binds K d_moved_least ["cells"] []
  m_moved_least : mg "moved_least" = some (.ref a_moved_least)
  a_forms_there : Addr
  d_forms_there : FuncData
  f_forms_there : Fun K "forms_there" "forms_there" (top 15) a_forms_there d_forms_there
  b_forms_there : Binds K d_forms_there ["floor"] []
  m_forms_there : mg "forms_there" = some (.ref a_forms_there)
  a_floor_forms : Addr
  d_floor_forms : FuncData
  f_floor_forms : Fun K "floor_forms" "floor_forms" (top 16) a_floor_forms d_floor_forms
  b_floor_forms : Binds K d_floor_forms ["floor"] []
  o_floor_forms : KBn K d_floor_forms ["floor"] 0 ["floor"] (fun _ ws => turnL false ws) (fun _ zs => turnL false zs)
  m_floor_forms : mg "floor_forms" = some (.ref a_floor_forms)
  a_are_floors_alike : Addr
  d_are_floors_alike : FuncData
  f_are_floors_alike : Fun K "are_floors_alike" "are_floors_alike" (top 17) a_are_floors_alike d_are_floors_alike
  b_are_floors_alike : Binds K d_are_floors_alike ["floor", "other"] []
  o_are_floors_alike : KBn K d_are_floors_alike ["floor", "other"] 0 ["other", "floor"] (fun _ ws => turnL true ws) (fun _ zs => turnL true zs)
  m_are_floors_alike : mg "are_floors_alike" = some (.ref a_are_floors_alike)
  a__law_purse : Addr
  d__law_purse : FuncData
  f__law_purse : Fun K "_law_purse" "_law_purse" (top 19) a__law_purse d__law_purse
  b__law_purse : Binds K d__law_purse ["script", "at"] []
  m__law_purse : mg "_law_purse" = some (.ref a__law_purse)
  a__law_mixed : Addr
  d__law_mixed : FuncData
  f__law_mixed : Fun K "_law_mixed" "_law_mixed" (top 20) a__law_mixed d__law_mixed
  b__law_mixed : Binds K d__law_mixed ["seed", "spin", "at"] []
  m__law_mixed : mg "_law_mixed" = some (.ref a__law_mixed)
  a__law_draw : Addr
  d__law_draw : FuncData
  f__law_draw : Fun K "_law_draw" "_law_draw" (top 21) a__law_draw d__law_draw
  b__law_draw : Binds K d__law_draw ["purse", "many"] []
  m__law_draw : mg "_law_draw" = some (.ref a__law_draw)
  a__law_purses : Addr
  d__law_purses : FuncData
  f__law_purses : Fun K "_law_purses" "_law_purses" (top 22) a__law_purses d__law_purses
  b__law_purses : Binds K d__law_purses ["script", "few"] []
  m__law_purses : mg "_law_purses" = some (.ref a__law_purses)
  a__law_one_of : Addr
  d__law_one_of : FuncData
  f__law_one_of : Fun K "_law_one_of" "_law_one_of" (top 23) a__law_one_of d__law_one_of
  b__law_one_of : Binds K d__law_one_of ["purse", "some"] []
  m__law_one_of : mg "_law_one_of" = some (.ref a__law_one_of)
  a__law_exact : Addr
  d__law_exact : FuncData
  f__law_exact : Fun K "_law_exact" "_law_exact" (top 24) a__law_exact d__law_exact
  b__law_exact : Binds K d__law_exact ["mine", "theirs"] []
  m__law_exact : mg "_law_exact" = some (.ref a__law_exact)
  a__law_beside : Addr
  d__law_beside : FuncData
  f__law_beside : Fun K "_law_beside" "_law_beside" (top 25) a__law_beside d__law_beside
  b__law_beside : Binds K d__law_beside ["cell"] []
  m__law_beside : mg "_law_beside" = some (.ref a__law_beside)
  a__law_floor : Addr
  d__law_floor : FuncData
  f__law_floor : Fun K "_law_floor" "_law_floor" (top 26) a__law_floor d__law_floor
  b__law_floor : Binds K d__law_floor ["purse", "most", "wide"] []
  m__law_floor : mg "_law_floor" = some (.ref a__law_floor)
  a__law_moved : Addr
  d__law_moved : FuncData
  f__law_moved : Fun K "_law_moved" "_law_moved" (top 27) a__law_moved d__law_moved
  b__law_moved : Binds K d__law_moved ["cells"] []
  m__law_moved : mg "_law_moved" = some (.ref a__law_moved)
  a__law_forms : Addr
  d__law_forms : FuncData
  f__law_forms : Fun K "_law_forms" "_law_forms" (top 28) a__law_forms d__law_forms
  b__law_forms : Binds K d__law_forms ["floor"] []
  m__law_forms : mg "_law_forms" = some (.ref a__law_forms)
  a__law_right : Addr
  d__law_right : FuncData
  f__law_right : Fun K "_law_right" "_law_right" (top 29) a__law_right d__law_right
  b__law_right : Binds K d__law_right ["purse", "floor"] []
  m__law_right : mg "_law_right" = some (.ref a__law_right)
  a_law : Addr
  d_law : FuncData
  f_law : Fun K "law" "law" (top 30) a_law d_law
  b_law : Binds K d_law ["script"] []
  m_law : mg "law" = some (.ref a_law)
  g_all : mg "all" = none
  g_bool : mg "bool" = none
  g_dict : mg "dict" = none
  g_int : mg "int" = none
  g_isinstance : mg "isinstance" = none
  g_len : mg "len" = none
  g_list : mg "list" = none
  g_max : mg "max" = none
  g_min : mg "min" = none
  g_range : mg "range" = none
  g_repr : mg "repr" = none
  g_sorted : mg "sorted" = none
  g_str : mg "str" = none
  g_sum : mg "sum" = none
  g_tuple : mg "tuple" = none
  g_zip : mg "zip" = none
theorem sc_is_whole : FnScope ["value"] ["value"] (defScope (top 1)) := ⟨rfl, rfl, rfl, by decide +kernel, rfl, by decide +kernel, by decide +kernel⟩
theorem sc_is_count : FnScope ["value", "least"] ["value", "least"] (defScope (top 2)) := ⟨rfl, rfl, rfl, by decide +kernel, rfl, by decide +kernel, by decide +kernel⟩
theorem sc_is_tuple_of : FnScope ["value", "size"] ["value", "size"] (defScope (top 3)) := ⟨rfl, rfl, rfl, by decide +kernel, rfl, by decide +kernel, by decide +kernel⟩
theorem sc_is_cell : FnScope ["value"] ["value"] (defScope (top 9)) := ⟨rfl, rfl, rfl, by decide +kernel, rfl, by decide +kernel, by decide +kernel⟩
theorem sc_beside : FnScope ["cell"] ["cell"] (defScope (top 10)) := ⟨rfl, rfl, rfl, by decide +kernel, rfl, by decide +kernel, by decide +kernel⟩
theorem sc_parts_there : FnScope ["cells", "walls", "left", "found", "cell", "part", "todo", "here", "late"] ["cells", "walls"] (defScope (top 11)) := ⟨rfl, rfl, rfl, by decide +kernel, rfl, by decide +kernel, by decide +kernel⟩
theorem sc_is_floor : FnScope ["value", "cell", "one", "late"] ["value"] (defScope (top 12)) := ⟨rfl, rfl, rfl, by decide +kernel, rfl, by decide +kernel, by decide +kernel⟩
theorem sc_check_floor : FnScope ["value"] ["value"] (defScope (top 13)) := ⟨rfl, rfl, rfl, by decide +kernel, rfl, by decide +kernel, by decide +kernel⟩
theorem sc_moved_least : FnScope ["cells", "left", "low", "x", "y"] ["cells"] (defScope (top 14)) := ⟨rfl, rfl, rfl, by decide +kernel, rfl, by decide +kernel, by decide +kernel⟩
theorem sc_forms_there : FnScope ["floor", "found", "here", "turn", "form", "x", "y"] ["floor"] (defScope (top 15)) := ⟨rfl, rfl, rfl, by decide +kernel, rfl, by decide +kernel, by decide +kernel⟩
theorem sc_floor_forms : FnScope ["floor"] ["floor"] (defScope (top 16)) := ⟨rfl, rfl, rfl, by decide +kernel, rfl, by decide +kernel, by decide +kernel⟩
theorem sc_are_floors_alike : FnScope ["floor", "other"] ["floor", "other"] (defScope (top 17)) := ⟨rfl, rfl, rfl, by decide +kernel, rfl, by decide +kernel, by decide +kernel⟩
theorem sc__law_purse : FnScope ["script", "at", "seed"] ["script", "at"] (defScope (top 19)) := ⟨rfl, rfl, rfl, by decide +kernel, rfl, by decide +kernel, by decide +kernel⟩
theorem sc__law_mixed : FnScope ["seed", "spin", "at", "mixed"] ["seed", "spin", "at"] (defScope (top 20)) := ⟨rfl, rfl, rfl, by decide +kernel, rfl, by decide +kernel, by decide +kernel⟩
theorem sc__law_draw : FnScope ["purse", "many", "drawn", "found", "piece"] ["purse", "many"] (defScope (top 21)) := ⟨rfl, rfl, rfl, by decide +kernel, rfl, by decide +kernel, by decide +kernel⟩
theorem sc__law_purses : FnScope ["script", "few", "at"] ["script", "few"] (defScope (top 22)) := ⟨rfl, rfl, rfl, by decide +kernel, rfl, by decide +kernel, by decide +kernel⟩
theorem sc__law_one_of : FnScope ["purse", "some"] ["purse", "some"] (defScope (top 23)) := ⟨rfl, rfl, rfl, by decide +kernel, rfl, by decide +kernel, by decide +kernel⟩
theorem sc__law_exact : FnScope ["mine", "theirs", "is_list", "is_like", "key", "a", "b"] ["mine", "theirs"] (defScope (top 24)) := ⟨rfl, rfl, rfl, by decide +kernel, rfl, by decide +kernel, by decide +kernel⟩
theorem sc__law_beside : FnScope ["cell"] ["cell"] (defScope (top 25)) := ⟨rfl, rfl, rfl, by decide +kernel, rfl, by decide +kernel, by decide +kernel⟩
theorem sc__law_floor : FnScope ["purse", "most", "wide", "cells", "spin", "here", "late", "right", "up", "x", "y"] ["purse", "most", "wide"] (defScope (top 26)) := ⟨rfl, rfl, rfl, by decide +kernel, rfl, by decide +kernel, by decide +kernel⟩
theorem sc__law_moved : FnScope ["cells", "left", "low", "x", "y"] ["cells"] (defScope (top 27)) := ⟨rfl, rfl, rfl, by decide +kernel, rfl, by decide +kernel, by decide +kernel⟩
theorem sc__law_forms : FnScope ["floor", "found", "here", "turn", "form", "x", "y"] ["floor"] (defScope (top 28)) := ⟨rfl, rfl, rfl, by decide +kernel, rfl, by decide +kernel, by decide +kernel⟩
theorem sc__law_right : FnScope ["purse", "floor", "noted", "due", "told", "form", "right", "up", "others", "near", "other", "is_due", "shown", "x", "y", "late"] ["purse", "floor"] (defScope (top 29)) := ⟨rfl, rfl, rfl, by decide +kernel, rfl, by decide +kernel, by decide +kernel⟩
section
variable {P : Program} {w : World} {K : PySem.W.Frag} {mg : Str → Option Value} {base : Heap} (T : Txt K mg)
include T
/-! ### is_whole -/
def F_is_whole : FD := runD 1
    (sRet (fAnd (fMap (fName 0) (isiD "int")) (fMap (fMap (fName 0) (isiD "bool")) notD)))
theorem ok_is_whole : FnOk P w K mg base CX0 1 T.a_is_whole T.d_is_whole ["value"] (sp0 P w 1 false F_is_whole) := by
  refine fn0 T.f_is_whole sc_is_whole (fl := []) (by decide) (by decide) fun cdv A outer s H E hr => ?_
  have hrR := hr
  exact (vb_one (vs_ret (v_and (ni := false) (v_isi (ni := false) rfl (T.g_isinstance) rfl (T.g_int) bf_int (VJ.bor (nm 0))) (v_one (v_not (ni := false) (v_isi (ni := false) rfl (T.g_isinstance) rfl (T.g_bool) bf_bool (VJ.bor (nm 0))))))))
/-! ### is_count -/
def F_is_count : FD := runD 2
    (sRet (fAnd (fCall 1 [] (fCons (fName 0) fNil) F_is_whole) (f2 (fName 0) (fMap (fCons (fName 1) (fCons (fC (.int 0)) fNil)) (gBest fun a b => PySem.W.dataLt b a)) (cmpI fun i j => decide (j ≤ i)))))
theorem ok_is_count : FnOk P w K mg base CX0 2 T.a_is_count T.d_is_count ["value", "least"] (sp0 P w 2 false F_is_count) := by
  have h_is_whole := (ok_is_whole (P := P) (w := w) (base := base) T).mono (by decide : 1 ≤ 1)
  refine fn0D T.f_is_count sc_is_count (fl := []) (by decide) (by decide) fun cdv A outer s H E hr => ?_
  have hrR := hr
  exact (vb_one (vs_ret (v_and (ni := false) (v_call (ni := false) (dds := []) h_is_whole hrR rfl T.m_is_whole T.f_is_whole.kp T.b_is_whole .nil (fun _ => .nil) (va_cons (nm 0) va_nil)) (v_one (v_cmp (ni := false) op_ge prim_ge (nm 0) (v_callB (cr_max rfl (hu70 hrR)) prim_best rfl (T.g_max) bf_max (va_cons (nm 1) (va_cons ci va_nil))) (by rfl))))))
/-! ### is_tuple_of -/
def F_is_tuple_of : FD := runD 2
    (sRet (fAnd (fMap (fName 0) (isiD "tuple")) (f2 (fMap (fCons (fName 0) fNil) gLen) (fName 1) eqD)))
theorem ok_is_tuple_of : FnOk P w K mg base CX0 1 T.a_is_tuple_of T.d_is_tuple_of ["value", "size"] (sp0 P w 2 false F_is_tuple_of) := by
  refine fn0 T.f_is_tuple_of sc_is_tuple_of (fl := []) (by decide) (by decide) fun cdv A outer s H E hr => ?_
  have hrR := hr
  exact (vb_one (vs_ret (v_and (ni := false) (v_isi (ni := false) rfl (T.g_isinstance) rfl (T.g_tuple) bf_tuple (VJ.bor (nm 0))) (v_one (v_cmp (ni := false) (op_eqD (hu64 hrR)) prim_eq (v_callB (ni := false) call_len prim_len rfl (T.g_len) bf_len (va_cons (nm 0) va_nil)) (nm 1) (by rfl))))))
/-! ### is_cell -/
def F_is_cell : FD := runD 1
    (sRet (fAnd (fCall 2 [] (fCons (fName 0) (fCons (fC (.int 2)) fNil)) F_is_tuple_of) (fAnd (fCall 2 [.int 0] (fCons (f2 (fName 0) (fC (.int 0)) ixD) fNil) F_is_count) (fCall 2 [.int 0] (fCons (f2 (fName 0) (fC (.int 1)) ixD) fNil) F_is_count))))
theorem ok_is_cell : FnOk P w K mg base CX0 3 T.a_is_cell T.d_is_cell ["value"] (sp0 P w 1 false F_is_cell) := by
  have h_is_tuple_of := (ok_is_tuple_of (P := P) (w := w) (base := base) T).mono (by decide : 1 ≤ 2)
  have h_is_count := (ok_is_count (P := P) (w := w) (base := base) T).mono (by decide : 2 ≤ 2)
  refine fn0 T.f_is_cell sc_is_cell (fl := []) (by decide) (by decide) fun cdv A outer s H E hr => ?_
  have hrR := hr
  exact (vb_one (vs_ret (v_and (ni := false) (v_call (ni := false) (dds := []) h_is_tuple_of hrR rfl T.m_is_tuple_of T.f_is_tuple_of.kp T.b_is_tuple_of .nil (fun _ => .nil) (va_cons (nm 0) (va_cons ci va_nil))) (v_and (ni := false) (v_call (ni := false) (dds := [.int 0]) h_is_count hrR rfl T.m_is_count T.f_is_count.kp T.e_is_count.2 T.e_is_count.1 (fun _ => .cons (.int _) (.nil)) (va_cons (v_ix ix_D prim_ix (nm 0) ci (fun _ _ => rfl)) va_nil)) (v_one (v_call (ni := false) (dds := [.int 0]) h_is_count hrR rfl T.m_is_count T.f_is_count.kp T.e_is_count.2 T.e_is_count.1 (fun _ => .cons (.int _) (.nil)) (va_cons (v_ix ix_D prim_ix (nm 0) ci (fun _ _ => rfl)) va_nil)))))))
/-! ### beside -/
def F_beside : FD := runD 1
    (sRet (fMap (fCons (fMap (fCons (f2 (f2 (fName 0) (fC (.int 0)) ixD) (fC (.int 1)) subD) (fCons (f2 (fName 0) (fC (.int 1)) ixD) fNil)) gTuple) (fCons (fMap (fCons (f2 (fName 0) (fC (.int 0)) ixD) (fCons (f2 (f2 (fName 0) (fC (.int 1)) ixD) (fC (.int 1)) subD) fNil)) gTuple) (fCons (fMap (fCons (f2 (fName 0) (fC (.int 0)) ixD) (fCons (f2 (f2 (fName 0) (fC (.int 1)) ixD) (fC (.int 1)) addD) fNil)) gTuple) (fCons (fMap (fCons (f2 (f2 (fName 0) (fC (.int 0)) ixD) (fC (.int 1)) addD) (fCons (f2 (fName 0) (fC (.int 1)) ixD) fNil)) gTuple) fNil)))) gList))
theorem ok_beside : FnOk P w K mg base CX0 1 T.a_beside T.d_beside ["cell"] (sp0 P w 1 false F_beside) := by
  refine fn0 T.f_beside sc_beside (fl := []) (by decide) (by decide) fun cdv A outer s H E hr => ?_
  have hrR := hr
  exact (vb_one (vs_ret (v_list (va_cons (v_tuple (va_cons (v_op (ni := false) op_sub prim_sub (v_ix ix_D prim_ix (nm 0) ci (fun _ _ => rfl)) ci) (va_cons (v_ix ix_D prim_ix (nm 0) ci (fun _ _ => rfl)) va_nil))) (va_cons (v_tuple (va_cons (v_ix ix_D prim_ix (nm 0) ci (fun _ _ => rfl)) (va_cons (v_op (ni := false) op_sub prim_sub (v_ix ix_D prim_ix (nm 0) ci (fun _ _ => rfl)) ci) va_nil))) (va_cons (v_tuple (va_cons (v_ix ix_D prim_ix (nm 0) ci (fun _ _ => rfl)) (va_cons (v_op op_addD prim_add (v_ix ix_D prim_ix (nm 0) ci (fun _ _ => rfl)) ci) va_nil))) (va_cons (v_tuple (va_cons (v_op op_addD prim_add (v_ix ix_D prim_ix (nm 0) ci (fun _ _ => rfl)) ci) (va_cons (v_ix ix_D prim_ix (nm 0) ci (fun _ _ => rfl)) va_nil))) va_nil)))))))
/-! ### parts_there -/
def F_parts_there : FD := runD 9
    (sSeq (sPar 2 3 true true (fMap (fCons (fComp [4] (fMap (fName 0) asL) (gSet 4) fYes (fMap (fCons (fName 4) (fCons (fC (.bool true)) fNil)) gTuple)) fNil) gDict) (fMap fNil gList))
    (sSeq (sFor (fMap (fMap (fCons (fName 0) fNil) gSorted) asL) (gSet 4) (sIf (fMap (f2 (fName 4) (fLook 2) (inA fun c => c)) asB) (sSeq (sPar 5 6 true true (fMap fNil gList) (fMap (fCons (fName 4) fNil) gList))
    (sSeq (sExpr (fPopK 2 (fName 4)))
    (sSeq (whileD (fMap (f2 (fLook 6) (fMap fNil gList) neD) asB) (sSeq (sAsg (fPop 6) (gSet 7))
    (sSeq (sMeth 5 (fName 7) cAppend)
    (sFor (fMap (fCall 1 [] (fCons (fName 7) fNil) F_beside) asL) (gSet 8) (sIf (fAndB (fMap (f2 (fName 8) (fLook 2) (inA fun c => c)) asB) (fMap (f2 (fMap (fCons (fMap (fCons (fName 7) (fCons (fName 8) fNil)) (gBest PySem.W.dataLt)) (fCons (fMap (fCons (fName 7) (fCons (fName 8) fNil)) (gBest fun a b => PySem.W.dataLt b a)) fNil)) gTuple) (fName 1) (inA fun c => !c)) asB)) (sSeq (sExpr (fPopK 2 (fName 8)))
    (sMeth 6 (fName 8) cAppend)) sNil)))) fuel)
    (sMeth 3 (fMap (fCons (fLook 5) fNil) gSorted) cAppend)))) sNil))
    (sRet (fFreeze 3))))
theorem ok_parts_there : FnOk P w K mg base CX0 2 T.a_parts_there T.d_parts_there ["cells", "walls"] (sp0 P w 2 false F_parts_there) := by
  have h_beside := (ok_beside (P := P) (w := w) (base := base) T).mono (by decide : 1 ≤ 1)
  refine fn0 T.f_parts_there sc_parts_there (fl := []) (by decide) (by decide) fun cdv A outer s H E hr => ?_
  have hrR := hr
  exact (vb_cons (vs_par (nw := false) (nj := false) (i := 2) (j := 3) (k1 := true) (k2 := true) rfl (sc_parts_there).nd rfl rfl (by decide) rfl rfl io0 io0 (VN.k (vn_dict rfl (hu65 hrR) rfl (T.g_dict) (va_cons (VN.vj (vn_comp (own := [("cell", 4)]) (ni := false) rfl (sc_parts_there).nd ios0 (by decide) (vi_list (nm 0)) (blkOk_by (own := [("cell", 4)]) (by rfl)) (fun _ _ _ _ _ => (vg_name (i := 4) (sc_parts_there).nd rfl (by first | exact Or.inl rfl | exact Or.inr rfl) io0 (fun z => nomatch z))) (fun _ _ _ _ _ => (v_tuple (va_cons (p := true) (q := true) (nm 4) (va_cons (p := true) (q := true) cb va_nil)))))) va_nil))) (VN.k (vn_list va_nil)) (by decide) (fun z => nomatch z) (fun z => nomatch z) (by rfl))
    (vb_cons (vs_for (nw := false) PassesOwn.never rfl (vi_list (v_callB (cr_sortD (hu70 hrR)) prim_sorted rfl (T.g_sorted) bf_sorted (va_cons (nm 0) va_nil))) (vg_name (i := 4) (sc_parts_there).nd rfl (by first | exact Or.inl rfl | exact Or.inr rfl) io0 (fun z => nomatch z)) (vb_one (vs_if (vt_cmp (ni := false) (nw := false) (op_inA (hu65 hrR)) prim_inA (nm 4) (lk 2) (by rfl)) (vb_cons (vs_par (nw := false) (nj := false) (i := 5) (j := 6) (k1 := true) (k2 := true) rfl (sc_parts_there).nd rfl rfl (by decide) rfl rfl io0 io0 (VN.k (vn_list va_nil)) (VN.k (vn_list (va_cons (nm 4) va_nil))) (by decide) (fun z => nomatch z) (fun z => nomatch z) (by rfl))
    (vb_cons (vs_expr (nw := false) (v_popK (i := 2) (hu65 hrR) rfl (Or.inl rfl) (nm 4)))
    (vb_cons (vs_while (n := fuel) PassesOwn.never (vt_cmp (ni := false) (nw := false) (op_neD (hu64 hrR)) prim_ne (lk 6) (v_list va_nil) (by rfl)) (vb_cons (vs_set (nw := false) (i := 7) (sc_parts_there).nd rfl (by first | exact Or.inl rfl | exact Or.inr rfl) io0 (v_pop (i := 6) rfl (Or.inl rfl)) (fun z => nomatch z))
    (vb_cons (vs_append (ni := false) (i := 5) rfl (Or.inl rfl) (nm 7) (fun z => nomatch z))
    (vb_one (vs_for (nw := false) PassesOwn.never rfl (vi_list (v_call (ni := false) (dds := []) h_beside hrR rfl T.m_beside T.f_beside.kp T.b_beside .nil (fun _ => .nil) (va_cons (nm 7) va_nil))) (vg_name (i := 8) (sc_parts_there).nd rfl (by first | exact Or.inl rfl | exact Or.inr rfl) io0 (fun z => nomatch z)) (vb_one (vs_if (VW.vt (vw_and (vt_cmp (ni := false) (nw := false) (op_inA (hu65 hrR)) prim_inA (nm 8) (lk 2) (by rfl)) (vw_and1 (vt_cmp (ni := false) (nw := false) (op_notInA (hu65 hrR)) prim_notInA (v_tuple (va_cons (v_callB (cr_min rfl (hu70 hrR)) prim_best rfl (T.g_min) bf_min (va_cons (nm 7) (va_cons (nm 8) va_nil))) (va_cons (v_callB (cr_max rfl (hu70 hrR)) prim_best rfl (T.g_max) bf_max (va_cons (nm 7) (va_cons (nm 8) va_nil))) va_nil))) (nm 1) (by rfl))))) (vb_cons (vs_expr (nw := false) (v_popK (i := 2) (hu65 hrR) rfl (Or.inl rfl) (nm 8)))
    (vb_one (vs_append (ni := false) (i := 6) rfl (Or.inl rfl) (nm 8) (fun z => nomatch z)))) vb_nil)))))))
    (vb_one (vs_append (ni := false) (i := 3) rfl (Or.inl rfl) (v_callB (cr_sortD (hu70 hrR)) prim_sorted rfl (T.g_sorted) bf_sorted (va_cons (lk 5) va_nil)) (fun z => nomatch z)))))) vb_nil)))
    (vb_one (vs_ret (fz 3 io0)))))
/-! ### is_floor -/
def F_is_floor : FD := runD 4
    (sSeq (sIf (fOrB (fNot (fMap (fMap (fName 0) (isiD "list")) asB)) (fOrB (fMap (f2 (fName 0) (fMap fNil gList) eqD) asB) (fNot (fMap (fMap (fCons (fComp [1] (fMap (fName 0) asL) (gSet 1) fYes (fCall 1 [] (fCons (fName 1) fNil) F_is_cell)) fNil) gAll) asB)))) (sRet (fC (.bool false))) sNil)
    (sRet (fAnd (fMap (fCons (fComp [2, 3] (fMap (fCons (fName 0) (fCons (fSlice (fName 0) (fMap (fC (.int 1)) asPart) fNoPart) fNil)) asZip) (gUnp (gsCons (gSet 2) (gsCons (gSet 3) gsNil)) 2) fYes (f2 (fName 2) (fName 3) ltD)) fNil) gAll) (f2 (fMap (fCons (fCall 2 [] (fCons (fName 0) (fCons fDNew fNil)) F_parts_there) fNil) gLen) (fC (.int 1)) eqD))))
theorem ok_is_floor : FnOk P w K mg base CX0 4 T.a_is_floor T.d_is_floor ["value"] (sp0 P w 1 false F_is_floor) := by
  have h_parts_there := (ok_parts_there (P := P) (w := w) (base := base) T).mono (by decide : 2 ≤ 3)
  have h_is_cell := (ok_is_cell (P := P) (w := w) (base := base) T).mono (by decide : 3 ≤ 3)
  refine fn0 T.f_is_floor sc_is_floor (fl := []) (by decide) (by decide) fun cdv A outer s H E hr => ?_
  have hrR := hr
  exact (vb_cons (vs_if (VW.vt (vw_or (vt_not (vt_val (nw := false) (v_isi (ni := false) rfl (T.g_isinstance) rfl (T.g_list) bf_list (VJ.bor (nm 0))))) (vw_or (vt_cmp (ni := false) (nw := false) (op_eqD (hu64 hrR)) prim_eq (nm 0) (v_list va_nil) (by rfl)) (vw_or1 (vt_not (vt_val (nw := false) (v_callB (ni := false) (cr_all rfl) prim_all rfl (T.g_all) bf_all (va_cons (VN.vj (vn_comp (own := [("cell", 1)]) (ni := false) rfl (sc_is_floor).nd ios0 (by decide) (vi_list (nm 0)) (blkOk_by (own := [("cell", 1)]) (by rfl)) (fun _ _ _ _ _ => (vg_name (i := 1) (sc_is_floor).nd rfl (by first | exact Or.inl rfl | exact Or.inr rfl) io0 (fun z => nomatch z))) (fun _ _ _ _ _ => (v_call (ni := false) (dds := []) h_is_cell hrR rfl T.m_is_cell T.f_is_cell.kp T.b_is_cell .nil (fun _ => .nil) (va_cons (p := true) (q := true) (nm 1) va_nil))))) va_nil)))))))) (vb_one (vs_ret cb)) vb_nil)
    (vb_one (vs_ret (v_and (ni := false) (v_callB (ni := false) (cr_all rfl) prim_all rfl (T.g_all) bf_all (va_cons (VN.vj (vn_comp (own := [("one", 2), ("late", 3)]) (ni := false) rfl (sc_is_floor).nd ios0 (by decide) (vi_zip rfl (T.g_zip) (va_cons (nm 0) (va_cons (v_slice (nm 0) (vo_some (ni := false) ci) vo_none) va_nil))) (blkOk_by (own := [("one", 2), ("late", 3)]) (by rfl)) (fun _ _ _ _ _ => (vg_tup rfl (vgs_cons (vg_name (i := 2) (sc_is_floor).nd rfl (by first | exact Or.inl rfl | exact Or.inr rfl) io0 (fun z => nomatch z)) (vgs_cons (vg_name (i := 3) (sc_is_floor).nd rfl (by first | exact Or.inl rfl | exact Or.inr rfl) io0 (fun z => nomatch z)) vgs_nil)))) (fun _ _ _ _ _ => (v_cmp (p := true) (q := true) (ni := false) (op_ltD (hu64 hrR)) prim_lt (nm 2) (nm 3) (by rfl))))) va_nil)) (v_one (v_cmp (ni := false) (op_eqD (hu64 hrR)) prim_eq (v_callB (ni := false) call_len prim_len rfl (T.g_len) bf_len (va_cons (v_call (ni := false) (dds := []) h_parts_there hrR rfl T.m_parts_there T.f_parts_there.kp T.b_parts_there .nil (fun _ => .nil) (va_cons (nm 0) (va_cons (VN.vj vn_dnew) va_nil))) va_nil)) ci (by rfl)))))))
/-! ### check_floor -/
def F_check_floor : FD := runD 1
    (sIf (fNot (fMap (fCall 1 [] (fCons (fName 0) fNil) F_is_floor) asB)) sNever sNil)
theorem ok_check_floor : FnOk P w K mg base CX0 5 T.a_check_floor T.d_check_floor ["value"] (sp0 P w 1 false F_check_floor) := by
  have h_is_floor := (ok_is_floor (P := P) (w := w) (base := base) T).mono (by decide : 4 ≤ 4)
  refine fn0 T.f_check_floor sc_check_floor (fl := []) (by decide) (by decide) fun cdv A outer s H E hr => ?_
  have hrR := hr
  exact (vb_one (vs_if (vt_not (vt_val (nw := false) (v_call (ni := false) (dds := []) h_is_floor hrR rfl T.m_is_floor T.f_is_floor.kp T.b_is_floor .nil (fun _ => .nil) (va_cons (nm 0) va_nil)))) (vb_one vs_never) vb_nil))
/-! ### moved_least -/
def F_moved_least : FD := runD 5
    (sSeq (sAsg (fMap (fCons (fMap (fCons (fComp [3, 4] (fMap (fName 0) asL) (gUnp (gsCons (gSet 3) (gsCons (gSet 4) gsNil)) 2) fYes (fName 3)) fNil) (gBest PySem.W.dataLt)) (fCons (fMap (fCons (fComp [3, 4] (fMap (fName 0) asL) (gUnp (gsCons (gSet 3) (gsCons (gSet 4) gsNil)) 2) fYes (fName 4)) fNil) (gBest PySem.W.dataLt)) fNil)) gTuple) (gUnp (gsCons (gSet 1) (gsCons (gSet 2) gsNil)) 2))
    (sRet (fMap (fCons (fComp [3, 4] (fMap (fName 0) asL) (gUnp (gsCons (gSet 3) (gsCons (gSet 4) gsNil)) 2) fYes (fMap (fCons (f2 (fName 3) (fName 1) subD) (fCons (f2 (fName 4) (fName 2) subD) fNil)) gTuple)) fNil) gSorted)))
theorem ok_moved_least : FnOk P w K mg base CX0 1 T.a_moved_least T.d_moved_least ["cells"] (sp0 P w 1 true F_moved_least) := by
  refine fn0 T.f_moved_least sc_moved_least (fl := []) (by decide) (by decide) fun cdv A outer s H E hr => ?_
  have hrR := hr
  exact (vb_cons (vs_asg (nw := false) (v_tuple (va_cons (v_callB (cr_min rfl (hu70 hrR)) prim_best rfl (T.g_min) bf_min (va_cons (VN.vj (vn_comp (own := [("x", 3), ("y", 4)]) (ni := false) rfl (sc_moved_least).nd ios0 (by decide) (vi_list (nm 0)) (blkOk_by (own := [("x", 3), ("y", 4)]) (by rfl)) (fun _ _ _ _ _ => (vg_tup rfl (vgs_cons (vg_name (i := 3) (sc_moved_least).nd rfl (by first | exact Or.inl rfl | exact Or.inr rfl) io0 (fun z => nomatch z)) (vgs_cons (vg_name (i := 4) (sc_moved_least).nd rfl (by first | exact Or.inl rfl | exact Or.inr rfl) io0 (fun z => nomatch z)) vgs_nil)))) (fun _ _ _ _ _ => (nm 3)))) va_nil)) (va_cons (v_callB (cr_min rfl (hu70 hrR)) prim_best rfl (T.g_min) bf_min (va_cons (VN.vj (vn_comp (own := [("x", 3), ("y", 4)]) (ni := false) rfl (sc_moved_least).nd ios0 (by decide) (vi_list (nm 0)) (blkOk_by (own := [("x", 3), ("y", 4)]) (by rfl)) (fun _ _ _ _ _ => (vg_tup rfl (vgs_cons (vg_name (i := 3) (sc_moved_least).nd rfl (by first | exact Or.inl rfl | exact Or.inr rfl) io0 (fun z => nomatch z)) (vgs_cons (vg_name (i := 4) (sc_moved_least).nd rfl (by first | exact Or.inl rfl | exact Or.inr rfl) io0 (fun z => nomatch z)) vgs_nil)))) (fun _ _ _ _ _ => (nm 4)))) va_nil)) va_nil))) (vg_tup rfl (vgs_cons (vg_name (i := 1) (sc_moved_least).nd rfl (by first | exact Or.inl rfl | exact Or.inr rfl) io0 (fun z => nomatch z)) (vgs_cons (vg_name (i := 2) (sc_moved_least).nd rfl (by first | exact Or.inl rfl | exact Or.inr rfl) io0 (fun z => nomatch z)) vgs_nil))))
    (vb_one (vs_ret (v_callB (cr_sortD (hu70 hrR)) prim_sorted rfl (T.g_sorted) bf_sorted (va_cons (VN.vj (vn_comp (own := [("x", 3), ("y", 4)]) (ni := false) rfl (sc_moved_least).nd ios0 (by decide) (vi_list (nm 0)) (blkOk_by (own := [("x", 3), ("y", 4)]) (by rfl)) (fun _ _ _ _ _ => (vg_tup rfl (vgs_cons (vg_name (i := 3) (sc_moved_least).nd rfl (by first | exact Or.inl rfl | exact Or.inr rfl) io0 (fun z => nomatch z)) (vgs_cons (vg_name (i := 4) (sc_moved_least).nd rfl (by first | exact Or.inl rfl | exact Or.inr rfl) io0 (fun z => nomatch z)) vgs_nil)))) (fun _ _ _ _ _ => (v_tuple (va_cons (p := true) (q := true) (v_op (p := true) (q := true) (ni := false) op_sub prim_sub (nm 3) (nm 1)) (va_cons (p := true) (q := true) (v_op (p := true) (q := true) (ni := false) op_sub prim_sub (nm 4) (nm 2)) va_nil)))))) va_nil)))))
/-! ### forms_there -/
def F_forms_there : FD := runD 7
    (sSeq (sPar 1 2 true false (fMap fNil gList) (fMap (fCons (fName 0) fNil) gListOf))
    (sSeq (sFor (fMap (fCons (fC (.int 4)) fNil) asR1) (gSet 3) (sSeq (sAsg (fComp [5, 6] (fMap (fName 2) asL) (gUnp (gsCons (gSet 5) (gsCons (gSet 6) gsNil)) 2) fYes (fMap (fCons (f2 (fC (.int 0)) (fName 6) subD) (fCons (fName 5) fNil)) gTuple)) (gSet 2))
    (sFor (fMap (fMap (fCons (fCall 1 [] (fCons (fName 2) fNil) F_moved_least) (fCons (fCall 1 [] (fCons (fComp [5, 6] (fMap (fName 2) asL) (gUnp (gsCons (gSet 5) (gsCons (gSet 6) gsNil)) 2) fYes (fMap (fCons (f2 (fC (.int 0)) (fName 5) subD) (fCons (fName 6) fNil)) gTuple)) fNil) F_moved_least) fNil)) gTuple) asT) (gSet 4) (sIf (fMap (f2 (fName 4) (fLook 1) (inA fun c => !c)) asB) (sMeth 1 (fName 4) cAppend) sNil))))
    (sRet (fMap (fCons (fLook 1) fNil) gSorted))))
theorem ok_forms_there : FnOk P w K mg base CX0 2 T.a_forms_there T.d_forms_there ["floor"] (sp0 P w 1 true F_forms_there) := by
  have h_moved_least := (ok_moved_least (P := P) (w := w) (base := base) T).mono (by decide : 1 ≤ 1)
  refine fn0 T.f_forms_there sc_forms_there (fl := [false, true, false, false, true, false, false]) (by decide) (by decide) fun cdv A outer s H E hr => ?_
  have hrR := hr
  exact (vb_cons (vs_par (nw := true) (nj := false) (i := 1) (j := 2) (k1 := true) (k2 := false) rfl (sc_forms_there).nd rfl rfl (by decide) rfl rfl io0 io0 (VN.k (vn_list va_nil)) (VJ.k (v_callTy call_list_of prim_listOf rfl (T.g_list) bf_list (va_cons (nm 0) va_nil))) (by decide) (fun _ => rfl) (fun z => nomatch z) (by rfl))
    (vb_cons (vs_for (nw := false) PassesOwn.never rfl (vi_range1 (ni := false) rfl (T.g_range) (va_cons ci va_nil)) (vg_name (i := 3) (sc_forms_there).nd rfl (by first | exact Or.inl rfl | exact Or.inr rfl) io0 (fun z => nomatch z)) (vb_cons (vs_setComp (own := [("x", 5), ("y", 6)]) (ni := false) (nw := false) (i := 2) rfl (sc_forms_there).nd rfl rfl io0 (fun z => nomatch z) (by rfl) ios0 (by decide) (vi_list (nm 2)) (blkOk_by (own := [("x", 5), ("y", 6)]) (by rfl)) (fun _ _ _ _ _ => (vg_tup rfl (vgs_cons (vg_name (i := 5) (sc_forms_there).nd rfl (by first | exact Or.inl rfl | exact Or.inr rfl) io0 (fun z => nomatch z)) (vgs_cons (vg_name (i := 6) (sc_forms_there).nd rfl (by first | exact Or.inl rfl | exact Or.inr rfl) io0 (fun z => nomatch z)) vgs_nil)))) (fun _ _ _ _ _ => (v_tuple (va_cons (p := true) (q := true) (v_op (p := true) (q := true) (ni := false) op_sub prim_sub ci (nm 6)) (va_cons (p := true) (q := true) (nm 5) va_nil)))))
    (vb_one (vs_for (nw := true) PassesOwn.never rfl (vi_tup (v_tuple (va_cons (v_call (ni := false) (dds := []) h_moved_least hrR rfl T.m_moved_least T.f_moved_least.kp T.b_moved_least .nil (fun _ => .nil) (va_cons (nm 2) va_nil)) (va_cons (v_call (ni := false) (dds := []) h_moved_least hrR rfl T.m_moved_least T.f_moved_least.kp T.b_moved_least .nil (fun _ => .nil) (va_cons (VN.vj (vn_comp (own := [("x", 5), ("y", 6)]) (ni := false) rfl (sc_forms_there).nd ios0 (by decide) (vi_list (nm 2)) (blkOk_by (own := [("x", 5), ("y", 6)]) (by rfl)) (fun _ _ _ _ _ => (vg_tup rfl (vgs_cons (vg_name (i := 5) (sc_forms_there).nd rfl (by first | exact Or.inl rfl | exact Or.inr rfl) io0 (fun z => nomatch z)) (vgs_cons (vg_name (i := 6) (sc_forms_there).nd rfl (by first | exact Or.inl rfl | exact Or.inr rfl) io0 (fun z => nomatch z)) vgs_nil)))) (fun _ _ _ _ _ => (v_tuple (va_cons (p := true) (q := true) (v_op (p := true) (q := true) (ni := false) op_sub prim_sub ci (nm 5)) (va_cons (p := true) (q := true) (nm 6) va_nil)))))) va_nil)) va_nil)))) (vg_name (i := 4) (sc_forms_there).nd rfl (by first | exact Or.inl rfl | exact Or.inr rfl) io0 (fun _ => rfl)) (vb_one (vs_if (vt_cmp (ni := false) (nw := false) (op_notInA (hu65 hrR)) prim_notInA (VJ.any (nm 4)) (VJ.any (lk 1)) (by rfl)) (vb_one (vs_append (ni := true) (i := 1) rfl (Or.inl rfl) (nm 4) (fun _ => rfl))) vb_nil))))))
    (vb_one (vs_ret (v_callB (cr_sortD (hu70 hrR)) prim_sorted rfl (T.g_sorted) bf_sorted (va_cons (lk 1) va_nil))))))
/-! ### floor_forms -/
def F_floor_forms : FD := runD 1
    (sSeq (sExpr (fCall 1 [] (fCons (fName 0) fNil) F_check_floor))
    (sRet (fCall 1 [] (fCons (fName 0) fNil) F_forms_there)))
theorem ok_floor_forms : FnOk P w K mg base CX0 6 T.a_floor_forms T.d_floor_forms ["floor"] (sp0 P w 1 true F_floor_forms) := by
  have h_check_floor := (ok_check_floor (P := P) (w := w) (base := base) T).mono (by decide : 5 ≤ 5)
  have h_forms_there := (ok_forms_there (P := P) (w := w) (base := base) T).mono (by decide : 2 ≤ 5)
  refine fn0 T.f_floor_forms sc_floor_forms (fl := []) (by decide) (by decide) fun cdv A outer s H E hr => ?_
  have hrR := hr
  exact (vb_cons (vs_expr (nw := false) (v_call (ni := false) (dds := []) h_check_floor hrR rfl T.m_check_floor T.f_check_floor.kp T.b_check_floor .nil (fun _ => .nil) (va_cons (nm 0) va_nil)))
    (vb_one (vs_ret (v_call (ni := false) (dds := []) h_forms_there hrR rfl T.m_forms_there T.f_forms_there.kp T.b_forms_there .nil (fun _ => .nil) (va_cons (nm 0) va_nil)))))
/-! ### are_floors_alike -/
def F_are_floors_alike : FD := runD 2
    (sSeq (sExpr (fCall 1 [] (fCons (fName 0) fNil) F_check_floor))
    (sSeq (sIf (fNot (fMap (fCall 1 [] (fCons (fName 1) fNil) F_is_floor) asB)) sNever sNil)
    (sRet (f2 (f2 (fCall 1 [] (fCons (fName 0) fNil) F_forms_there) (fC (.int 0)) ixD) (f2 (fCall 1 [] (fCons (fName 1) fNil) F_forms_there) (fC (.int 0)) ixD) eqD))))
theorem ok_are_floors_alike : FnOk P w K mg base CX0 6 T.a_are_floors_alike T.d_are_floors_alike ["floor", "other"] (sp0 P w 2 false F_are_floors_alike) := by
  have h_check_floor := (ok_check_floor (P := P) (w := w) (base := base) T).mono (by decide : 5 ≤ 5)
  have h_is_floor := (ok_is_floor (P := P) (w := w) (base := base) T).mono (by decide : 4 ≤ 5)
  have h_forms_there := (ok_forms_there (P := P) (w := w) (base := base) T).mono (by decide : 2 ≤ 5)
  refine fn0 T.f_are_floors_alike sc_are_floors_alike (fl := []) (by decide) (by decide) fun cdv A outer s H E hr => ?_
  have hrR := hr
  exact (vb_cons (vs_expr (nw := false) (v_call (ni := false) (dds := []) h_check_floor hrR rfl T.m_check_floor T.f_check_floor.kp T.b_check_floor .nil (fun _ => .nil) (va_cons (nm 0) va_nil)))
    (vb_cons (vs_if (vt_not (vt_val (nw := false) (v_call (ni := false) (dds := []) h_is_floor hrR rfl T.m_is_floor T.f_is_floor.kp T.b_is_floor .nil (fun _ => .nil) (va_cons (nm 1) va_nil)))) (vb_one vs_never) vb_nil)
    (vb_one (vs_ret (v_cmp (ni := false) (op_eqD (hu64 hrR)) prim_eq (v_ix ix_D prim_ix (VJ.any (v_call (ni := false) (dds := []) h_forms_there hrR rfl T.m_forms_there T.f_forms_there.kp T.b_forms_there .nil (fun _ => .nil) (va_cons (nm 0) va_nil))) ci (fun _ _ => rfl)) (v_ix ix_D prim_ix (VJ.any (v_call (ni := false) (dds := []) h_forms_there hrR rfl T.m_forms_there T.f_forms_there.kp T.b_forms_there .nil (fun _ => .nil) (va_cons (nm 1) va_nil))) ci (fun _ _ => rfl)) (by rfl))))))
/-! ### _law_purse -/
def F__law_purse : FD := runD 3
    (sSeq (sAsg (fMap (fCons (fSlice (fName 0) (fMap (fName 1) asPart) (fMap (f2 (fName 1) (fC (.int 1)) addD) asPart)) fNil) gSum) (gSet 2))
    (sRet (fMap (fCons (f2 (fMap (fCons (fMap (fCons (f2 (fName 2) (f2 (fC (.int 10)) (fC (.int 18)) powD) subD) (fCons (fC (.int 0)) fNil)) (gBest fun a b => PySem.W.dataLt b a)) fNil) gInt) (f2 (f2 (fC (.int 10)) (fC (.int 60)) powD) (fC (.int 8)) powD) modD) (fCons (f2 (fMap (fCons (fName 2) fNil) gInt) (fC (.int 2147483629)) modD) (fCons (fC (.int 0)) (fCons (fName 1) fNil)))) gList)))
theorem ok__law_purse : FnOk P w K mg base CX0 1 T.a__law_purse T.d__law_purse ["script", "at"] (sp0 P w 2 false F__law_purse) := by
  refine fn0 T.f__law_purse sc__law_purse (fl := []) (by decide) (by decide) fun cdv A outer s H E hr => ?_
  have hrR := hr
  exact (vb_cons (vs_set (nw := false) (i := 2) (sc__law_purse).nd rfl (by first | exact Or.inl rfl | exact Or.inr rfl) io0 (v_callB (ni := false) (cr_sum rfl) prim_sum rfl (T.g_sum) bf_sum (va_cons (v_slice (nm 0) (vo_some (ni := false) (nm 1)) (vo_some (ni := false) (v_op op_addD prim_add (nm 1) ci))) va_nil)) (fun z => nomatch z))
    (vb_one (vs_ret (v_list (va_cons (v_op (ni := false) op_mod prim_mod (v_callTy (ni := false) call_int1 prim_intOf rfl (T.g_int) bf_int (va_cons (v_callB (cr_max rfl (hu70 hrR)) prim_best rfl (T.g_max) bf_max (va_cons (v_op (ni := false) op_sub prim_sub (nm 2) (v_op (ni := false) op_powB prim_pow ci ci)) (va_cons ci va_nil))) va_nil)) (v_op (ni := false) op_powB prim_pow (v_op (ni := false) op_powB prim_pow ci ci) ci)) (va_cons (v_op (ni := false) op_mod prim_mod (v_callTy (ni := false) call_int1 prim_intOf rfl (T.g_int) bf_int (va_cons (nm 2) va_nil)) ci) (va_cons ci (va_cons (nm 1) va_nil))))))))
/-! ### _law_mixed -/
def F__law_mixed : FD := runD 4
    (sSeq (sAsg (f2 (f2 (fName 0) (fC (.int 69069)) mulA) (f2 (f2 (fC (.int 104729)) (fName 1) mulA) (fName 1) mulA) addD) (gSet 3))
    (sSeq (sAsg (f2 (fMap (fCons (f2 (f2 (fName 3) (f2 (fC (.int 7919)) (fName 2) mulA) addD) (fName 1) addD) fNil) gInt) (fC (.int 2147483647)) modD) (gSet 3))
    (sSeq (sAsg (f2 (fMap (fCons (f2 (f2 (fName 3) (fName 3) mulA) (fC (.int 40503)) addD) fNil) gInt) (fC (.int 2147483629)) modD) (gSet 3))
    (sRet (f2 (fMap (fCons (f2 (fName 3) (fC (.int 48271)) mulA) fNil) gInt) (fC (.int 2147483587)) modD)))))
theorem ok__law_mixed : FnOk P w K mg base CX0 1 T.a__law_mixed T.d__law_mixed ["seed", "spin", "at"] (sp0 P w 3 false F__law_mixed) := by
  refine fn0 T.f__law_mixed sc__law_mixed (fl := []) (by decide) (by decide) fun cdv A outer s H E hr => ?_
  have hrR := hr
  exact (vb_cons (vs_set (nw := false) (i := 3) (sc__law_mixed).nd rfl (by first | exact Or.inl rfl | exact Or.inr rfl) io0 (v_op op_addD prim_add (v_op op_mulA prim_mulA (nm 0) ci) (v_op op_mulA prim_mulA (v_op op_mulA prim_mulA ci (nm 1)) (nm 1))) (fun z => nomatch z))
    (vb_cons (vs_set (nw := false) (i := 3) (sc__law_mixed).nd rfl (by first | exact Or.inl rfl | exact Or.inr rfl) io0 (v_op (ni := false) op_mod prim_mod (v_callTy (ni := false) call_int1 prim_intOf rfl (T.g_int) bf_int (va_cons (v_op op_addD prim_add (v_op op_addD prim_add (nm 3) (v_op op_mulA prim_mulA ci (nm 2))) (nm 1)) va_nil)) ci) (fun z => nomatch z))
    (vb_cons (vs_set (nw := false) (i := 3) (sc__law_mixed).nd rfl (by first | exact Or.inl rfl | exact Or.inr rfl) io0 (v_op (ni := false) op_mod prim_mod (v_callTy (ni := false) call_int1 prim_intOf rfl (T.g_int) bf_int (va_cons (v_op op_addD prim_add (v_op op_mulA prim_mulA (nm 3) (nm 3)) ci) va_nil)) ci) (fun z => nomatch z))
    (vb_one (vs_ret (v_op (ni := false) op_mod prim_mod (v_callTy (ni := false) call_int1 prim_intOf rfl (T.g_int) bf_int (va_cons (v_op op_mulA prim_mulA (nm 3) ci) va_nil)) ci))))))
/-! ### _law_draw -/
def F__law_draw : FD := runD 5
    (sSeq (sIf (fMap (f2 (f2 (fLook 0) (fC (.int 0)) ixD) (fC (.int 0)) (cmpI fun i j => decide (j < i))) asB) (sSeq (sAsg (f2 (fMap (fCons (f2 (fLook 0) (fC (.int 0)) ixD) fNil) gInt) (fName 1) modD) (gSet 2))
    (sSeq (sSub 0 (f2 (f2 (fLook 0) (fC (.int 0)) ixD) (fName 1) fdivD) (fC (.int 0)))
    (sRet (fName 2)))) sNil)
    (sSeq (sAsg (fC (.int 0)) (gSet 3))
    (sSeq (sFor (fMap (fCons (f2 (fC (.int 1)) (f2 (fBits (fName 1)) (fC (.int 28)) fdivD) addD) fNil) asR1) (gSet 4) (sSeq (sSub 0 (f2 (f2 (fLook 0) (fC (.int 2)) ixD) (fC (.int 1)) addD) (fC (.int 2)))
    (sAsg (f2 (f2 (fName 3) (fC (.int 2147483587)) mulA) (fCall 3 [] (fCons (f2 (fLook 0) (fC (.int 1)) ixD) (fCons (f2 (fLook 0) (fC (.int 2)) ixD) (fCons (f2 (fLook 0) (fC (.int 3)) ixD) fNil))) F__law_mixed) addD) (gSet 3))))
    (sRet (f2 (fMap (fCons (fName 3) fNil) gInt) (fName 1) modD)))))
theorem ok__law_draw : FnOk P w K mg base CX0 2 T.a__law_draw T.d__law_draw ["purse", "many"] (sp1 P w 2 false F__law_draw) := by
  have h__law_mixed := (ok__law_mixed (P := P) (w := w) (base := base) T).mono (by decide : 1 ≤ 1)
  refine fn1 T.f__law_draw sc__law_draw (fl := []) (by decide) (by decide) fun _a0 cdv A outer s H E hr => ?_
  have hrR := hr
  exact (vb_cons (vs_if (vt_cmp (ni := false) (nw := false) op_gt prim_gt (v_ix ix_D prim_ix (lk 0) ci (fun _ _ => rfl)) ci (by rfl)) (vb_cons (vs_set (nw := false) (i := 2) (sc__law_draw).nd rfl (by first | exact Or.inl rfl | exact Or.inr rfl) (io1 (by decide)) (v_op (ni := false) op_mod prim_mod (v_callTy (ni := false) call_int1 prim_intOf rfl (T.g_int) bf_int (va_cons (v_ix ix_D prim_ix (lk 0) ci (fun _ _ => rfl)) va_nil)) (nm 1)) (fun z => nomatch z))
    (vb_cons (vs_sub (ni := false) (nw := false) (i := 0) rfl (Or.inl rfl) (v_op (ni := false) op_fdivW prim_fdiv (v_ix ix_D prim_ix (lk 0) ci (fun _ _ => rfl)) (nm 1)) ci (fun z => nomatch z))
    (vb_one (vs_ret (nm 2))))) vb_nil)
    (vb_cons (vs_set (nw := false) (i := 3) (sc__law_draw).nd rfl (by first | exact Or.inl rfl | exact Or.inr rfl) (io1 (by decide)) ci (fun z => nomatch z))
    (vb_cons (vs_for (nw := false) PassesOwn.never rfl (vi_range1 (ni := false) rfl (T.g_range) (va_cons (v_op op_addD prim_add ci (v_op (ni := false) op_fdivW prim_fdiv (v_bits (ni := false) (nm 1)) ci)) va_nil)) (vg_name (i := 4) (sc__law_draw).nd rfl (by first | exact Or.inl rfl | exact Or.inr rfl) (io1 (by decide)) (fun z => nomatch z)) (vb_cons (vs_sub (ni := false) (nw := false) (i := 0) rfl (Or.inl rfl) (v_op op_addD prim_add (v_ix ix_D prim_ix (lk 0) ci (fun _ _ => rfl)) ci) ci (fun z => nomatch z))
    (vb_one (vs_set (nw := false) (i := 3) (sc__law_draw).nd rfl (by first | exact Or.inl rfl | exact Or.inr rfl) (io1 (by decide)) (v_op op_addD prim_add (v_op op_mulA prim_mulA (nm 3) ci) (v_call (ni := false) (dds := []) h__law_mixed hrR rfl T.m__law_mixed T.f__law_mixed.kp T.b__law_mixed .nil (fun _ => .nil) (va_cons (v_ix ix_D prim_ix (lk 0) ci (fun _ _ => rfl)) (va_cons (v_ix ix_D prim_ix (lk 0) ci (fun _ _ => rfl)) (va_cons (v_ix ix_D prim_ix (lk 0) ci (fun _ _ => rfl)) va_nil))))) (fun z => nomatch z)))))
    (vb_one (vs_ret (v_op (ni := false) op_mod prim_mod (v_callTy (ni := false) call_int1 prim_intOf rfl (T.g_int) bf_int (va_cons (nm 3) va_nil)) (nm 1)))))))
/-! ### _law_purses -/
def F__law_purses : FD := runD 3
    (sRet (fComp [2] (fMap (fCons (fMap (fCons (fC (.int 1)) (fCons (fMap (fCons (fName 1) (fCons (fMap (fCons (fName 0) fNil) gLen) fNil)) (gBest PySem.W.dataLt)) fNil)) (gBest fun a b => PySem.W.dataLt b a)) fNil) asR1) (gSet 2) fYes (fCall 2 [] (fCons (fName 0) (fCons (fName 2) fNil)) F__law_purse)))
theorem ok__law_purses : FnOk P w K mg base CX0 2 T.a__law_purses T.d__law_purses ["script", "few"] (sp0 P w 2 false F__law_purses) := by
  have h__law_purse := (ok__law_purse (P := P) (w := w) (base := base) T).mono (by decide : 1 ≤ 1)
  refine fn0 T.f__law_purses sc__law_purses (fl := []) (by decide) (by decide) fun cdv A outer s H E hr => ?_
  have hrR := hr
  exact (vb_one (vs_ret (VN.vj (vn_comp (own := [("at", 2)]) (ni := false) rfl (sc__law_purses).nd ios0 (by decide) (vi_range1 (ni := false) rfl (T.g_range) (va_cons (v_callB (cr_max rfl (hu70 hrR)) prim_best rfl (T.g_max) bf_max (va_cons ci (va_cons (v_callB (cr_min rfl (hu70 hrR)) prim_best rfl (T.g_min) bf_min (va_cons (nm 1) (va_cons (v_callB (ni := false) call_len prim_len rfl (T.g_len) bf_len (va_cons (nm 0) va_nil)) va_nil))) va_nil))) va_nil)) (blkOk_by (own := [("at", 2)]) (by rfl)) (fun _ _ _ _ _ => (vg_name (i := 2) (sc__law_purses).nd rfl (by first | exact Or.inl rfl | exact Or.inr rfl) io0 (fun z => nomatch z))) (fun _ _ _ _ _ => (v_call (ni := false) (dds := []) h__law_purse hrR rfl T.m__law_purse T.f__law_purse.kp T.b__law_purse .nil (fun _ => .nil) (va_cons (p := true) (q := true) (nm 0) (va_cons (p := true) (q := true) (nm 2) va_nil))))))))
/-! ### _law_one_of -/
def F__law_one_of : FD := runD 2
    (sRet (f2 (fName 1) (fCall1 2 0 (fCons (fMap (fCons (fName 1) fNil) gLen) fNil) F__law_draw) ixD))
theorem ok__law_one_of : FnOk P w K mg base CX0 3 T.a__law_one_of T.d__law_one_of ["purse", "some"] (sp1 P w 2 false F__law_one_of) := by
  have h__law_draw := (ok__law_draw (P := P) (w := w) (base := base) T).mono (by decide : 2 ≤ 2)
  refine fn1 T.f__law_one_of sc__law_one_of (fl := []) (by decide) (by decide) fun _a0 cdv A outer s H E hr => ?_
  have hrR := hr
  exact (vb_one (vs_ret (v_ix ix_D prim_ix (nm 1) (v_call1 (ni := false) (i := 0) h__law_draw hrR rfl T.m__law_draw T.f__law_draw.kp T.b__law_draw rfl (Or.inl rfl) rfl (va_cons (v_callB (ni := false) call_len prim_len rfl (T.g_len) bf_len (va_cons (nm 1) va_nil)) va_nil)) (fun _ _ => rfl))))
/-! ### _law_exact -/
def L__law_exact (F__law_exact : FD) : FD := runD 7
    (sSeq (sIf (fMap (fMap (fName 0) (isiD "dict")) asB) sNever sNil)
    (sSeq (sIf (fMap (fMap (fName 0) (isiTD ["list", "tuple"])) asB) (sSeq (sAsg (f2 (fMap (fName 1) (isiD "list")) (fMap (fName 0) (isiD "list")) eqD) (gSet 2))
    (sSeq (sAsg (fAnd (fName 2) (f2 (fMap (fName 1) (isiD "tuple")) (fMap (fName 0) (isiD "tuple")) eqD)) (gSet 3))
    (sRet (fAnd (fName 3) (fAnd (f2 (fMap (fCons (fName 0) fNil) gLen) (fMap (fCons (fName 1) fNil) gLen) eqD) (fMap (fCons (fComp [5, 6] (fMap (fCons (fName 0) (fCons (fName 1) fNil)) asZip) (gUnp (gsCons (gSet 5) (gsCons (gSet 6) gsNil)) 2) fYes (fCall 2 [] (fCons (fName 5) (fCons (fName 6) fNil)) F__law_exact)) fNil) gAll)))))) sNil)
    (sSeq (sIf (fOrB (fMap (fMap (fName 1) (isiTD ["list", "tuple", "dict"])) asB) (fMap (f2 (f2 (fName 0) (fC .none) isD) (f2 (fName 1) (fC .none) isD) neD) asB)) (sRet (fC (.bool false))) sNil)
    (sSeq (sAsg (fAnd (f2 (fMap (fName 0) (isiD "int")) (fMap (fName 1) (isiD "int")) eqD) (f2 (fMap (fName 0) (isiD "str")) (fMap (fName 1) (isiD "str")) eqD)) (gSet 3))
    (sRet (fAnd (fName 3) (fAnd (f2 (fMap (fName 0) (isiD "bool")) (fMap (fName 1) (isiD "bool")) eqD) (f2 (fName 0) (fName 1) eqD))))))))
def F__law_exact : FD := lev L__law_exact 7
theorem ok__law_exact : FnOk P w K mg base CX0 7 T.a__law_exact T.d__law_exact ["mine", "theirs"] (sp0 P w 2 false F__law_exact) := by
  refine lev_ok L__law_exact (k := 0) (fun k F__law_exact h__law_exact hk => ?_) (by rfl) 7
  refine fn0 T.f__law_exact sc__law_exact (fl := []) (by decide) (by decide) fun cdv A outer s H E hr => ?_
  have hrR := hr
  exact (vb_cons (vs_if (vt_val (nw := false) (v_isi (ni := false) rfl (T.g_isinstance) rfl (T.g_dict) bf_dict (VJ.bor (nm 0)))) vb_never vb_nil)
    (vb_cons (vs_if (vt_val (nw := false) (v_isiT (ni := false) rfl (T.g_isinstance) (pa_ty rfl (T.g_list) bf_list (pa_ty rfl (T.g_tuple) bf_tuple pa_ty0)) (by decide) (VJ.bor (nm 0)))) (vb_cons (vs_set (nw := false) (i := 2) (sc__law_exact).nd rfl (by first | exact Or.inl rfl | exact Or.inr rfl) io0 (v_cmp (ni := false) (op_eqD (hu64 hrR)) prim_eq (v_isi (ni := false) rfl (T.g_isinstance) rfl (T.g_list) bf_list (VJ.bor (nm 1))) (v_isi (ni := false) rfl (T.g_isinstance) rfl (T.g_list) bf_list (VJ.bor (nm 0))) (by rfl)) (fun z => nomatch z))
    (vb_cons (vs_set (nw := false) (i := 3) (sc__law_exact).nd rfl (by first | exact Or.inl rfl | exact Or.inr rfl) io0 (v_and (ni := false) (nm 2) (v_one (v_cmp (ni := false) (op_eqD (hu64 hrR)) prim_eq (v_isi (ni := false) rfl (T.g_isinstance) rfl (T.g_tuple) bf_tuple (VJ.bor (nm 1))) (v_isi (ni := false) rfl (T.g_isinstance) rfl (T.g_tuple) bf_tuple (VJ.bor (nm 0))) (by rfl)))) (fun z => nomatch z))
    (vb_one (vs_ret (v_and (ni := false) (nm 3) (v_and (ni := false) (v_cmp (ni := false) (op_eqD (hu64 hrR)) prim_eq (v_callB (ni := false) call_len prim_len rfl (T.g_len) bf_len (va_cons (nm 0) va_nil)) (v_callB (ni := false) call_len prim_len rfl (T.g_len) bf_len (va_cons (nm 1) va_nil)) (by rfl)) (v_one (v_callB (ni := false) (cr_all rfl) prim_all rfl (T.g_all) bf_all (va_cons (VN.vj (vn_comp (own := [("a", 5), ("b", 6)]) (ni := false) rfl (sc__law_exact).nd ios0 (by decide) (vi_zip rfl (T.g_zip) (va_cons (nm 0) (va_cons (nm 1) va_nil))) (blkOk_by (own := [("a", 5), ("b", 6)]) (by rfl)) (fun _ _ _ _ _ => (vg_tup rfl (vgs_cons (vg_name (i := 5) (sc__law_exact).nd rfl (by first | exact Or.inl rfl | exact Or.inr rfl) io0 (fun z => nomatch z)) (vgs_cons (vg_name (i := 6) (sc__law_exact).nd rfl (by first | exact Or.inl rfl | exact Or.inr rfl) io0 (fun z => nomatch z)) vgs_nil)))) (fun _ _ _ _ _ => (v_call (ni := false) (dds := []) h__law_exact hrR rfl T.m__law_exact T.f__law_exact.kp T.b__law_exact .nil (fun _ => .nil) (va_cons (p := true) (q := true) (nm 5) (va_cons (p := true) (q := true) (nm 6) va_nil)))))) va_nil))))))))) vb_nil)
    (vb_cons (vs_if (VW.vt (vw_or (vt_val (nw := false) (v_isiT (ni := false) rfl (T.g_isinstance) (pa_ty rfl (T.g_list) bf_list (pa_ty rfl (T.g_tuple) bf_tuple (pa_ty rfl (T.g_dict) bf_dict pa_ty0))) (by decide) (VJ.bor (nm 1)))) (vw_or1 (vt_cmp (ni := false) (nw := false) (op_neD (hu64 hrR)) prim_ne (v_cmp (ni := false) op_isN prim_is (nm 0) cn (by rfl)) (v_cmp (ni := false) op_isN prim_is (nm 1) cn (by rfl)) (by rfl))))) (vb_one (vs_ret cb)) vb_nil)
    (vb_cons (vs_set (nw := false) (i := 3) (sc__law_exact).nd rfl (by first | exact Or.inl rfl | exact Or.inr rfl) io0 (v_and (ni := false) (v_cmp (ni := false) (op_eqD (hu64 hrR)) prim_eq (v_isi (ni := false) rfl (T.g_isinstance) rfl (T.g_int) bf_int (VJ.bor (nm 0))) (v_isi (ni := false) rfl (T.g_isinstance) rfl (T.g_int) bf_int (VJ.bor (nm 1))) (by rfl)) (v_one (v_cmp (ni := false) (op_eqD (hu64 hrR)) prim_eq (v_isi (ni := false) rfl (T.g_isinstance) rfl (T.g_str) bf_str (VJ.bor (nm 0))) (v_isi (ni := false) rfl (T.g_isinstance) rfl (T.g_str) bf_str (VJ.bor (nm 1))) (by rfl)))) (fun z => nomatch z))
    (vb_one (vs_ret (v_and (ni := false) (nm 3) (v_and (ni := false) (v_cmp (ni := false) (op_eqD (hu64 hrR)) prim_eq (v_isi (ni := false) rfl (T.g_isinstance) rfl (T.g_bool) bf_bool (VJ.bor (nm 0))) (v_isi (ni := false) rfl (T.g_isinstance) rfl (T.g_bool) bf_bool (VJ.bor (nm 1))) (by rfl)) (v_one (v_cmp (ni := false) (op_eqD (hu64 hrR)) prim_eq (nm 0) (nm 1) (by rfl)))))))))))
/-! ### _law_beside -/
def F__law_beside : FD := runD 1
    (sRet (fMap (fCons (fMap (fCons (f2 (f2 (fName 0) (fC (.int 0)) ixD) (fC (.int 1)) subD) (fCons (f2 (fName 0) (fC (.int 1)) ixD) fNil)) gTuple) (fCons (fMap (fCons (f2 (f2 (fName 0) (fC (.int 0)) ixD) (fC (.int 1)) addD) (fCons (f2 (fName 0) (fC (.int 1)) ixD) fNil)) gTuple) (fCons (fMap (fCons (f2 (fName 0) (fC (.int 0)) ixD) (fCons (f2 (f2 (fName 0) (fC (.int 1)) ixD) (fC (.int 1)) subD) fNil)) gTuple) (fCons (fMap (fCons (f2 (fName 0) (fC (.int 0)) ixD) (fCons (f2 (f2 (fName 0) (fC (.int 1)) ixD) (fC (.int 1)) addD) fNil)) gTuple) fNil)))) gList))
theorem ok__law_beside : FnOk P w K mg base CX0 1 T.a__law_beside T.d__law_beside ["cell"] (sp0 P w 1 false F__law_beside) := by
  refine fn0 T.f__law_beside sc__law_beside (fl := []) (by decide) (by decide) fun cdv A outer s H E hr => ?_
  have hrR := hr
  exact (vb_one (vs_ret (v_list (va_cons (v_tuple (va_cons (v_op (ni := false) op_sub prim_sub (v_ix ix_D prim_ix (nm 0) ci (fun _ _ => rfl)) ci) (va_cons (v_ix ix_D prim_ix (nm 0) ci (fun _ _ => rfl)) va_nil))) (va_cons (v_tuple (va_cons (v_op op_addD prim_add (v_ix ix_D prim_ix (nm 0) ci (fun _ _ => rfl)) ci) (va_cons (v_ix ix_D prim_ix (nm 0) ci (fun _ _ => rfl)) va_nil))) (va_cons (v_tuple (va_cons (v_ix ix_D prim_ix (nm 0) ci (fun _ _ => rfl)) (va_cons (v_op (ni := false) op_sub prim_sub (v_ix ix_D prim_ix (nm 0) ci (fun _ _ => rfl)) ci) va_nil))) (va_cons (v_tuple (va_cons (v_ix ix_D prim_ix (nm 0) ci (fun _ _ => rfl)) (va_cons (v_op op_addD prim_add (v_ix ix_D prim_ix (nm 0) ci (fun _ _ => rfl)) ci) va_nil))) va_nil)))))))
/-! ### _law_floor -/
def F__law_floor : FD := runD 11
    (sSeq (sOwn (fMap (fCons (fMap (fCons (fCall1 2 0 (fCons (fName 2) fNil) F__law_draw) (fCons (fCall1 2 0 (fCons (fName 2) fNil) F__law_draw) fNil)) gTuple) fNil) gList) 3)
    (sSeq (sFor (fMap (fCons (fCall1 2 0 (fCons (fName 1) fNil) F__law_draw) fNil) asR1) (gSet 4) (sSeq (sAsg (fIf (fMap (f2 (fCall1 2 0 (fCons (fC (.int 3)) fNil) F__law_draw) (fC (.int 0)) (cmpI fun i j => decide (j < i))) asB) (fCall1B 0 3 F__law_one_of) (f2 (fLook 3) (fMap (fC (.int 1)) negD) ixD)) (gSet 5))
    (sSeq (sAsg (fCall1 2 0 (fCons (fCall 1 [] (fCons (fName 5) fNil) F__law_beside) fNil) F__law_one_of) (gSet 6))
    (sIf (fAndB (fChain (fC (.int 0)) (f2 (fName 6) (fC (.int 0)) ixD) (fName 2) (cmpI fun i j => decide (i ≤ j)) ltD) (fAndB (fChain (fC (.int 0)) (f2 (fName 6) (fC (.int 1)) ixD) (fName 2) (cmpI fun i j => decide (i ≤ j)) ltD) (fMap (f2 (fName 6) (fLook 3) (inA fun c => !c)) asB))) (sMeth 3 (fName 6) cAppend) sNil))))
    (sSeq (sIf (fMap (f2 (fCall1 2 0 (fCons (fC (.int 5)) fNil) F__law_draw) (fC (.int 0)) eqD) asB) (sSeq (sAsg (fMap (fCons (fCall1 2 0 (fCons (f2 (fC (.int 10)) (fC (.int 11)) powD) fNil) F__law_draw) (fCons (fCall1 2 0 (fCons (f2 (fC (.int 10)) (fC (.int 11)) powD) fNil) F__law_draw) fNil)) gTuple) (gUnp (gsCons (gSet 7) (gsCons (gSet 8) gsNil)) 2))
    (sAsg (fComp [9, 10] (fMap (fFreeze 3) asL) (gUnp (gsCons (gSet 9) (gsCons (gSet 10) gsNil)) 2) fYes (fMap (fCons (f2 (fName 9) (fName 7) addD) (fCons (f2 (fName 10) (fName 8) addD) fNil)) gTuple)) (gSet 3))) sNil)
    (sRet (fMap (fCons (fLook 3) fNil) gSorted)))))
theorem ok__law_floor : FnOk P w K mg base CX0 4 T.a__law_floor T.d__law_floor ["purse", "most", "wide"] (sp1 P w 3 false F__law_floor) := by
  have h__law_draw := (ok__law_draw (P := P) (w := w) (base := base) T).mono (by decide : 2 ≤ 3)
  have h__law_one_of := (ok__law_one_of (P := P) (w := w) (base := base) T).mono (by decide : 3 ≤ 3)
  have h__law_beside := (ok__law_beside (P := P) (w := w) (base := base) T).mono (by decide : 1 ≤ 3)
  refine fn1 T.f__law_floor sc__law_floor (fl := []) (by decide) (by decide) fun _a0 cdv A outer s H E hr => ?_
  have hrR := hr
  exact (vb_cons (vs_own (nw := false) (i := 3) (sc__law_floor).nd rfl (by first | exact Or.inl rfl | exact Or.inr rfl) (io1 (by decide)) (vn_list (va_cons (v_tuple (va_cons (v_call1 (ni := false) (i := 0) h__law_draw hrR rfl T.m__law_draw T.f__law_draw.kp T.b__law_draw rfl (Or.inl rfl) rfl (va_cons (nm 2) va_nil)) (va_cons (v_call1 (ni := false) (i := 0) h__law_draw hrR rfl T.m__law_draw T.f__law_draw.kp T.b__law_draw rfl (Or.inl rfl) rfl (va_cons (nm 2) va_nil)) va_nil))) va_nil)) (fun z => nomatch z))
    (vb_cons (vs_for (nw := false) PassesOwn.never rfl (vi_range1 (ni := false) rfl (T.g_range) (va_cons (v_call1 (ni := false) (i := 0) h__law_draw hrR rfl T.m__law_draw T.f__law_draw.kp T.b__law_draw rfl (Or.inl rfl) rfl (va_cons (nm 1) va_nil)) va_nil)) (vg_name (i := 4) (sc__law_floor).nd rfl (by first | exact Or.inl rfl | exact Or.inr rfl) (io1 (by decide)) (fun z => nomatch z)) (vb_cons (vs_set (nw := false) (i := 5) (sc__law_floor).nd rfl (by first | exact Or.inl rfl | exact Or.inr rfl) (io1 (by decide)) (v_ifExp (vt_cmp (ni := false) (nw := false) op_gt prim_gt (v_call1 (ni := false) (i := 0) h__law_draw hrR rfl T.m__law_draw T.f__law_draw.kp T.b__law_draw rfl (Or.inl rfl) rfl (va_cons ci va_nil)) ci (by rfl)) (v_call1B (i := 0) (j := 3) h__law_one_of hrR rfl T.m__law_one_of T.f__law_one_of.kp T.b__law_one_of rfl (Or.inl rfl) rfl rfl (Or.inl rfl)) (v_ix ix_D prim_ix (lk 3) (v_neg (ni := false) ci) (fun _ _ => rfl))) (fun z => nomatch z))
    (vb_cons (vs_set (nw := false) (i := 6) (sc__law_floor).nd rfl (by first | exact Or.inl rfl | exact Or.inr rfl) (io1 (by decide)) (v_call1 (ni := false) (i := 0) h__law_one_of hrR rfl T.m__law_one_of T.f__law_one_of.kp T.b__law_one_of rfl (Or.inl rfl) rfl (va_cons (v_call (ni := false) (dds := []) h__law_beside hrR rfl T.m__law_beside T.f__law_beside.kp T.b__law_beside .nil (fun _ => .nil) (va_cons (nm 5) va_nil)) va_nil)) (fun z => nomatch z))
    (vb_one (vs_if (VW.vt (vw_and (vt_chain (ni := false) (n1 := false) (n2 := false) op_le prim_le (op_ltD (hu64 hrR)) prim_lt ci (v_ix ix_D prim_ix (nm 6) ci (fun _ _ => rfl)) (nm 2)) (vw_and (vt_chain (ni := false) (n1 := false) (n2 := false) op_le prim_le (op_ltD (hu64 hrR)) prim_lt ci (v_ix ix_D prim_ix (nm 6) ci (fun _ _ => rfl)) (nm 2)) (vw_and1 (vt_cmp (ni := false) (nw := false) (op_notInA (hu65 hrR)) prim_notInA (nm 6) (lk 3) (by rfl)))))) (vb_one (vs_append (ni := false) (i := 3) rfl (Or.inl rfl) (nm 6) (fun z => nomatch z))) vb_nil)))))
    (vb_cons (vs_if (vt_cmp (ni := false) (nw := false) (op_eqD (hu64 hrR)) prim_eq (v_call1 (ni := false) (i := 0) h__law_draw hrR rfl T.m__law_draw T.f__law_draw.kp T.b__law_draw rfl (Or.inl rfl) rfl (va_cons ci va_nil)) ci (by rfl)) (vb_cons (vs_asg (nw := false) (v_tuple (va_cons (v_call1 (ni := false) (i := 0) h__law_draw hrR rfl T.m__law_draw T.f__law_draw.kp T.b__law_draw rfl (Or.inl rfl) rfl (va_cons (v_op (ni := false) op_powB prim_pow ci ci) va_nil)) (va_cons (v_call1 (ni := false) (i := 0) h__law_draw hrR rfl T.m__law_draw T.f__law_draw.kp T.b__law_draw rfl (Or.inl rfl) rfl (va_cons (v_op (ni := false) op_powB prim_pow ci ci) va_nil)) va_nil))) (vg_tup rfl (vgs_cons (vg_name (i := 7) (sc__law_floor).nd rfl (by first | exact Or.inl rfl | exact Or.inr rfl) (io1 (by decide)) (fun z => nomatch z)) (vgs_cons (vg_name (i := 8) (sc__law_floor).nd rfl (by first | exact Or.inl rfl | exact Or.inr rfl) (io1 (by decide)) (fun z => nomatch z)) vgs_nil))))
    (vb_one (vs_setComp (own := [("x", 9), ("y", 10)]) (ni := false) (nw := false) (i := 3) rfl (sc__law_floor).nd rfl rfl (io1 (by decide)) (fun z => nomatch z) (by rfl) (ios1 (by decide)) (by decide) (vi_list (fz 3 (io1 (by decide)))) (blkOk_by (own := [("x", 9), ("y", 10)]) (by rfl)) (fun _ _ _ _ _ => (vg_tup rfl (vgs_cons (vg_name (i := 9) (sc__law_floor).nd rfl (by first | exact Or.inl rfl | exact Or.inr rfl) (io1 (by decide)) (fun z => nomatch z)) (vgs_cons (vg_name (i := 10) (sc__law_floor).nd rfl (by first | exact Or.inl rfl | exact Or.inr rfl) (io1 (by decide)) (fun z => nomatch z)) vgs_nil)))) (fun _ _ _ _ _ => (v_tuple (va_cons (p := true) (q := true) (v_op (p := true) (q := true) op_addD prim_add (nm 9) (nm 7)) (va_cons (p := true) (q := true) (v_op (p := true) (q := true) op_addD prim_add (nm 10) (nm 8)) va_nil))))))) vb_nil)
    (vb_one (vs_ret (v_callB (cr_sortD (hu70 hrR)) prim_sorted rfl (T.g_sorted) bf_sorted (va_cons (lk 3) va_nil)))))))
/-! ### _law_moved -/
def F__law_moved : FD := runD 5
    (sSeq (sAsg (fMap (fCons (fMap (fCons (fComp [3, 4] (fMap (fName 0) asL) (gUnp (gsCons (gSet 3) (gsCons (gSet 4) gsNil)) 2) fYes (fName 3)) fNil) (gBest PySem.W.dataLt)) (fCons (fMap (fCons (fComp [3, 4] (fMap (fName 0) asL) (gUnp (gsCons (gSet 3) (gsCons (gSet 4) gsNil)) 2) fYes (fName 4)) fNil) (gBest PySem.W.dataLt)) fNil)) gTuple) (gUnp (gsCons (gSet 1) (gsCons (gSet 2) gsNil)) 2))
    (sRet (fMap (fCons (fComp [3, 4] (fMap (fName 0) asL) (gUnp (gsCons (gSet 3) (gsCons (gSet 4) gsNil)) 2) fYes (fMap (fCons (f2 (fName 3) (fName 1) subD) (fCons (f2 (fName 4) (fName 2) subD) fNil)) gTuple)) fNil) gSorted)))
theorem ok__law_moved : FnOk P w K mg base CX0 1 T.a__law_moved T.d__law_moved ["cells"] (sp0 P w 1 false F__law_moved) := by
  refine fn0 T.f__law_moved sc__law_moved (fl := []) (by decide) (by decide) fun cdv A outer s H E hr => ?_
  have hrR := hr
  exact (vb_cons (vs_asg (nw := false) (v_tuple (va_cons (v_callB (cr_min rfl (hu70 hrR)) prim_best rfl (T.g_min) bf_min (va_cons (VN.vj (vn_comp (own := [("x", 3), ("y", 4)]) (ni := false) rfl (sc__law_moved).nd ios0 (by decide) (vi_list (nm 0)) (blkOk_by (own := [("x", 3), ("y", 4)]) (by rfl)) (fun _ _ _ _ _ => (vg_tup rfl (vgs_cons (vg_name (i := 3) (sc__law_moved).nd rfl (by first | exact Or.inl rfl | exact Or.inr rfl) io0 (fun z => nomatch z)) (vgs_cons (vg_name (i := 4) (sc__law_moved).nd rfl (by first | exact Or.inl rfl | exact Or.inr rfl) io0 (fun z => nomatch z)) vgs_nil)))) (fun _ _ _ _ _ => (nm 3)))) va_nil)) (va_cons (v_callB (cr_min rfl (hu70 hrR)) prim_best rfl (T.g_min) bf_min (va_cons (VN.vj (vn_comp (own := [("x", 3), ("y", 4)]) (ni := false) rfl (sc__law_moved).nd ios0 (by decide) (vi_list (nm 0)) (blkOk_by (own := [("x", 3), ("y", 4)]) (by rfl)) (fun _ _ _ _ _ => (vg_tup rfl (vgs_cons (vg_name (i := 3) (sc__law_moved).nd rfl (by first | exact Or.inl rfl | exact Or.inr rfl) io0 (fun z => nomatch z)) (vgs_cons (vg_name (i := 4) (sc__law_moved).nd rfl (by first | exact Or.inl rfl | exact Or.inr rfl) io0 (fun z => nomatch z)) vgs_nil)))) (fun _ _ _ _ _ => (nm 4)))) va_nil)) va_nil))) (vg_tup rfl (vgs_cons (vg_name (i := 1) (sc__law_moved).nd rfl (by first | exact Or.inl rfl | exact Or.inr rfl) io0 (fun z => nomatch z)) (vgs_cons (vg_name (i := 2) (sc__law_moved).nd rfl (by first | exact Or.inl rfl | exact Or.inr rfl) io0 (fun z => nomatch z)) vgs_nil))))
    (vb_one (vs_ret (v_callB (cr_sortD (hu70 hrR)) prim_sorted rfl (T.g_sorted) bf_sorted (va_cons (VN.vj (vn_comp (own := [("x", 3), ("y", 4)]) (ni := false) rfl (sc__law_moved).nd ios0 (by decide) (vi_list (nm 0)) (blkOk_by (own := [("x", 3), ("y", 4)]) (by rfl)) (fun _ _ _ _ _ => (vg_tup rfl (vgs_cons (vg_name (i := 3) (sc__law_moved).nd rfl (by first | exact Or.inl rfl | exact Or.inr rfl) io0 (fun z => nomatch z)) (vgs_cons (vg_name (i := 4) (sc__law_moved).nd rfl (by first | exact Or.inl rfl | exact Or.inr rfl) io0 (fun z => nomatch z)) vgs_nil)))) (fun _ _ _ _ _ => (v_tuple (va_cons (p := true) (q := true) (v_op (p := true) (q := true) (ni := false) op_sub prim_sub (nm 3) (nm 1)) (va_cons (p := true) (q := true) (v_op (p := true) (q := true) (ni := false) op_sub prim_sub (nm 4) (nm 2)) va_nil)))))) va_nil)))))
/-! ### _law_forms -/
def F__law_forms : FD := runD 7
    (sSeq (sPar 1 2 false false (fMap fNil gList) (fMap (fCons (fName 0) fNil) gListOf))
    (sSeq (sFor (fMap (fCons (fC (.int 4)) fNil) asR1) (gSet 3) (sSeq (sAsg (fComp [5, 6] (fMap (fName 2) asL) (gUnp (gsCons (gSet 5) (gsCons (gSet 6) gsNil)) 2) fYes (fMap (fCons (f2 (fC (.int 0)) (fName 6) subD) (fCons (fName 5) fNil)) gTuple)) (gSet 2))
    (sFor (fMap (fMap (fCons (fCall 1 [] (fCons (fName 2) fNil) F__law_moved) (fCons (fCall 1 [] (fCons (fComp [5, 6] (fMap (fName 2) asL) (gUnp (gsCons (gSet 5) (gsCons (gSet 6) gsNil)) 2) fYes (fMap (fCons (f2 (fC (.int 0)) (fName 5) subD) (fCons (fName 6) fNil)) gTuple)) fNil) F__law_moved) fNil)) gTuple) asT) (gSet 4) (sAsg (fIf (fMap (f2 (fName 4) (fName 1) (inA fun c => c)) asB) (fName 1) (f2 (fName 1) (fMap (fCons (fName 4) fNil) gList) addD)) (gSet 1)))))
    (sRet (fMap (fCons (fName 1) fNil) gSorted))))
theorem ok__law_forms : FnOk P w K mg base CX0 2 T.a__law_forms T.d__law_forms ["floor"] (sp0 P w 1 false F__law_forms) := by
  have h__law_moved := (ok__law_moved (P := P) (w := w) (base := base) T).mono (by decide : 1 ≤ 1)
  refine fn0 T.f__law_forms sc__law_forms (fl := []) (by decide) (by decide) fun cdv A outer s H E hr => ?_
  have hrR := hr
  exact (vb_cons (vs_par (nw := false) (nj := false) (i := 1) (j := 2) (k1 := false) (k2 := false) rfl (sc__law_forms).nd rfl rfl (by decide) rfl rfl io0 io0 (VJ.k (v_list va_nil)) (VJ.k (v_callTy call_list_of prim_listOf rfl (T.g_list) bf_list (va_cons (nm 0) va_nil))) (by decide) (fun z => nomatch z) (fun z => nomatch z) (by rfl))
    (vb_cons (vs_for (nw := false) PassesOwn.never rfl (vi_range1 (ni := false) rfl (T.g_range) (va_cons ci va_nil)) (vg_name (i := 3) (sc__law_forms).nd rfl (by first | exact Or.inl rfl | exact Or.inr rfl) io0 (fun z => nomatch z)) (vb_cons (vs_setComp (own := [("x", 5), ("y", 6)]) (ni := false) (nw := false) (i := 2) rfl (sc__law_forms).nd rfl rfl io0 (fun z => nomatch z) (by rfl) ios0 (by decide) (vi_list (nm 2)) (blkOk_by (own := [("x", 5), ("y", 6)]) (by rfl)) (fun _ _ _ _ _ => (vg_tup rfl (vgs_cons (vg_name (i := 5) (sc__law_forms).nd rfl (by first | exact Or.inl rfl | exact Or.inr rfl) io0 (fun z => nomatch z)) (vgs_cons (vg_name (i := 6) (sc__law_forms).nd rfl (by first | exact Or.inl rfl | exact Or.inr rfl) io0 (fun z => nomatch z)) vgs_nil)))) (fun _ _ _ _ _ => (v_tuple (va_cons (p := true) (q := true) (v_op (p := true) (q := true) (ni := false) op_sub prim_sub ci (nm 6)) (va_cons (p := true) (q := true) (nm 5) va_nil)))))
    (vb_one (vs_for (nw := false) PassesOwn.never rfl (vi_tup (v_tuple (va_cons (v_call (ni := false) (dds := []) h__law_moved hrR rfl T.m__law_moved T.f__law_moved.kp T.b__law_moved .nil (fun _ => .nil) (va_cons (nm 2) va_nil)) (va_cons (v_call (ni := false) (dds := []) h__law_moved hrR rfl T.m__law_moved T.f__law_moved.kp T.b__law_moved .nil (fun _ => .nil) (va_cons (VN.vj (vn_comp (own := [("x", 5), ("y", 6)]) (ni := false) rfl (sc__law_forms).nd ios0 (by decide) (vi_list (nm 2)) (blkOk_by (own := [("x", 5), ("y", 6)]) (by rfl)) (fun _ _ _ _ _ => (vg_tup rfl (vgs_cons (vg_name (i := 5) (sc__law_forms).nd rfl (by first | exact Or.inl rfl | exact Or.inr rfl) io0 (fun z => nomatch z)) (vgs_cons (vg_name (i := 6) (sc__law_forms).nd rfl (by first | exact Or.inl rfl | exact Or.inr rfl) io0 (fun z => nomatch z)) vgs_nil)))) (fun _ _ _ _ _ => (v_tuple (va_cons (p := true) (q := true) (v_op (p := true) (q := true) (ni := false) op_sub prim_sub ci (nm 5)) (va_cons (p := true) (q := true) (nm 6) va_nil)))))) va_nil)) va_nil)))) (vg_name (i := 4) (sc__law_forms).nd rfl (by first | exact Or.inl rfl | exact Or.inr rfl) io0 (fun z => nomatch z)) (vb_one (vs_set (nw := false) (i := 1) (sc__law_forms).nd rfl (by first | exact Or.inl rfl | exact Or.inr rfl) io0 (v_ifExp (vt_cmp (ni := false) (nw := false) (op_inA (hu65 hrR)) prim_inA (nm 4) (nm 1) (by rfl)) (nm 1) (v_op op_addD prim_add (nm 1) (v_list (va_cons (nm 4) va_nil)))) (fun z => nomatch z)))))))
    (vb_one (vs_ret (v_callB (cr_sortD (hu70 hrR)) prim_sorted rfl (T.g_sorted) bf_sorted (va_cons (nm 1) va_nil))))))
/-! ### _law_right -/
def F__law_right : FD := runD 16
    (sSeq (sPar 2 3 false false (fMap (fCons (fName 1) fNil) gRepr) (fCall 1 [] (fCons (fName 1) fNil) F__law_forms))
    (fTold 4 5 (fMap (fCons (fCall 1 [] (fCons (fName 1) fNil) F_floor_forms) (fCons (fCallO 1 false (fCons (fName 1) fNil) F_floor_forms) fNil)) gList) (fOrB (fNot (fMap (fCall 2 [] (fCons (fMap (fCons (fName 3) (fCons (fName 3) fNil)) gList) (fCons (fName 4) fNil)) F__law_exact) asB)) (fMap (f2 (fMap (fCons (fName 3) fNil) gLen) (fMap (fCons (fC (.int 1)) (fCons (fC (.int 2)) (fCons (fC (.int 4)) (fCons (fC (.int 8)) fNil)))) gTuple) (inA fun c => !c)) asB)) (sSeq (sAsg (fMap (fCons (fCall1 2 0 (fCons (fC (.int 99)) fNil) F__law_draw) (fCons (fCall1 2 0 (fCons (f2 (fC (.int 10)) (fC (.int 10)) powD) fNil) F__law_draw) fNil)) gTuple) (gUnp (gsCons (gSet 6) (gsCons (gSet 7) gsNil)) 2))
    (sSeq (sAsg (fMap (fCons (fCall 1 [] (fCons (fName 1) fNil) F__law_moved) (fCons (fComp [13, 14] (fMap (fCall1 2 0 (fCons (fName 3) fNil) F__law_one_of) asL) (gUnp (gsCons (gSet 13) (gsCons (gSet 14) gsNil)) 2) fYes (fMap (fCons (f2 (fName 13) (fName 6) addD) (fCons (f2 (fName 14) (fName 7) addD) fNil)) gTuple)) (fCons (fCall1 3 0 (fCons (fC (.int 10)) (fCons (fC (.int 4)) fNil)) F__law_floor) fNil))) gList) (gSet 8))
    (sSeq (sAsg (fComp [15] (fMap (fCall 1 [] (fCons (fCall1 2 0 (fCons (fName 1) fNil) F__law_one_of) fNil) F__law_beside) asL) (gSet 15) (fAndB (fMap (f2 (fName 15) (fName 1) (inA fun c => !c)) asB) (fAndB (fMap (f2 (f2 (fName 15) (fC (.int 0)) ixD) (fC (.int 0)) (cmpI fun i j => decide (j ≤ i))) asB) (fMap (f2 (f2 (fName 15) (fC (.int 1)) ixD) (fC (.int 0)) (cmpI fun i j => decide (j ≤ i))) asB))) (fName 15)) (gSet 9))
    (sSeq (sAsg (f2 (fName 8) (fComp [15] (fMap (fMap (fCons (fSlice (fName 9) fNoPart (fMap (fC (.int 1)) asPart)) fNil) gList) asL) (gSet 15) (fMap (f2 (fName 9) (fMap fNil gList) neD) asB) (fMap (fCons (f2 (fName 1) (fName 15) addD) fNil) gSorted)) addD) (gSet 8))
    (sSeq (sFor (fMap (fName 8) asL) (gSet 10) (sSeq (sPar 11 12 false false (f2 (fCall 1 [] (fCons (fName 10) fNil) F__law_moved) (fName 3) (inA fun c => c)) (fMap (fCons (fName 10) fNil) gRepr))
    (sSeq (sAsg (fMap (fCons (fCall 2 [] (fCons (fName 1) (fCons (fName 10) fNil)) F_are_floors_alike) (fCons (fCallO 2 true (fCons (fName 10) (fCons (fName 1) fNil)) F_are_floors_alike) (fCons (fCall 2 [] (fCons (fName 10) (fCons (fName 1) fNil)) F_are_floors_alike) (fCons (f2 (fCall 1 [] (fCons (fName 10) fNil) F_floor_forms) (fName 3) eqD) fNil)))) gList) (gSet 4))
    (sIf (fOrB (fNot (fMap (fCall 2 [] (fCons (f2 (fMap (fCons (fName 11) fNil) gList) (fC (.int 4)) mulA) (fCons (fName 4) fNil)) F__law_exact) asB)) (fMap (f2 (fMap (fCons (fName 10) fNil) gRepr) (fName 12) neD) asB)) (sRet (fC (.bool false))) sNil))))
    (sRet (fAnd (fCall 2 [] (fCons (fName 3) (fCons (fCall 1 [] (fCons (fName 1) fNil) F_floor_forms) fNil)) F__law_exact) (f2 (fMap (fCons (fName 1) fNil) gRepr) (fName 2) eqD))))))))))
theorem ok__law_right : FnG P w K mg base 8 T.a__law_right T.d__law_right ["purse", "floor"] (sp1 P w 2 false F__law_right) := by
  have h__law_forms := (ok__law_forms (P := P) (w := w) (base := base) T).mono (by decide : 2 ≤ 7)
  have h_floor_forms := (ok_floor_forms (P := P) (w := w) (base := base) T).mono (by decide : 6 ≤ 7)
  have h__law_draw := (ok__law_draw (P := P) (w := w) (base := base) T).mono (by decide : 2 ≤ 7)
  have h__law_moved := (ok__law_moved (P := P) (w := w) (base := base) T).mono (by decide : 1 ≤ 7)
  have h__law_floor := (ok__law_floor (P := P) (w := w) (base := base) T).mono (by decide : 4 ≤ 7)
  have h__law_exact := (ok__law_exact (P := P) (w := w) (base := base) T).mono (by decide : 7 ≤ 7)
  have h__law_beside := (ok__law_beside (P := P) (w := w) (base := base) T).mono (by decide : 1 ≤ 7)
  have h_are_floors_alike := (ok_are_floors_alike (P := P) (w := w) (base := base) T).mono (by decide : 6 ≤ 7)
  have h__law_one_of := (ok__law_one_of (P := P) (w := w) (base := base) T).mono (by decide : 3 ≤ 7)
  refine fn1G T.f__law_right sc__law_right (fl := []) (by decide) (by decide) fun _a0 cdv A outer s H E hr => ?_
  have hrR := hr.room
  have hrG := hr
  exact (vb_cons (vs_par (nw := false) (nj := false) (i := 2) (j := 3) (k1 := false) (k2 := false) rfl (sc__law_right).nd rfl rfl (by decide) rfl rfl (io1 (by decide)) (io1 (by decide)) (VJ.k (v_callB (ni := false) (cr_repr hrG.calm (hu65 hrR)) prim_repr rfl (T.g_repr) bf_repr (va_cons (nm 1) va_nil))) (VJ.k (v_call (ni := false) (dds := []) h__law_forms hrR rfl T.m__law_forms T.f__law_forms.kp T.b__law_forms .nil (fun _ => .nil) (va_cons (nm 1) va_nil))) (by decide) (fun z => nomatch z) (fun z => nomatch z) (by rfl))
    (vb_told (i := 4) (j := 5) (fl := [false, false, false, false, true]) PassesOwn.never rfl (sc__law_right).nd rfl (Or.inl rfl) (Or.inl rfl) rfl (Or.inl rfl) (Or.inl rfl) (io1 (by decide)) (io1 (by decide)) (fl_only (by decide)) rfl (fun H => (v_list (va_cons (p := true) (q := true) (v_call (ni := false) (dds := []) h_floor_forms hrR rfl T.m_floor_forms T.f_floor_forms.kp T.b_floor_forms .nil (fun _ => .nil) (va_cons (p := true) (q := true) (nm 1) va_nil)) (va_cons (p := true) (q := true) (v_callO (ni := false) h_floor_forms hrR rfl T.m_floor_forms T.f_floor_forms.kp T.o_floor_forms rfl (vk_cons (p := true) (q := true) (nm 1) vk_nil)) va_nil)))) (fun H => (VW.vt (vw_or (p := true) (q := true) (vt_not (vt_val (nw := false) (v_call (ni := false) (dds := []) h__law_exact hrR rfl T.m__law_exact T.f__law_exact.kp T.b__law_exact .nil (fun _ => .nil) (va_cons (p := true) (q := true) (v_list (va_cons (p := true) (q := true) (nm 3) (va_cons (p := true) (q := true) (nm 3) va_nil))) (va_cons (p := true) (q := true) (VJ.any (nm 4)) va_nil))))) (vw_or1 (vt_cmp (p := true) (q := true) (ni := false) (nw := false) (op_notInA (hu65 hrR)) prim_notInA (v_callB (ni := false) call_len prim_len rfl (T.g_len) bf_len (va_cons (p := true) (q := true) (nm 3) va_nil)) (v_tuple (va_cons (p := true) (q := true) ci (va_cons (p := true) (q := true) ci (va_cons (p := true) (q := true) ci (va_cons (p := true) (q := true) ci va_nil))))) (by rfl)))))) (vb_cons (vs_asg (nw := false) (v_tuple (va_cons (v_call1 (ni := false) (i := 0) h__law_draw hrR rfl T.m__law_draw T.f__law_draw.kp T.b__law_draw rfl (Or.inl rfl) rfl (va_cons ci va_nil)) (va_cons (v_call1 (ni := false) (i := 0) h__law_draw hrR rfl T.m__law_draw T.f__law_draw.kp T.b__law_draw rfl (Or.inl rfl) rfl (va_cons (v_op (ni := false) op_powB prim_pow ci ci) va_nil)) va_nil))) (vg_tup rfl (vgs_cons (vg_name (i := 6) (sc__law_right).nd rfl (by first | exact Or.inl rfl | exact Or.inr rfl) (io1 (by decide)) (fun z => nomatch z)) (vgs_cons (vg_name (i := 7) (sc__law_right).nd rfl (by first | exact Or.inl rfl | exact Or.inr rfl) (io1 (by decide)) (fun z => nomatch z)) vgs_nil))))
    (vb_cons (vs_set (nw := false) (i := 8) (sc__law_right).nd rfl (by first | exact Or.inl rfl | exact Or.inr rfl) (io1 (by decide)) (v_list (va_cons (v_call (ni := false) (dds := []) h__law_moved hrR rfl T.m__law_moved T.f__law_moved.kp T.b__law_moved .nil (fun _ => .nil) (va_cons (nm 1) va_nil)) (va_cons (VN.vj (vn_comp (own := [("x", 13), ("y", 14)]) (ni := false) rfl (sc__law_right).nd (ios1 (by decide)) (by decide) (vi_list (v_call1 (ni := false) (i := 0) h__law_one_of hrR rfl T.m__law_one_of T.f__law_one_of.kp T.b__law_one_of rfl (Or.inl rfl) rfl (va_cons (nm 3) va_nil))) (blkOk_by (own := [("x", 13), ("y", 14)]) (by rfl)) (fun _ _ _ _ _ => (vg_tup rfl (vgs_cons (vg_name (i := 13) (sc__law_right).nd rfl (by first | exact Or.inl rfl | exact Or.inr rfl) (io1 (by decide)) (fun z => nomatch z)) (vgs_cons (vg_name (i := 14) (sc__law_right).nd rfl (by first | exact Or.inl rfl | exact Or.inr rfl) (io1 (by decide)) (fun z => nomatch z)) vgs_nil)))) (fun _ _ _ _ _ => (v_tuple (va_cons (p := true) (q := true) (v_op (p := true) (q := true) op_addD prim_add (nm 13) (nm 6)) (va_cons (p := true) (q := true) (v_op (p := true) (q := true) op_addD prim_add (nm 14) (nm 7)) va_nil)))))) (va_cons (v_call1 (ni := false) (i := 0) h__law_floor hrR rfl T.m__law_floor T.f__law_floor.kp T.b__law_floor rfl (Or.inl rfl) rfl (va_cons ci (va_cons ci va_nil))) va_nil)))) (fun z => nomatch z))
    (vb_cons (vs_set (nw := false) (i := 9) (sc__law_right).nd rfl (by first | exact Or.inl rfl | exact Or.inr rfl) (io1 (by decide)) (VN.vj (vn_compIf (own := [("late", 15)]) (ni := false) rfl (sc__law_right).nd (ios1 (by decide)) (by decide) (vi_list (v_call (ni := false) (dds := []) h__law_beside hrR rfl T.m__law_beside T.f__law_beside.kp T.b__law_beside .nil (fun _ => .nil) (va_cons (v_call1 (ni := false) (i := 0) h__law_one_of hrR rfl T.m__law_one_of T.f__law_one_of.kp T.b__law_one_of rfl (Or.inl rfl) rfl (va_cons (nm 1) va_nil)) va_nil))) (blkOk_by (own := [("late", 15)]) (by rfl)) (fun _ _ _ _ _ => (vg_name (i := 15) (sc__law_right).nd rfl (by first | exact Or.inl rfl | exact Or.inr rfl) (io1 (by decide)) (fun z => nomatch z))) (fun _ _ _ _ _ => (VW.vt (vw_and (p := true) (q := true) (vt_cmp (p := true) (q := true) (ni := false) (nw := false) (op_notInA (hu65 hrR)) prim_notInA (nm 15) (nm 1) (by rfl)) (vw_and (p := true) (q := true) (vt_cmp (p := true) (q := true) (ni := false) (nw := false) op_ge prim_ge (v_ix (p := true) (q := true) ix_D prim_ix (nm 15) ci (fun _ _ => rfl)) ci (by rfl)) (vw_and1 (vt_cmp (p := true) (q := true) (ni := false) (nw := false) op_ge prim_ge (v_ix (p := true) (q := true) ix_D prim_ix (nm 15) ci (fun _ _ => rfl)) ci (by rfl))))))) (fun _ _ _ _ _ => (nm 15)))) (fun z => nomatch z))
    (vb_cons (vs_set (nw := false) (i := 8) (sc__law_right).nd rfl (by first | exact Or.inl rfl | exact Or.inr rfl) (io1 (by decide)) (v_op op_addD prim_add (nm 8) (VN.vj (vn_compIf (own := [("late", 15)]) (ni := false) rfl (sc__law_right).nd (ios1 (by decide)) (by decide) (vi_list (v_list (va_cons (v_slice (nm 9) vo_none (vo_some (ni := false) ci)) va_nil))) (blkOk_by (own := [("late", 15)]) (by rfl)) (fun _ _ _ _ _ => (vg_name (i := 15) (sc__law_right).nd rfl (by first | exact Or.inl rfl | exact Or.inr rfl) (io1 (by decide)) (fun z => nomatch z))) (fun _ _ _ _ _ => (vt_cmp (p := true) (q := true) (ni := false) (nw := false) (op_neD (hu64 hrR)) prim_ne (nm 9) (v_list va_nil) (by rfl))) (fun _ _ _ _ _ => (v_callB (cr_sortD (hu70 hrR)) prim_sorted rfl (T.g_sorted) bf_sorted (va_cons (p := true) (q := true) (v_op (p := true) (q := true) op_addD prim_add (nm 1) (nm 15)) va_nil)))))) (fun z => nomatch z))
    (vb_cons (vs_for (nw := false) PassesOwn.never rfl (vi_list (nm 8)) (vg_name (i := 10) (sc__law_right).nd rfl (by first | exact Or.inl rfl | exact Or.inr rfl) (io1 (by decide)) (fun z => nomatch z)) (vb_cons (vs_par (nw := false) (nj := false) (i := 11) (j := 12) (k1 := false) (k2 := false) rfl (sc__law_right).nd rfl rfl (by decide) rfl rfl (io1 (by decide)) (io1 (by decide)) (VJ.k (v_cmp (ni := false) (op_inA (hu65 hrR)) prim_inA (v_call (ni := false) (dds := []) h__law_moved hrR rfl T.m__law_moved T.f__law_moved.kp T.b__law_moved .nil (fun _ => .nil) (va_cons (nm 10) va_nil)) (nm 3) (by rfl))) (VJ.k (v_callB (ni := false) (cr_repr hrG.calm (hu65 hrR)) prim_repr rfl (T.g_repr) bf_repr (va_cons (nm 10) va_nil))) (by decide) (fun z => nomatch z) (fun z => nomatch z) (by rfl))
    (vb_cons (vs_set (nw := false) (i := 4) (sc__law_right).nd rfl (by first | exact Or.inl rfl | exact Or.inr rfl) (io1 (by decide)) (v_list (va_cons (v_call (ni := false) (dds := []) h_are_floors_alike hrR rfl T.m_are_floors_alike T.f_are_floors_alike.kp T.b_are_floors_alike .nil (fun _ => .nil) (va_cons (nm 1) (va_cons (nm 10) va_nil))) (va_cons (v_callO (ni := false) h_are_floors_alike hrR rfl T.m_are_floors_alike T.f_are_floors_alike.kp T.o_are_floors_alike rfl (vk_cons (nm 10) (vk_cons (nm 1) vk_nil))) (va_cons (v_call (ni := false) (dds := []) h_are_floors_alike hrR rfl T.m_are_floors_alike T.f_are_floors_alike.kp T.b_are_floors_alike .nil (fun _ => .nil) (va_cons (nm 10) (va_cons (nm 1) va_nil))) (va_cons (v_cmp (ni := false) (op_eqD (hu64 hrR)) prim_eq (VJ.any (v_call (ni := false) (dds := []) h_floor_forms hrR rfl T.m_floor_forms T.f_floor_forms.kp T.b_floor_forms .nil (fun _ => .nil) (va_cons (nm 10) va_nil))) (nm 3) (by rfl)) va_nil))))) (fun z => nomatch z))
    (vb_one (vs_if (VW.vt (vw_or (vt_not (vt_val (nw := false) (v_call (ni := false) (dds := []) h__law_exact hrR rfl T.m__law_exact T.f__law_exact.kp T.b__law_exact .nil (fun _ => .nil) (va_cons (v_op op_mulA prim_mulA (v_list (va_cons (nm 11) va_nil)) ci) (va_cons (nm 4) va_nil))))) (vw_or1 (vt_cmp (ni := false) (nw := false) (op_neD (hu64 hrR)) prim_ne (v_callB (ni := false) (cr_repr hrG.calm (hu65 hrR)) prim_repr rfl (T.g_repr) bf_repr (va_cons (nm 10) va_nil)) (nm 12) (by rfl))))) (vb_one (vs_ret cb)) vb_nil)))))
    (vb_one (vs_ret (v_and (ni := false) (v_call (ni := false) (dds := []) h__law_exact hrR rfl T.m__law_exact T.f__law_exact.kp T.b__law_exact .nil (fun _ => .nil) (va_cons (nm 3) (va_cons (VJ.any (v_call (ni := false) (dds := []) h_floor_forms hrR rfl T.m_floor_forms T.f_floor_forms.kp T.b_floor_forms .nil (fun _ => .nil) (va_cons (nm 1) va_nil))) va_nil))) (v_one (v_cmp (ni := false) (op_eqD (hu64 hrR)) prim_eq (v_callB (ni := false) (cr_repr hrG.calm (hu65 hrR)) prim_repr rfl (T.g_repr) bf_repr (va_cons (nm 1) va_nil)) (nm 2) (by rfl)))))))))))))
end
end K65


set_option Elab.async false
set_option linter.all false
set_option autoImplicit false
set_option maxRecDepth 100000
set_option maxHeartbeats 4000000
namespace K65
open PySem PySem.Spec L2 Vl
open PyProof.Rows (envOfC)
theorem sc_law : FnScope ["script", "purse", "spin", "told"] ["script"] (defScope (top 30)) := ⟨rfl, rfl, rfl, by decide +kernel, rfl, by decide +kernel, by decide +kernel⟩
def R_purse : FS := (sRet (fMap (fCons (f2 (fMap (fCons (fMap (fCons (f2 (fName 2) (f2 (fC (.int 10)) (fC (.int 18)) powD) subD) (fCons (fC (.int 0)) fNil)) (gBest fun a b => PySem.W.dataLt b a)) fNil) gInt) (f2 (f2 (fC (.int 10)) (fC (.int 60)) powD) (fC (.int 8)) powD) modD) (fCons (f2 (fMap (fCons (fName 2) fNil) gInt) (fC (.int 2147483629)) modD) (fCons (fC (.int 0)) (fCons (fScal (fName 1)) fNil)))) gList))
def B_law : FS := (sFor (fMap (fCons (fC (.int 4)) fNil) asR1) (gSet 2) (sIf (fNot (fMap (fCall1 2 1 (fCons (fCall1 3 1 (fCons (fC (.int 12)) (fCons (f2 (fC (.int 3)) (fCall1 2 1 (fCons (fC (.int 3)) fNil) F__law_draw) addD) fNil)) F__law_floor) fNil) F__law_right) asB)) (sRet (fC (.bool false))) sNil))
def R_law : FS := (sSeq (sAsg (fMap (fCons (fMap (fCons (fCall 1 [] (fCons (fMap (fCons (fMap (fCons (fC (.int 0)) (fCons (fC (.int 0)) fNil)) gTuple) (fCons (fMap (fCons (fC (.int 0)) (fCons (fC (.int 1)) fNil)) gTuple) (fCons (fMap (fCons (fC (.int 1)) (fCons (fC (.int 0)) fNil)) gTuple) fNil))) gList) fNil) F_floor_forms) fNil) gLen) (fCons (fCall 2 [] (fCons (fMap (fCons (fMap (fCons (fC (.int 0)) (fCons (fC (.int 0)) fNil)) gTuple) (fCons (fMap (fCons (fC (.int 0)) (fCons (fC (.int 1)) fNil)) gTuple) (fCons (fMap (fCons (fC (.int 1)) (fCons (fC (.int 0)) fNil)) gTuple) fNil))) gList) (fCons (fMap (fCons (fMap (fCons (fC (.int 5)) (fCons (fC (.int 6)) fNil)) gTuple) (fCons (fMap (fCons (fC (.int 6)) (fCons (fC (.int 5)) fNil)) gTuple) (fCons (fMap (fCons (fC (.int 6)) (fCons (fC (.int 6)) fNil)) gTuple) fNil))) gList) fNil)) F_are_floors_alike) (fCons (fCall 1 [] (fCons (fMap (fCons (fMap (fCons (fC (.int 7)) (fCons (fC (.int 7)) fNil)) gTuple) fNil) gList) fNil) F_floor_forms) fNil))) gList) (gSet 3))
    (sSeq (sAsg (f2 (fName 3) (fMap (fCons (fMap (fCons (fCall 1 [] (fCons (fMap (fCons (fMap (fCons (fC (.int 0)) (fCons (fC (.int 0)) fNil)) gTuple) (fCons (fMap (fCons (fC (.int 0)) (fCons (fC (.int 1)) fNil)) gTuple) fNil)) gList) fNil) F_floor_forms) fNil) gLen) (fCons (fMap (fCons (fCall 1 [] (fCons (fMap (fCons (fMap (fCons (fC (.int 0)) (fCons (fC (.int 0)) fNil)) gTuple) (fCons (fMap (fCons (fC (.int 0)) (fCons (fC (.int 1)) fNil)) gTuple) (fCons (fMap (fCons (fC (.int 0)) (fCons (fC (.int 2)) fNil)) gTuple) (fCons (fMap (fCons (fC (.int 1)) (fCons (fC (.int 0)) fNil)) gTuple) fNil)))) gList) fNil) F_floor_forms) fNil) gLen) (fCons (fCall 2 [] (fCons (fMap (fCons (fMap (fCons (fC (.int 0)) (fCons (fC (.int 0)) fNil)) gTuple) (fCons (fMap (fCons (fC (.int 0)) (fCons (fC (.int 1)) fNil)) gTuple) (fCons (fMap (fCons (fC (.int 0)) (fCons (fC (.int 2)) fNil)) gTuple) fNil))) gList) (fCons (fMap (fCons (fMap (fCons (fC (.int 0)) (fCons (fC (.int 0)) fNil)) gTuple) (fCons (fMap (fCons (fC (.int 0)) (fCons (fC (.int 1)) fNil)) gTuple) (fCons (fMap (fCons (fC (.int 1)) (fCons (fC (.int 0)) fNil)) gTuple) fNil))) gList) fNil)) F_are_floors_alike) fNil))) gList) addD) (gSet 3))
    (sRet (fCall 2 [] (fCons (fMap (fCons (fC (.int 4)) (fCons (fC (.bool true)) (fCons (fMap (fCons (fMap (fCons (fMap (fCons (fC (.int 0)) (fCons (fC (.int 0)) fNil)) gTuple) fNil) gList) fNil) gList) (fCons (fC (.int 2)) (fCons (fC (.int 8)) (fCons (fC (.bool false)) fNil)))))) gList) (fCons (fName 3) fNil)) F__law_exact))))
section
variable {P : Program} {w : World} {K : PySem.W.Frag} {mg : Str → Option Value} {base : Heap} (T : Txt K mg)
include T
theorem ok2_purse (hp : ∀ i sd : Int, 0 ≤ sd ∨ sd < 0 → ∃ ms env', R_purse [.un, .dat (.int i), .dat (.int sd)] = some (.rt (purseD ms) env') ∧ (0 ≤ i → i ≤ 62 → PurseL 0 ms)) : FnOk P w K mg base CX0 1 T.a__law_purse T.d__law_purse ["script", "at"] (spPurse K) := by
  refine T.f__law_purse.ok sc__law_purse (fun vs H Q E h => ?_) (fun cdv A outer s H vs Q E hr h => ?_)
  · obtain ⟨a, ns, i, rfl, _⟩ := h
    rfl
  · obtain ⟨a, ns, i, rfl, hS, h0, h1, k⟩ := h
    have hrR := hr
    have D : VS (cxOf CX0 P w K mg base ["script", "at", "seed"] "_law_purse" (defScope (top 19)) T.a__law_purse cdv A outer s H E).nox ⟨H, [], []⟩ true ((defBody (top 19)).getD 1 (.Pass ⟨0, 0, 0, 0⟩)) R_purse := (vs_ret (v_list (va_cons (v_op (ni := false) op_mod prim_mod (v_callTy (ni := false) call_int1 prim_intOf rfl (T.g_int) bf_int (va_cons (v_callB (cr_max rfl (hu70 hrR)) prim_best rfl (T.g_max) bf_max (va_cons (v_op (ni := false) op_sub prim_sub (nm 2) (v_op (ni := false) op_powB prim_pow ci ci)) (va_cons ci va_nil))) va_nil)) (v_op (ni := false) op_powB prim_pow (v_op (ni := false) op_powB prim_pow ci ci) ci)) (va_cons (v_op (ni := false) op_mod prim_mod (v_callTy (ni := false) call_int1 prim_intOf rfl (T.g_int) bf_int (va_cons (nm 2) va_nil)) ci) (va_cons ci (va_cons (VJ.scal (nm 1)) va_nil))))))
    refine ⟨_, pss_cons (ps_set (i := 2) sc__law_purse.nd rfl (Or.inl rfl) (pe_callB (cr_sum rfl) rfl T.g_sum bf_sum (pa_cons (pe_slice sl_list (pv 0) (po_some (pv 1)) (po_some (pe_op op_add (pv 1) pe_int))) pa_nil)))
      (vb_one D).pss, ?_⟩
    refine ⟨_, rfl, _, rfl, i, rfl, _, rfl, i, 1, rfl, rfl, i + 1, rfl, a, _, rfl, hS, fun p hp0 => ?_⟩
    refine ⟨p, cutL ns (some i) (some (i + 1)), rfl, ?_, ?_⟩
    · rw [cutV_ints]
      exact .inl (.inl upd_same)
    have sub : Sub H (upd H p (.lst (cutV (ns.map V.int) (some i) (some (i + 1))))) := Sub.updN hp0
    obtain ⟨ms, env', e1, e2⟩ := hp i (cutL ns (some i) (some (i + 1))).sum (by omega)
    refine ⟨fun _ => none, [.un, .dat (.int i), .dat (.int (cutL ns (some i) (some (i + 1))).sum)], ?_, _, e1, fun F' σ' H' v S' x' r => ?_⟩
    · refine ⟨rfl, (fun _ _ z => nomatch z), fun q o e _ => sub _ _ e, fun j d e => ?_, fun j d e => ?_, fun j l a d e h1 => ?_, fun p hp => nomatch hp⟩
      · match j, e with
        | 1, e => cases e; exact ⟨.int i, rfl, .int i⟩
        | 2, e => cases e; exact ⟨.int _, rfl, .int _⟩
      · match j, e with
        | 0, e => cases e
        | 1, e => cases e
        | 2, e => cases e
      · match j, h1 with
        | 0, e => cases e
        | 1, e => cases e
        | 2, e => cases e
    · have r' : DR P w H F' true v (purseD ms) := r
      cases r' with
      | @lst p' xs _ hF hn rx =>
        rw [dr_ints rx] at hF
        exact k p' H' ms (fun q o e => S'.fr q o e (by simp [Gh.ioA])) (hn rfl) (S'.sub _ _ hF) (e2 h0 h1)

theorem ok2_purses (h_purse : FnOk P w K mg base CX0 1 T.a__law_purse T.d__law_purse ["script", "at"] (spPurse K)) : FnOk P w K mg base CX0 2 T.a__law_purses T.d__law_purses ["script", "few"] (spPurses K) := by
  refine T.f__law_purses.ok sc__law_purses (fun vs H Q E h => ?_) (fun cdv A outer s H vs Q E hr h => ?_)
  · obtain ⟨a, ns, i, rfl, _⟩ := h
    rfl
  · obtain ⟨a, ns, few, rfl, hS, len, f0, f1, k⟩ := h
    have hrR := hr
    refine ⟨_, pss_one (ps_ret (pe_lc (own := [("at", 2)]) rfl sc__law_purses.nd (pi_range1 rfl T.g_range (pa_cons
      (pe_callB (cr_max (G := ⟨fun _ => none, [], []⟩) (ni := false) rfl (hu70 hrR)) rfl T.g_max bf_max (pa_cons pe_int (pa_cons
        (pe_callB (cr_min (G := ⟨fun _ => none, [], []⟩) (ni := false) rfl (hu70 hrR)) rfl T.g_min bf_min (pa_cons (pv 1) (pa_cons (pe_callB call_len rfl T.g_len bf_len (pa_cons (pv 0) pa_nil)) pa_nil))) pa_nil))) pa_nil))
      (blkOk_by (own := [("at", 2)]) (by rfl)) (fun _ _ _ _ _ => pg_name (i := 2) sc__law_purses.nd rfl (Or.inl rfl)) (fun _ _ _ _ _ => pts_nil)
      (fun _ _ _ _ _ => pe_call h_purse hrR rfl T.m__law_purse T.f__law_purse.kp T.b__law_purse .nil pass0 (pa_cons (pv 0) (pa_cons (pv 2) pa_nil))))), ?_⟩
    have sub0 : Sub (fun _ => none) H := fun _ _ z => nomatch z
    refine ⟨.int few, rfl, .ref a, rfl, .ref a, _, rfl, .inl ⟨_, hS, rfl⟩, .inr ⟨_, _, .int few, .int ((ns.map V.int).length : Nat), fun _ => none, rfl, sub0, .int _, .int _, rfl, fun z rz => ?_⟩⟩
    obtain ⟨m, rfl, hm⟩ : ∃ m : Int, z = .int m ∧ m ≤ 63 := by
      split at rz
      · cases rz; exact ⟨_, rfl, by rw [List.length_map]; omega⟩
      · cases rz; exact ⟨_, rfl, by omega⟩
    refine .inr ⟨_, _, .int 1, .int m, fun _ => none, rfl, sub0, .int _, .int _, rfl, fun z rz => ?_⟩
    obtain ⟨j, rfl, hj⟩ : ∃ j : Int, z = .int j ∧ j ≤ 63 ∧ 1 ≤ j := by
      split at rz
      · rename_i hlt
        cases rz; exact ⟨m, rfl, hm, by have h9 : PySem.W.dataLt (.int 1) (.int m) = true := hlt; rw [PySem.W.dataLt_int] at h9; have := of_decide_eq_true h9; omega⟩
      · cases rz; exact ⟨1, rfl, by omega, by omega⟩
    refine ⟨j, rfl, by omega, by omega, fun D hD => ?_⟩
    refine lc_range (fun i H' => Sub H (fun b => if b = D then none else H' b) ∧ ∃ acc : List V, H' D = some (.lst acc) ∧ acc.length = i ∧ ∀ v ∈ acc, ∃ p ms, v = .ref p ∧ H p = none ∧ p ≠ D ∧ H' p = some (.lst (ms.map V.int)) ∧ PurseL 0 ms) ?_ ?_ ?_
    · refine ⟨fun q o e => ?_, [], upd_same, rfl, fun v hv => nomatch hv⟩
      have hq : q ≠ D := by rintro rfl; rw [hD] at e; cases e
      show (if q = D then none else upd H D (HO.lst []) q) = some o
      rw [if_neg hq, upd_ne hq]
      exact e
    · rintro i H' hi ⟨s1, acc, a1, a2, a3⟩
      have keepH : ∀ q o, H q = some o → H' q = some o := fun q o e => by
        have hq : q ≠ D := by rintro rfl; rw [hD] at e; cases e
        have h9 : (if q = D then none else H' q) = some o := s1 q o e
        rwa [if_neg hq] at h9
      refine ⟨rfl, ?_⟩
      unfold tYes
      refine (if_pos rfl).mpr ?_
      refine ⟨.ref a, rfl, .int (0 + (i : Nat)), rfl, a, ns, 0 + (i : Nat), rfl, Vl.SqL.sub hS keepH, by omega, by omega, fun p H2 ms sb np hp pl => ?_⟩
      have hpD : p ≠ D := by rintro rfl; rw [a1] at np; cases np
      refine ⟨acc, sb _ _ a1, by have := sizeLine_eq; omega, fun q o e => ?_, acc ++ [.ref p], upd_same, by simp [a2], fun v hv => ?_⟩
      · have hq : q ≠ D := by rintro rfl; rw [hD] at e; cases e
        show (if q = D then none else upd H2 D (HO.lst (acc ++ [V.ref p])) q) = some o
        rw [if_neg hq, upd_ne hq]
        exact sb _ _ (keepH _ _ e)
      · rcases List.mem_append.mp hv with hv | hv
        · obtain ⟨p', ms', b1, b2, b3, b4, b5⟩ := a3 v hv
          exact ⟨p', ms', b1, b2, b3, by rw [upd_ne b3]; exact sb _ _ b4, b5⟩
        · have : v = .ref p := by simpa using hv
          refine ⟨p, ms, this, ?_, hpD, by rw [upd_ne hpD]; exact hp, pl⟩
          cases e : H p with
          | none => rfl
          | some o => rw [keepH _ _ e] at np; cases np
    · rintro H' ⟨s1, acc, a1, a2, a3⟩
      refine k D H' acc (fun q o e => ?_) ⟨hD, a1, by omega, fun v hv => ?_⟩
      · have hq : q ≠ D := by rintro rfl; rw [hD] at e; cases e
        have h9 : (if q = D then none else H' q) = some o := s1 q o e
        rwa [if_neg hq] at h9
      · obtain ⟨p, ms, b1, b2, _, b4, b5⟩ := a3 v hv
        exact ⟨p, ms, b1, b2, b4, b5⟩
theorem ok2_law (step : Int) (hstep : 0 ≤ step) (h_purses : FnOk P w K mg base CX0 2 T.a__law_purses T.d__law_purses ["script", "few"] (spPurses K))
    (hbd : ∀ (t : Nat) (ms : List Int), t ≤ 64 → PurseL (step * t) ms → ∃ env' ms', B_law ((uns 4).set 1 (.own (purseD ms))) = some (.nx env') ∧ env'.length = 4 ∧ env'[1]? = some (.own (purseD ms')) ∧ PurseL (step * (t + 1)) ms')
    (hend : ∃ env', R_law (uns 4) = some (.rt (.bool true) env')) : FnG P w K mg base 9 T.a_law T.d_law ["script"] (spLaw K) := by
  refine fng_of T.f_law sc_law (fun vs H Q E h => ?_) (fun cdv A outer s H vs Q E hr h => ?_)
  · obtain ⟨a, ns, rfl, _⟩ := h
    rfl
  · obtain ⟨a, ns, rfl, hS, len, k⟩ := h
    have hrR := hr.room
    have hrG := hr
    have h__law_exact := (ok__law_exact (P := P) (w := w) (base := base) T).mono (by decide : 7 ≤ 8)
    have h_are_floors_alike := (ok_are_floors_alike (P := P) (w := w) (base := base) T).mono (by decide : 6 ≤ 8)
    have h_floor_forms := (ok_floor_forms (P := P) (w := w) (base := base) T).mono (by decide : 6 ≤ 8)
    have h__law_right := (ok__law_right (P := P) (w := w) (base := base) T).mono (by decide : 8 ≤ 8)
    have h__law_floor := (ok__law_floor (P := P) (w := w) (base := base) T).mono (by decide : 4 ≤ 8)
    have h__law_draw := (ok__law_draw (P := P) (w := w) (base := base) T).mono (by decide : 2 ≤ 8)
    have h2 := h_purses.mono (by decide : 2 ≤ 8)
    have D1 : ∀ q : Hp × Addr, VB (cxOf CX0 P w K mg base ["script", "purse", "spin", "told"] "law" (defScope (top 30)) T.a_law cdv A outer s H E).nox ⟨q.1, [(1, q.2)], []⟩ false (forBody ((defBody (top 30)).getD 0 (.Pass ⟨0, 0, 0, 0⟩))) B_law := fun q => (vb_one (vs_for (nw := false) PassesOwn.never rfl (vi_range1 (ni := false) rfl (T.g_range) (va_cons ci va_nil)) (vg_name (i := 2) (sc_law).nd rfl (by first | exact Or.inl rfl | exact Or.inr rfl) (io1 (by decide)) (fun z => nomatch z)) (vb_one (vs_if (vt_not (vt_val (nw := false) (v_call1G (ni := false) (i := 1) h__law_right hrG rfl T.m__law_right T.f__law_right.kp T.b__law_right rfl (Or.inl rfl) rfl (va_cons (v_call1 (ni := false) (i := 1) h__law_floor hrR rfl T.m__law_floor T.f__law_floor.kp T.b__law_floor rfl (Or.inl rfl) rfl (va_cons ci (va_cons (v_op op_addD prim_add ci (v_call1 (ni := false) (i := 1) h__law_draw hrR rfl T.m__law_draw T.f__law_draw.kp T.b__law_draw rfl (Or.inl rfl) rfl (va_cons ci va_nil))) va_nil))) va_nil)))) (vb_one (vs_ret cb)) vb_nil))))
    have D2 : VB (cxOf CX0 P w K mg base ["script", "purse", "spin", "told"] "law" (defScope (top 30)) T.a_law cdv A outer s H E).nox ⟨H, [], []⟩ false ((defBody (top 30)).drop 1) R_law := (vb_cons (vs_set (nw := false) (i := 3) (sc_law).nd rfl (by first | exact Or.inl rfl | exact Or.inr rfl) io0 (v_list (va_cons (v_callB (ni := false) call_len prim_len rfl (T.g_len) bf_len (va_cons (VJ.any (v_call (ni := false) (dds := []) h_floor_forms hrR rfl T.m_floor_forms T.f_floor_forms.kp T.b_floor_forms .nil (fun _ => .nil) (va_cons (v_list (va_cons (v_tuple (va_cons ci (va_cons ci va_nil))) (va_cons (v_tuple (va_cons ci (va_cons ci va_nil))) (va_cons (v_tuple (va_cons ci (va_cons ci va_nil))) va_nil)))) va_nil))) va_nil)) (va_cons (v_call (ni := false) (dds := []) h_are_floors_alike hrR rfl T.m_are_floors_alike T.f_are_floors_alike.kp T.b_are_floors_alike .nil (fun _ => .nil) (va_cons (v_list (va_cons (v_tuple (va_cons ci (va_cons ci va_nil))) (va_cons (v_tuple (va_cons ci (va_cons ci va_nil))) (va_cons (v_tuple (va_cons ci (va_cons ci va_nil))) va_nil)))) (va_cons (v_list (va_cons (v_tuple (va_cons ci (va_cons ci va_nil))) (va_cons (v_tuple (va_cons ci (va_cons ci va_nil))) (va_cons (v_tuple (va_cons ci (va_cons ci va_nil))) va_nil)))) va_nil))) (va_cons (VJ.any (v_call (ni := false) (dds := []) h_floor_forms hrR rfl T.m_floor_forms T.f_floor_forms.kp T.b_floor_forms .nil (fun _ => .nil) (va_cons (v_list (va_cons (v_tuple (va_cons ci (va_cons ci va_nil))) va_nil)) va_nil))) va_nil)))) (fun z => nomatch z))
    (vb_cons (vs_set (nw := false) (i := 3) (sc_law).nd rfl (by first | exact Or.inl rfl | exact Or.inr rfl) io0 (v_op op_addD prim_add (nm 3) (v_list (va_cons (v_callB (ni := false) call_len prim_len rfl (T.g_len) bf_len (va_cons (VJ.any (v_call (ni := false) (dds := []) h_floor_forms hrR rfl T.m_floor_forms T.f_floor_forms.kp T.b_floor_forms .nil (fun _ => .nil) (va_cons (v_list (va_cons (v_tuple (va_cons ci (va_cons ci va_nil))) (va_cons (v_tuple (va_cons ci (va_cons ci va_nil))) va_nil))) va_nil))) va_nil)) (va_cons (v_callB (ni := false) call_len prim_len rfl (T.g_len) bf_len (va_cons (VJ.any (v_call (ni := false) (dds := []) h_floor_forms hrR rfl T.m_floor_forms T.f_floor_forms.kp T.b_floor_forms .nil (fun _ => .nil) (va_cons (v_list (va_cons (v_tuple (va_cons ci (va_cons ci va_nil))) (va_cons (v_tuple (va_cons ci (va_cons ci va_nil))) (va_cons (v_tuple (va_cons ci (va_cons ci va_nil))) (va_cons (v_tuple (va_cons ci (va_cons ci va_nil))) va_nil))))) va_nil))) va_nil)) (va_cons (v_call (ni := false) (dds := []) h_are_floors_alike hrR rfl T.m_are_floors_alike T.f_are_floors_alike.kp T.b_are_floors_alike .nil (fun _ => .nil) (va_cons (v_list (va_cons (v_tuple (va_cons ci (va_cons ci va_nil))) (va_cons (v_tuple (va_cons ci (va_cons ci va_nil))) (va_cons (v_tuple (va_cons ci (va_cons ci va_nil))) va_nil)))) (va_cons (v_list (va_cons (v_tuple (va_cons ci (va_cons ci va_nil))) (va_cons (v_tuple (va_cons ci (va_cons ci va_nil))) (va_cons (v_tuple (va_cons ci (va_cons ci va_nil))) va_nil)))) va_nil))) va_nil))))) (fun z => nomatch z))
    (vb_one (vs_ret (v_call (ni := false) (dds := []) h__law_exact hrR rfl T.m__law_exact T.f__law_exact.kp T.b__law_exact .nil (fun _ => .nil) (va_cons (v_list (va_cons ci (va_cons cb (va_cons (v_list (va_cons (v_list (va_cons (v_tuple (va_cons ci (va_cons ci va_nil))) va_nil)) va_nil)) (va_cons ci (va_cons ci (va_cons cb va_nil))))))) (va_cons (nm 3) va_nil)))))))
    refine ⟨_, pss_cons (ps_for PassesOwn.never rfl (pi_list (pe_call h2 hrR rfl T.m__law_purses T.f__law_purses.kp T.b__law_purses .nil pass0 (pa_cons (pv 0) (pa_cons pe_int pa_nil)))) (pg_name (i := 1) sc_law.nd rfl (Or.inl rfl)) (pss_ex fun q => (D1 q).pss)) D2.pss, ?_⟩
    refine ⟨.ref a, rfl, a, ns, 3, rfl, hS, len, by omega, by omega, fun P' H' ps sb pr => ⟨P', rfl, ⟨ps, .inl (.inl pr.2.1)⟩, ?_⟩⟩
    refine for_purses (n := 4) (H0 := H) step hstep rfl (by decide) pr sb hbd fun σ' H2 hl s2 => ?_
    obtain ⟨env', e⟩ := hend
    refine ⟨fun _ => none, _, sim_uns hl s2, _, e, fun F3 σ3 H3 v S3 x3 r => ?_⟩
    cases r
    exact k H3
end
end K65


set_option Elab.async false
set_option linter.all false
set_option autoImplicit false
set_option maxRecDepth 100000
set_option maxHeartbeats 1000000
namespace K65
open PySem Vl Fl

theorem szl {n : Nat} (h : n ≤ 1000) : n ≤ sizeLine := Nat.le_of_lt (L2.small1000 h)
theorem e_count (i : Int) : F_is_count [.dat (.int i), .dat (.int 0)] = some (.bool (decide (0 ≤ i)), [.dat (.int i), .dat (.int 0)]) := by rfl
theorem e_tuple (x y : Int) : F_is_tuple_of [.dat (cD (x, y)), .dat (.int 2)] = some (.bool true, [.dat (cD (x, y)), .dat (.int 2)]) := by rfl
def okC (c : Cell) : Bool := decide (0 ≤ c.1) && decide (0 ≤ c.2)
theorem e_cell (c : Cell) : F_is_cell [.dat (cD c)] = some (.bool (okC c), [.dat (cD c)]) := by
  obtain ⟨x, y⟩ := c
  refine run_rt (ret_of (env1 := [.dat (cD (x, y))]) ?_)
  rw [and_b (b := true) (env1 := [.dat (cD (x, y))]) (by rfl), cond_true, and_b (b := decide (0 ≤ x)) (env1 := [.dat (cD (x, y))]) (by rfl)]
  unfold okC
  dsimp only
  cases decide (0 ≤ x) <;> rfl
theorem e_beside (c : Cell) : F_beside [.dat (cD c)] = some (lD (besC c), [.dat (cD c)]) := by rfl
def besL (c : Cell) : List Cell := [(c.1 - 1, c.2), (c.1 + 1, c.2), (c.1, c.2 - 1), (c.1, c.2 + 1)]
theorem e_lbeside (c : Cell) : F__law_beside [.dat (cD c)] = some (lD (besL c), [.dat (cD c)]) := by rfl

/-! ### least, moved -/
def least : List Int → Int
  | [] => 0
  | x :: xs => xs.foldl min x
theorem fold_min : ∀ (xs : List Int) (x : Int), (xs.map PyData.int).foldl (fun a y => if PySem.W.dataLt y a = true then y else a) (.int x) = .int (xs.foldl min x)
  | [], _ => rfl
  | y :: xs, x => by
    rw [List.map_cons, List.foldl_cons, List.foldl_cons, PySem.W.dataLt_int]
    have : (if decide (y < x) = true then PyData.int y else PyData.int x) = .int (min x y) := by
      by_cases h : y < x
      · rw [if_pos (by simpa using h), show min x y = y by omega]
      · rw [if_neg (by simpa using h), show min x y = x by omega]
    rw [this, fold_min xs]
theorem alikeB_ints (l : List Int) : alikeB (l.map PyData.int) = true := by
  unfold alikeB allAlike
  simp [List.all_eq_true, al_int, isNone, SeqAt.shaped, PyData.canLay0, PyData.depth]
theorem best_min {l : List Int} (h : l ≠ []) : gBest PySem.W.dataLt [.list (l.map PyData.int)] = some (.int (least l)) := by
  cases l with
  | nil => exact absurd rfl h
  | cons x xs =>
    rw [List.map_cons]
    unfold gBest
    have := alikeB_ints (x :: xs)
    rw [List.map_cons] at this
    dsimp only
    rw [if_pos this, fold_min]; rfl
def normC (l : List Cell) : List Cell := sortC (l.map fun c => (c.1 - least (l.map (·.1)), c.2 - least (l.map (·.2))))
theorem e_moved {l : List Cell} (h : l ≠ []) (hl : l.length ≤ 1000) : ∃ env, F_moved_least [.dat (lD l)] = some (lD (normC l), env) := by
  have hl' : l.length ≤ sizeLine := szl hl
  have h1 : fComp [3, 4] (fMap (fName 0) asL) (gUnp (gsCons (gSet 3) (gsCons (gSet 4) gsNil)) 2) fYes (fName 3) [.dat (lD l), .un, .un, .un, .un] = some (.list ((l.map (·.1)).map PyData.int), [.dat (lD l), .un, .un, .un, .un]) := by
    rw [fComp_all cD l (fun c => .int c.1) rfl hl' fun c _ => ⟨_, _, rfl, rfl⟩, List.map_map]; rfl
  have h2 : fComp [3, 4] (fMap (fName 0) asL) (gUnp (gsCons (gSet 3) (gsCons (gSet 4) gsNil)) 2) fYes (fName 4) [.dat (lD l), .un, .un, .un, .un] = some (.list ((l.map (·.2)).map PyData.int), [.dat (lD l), .un, .un, .un, .un]) := by
    rw [fComp_all cD l (fun c => .int c.2) rfl hl' fun c _ => ⟨_, _, rfl, rfl⟩, List.map_map]; rfl
  have h3 : fComp [3, 4] (fMap (fName 0) asL) (gUnp (gsCons (gSet 3) (gsCons (gSet 4) gsNil)) 2) fYes (fMap (fCons (f2 (fName 3) (fName 1) subD) (fCons (f2 (fName 4) (fName 2) subD) fNil)) gTuple) [.dat (lD l), .dat (.int (least (l.map (·.1)))), .dat (.int (least (l.map (·.2)))), .un, .un] =
      some (lD (l.map fun c => (c.1 - least (l.map (·.1)), c.2 - least (l.map (·.2)))), [.dat (lD l), .dat (.int (least (l.map (·.1)))), .dat (.int (least (l.map (·.2)))), .un, .un]) := by
    rw [fComp_all cD l (fun c => cD (c.1 - least (l.map (·.1)), c.2 - least (l.map (·.2)))) rfl hl' fun c _ => ⟨_, _, rfl, rfl⟩]
    unfold lD
    rw [List.map_map]; rfl
  refine ⟨_, run_rt ((seq_nx (asg_of (map_of (cons_of (map_of (cons_of h1 rfl) (best_min (by simpa using h))) (cons_of (map_of (cons_of h2 rfl) (best_min (by simpa using h))) rfl)) rfl) rfl)).trans (ret_of (map_of (cons_of h3 rfl) ?_)))⟩
  unfold gSorted lD
  dsimp only
  rw [sortD_cD _ (by simpa using hl')]; rfl
/-! ### forms -/
def rotC (c : Cell) : Cell := (0 - c.2, c.1)
def mirC (c : Cell) : Cell := (0 - c.1, c.2)
def rotN : Nat → List Cell → List Cell
  | 0, l => l
  | k + 1, l => (rotN k l).map rotC
def add1 (found : List (List Cell)) (f : List Cell) : List (List Cell) := if f ∈ found then found else found ++ [f]
def fnd (l : List Cell) : Nat → List (List Cell)
  | 0 => []
  | k + 1 => add1 (add1 (fnd l k) (normC (rotN (k + 1) l))) (normC ((rotN (k + 1) l).map mirC))
def formsL (l : List Cell) : List (List Cell) := sortL (fnd l 4)
theorem rotN_len (l : List Cell) : ∀ k, (rotN k l).length = l.length
  | 0 => rfl
  | k + 1 => by rw [rotN, List.length_map, rotN_len l k]
theorem add1_len (fs : List (List Cell)) (f : List Cell) : (add1 fs f).length ≤ fs.length + 1 := by
  unfold add1; split
  · omega
  · simp
theorem fnd_len (l : List Cell) : ∀ k, (fnd l k).length ≤ 2 * k
  | 0 => Nat.le_refl _
  | k + 1 => by
    have := fnd_len l k
    have h1 := add1_len (fnd l k) (normC (rotN (k + 1) l))
    have h2 := add1_len (add1 (fnd l k) (normC (rotN (k + 1) l))) (normC ((rotN (k + 1) l).map mirC))
    rw [fnd]; omega
theorem any_lD (f : List Cell) : ∀ fs : List (List Cell), ((fs.map lD).any fun z => PyData.eqv z (lD f)) = decide (f ∈ fs)
  | [] => rfl
  | g :: fs => by
    rw [List.map_cons, List.any_cons, any_lD f fs, eqv_lD]
    by_cases h : g = f
    · subst h; simp
    · have : ¬ f = g := fun z => h z.symm
      simp [h, this]
theorem inA_lD (c : Bool → Bool) (f : List Cell) (fs : List (List Cell)) : inA c (lD f) (llD fs) = some (.bool (c (decide (f ∈ fs)))) := by
  unfold inA llD
  dsimp only
  rw [if_pos ⟨sh_lD f, sh_llD fs⟩, any_lD]
theorem any_cD (f : Cell) : ∀ fs : List Cell, ((fs.map cD).any fun z => PyData.eqv z (cD f)) = decide (f ∈ fs)
  | [] => rfl
  | g :: fs => by
    rw [List.map_cons, List.any_cons, any_cD f fs, eqv_cD]
    by_cases h : g = f
    · subst h; simp
    · have : ¬ f = g := fun z => h z.symm
      simp [h, this]
theorem inA_cD (c : Bool → Bool) (f : Cell) (fs : List Cell) : inA c (cD f) (lD fs) = some (.bool (c (decide (f ∈ fs)))) := by
  unfold inA lD
  dsimp only
  rw [if_pos ⟨sh_cD f, sh_lD fs⟩, any_cD]
theorem e_add {fs : List (List Cell)} {f : List Cell} (hl : fs.length < 1000) (a b c d e : Slot) : sIf (fMap (f2 (fName 4) (fLook 1) (inA fun c => !c)) asB) (sMeth 1 (fName 4) cAppend) sNil [a, .own (llD fs), b, c, .dat (lD f), d, e] =
    some (.nx [a, .own (llD (add1 fs f)), b, c, .dat (lD f), d, e]) := by
  rw [if_b (b := !decide (f ∈ fs)) (env1 := [a, .own (llD fs), b, c, .dat (lD f), d, e]) (map_of (f2_of rfl rfl (inA_lD _ f fs)) rfl)]
  unfold add1
  by_cases h : f ∈ fs
  · rw [if_pos h, decide_eq_true h]; rfl
  · rw [if_neg h, decide_eq_false h]
    have hc : cAppend (lD f) (fs.map lD) = some ((fs ++ [f]).map lD) := by
      unfold cAppend
      rw [if_pos (by rw [List.length_map]; exact L2.small1000 (by omega)), List.map_append]; rfl
    show sMeth 1 (fName 4) cAppend _ = _
    exact meth_of (i := 1) (env1 := [a, .own (llD fs), b, c, .dat (lD f), d, e]) (a := lD f) (ds := fs.map lD) rfl rfl rfl hc
theorem e_forms {l : List Cell} (h : l ≠ []) (hl : l.length ≤ 1000) : ∃ env, F_forms_there [.dat (lD l)] = some (llD (formsL l), env) := by
  have hne : ∀ k, rotN k l ≠ [] := fun k z => h (List.eq_nil_of_length_eq_zero (by rw [← rotN_len l k, z]; rfl))
  have hln : ∀ k, (rotN k l).length ≤ 1000 := fun k => by rw [rotN_len]; exact hl
  have LOOP := sFor_inv (env := [.dat (lD l), .own (llD []), .dat (lD l), .un, .un, .un, .un]) (env0 := [.dat (lD l), .own (llD []), .dat (lD l), .un, .un, .un, .un])
    (fi := fMap (fCons (fC (.int 4)) fNil) asR1) (g := gSet 3) (bd := sSeq (sAsg (fComp [5, 6] (fMap (fName 2) asL) (gUnp (gsCons (gSet 5) (gsCons (gSet 6) gsNil)) 2) fYes (fMap (fCons (f2 (fC (.int 0)) (fName 6) subD) (fCons (fName 5) fNil)) gTuple)) (gSet 2))
    (sFor (fMap (fMap (fCons (fCall 1 [] (fCons (fName 2) fNil) F_moved_least) (fCons (fCall 1 [] (fCons (fComp [5, 6] (fMap (fName 2) asL) (gUnp (gsCons (gSet 5) (gsCons (gSet 6) gsNil)) 2) fYes (fMap (fCons (f2 (fC (.int 0)) (fName 5) subD) (fCons (fName 6) fNil)) gTuple)) fNil) F_moved_least) fNil)) gTuple) asT) (gSet 4) (sIf (fMap (f2 (fName 4) (fLook 1) (inA fun c => !c)) asB) (sMeth 1 (fName 4) cAppend) sNil)))
    (fun i : Nat => PyData.int (0 + (i : Nat))) (List.range 4) (fun k env => ∃ s3 s4 s5 s6, env = [.dat (lD l), .own (llD (fnd l k)), .dat (lD (rotN k l)), s3, s4, s5, s6]) rfl ⟨_, _, _, _, rfl⟩
  refine Exists.elim (LOOP ?_) ?_
  rotate_left
  · rintro env' ⟨h1, s3, s4, s5, s6, rfl⟩
    refine ⟨_, run_rt ((seq_nx (env1 := [.dat (lD l), .own (llD []), .dat (lD l), .un, .un, .un, .un]) rfl).trans ((seq_nx h1).trans (ret_of (map_of (cons_of rfl rfl) ?_))))⟩
    show gSorted [llD (fnd l 4)] = some (llD (formsL l))
    unfold gSorted llD
    dsimp only
    have := fnd_len l 4
    rw [sortD_lD _ (szl (by omega))]; rfl
  · rintro i a env hi ⟨s3, s4, s5, s6, rfl⟩
    have hi4 : i < 4 := by
      have := (List.getElem?_eq_some_iff.mp hi).1
      simpa using this
    have r1 : fComp [5, 6] (fMap (fName 2) asL) (gUnp (gsCons (gSet 5) (gsCons (gSet 6) gsNil)) 2) fYes (fMap (fCons (f2 (fC (.int 0)) (fName 6) subD) (fCons (fName 5) fNil)) gTuple) [.dat (lD l), .own (llD (fnd l i)), .dat (lD (rotN i l)), .dat (.int (0 + (a : Nat))), s4, s5, s6] = some (lD (rotN (i + 1) l), [.dat (lD l), .own (llD (fnd l i)), .dat (lD (rotN i l)), .dat (.int (0 + (a : Nat))), s4, s5, s6]) := by
      rw [fComp_all cD (rotN i l) (fun c => cD (rotC c)) rfl (szl (hln i)) fun c _ => ⟨_, _, rfl, rfl⟩]
      unfold lD
      rw [rotN, List.map_map]; rfl
    have r2 : fComp [5, 6] (fMap (fName 2) asL) (gUnp (gsCons (gSet 5) (gsCons (gSet 6) gsNil)) 2) fYes (fMap (fCons (f2 (fC (.int 0)) (fName 5) subD) (fCons (fName 6) fNil)) gTuple) [.dat (lD l), .own (llD (fnd l i)), .dat (lD (rotN (i + 1) l)), .dat (.int (0 + (a : Nat))), s4, s5, s6] = some (lD ((rotN (i + 1) l).map mirC), [.dat (lD l), .own (llD (fnd l i)), .dat (lD (rotN (i + 1) l)), .dat (.int (0 + (a : Nat))), s4, s5, s6]) := by
      rw [fComp_all cD (rotN (i + 1) l) (fun c => cD (mirC c)) rfl (szl (hln (i + 1))) fun c _ => ⟨_, _, rfl, rfl⟩]
      unfold lD
      rw [List.map_map]; rfl
    obtain ⟨x1, m1⟩ := e_moved (hne (i + 1)) (hln (i + 1))
    obtain ⟨x2, m2⟩ := e_moved (l := (rotN (i + 1) l).map mirC) (by simpa using hne (i + 1)) (by rw [List.length_map]; exact hln (i + 1))
    have fl := fnd_len l i
    have fl2 := add1_len (fnd l i) (normC (rotN (i + 1) l))
    refine ⟨_, _, rfl, .inl ((seq_nx (asg_of r1 rfl)).trans (for_2 (env0 := [.dat (lD l), .own (llD (fnd l i)), .dat (lD (rotN (i + 1) l)), .dat (.int (0 + (a : Nat))), s4, s5, s6]) (a := lD (normC (rotN (i + 1) l))) (b := lD (normC ((rotN (i + 1) l).map mirC)))
      (map_of (map_of (cons_of (call_of (cons_of rfl rfl) rfl m1) (cons_of (call_of (cons_of r2 rfl) rfl m2) rfl)) rfl) rfl) rfl (e_add (by omega) _ _ _ _ _) rfl (e_add (by omega) _ _ _ _ _))), ⟨_, _, _, _, rfl⟩⟩

theorem e_lmoved {l : List Cell} (h : l ≠ []) (hl : l.length ≤ 1000) : ∃ env, F__law_moved [.dat (lD l)] = some (lD (normC l), env) := e_moved h hl
theorem e_add2 {fs : List (List Cell)} {f : List Cell} (hl : fs.length < 1000) (a b c d e : Slot) : sAsg (fIf (fMap (f2 (fName 4) (fName 1) (inA fun c => c)) asB) (fName 1) (f2 (fName 1) (fMap (fCons (fName 4) fNil) gList) addD)) (gSet 1) [a, .dat (llD fs), b, c, .dat (lD f), d, e] =
    some (.nx [a, .dat (llD (add1 fs f)), b, c, .dat (lD f), d, e]) := by
  have ht : fMap (f2 (fName 4) (fName 1) (inA fun c => c)) asB [a, .dat (llD fs), b, c, .dat (lD f), d, e] = some (decide (f ∈ fs), [a, .dat (llD fs), b, c, .dat (lD f), d, e]) := map_of (f2_of rfl rfl (inA_lD (fun c => c) f fs)) rfl
  unfold add1
  by_cases h : f ∈ fs
  · rw [decide_eq_true h] at ht
    rw [if_pos h]
    exact asg_of (ifE_t ht) rfl
  · rw [decide_eq_false h] at ht
    rw [if_neg h]
    refine asg_of (env1 := [a, .dat (llD fs), b, c, .dat (lD f), d, e]) (d := llD (fs ++ [f])) ((ifE_f ht).trans (f2_of rfl rfl ?_)) rfl
    show addD (.list (fs.map lD)) (.list [lD f]) = _
    unfold addD
    dsimp only
    rw [if_pos (by rw [List.length_map, List.length_singleton]; exact szl (by omega))]
    unfold llD
    rw [List.map_append]; rfl
theorem e_lforms {l : List Cell} (h : l ≠ []) (hl : l.length ≤ 1000) : ∃ env, F__law_forms [.dat (lD l)] = some (llD (formsL l), env) := by
  have hne : ∀ k, rotN k l ≠ [] := fun k z => h (List.eq_nil_of_length_eq_zero (by rw [← rotN_len l k, z]; rfl))
  have hln : ∀ k, (rotN k l).length ≤ 1000 := fun k => by rw [rotN_len]; exact hl
  have LOOP := sFor_inv (env := [.dat (lD l), .dat (llD []), .dat (lD l), .un, .un, .un, .un]) (env0 := [.dat (lD l), .dat (llD []), .dat (lD l), .un, .un, .un, .un])
    (fi := fMap (fCons (fC (.int 4)) fNil) asR1) (g := gSet 3) (bd := sSeq (sAsg (fComp [5, 6] (fMap (fName 2) asL) (gUnp (gsCons (gSet 5) (gsCons (gSet 6) gsNil)) 2) fYes (fMap (fCons (f2 (fC (.int 0)) (fName 6) subD) (fCons (fName 5) fNil)) gTuple)) (gSet 2))
    (sFor (fMap (fMap (fCons (fCall 1 [] (fCons (fName 2) fNil) F__law_moved) (fCons (fCall 1 [] (fCons (fComp [5, 6] (fMap (fName 2) asL) (gUnp (gsCons (gSet 5) (gsCons (gSet 6) gsNil)) 2) fYes (fMap (fCons (f2 (fC (.int 0)) (fName 5) subD) (fCons (fName 6) fNil)) gTuple)) fNil) F__law_moved) fNil)) gTuple) asT) (gSet 4) (sAsg (fIf (fMap (f2 (fName 4) (fName 1) (inA fun c => c)) asB) (fName 1) (f2 (fName 1) (fMap (fCons (fName 4) fNil) gList) addD)) (gSet 1))))
    (fun i : Nat => PyData.int (0 + (i : Nat))) (List.range 4) (fun k env => ∃ s3 s4 s5 s6, env = [.dat (lD l), .dat (llD (fnd l k)), .dat (lD (rotN k l)), s3, s4, s5, s6]) rfl ⟨_, _, _, _, rfl⟩
  refine Exists.elim (LOOP ?_) ?_
  rotate_left
  · rintro env' ⟨h1, s3, s4, s5, s6, rfl⟩
    refine ⟨_, run_rt ((seq_nx (env1 := [.dat (lD l), .dat (llD []), .dat (lD l), .un, .un, .un, .un]) rfl).trans ((seq_nx h1).trans (ret_of (map_of (cons_of rfl rfl) ?_))))⟩
    show gSorted [llD (fnd l 4)] = some (llD (formsL l))
    unfold gSorted llD
    dsimp only
    have := fnd_len l 4
    rw [sortD_lD _ (szl (by omega))]; rfl
  · rintro i a env hi ⟨s3, s4, s5, s6, rfl⟩
    have hi4 : i < 4 := by
      have := (List.getElem?_eq_some_iff.mp hi).1
      simpa using this
    have r1 : fComp [5, 6] (fMap (fName 2) asL) (gUnp (gsCons (gSet 5) (gsCons (gSet 6) gsNil)) 2) fYes (fMap (fCons (f2 (fC (.int 0)) (fName 6) subD) (fCons (fName 5) fNil)) gTuple) [.dat (lD l), .dat (llD (fnd l i)), .dat (lD (rotN i l)), .dat (.int (0 + (a : Nat))), s4, s5, s6] = some (lD (rotN (i + 1) l), [.dat (lD l), .dat (llD (fnd l i)), .dat (lD (rotN i l)), .dat (.int (0 + (a : Nat))), s4, s5, s6]) := by
      rw [fComp_all cD (rotN i l) (fun c => cD (rotC c)) rfl (szl (hln i)) fun c _ => ⟨_, _, rfl, rfl⟩]
      unfold lD
      rw [rotN, List.map_map]; rfl
    have r2 : fComp [5, 6] (fMap (fName 2) asL) (gUnp (gsCons (gSet 5) (gsCons (gSet 6) gsNil)) 2) fYes (fMap (fCons (f2 (fC (.int 0)) (fName 5) subD) (fCons (fName 6) fNil)) gTuple) [.dat (lD l), .dat (llD (fnd l i)), .dat (lD (rotN (i + 1) l)), .dat (.int (0 + (a : Nat))), s4, s5, s6] = some (lD ((rotN (i + 1) l).map mirC), [.dat (lD l), .dat (llD (fnd l i)), .dat (lD (rotN (i + 1) l)), .dat (.int (0 + (a : Nat))), s4, s5, s6]) := by
      rw [fComp_all cD (rotN (i + 1) l) (fun c => cD (mirC c)) rfl (szl (hln (i + 1))) fun c _ => ⟨_, _, rfl, rfl⟩]
      unfold lD
      rw [List.map_map]; rfl
    obtain ⟨x1, m1⟩ := e_lmoved (hne (i + 1)) (hln (i + 1))
    obtain ⟨x2, m2⟩ := e_lmoved (l := (rotN (i + 1) l).map mirC) (by simpa using hne (i + 1)) (by rw [List.length_map]; exact hln (i + 1))
    have fl := fnd_len l i
    have fl2 := add1_len (fnd l i) (normC (rotN (i + 1) l))
    refine ⟨_, _, rfl, .inl ((seq_nx (asg_of r1 rfl)).trans (for_2 (env0 := [.dat (lD l), .dat (llD (fnd l i)), .dat (lD (rotN (i + 1) l)), .dat (.int (0 + (a : Nat))), s4, s5, s6]) (a := lD (normC (rotN (i + 1) l))) (b := lD (normC ((rotN (i + 1) l).map mirC)))
      (map_of (map_of (cons_of (call_of (cons_of rfl rfl) rfl m1) (cons_of (call_of (cons_of r2 rfl) rfl m2) rfl)) rfl) rfl) rfl (e_add2 (by omega) _ _ _ _ _) rfl (e_add2 (by omega) _ _ _ _ _))), ⟨_, _, _, _, rfl⟩⟩
end K65


set_option Elab.async false
set_option linter.all false
set_option autoImplicit false
set_option maxRecDepth 100000
set_option maxHeartbeats 1000000
namespace K65
open PySem Vl Fl

/-! ### parts_there of cells that hang together -/
theorem best_cD (f : D → D → Bool) (a b : Cell) : ∃ z : Cell, gBest f [cD a, cD b] = some (cD z) := by
  have h : gBest f [cD a, cD b] = if alikeB [cD a, cD b] = true ∧ (plain1 (cD a) && plain1 (cD b)) = true then some (if f (cD b) (cD a) then cD b else cD a) else none := rfl
  rw [h, if_pos ⟨rfl, rfl⟩]
  by_cases e : f (cD b) (cD a) = true
  · exact ⟨b, by rw [if_pos e]⟩
  · exact ⟨a, by rw [if_neg e]⟩
def IFB : FS := sIf (fAndB (fMap (f2 (fName 8) (fLook 2) (inA fun c => c)) asB) (fMap (f2 (fMap (fCons (fMap (fCons (fName 7) (fCons (fName 8) fNil)) (gBest PySem.W.dataLt)) (fCons (fMap (fCons (fName 7) (fCons (fName 8) fNil)) (gBest fun a b => PySem.W.dataLt b a)) fNil)) gTuple) (fName 1) (inA fun c => !c)) asB)) (sSeq (sExpr (fPopK 2 (fName 8)))
    (sMeth 6 (fName 8) cAppend)) sNil
theorem e_late {L T : List Cell} {h x : Cell} {a b c d : Slot} (hl : T.length < 1000) : IFB [a, .dat (.dict []), .own (.dict (mkD L)), b, c, d, .own (lD T), .dat (cD h), .dat (cD x)] =
    some (.nx [a, .dat (.dict []), .own (.dict (mkD (fl1 (L, T) x).1)), b, c, d, .own (lD (fl1 (L, T) x).2), .dat (cD h), .dat (cD x)]) := by
  unfold IFB
  have t1 : fMap (f2 (fName 8) (fLook 2) (inA fun c => c)) asB [a, .dat (.dict []), .own (.dict (mkD L)), b, c, d, .own (lD T), .dat (cD h), .dat (cD x)] = some (decide (x ∈ L), [a, .dat (.dict []), .own (.dict (mkD L)), b, c, d, .own (lD T), .dat (cD h), .dat (cD x)]) :=
    map_of (f2_of rfl rfl (inA_mk (fun c => c) x L)) rfl
  obtain ⟨z1, e1⟩ := best_cD PySem.W.dataLt h x
  obtain ⟨z2, e2⟩ := best_cD (fun a b => PySem.W.dataLt b a) h x
  have t2 : fMap (f2 (fMap (fCons (fMap (fCons (fName 7) (fCons (fName 8) fNil)) (gBest PySem.W.dataLt)) (fCons (fMap (fCons (fName 7) (fCons (fName 8) fNil)) (gBest fun a b => PySem.W.dataLt b a)) fNil)) gTuple) (fName 1) (inA fun c => !c)) asB [a, .dat (.dict []), .own (.dict (mkD L)), b, c, d, .own (lD T), .dat (cD h), .dat (cD x)] = some (true, [a, .dat (.dict []), .own (.dict (mkD L)), b, c, d, .own (lD T), .dat (cD h), .dat (cD x)]) :=
    map_of (f2_of (map_of (cons_of (map_of (cons_of rfl (cons_of rfl rfl)) e1) (cons_of (map_of (cons_of rfl (cons_of rfl rfl)) e2) rfl)) rfl) rfl rfl) rfl
  rw [if_b (b := decide (x ∈ L)) (env1 := [a, .dat (.dict []), .own (.dict (mkD L)), b, c, d, .own (lD T), .dat (cD h), .dat (cD x)])]
  · unfold fl1
    dsimp only
    by_cases hx : x ∈ L
    · rw [if_pos hx, decide_eq_true hx]
      show sSeq (sExpr (fPopK 2 (fName 8))) (sMeth 6 (fName 8) cAppend) _ = _
      have p : fPopK 2 (fName 8) [a, .dat (.dict []), .own (.dict (mkD L)), b, c, d, .own (lD T), .dat (cD h), .dat (cD x)] = some (.bool true, [a, .dat (.dict []), .own (.dict (mkD (L.filter fun y => decide (y ≠ x)))), b, c, d, .own (lD T), .dat (cD h), .dat (cD x)]) := by
        show (match atD (mkD L) (kC x) with | some d => some (d, _) | none => none) = _
        rw [atD_mk, if_pos hx]
        have hd := delD_mk x L
        show some ((.bool true : D), [a, .dat (.dict []), .own (.dict (delD (mkD L) (kC x))), b, c, d, .own (lD T), .dat (cD h), .dat (cD x)]) = _
        rw [hd]
      have q : sExpr (fPopK 2 (fName 8)) [a, .dat (.dict []), .own (.dict (mkD L)), b, c, d, .own (lD T), .dat (cD h), .dat (cD x)] = some (.nx [a, .dat (.dict []), .own (.dict (mkD (L.filter fun y => decide (y ≠ x)))), b, c, d, .own (lD T), .dat (cD h), .dat (cD x)]) := by
        unfold sExpr
        rw [p]
      have hc : cAppend (cD x) (T.map cD) = some ((T ++ [x]).map cD) := by
        unfold cAppend
        rw [if_pos (by rw [List.length_map]; exact L2.small1000 (by omega)), List.map_append]; rfl
      exact (seq_nx q).trans (meth_of (i := 6) (env1 := [a, .dat (.dict []), .own (.dict (mkD (L.filter fun y => decide (y ≠ x)))), b, c, d, .own (lD T), .dat (cD h), .dat (cD x)]) (a := cD x) (ds := T.map cD) rfl rfl rfl hc)
    · rw [if_neg hx, decide_eq_false hx]; rfl
  · rw [andB_b t1]
    cases decide (x ∈ L)
    · rfl
    · exact t2
theorem fl1_len (L T : List Cell) (c : Cell) : (fl1 (L, T) c).2.length ≤ T.length + 1 := by
  unfold fl1; dsimp only
  split <;> simp
theorem e_lates {h : Cell} {a b c d : Slot} : ∀ (cs L T : List Cell) (s : Slot), T.length + cs.length < 1000 → ∃ s', loopD (gSet 8) IFB (cs.map cD) [a, .dat (.dict []), .own (.dict (mkD L)), b, c, d, .own (lD T), .dat (cD h), s] =
    some (.nx [a, .dat (.dict []), .own (.dict (mkD (flN (L, T) cs).1)), b, c, d, .own (lD (flN (L, T) cs).2), .dat (cD h), s'])
  | [], L, T, s, _ => ⟨s, rfl⟩
  | x :: cs, L, T, s, hl => by
    have hl2 := fl1_len L T x
    rw [List.length_cons] at hl
    obtain ⟨s', e⟩ := e_lates (h := h) (a := a) (b := b) (c := c) (d := d) cs (fl1 (L, T) x).1 (fl1 (L, T) x).2 (.dat (cD x)) (by omega)
    refine ⟨s', ?_⟩
    rw [List.map_cons]
    unfold loopD
    rw [show gSet 8 (cD x) [a, .dat (.dict []), .own (.dict (mkD L)), b, c, d, .own (lD T), .dat (cD h), s] = some [a, .dat (.dict []), .own (.dict (mkD L)), b, c, d, .own (lD T), .dat (cD h), .dat (cD x)] from rfl]
    dsimp only
    rw [e_late (by omega)]
    exact e
def WBODY : FS := sSeq (sAsg (fPop 6) (gSet 7))
    (sSeq (sMeth 5 (fName 7) cAppend)
    (sFor (fMap (fCall 1 [] (fCons (fName 7) fNil) F_beside) asL) (gSet 8) IFB))
theorem e_wbody {L T P : List Cell} {h : Cell} {a b c s7 s8 : Slot} (hT : T.length < 900) (hP : P.length < 900) : ∃ s8', WBODY [a, .dat (.dict []), .own (.dict (mkD L)), b, c, .own (lD P), .own (lD (T ++ [h])), s7, s8] =
    some (.nx [a, .dat (.dict []), .own (.dict (mkD (flN (L, T) (besC h)).1)), b, c, .own (lD (P ++ [h])), .own (lD (flN (L, T) (besC h)).2), .dat (cD h), s8']) := by
  have p : fPop 6 [a, .dat (.dict []), .own (.dict (mkD L)), b, c, .own (lD P), .own (lD (T ++ [h])), s7, s8] = some (cD h, [a, .dat (.dict []), .own (.dict (mkD L)), b, c, .own (lD P), .own (lD T), s7, s8]) := by
    show (match ((T ++ [h]).map cD)[((T ++ [h]).map cD).length - 1]? with | some d => some (d, _) | none => none) = _
    have : ((T ++ [h]).map cD)[((T ++ [h]).map cD).length - 1]? = some (cD h) := by simp
    rw [this]
    dsimp only
    rw [show ((T ++ [h]).map cD).dropLast = T.map cD by simp]; rfl
  have hc : cAppend (cD h) (P.map cD) = some ((P ++ [h]).map cD) := by
    unfold cAppend
    rw [if_pos (by rw [List.length_map]; exact L2.small1000 (by omega)), List.map_append]; rfl
  obtain ⟨s8', e⟩ := e_lates (h := h) (a := a) (b := b) (c := c) (d := .own (lD (P ++ [h]))) (besC h) L T s8 (by simp [besC]; omega)
  refine ⟨s8', ?_⟩
  unfold WBODY
  refine (seq_nx (asg_of p rfl)).trans ((seq_nx (meth_of (i := 5) (env1 := [a, .dat (.dict []), .own (.dict (mkD L)), b, c, .own (lD P), .own (lD T), .dat (cD h), s8]) (a := cD h) (ds := P.map cD) rfl rfl rfl hc)).trans ?_)
  exact for_of (ds := (besC h).map cD) (map_of (a := lD (besC h)) (call_of (ds := [cD h]) rfl rfl (e_beside h)) rfl) e
theorem e_flood {cells : List Cell} {a b c s7 s8 : Slot} {c0 : Cell} {L0 : List Cell} (hn : cells.Nodup) (hc : Conn cells) (hl : cells.length ≤ 400) (hp : (c0 :: L0).Perm cells) : ∃ s7' s8' P, P.Perm cells ∧
    whileD (fMap (f2 (fLook 6) (fMap fNil gList) neD) asB) WBODY fuel [a, .dat (.dict []), .own (.dict (mkD L0)), b, c, .own (lD []), .own (lD [c0]), s7, s8] = some (.nx [a, .dat (.dict []), .own (.dict (mkD [])), b, c, .own (lD P), .own (lD []), s7', s8']) := by
  have W := whileD_inv (t := fMap (f2 (fLook 6) (fMap fNil gList) neD) asB) (bd := WBODY)
    (fun m env => ∃ P T L s7 s8, env = [a, .dat (.dict []), .own (.dict (mkD L)), b, c, .own (lD P), .own (lD T), s7, s8] ∧ (P ++ T ++ L).Perm cells ∧ (∀ p ∈ P, ∀ q ∈ besC p, q ∈ cells → q ∈ P ∨ q ∈ T) ∧ P ++ T ≠ [] ∧ m = 2 * L.length + T.length)
    (fun env => ∃ s7 s8 P, P.Perm cells ∧ env = [a, .dat (.dict []), .own (.dict (mkD [])), b, c, .own (lD P), .own (lD []), s7, s8])
    (by
      rintro m env ⟨P, T, L, s7, s8, rfl, pm, cl, ne, rfl⟩
      have tt : fMap (f2 (fLook 6) (fMap fNil gList) neD) asB [a, .dat (.dict []), .own (.dict (mkD L)), b, c, .own (lD P), .own (lD T), s7, s8] = some (!decide (T = []), [a, .dat (.dict []), .own (.dict (mkD L)), b, c, .own (lD P), .own (lD T), s7, s8]) := by
        refine map_of (a := .bool (!decide (T = []))) (f2_of (a := lD T) (b := lD []) rfl rfl ?_) rfl
        unfold neD
        rw [if_pos ⟨sh_lD T, sh_lD []⟩, eqv_lD]
      have len := pm.length_eq
      simp only [List.length_append] at len
      by_cases hT : T = []
      · subst hT
        left
        rw [decide_eq_true rfl] at tt
        refine ⟨_, tt, s7, s8, P, ?_⟩
        rw [List.append_nil] at pm ne
        have all : ∀ q ∈ cells, q ∈ P := hc.2 P (fun t ht => pm.mem_iff.mp (List.mem_append_left _ ht)) ne (fun t ht q hq hql => by
          rcases cl t ht q hq hql with h | h
          · exact h
          · cases h)
        have hL : L = [] := by
          cases L with
          | nil => rfl
          | cons x L =>
            exfalso
            have nd := pm.nodup_iff.mpr hn
            have hx : x ∈ P := all x (pm.mem_iff.mp (by simp))
            exact (List.nodup_append.mp nd).2.2 x hx x List.mem_cons_self rfl
        subst hL
        rw [List.append_nil] at pm
        exact ⟨pm, rfl⟩
      · right
        rw [decide_eq_false hT] at tt
        obtain ⟨T', h, rfl⟩ : ∃ T' h, T = T' ++ [h] := ⟨T.dropLast, T.getLast hT, (List.dropLast_concat_getLast hT).symm⟩
        simp only [List.length_append, List.length_singleton] at len
        obtain ⟨s8', e⟩ := e_wbody (L := L) (T := T') (P := P) (h := h) (a := a) (b := b) (c := c) (s7 := s7) (s8 := s8) (by omega) (by omega)
        have pm2 : (P ++ [h] ++ T' ++ L).Perm cells := by
          refine List.Perm.trans ?_ pm
          refine List.Perm.append_right _ ?_
          rw [List.append_assoc]
          exact List.Perm.append_left _ List.perm_append_comm
        have nd2 := pm2.nodup_iff.mpr hn
        obtain ⟨b1, b2, b3, b4, b5⟩ := flN_inv (besC h) (P := P ++ [h]) (L := L) (T := T') nd2
        refine ⟨_, _, 2 * (flN (L, T') (besC h)).1.length + (flN (L, T') (besC h)).2.length, tt, .inl e, ?_, P ++ [h], _, _, _, s8', rfl, b1.trans pm2, fun p hp q hq hql => ?_, by simp, rfl⟩
        · rw [List.length_append, List.length_singleton]; omega
        · have hin : q ∈ P ++ [h] ++ (flN (L, T') (besC h)).2 ++ (flN (L, T') (besC h)).1 := (b1.trans pm2).mem_iff.mpr hql
          rcases List.mem_append.mp hp with hp | hp
          · rcases cl p hp q hq hql with z | z
            · exact .inl (List.mem_append_left _ z)
            · rcases List.mem_append.mp z with z | z
              · exact .inr (b4 q z)
              · exact .inl (List.mem_append_right _ z)
          · have : p = h := by simpa using hp
            subst this
            rcases List.mem_append.mp hin with z | z
            · rcases List.mem_append.mp z with z | z
              · exact .inl z
              · exact .inr z
            · exact absurd z (b3 q hq))
  have len := hp.length_eq
  rw [List.length_cons] at len
  obtain ⟨env', h1, s7', s8', P, h2, rfl⟩ := W fuel (2 * L0.length + 1) _ ⟨[], [c0], L0, s7, s8, rfl, by simpa using hp, (fun p hp => nomatch hp), by simp, by simp⟩ (fuel_big (by omega))
  exact ⟨s7', s8', P, h2, h1⟩

def FBODY : FS := sIf (fMap (f2 (fName 4) (fLook 2) (inA fun c => c)) asB) (sSeq (sPar 5 6 true true (fMap fNil gList) (fMap (fCons (fName 4) fNil) gList))
    (sSeq (sExpr (fPopK 2 (fName 4)))
    (sSeq (whileD (fMap (f2 (fLook 6) (fMap fNil gList) neD) asB) WBODY fuel)
    (sMeth 3 (fMap (fCons (fLook 5) fNil) gSorted) cAppend)))) sNil
theorem e_fbody0 {x : Cell} {a b c s5 s6 s7 s8 : Slot} : FBODY [a, b, .own (.dict (mkD [])), c, .dat (cD x), s5, s6, s7, s8] = some (.nx [a, b, .own (.dict (mkD [])), c, .dat (cD x), s5, s6, s7, s8]) := by rfl
theorem e_fbody {cells L0 : List Cell} {c0 : Cell} {a s5 s6 s7 s8 : Slot} (hn : cells.Nodup) (hc : Conn cells) (hl : cells.length ≤ 400) (hc0 : c0 ∈ cells) : ∃ s5' s6' s7' s8',
    FBODY [a, .dat (.dict []), .own (.dict (mkD cells)), .own (llD []), .dat (cD c0), s5, s6, s7, s8] = some (.nx [a, .dat (.dict []), .own (.dict (mkD [])), .own (llD [sortC cells]), .dat (cD c0), s5', s6', s7', s8']) := by
  have pm : (c0 :: cells.filter fun x => decide (x ≠ c0)).Perm cells := by
    have e : cells.filter (fun x => decide (x ≠ c0)) = cells.erase c0 := by
      rw [List.Nodup.erase_eq_filter hn]
      refine List.filter_congr fun x _ => ?_
      by_cases z : x = c0 <;> simp [z]
    rw [e]
    exact (List.perm_cons_erase hc0).symm
  obtain ⟨s7', s8', P, hP, hw⟩ := e_flood (a := a) (b := .own (llD [])) (c := .dat (cD c0)) (s7 := s7) (s8 := s8) hn hc hl pm
  have p : fPopK 2 (fName 4) [a, .dat (.dict []), .own (.dict (mkD cells)), .own (llD []), .dat (cD c0), .own (lD []), .own (lD [c0]), s7, s8] = some (.bool true, [a, .dat (.dict []), .own (.dict (mkD (cells.filter fun x => decide (x ≠ c0)))), .own (llD []), .dat (cD c0), .own (lD []), .own (lD [c0]), s7, s8]) := by
    show (match atD (mkD cells) (kC c0) with | some d => some (d, _) | none => none) = _
    rw [atD_mk, if_pos hc0]
    have hd := delD_mk c0 cells
    show some ((.bool true : D), [a, .dat (.dict []), .own (.dict (delD (mkD cells) (kC c0))), .own (llD []), .dat (cD c0), .own (lD []), .own (lD [c0]), s7, s8]) = _
    rw [hd]
  have q : sExpr (fPopK 2 (fName 4)) [a, .dat (.dict []), .own (.dict (mkD cells)), .own (llD []), .dat (cD c0), .own (lD []), .own (lD [c0]), s7, s8] = some (.nx [a, .dat (.dict []), .own (.dict (mkD (cells.filter fun x => decide (x ≠ c0)))), .own (llD []), .dat (cD c0), .own (lD []), .own (lD [c0]), s7, s8]) := by
    unfold sExpr
    rw [p]
  have t : fMap (f2 (fName 4) (fLook 2) (inA fun c => c)) asB [a, .dat (.dict []), .own (.dict (mkD cells)), .own (llD []), .dat (cD c0), s5, s6, s7, s8] = some (true, [a, .dat (.dict []), .own (.dict (mkD cells)), .own (llD []), .dat (cD c0), s5, s6, s7, s8]) := by
    refine map_of (a := .bool true) (f2_of rfl rfl ((inA_mk (fun c => c) c0 cells).trans ?_)) rfl
    rw [decide_eq_true hc0]
  have so : gSorted [lD P] = some (lD (sortC cells)) := by
    unfold gSorted lD
    dsimp only
    rw [sortD_cD _ (szl (by rw [hP.length_eq]; omega)), sortC_eq hP]; rfl
  refine ⟨.own (lD P), .own (lD []), s7', s8', ?_⟩
  unfold FBODY
  rw [if_t t]
  refine (seq_nx (env1 := [a, .dat (.dict []), .own (.dict (mkD cells)), .own (llD []), .dat (cD c0), .own (lD []), .own (lD [c0]), s7, s8]) rfl).trans ((seq_nx q).trans ((seq_nx hw).trans ?_))
  exact meth_of (i := 3) (env1 := [a, .dat (.dict []), .own (.dict (mkD [])), .own (llD []), .dat (cD c0), .own (lD P), .own (lD []), s7', s8']) (a := lD (sortC cells)) (ds := []) (es := [lD (sortC cells)]) rfl (map_of (cons_of rfl rfl) so) rfl rfl
theorem e_parts {cells : List Cell} (hn : cells.Nodup) (hc : Conn cells) (hl : cells.length ≤ 400) : ∃ env, F_parts_there [.dat (lD cells), .dat (.dict [])] = some (llD [sortC cells], env) := by
  have hl' : cells.length ≤ sizeLine := szl (by omega)
  have r1 : fComp [4] (fMap (fName 0) asL) (gSet 4) fYes (fMap (fCons (fName 4) (fCons (fC (.bool true)) fNil)) gTuple) [.dat (lD cells), .dat (.dict []), .un, .un, .un, .un, .un, .un, .un] = some (.list (cells.map fun c => PyData.tuple [cD c, .bool true]), [.dat (lD cells), .dat (.dict []), .un, .un, .un, .un, .un, .un, .un]) :=
    fComp_all cD cells (fun c => PyData.tuple [cD c, .bool true]) rfl hl' fun c _ => ⟨_, _, rfl, rfl⟩
  have s1 : sPar 2 3 true true (fMap (fCons (fComp [4] (fMap (fName 0) asL) (gSet 4) fYes (fMap (fCons (fName 4) (fCons (fC (.bool true)) fNil)) gTuple)) fNil) gDict) (fMap fNil gList) [.dat (lD cells), .dat (.dict []), .un, .un, .un, .un, .un, .un, .un] = some (.nx [.dat (lD cells), .dat (.dict []), .own (.dict (mkD cells)), .own (llD []), .un, .un, .un, .un, .un]) := by
    unfold sPar
    rw [map_of (cons_of r1 rfl) (gDict_mk hn hl')]; rfl
  have so : gSorted [lD cells] = some (lD (sortC cells)) := by
    unfold gSorted lD
    dsimp only
    rw [sortD_cD _ hl']; rfl
  have it : fMap (fMap (fCons (fName 0) fNil) gSorted) asL [.dat (lD cells), .dat (.dict []), .own (.dict (mkD cells)), .own (llD []), .un, .un, .un, .un, .un] = some ((sortC cells).map cD, [.dat (lD cells), .dat (.dict []), .own (.dict (mkD cells)), .own (llD []), .un, .un, .un, .un, .un]) :=
    map_of (map_of (cons_of rfl rfl) so) rfl
  have LOOP := sFor_inv (g := gSet 4) (bd := FBODY) cD (sortC cells) (fun k env => (k = 0 ∧ env = [.dat (lD cells), .dat (.dict []), .own (.dict (mkD cells)), .own (llD []), .un, .un, .un, .un, .un]) ∨ (0 < k ∧ ∃ s4 s5 s6 s7 s8, env = [.dat (lD cells), .dat (.dict []), .own (.dict (mkD [])), .own (llD [sortC cells]), s4, s5, s6, s7, s8])) it (.inl ⟨rfl, rfl⟩)
  refine Exists.elim (LOOP ?_) ?_
  · rintro i x env hi (⟨rfl, rfl⟩ | ⟨hk, s4, s5, s6, s7, s8, rfl⟩)
    · have hx : x ∈ cells := (sortC_perm cells).mem_iff.mp (List.mem_of_getElem? hi)
      obtain ⟨s5', s6', s7', s8', e⟩ := e_fbody (L0 := []) (c0 := x) (a := .dat (lD cells)) (s5 := .un) (s6 := .un) (s7 := .un) (s8 := .un) hn hc hl hx
      exact ⟨_, _, rfl, .inl e, .inr ⟨by omega, _, _, _, _, _, rfl⟩⟩
    · exact ⟨_, _, rfl, .inl e_fbody0, .inr ⟨by omega, _, _, _, _, _, rfl⟩⟩
  · rintro env' ⟨h1, h2⟩
    have pos : 0 < (sortC cells).length := by
      rw [(sortC_perm cells).length_eq]
      exact List.length_pos_iff.mpr hc.1
    rcases h2 with ⟨z, _⟩ | ⟨_, s4, s5, s6, s7, s8, rfl⟩
    · omega
    · exact ⟨_, run_rt ((seq_nx s1).trans ((seq_nx h1).trans (ret_of (env1 := [.dat (lD cells), .dat (.dict []), .own (.dict (mkD [])), .dat (llD [sortC cells]), s4, s5, s6, s7, s8]) rfl)))⟩
end K65


set_option Elab.async false
set_option linter.all false
set_option autoImplicit false
set_option maxRecDepth 100000
set_option maxHeartbeats 1000000
namespace K65
open PySem Vl Fl

structure Floor (fl : List Cell) : Prop where
  inc : fl.Pairwise (fun a b => ltC a b = true)
  pos : ∀ c ∈ fl, 0 ≤ c.1 ∧ 0 ≤ c.2
  conn : Conn fl
  len : fl.length ≤ 400
theorem ltC_ne {a b : Cell} (h : ltC a b = true) : a ≠ b := by
  rintro rfl
  rw [ltC_iff] at h
  omega
theorem ltC_le {a b : Cell} (h : ltC a b = true) : leC a b = true := by
  rw [ltC_iff] at h
  rw [leC_iff]
  omega
theorem Floor.nodup {fl : List Cell} (h : Floor fl) : fl.Nodup := h.inc.imp fun h => ltC_ne h
theorem Floor.sorted {fl : List Cell} (h : Floor fl) : sortC fl = fl := sortC_id (h.inc.imp fun h => ltC_le h)
/-- cells that hang together, none twice, sorted: a floor -/
theorem Floor.of {l : List Cell} (hn : l.Nodup) (hp : ∀ c ∈ l, 0 ≤ c.1 ∧ 0 ≤ c.2) (hc : Conn l) (hl : l.length ≤ 400) : Floor (sortC l) := by
  have pm := sortC_perm l
  refine ⟨?_, fun c hc => hp c (pm.mem_iff.mp hc), hc.iff fun c => pm.mem_iff.symm, by rw [pm.length_eq]; exact hl⟩
  have h1 : (sortC l).Pairwise (fun a b => leC a b = true) := isort_pairwise leC_total _
  have h2 : (sortC l).Nodup := pm.nodup_iff.mpr hn
  refine (h1.and h2).imp fun {a b} ⟨h1, h2⟩ => ?_
  rw [leC_iff] at h1
  rw [ltC_iff]
  have : ¬ (a.1 = b.1 ∧ a.2 = b.2) := fun z => h2 (Prod.ext z.1 z.2)
  omega
theorem zipD_map : ∀ (l m : List Cell), zipD (l.map cD) (m.map cD) = (l.zip m).map fun p => PyData.tuple [cD p.1, cD p.2]
  | [], _ => by simp [zipD]
  | _ :: _, [] => by simp [zipD]
  | a :: l, b :: m => by
    rw [List.map_cons, List.map_cons, zipD, zipD_map l m]; rfl
theorem bools_map {α : Type} (f : α → Bool) : ∀ l : List α, boolsOf (l.map fun a => PyData.bool (f a)) = some (l.map f)
  | [] => rfl
  | a :: l => by
    rw [List.map_cons]
    unfold boolsOf
    rw [bools_map f l]; rfl
theorem gAll_map {α : Type} (f : α → Bool) (l : List α) : gAll [.list (l.map fun a => PyData.bool (f a))] = some (.bool (l.all f)) := by
  unfold gAll
  dsimp only
  rw [bools_map]
  simp
theorem cut1 {α : Type} (xs : List α) : cutL xs (some 1) none = xs.drop 1 := by
  unfold cutL
  have e1 : HT.sIx xs.length 0 (some 1) = min 1 xs.length := HT.sIx_nat _ _ 1
  have e2 : HT.sIx xs.length xs.length none = xs.length := rfl
  rw [e1, e2]
  cases xs with
  | nil => rfl
  | cons x xs =>
    have : min 1 (x :: xs).length = 1 := by simp
    rw [this]
    simp
theorem ix0 (d : D) (ds : List D) : ixD (.list (d :: ds)) (.int 0) = some d := by
  unfold ixD
  dsimp only
  simp [L2.atI, L2.ixN]
theorem zip_all : ∀ fl : List Cell, fl.Pairwise (fun a b => ltC a b = true) → (fl.zip (fl.drop 1)).all (fun p => ltC p.1 p.2) = true
  | [], _ => rfl
  | [a], _ => rfl
  | a :: b :: fl, h => by
    rw [List.pairwise_cons] at h
    have ih := zip_all (b :: fl) h.2
    simp only [List.drop_succ_cons, List.drop_zero, List.zip_cons_cons, List.all_cons] at ih ⊢
    rw [h.1 b List.mem_cons_self, Bool.true_and]
    exact ih
theorem lt_data (a b : Cell) : ltD (cD a) (cD b) = some (.bool (ltC a b)) := by
  unfold ltD
  rw [if_pos ⟨⟨sh_cD a, sh_cD b⟩, al_cD a b, rfl⟩, lt_cD]
theorem e_isfloor {fl : List Cell} (h : Floor fl) : ∃ env, F_is_floor [.dat (lD fl)] = some (.bool true, env) := by
  have hl : fl.length ≤ sizeLine := szl (by have := h.len; omega)
  obtain ⟨env0, hp⟩ := e_parts h.nodup h.conn h.len
  have r1 : fComp [1] (fMap (fName 0) asL) (gSet 1) fYes (fCall 1 [] (fCons (fName 1) fNil) F_is_cell) [.dat (lD fl), .un, .un, .un] = some (.list (fl.map fun c => PyData.bool (okC c)), [.dat (lD fl), .un, .un, .un]) :=
    fComp_all cD fl (fun c => PyData.bool (okC c)) rfl hl fun c _ => ⟨_, _, rfl, call_of (ds := [cD c]) rfl rfl (e_cell c)⟩
  have ok : fl.all okC = true := by
    rw [List.all_eq_true]
    intro c hc
    have := h.pos c hc
    unfold okC
    simp [this]
  have t0 : fMap (f2 (fName 0) (fMap fNil gList) eqD) asB [.dat (lD fl), .un, .un, .un] = some (false, [.dat (lD fl), .un, .un, .un]) := by
    refine map_of (a := .bool false) (f2_of (a := lD fl) (b := lD []) rfl rfl ?_) rfl
    unfold eqD
    rw [if_pos ⟨sh_lD fl, sh_lD []⟩, eqv_lD, decide_eq_false h.conn.1]
  have t1 : fNot (fMap (fMap (fCons (fComp [1] (fMap (fName 0) asL) (gSet 1) fYes (fCall 1 [] (fCons (fName 1) fNil) F_is_cell)) fNil) gAll) asB) [.dat (lD fl), .un, .un, .un] = some (false, [.dat (lD fl), .un, .un, .un]) := by
    refine map_of (a := true) (map_of (a := .bool true) (map_of (cons_of r1 rfl) ((gAll_map okC fl).trans ?_)) rfl) rfl
    rw [ok]
  have r2 : fComp [2, 3] (fMap (fCons (fName 0) (fCons (fSlice (fName 0) (fMap (fC (.int 1)) asPart) fNoPart) fNil)) asZip) (gUnp (gsCons (gSet 2) (gsCons (gSet 3) gsNil)) 2) fYes (f2 (fName 2) (fName 3) ltD) [.dat (lD fl), .un, .un, .un] = some (.list ((fl.zip (fl.drop 1)).map fun p => PyData.bool (ltC p.1 p.2)), [.dat (lD fl), .un, .un, .un]) := by
    refine fComp_all (fun p : Cell × Cell => PyData.tuple [cD p.1, cD p.2]) (fl.zip (fl.drop 1)) (fun p => PyData.bool (ltC p.1 p.2)) ?_ ?_ fun p _ => ⟨_, _, rfl, f2_of rfl rfl (lt_data p.1 p.2)⟩
    · have : asZip [lD fl, .list (cutL (fl.map cD) (some 1) none)] = some ((fl.zip (fl.drop 1)).map fun p : Cell × Cell => PyData.tuple [cD p.1, cD p.2]) := by
        rw [cut1, ← List.map_drop]
        unfold lD asZip
        dsimp only
        rw [zipD_map]
      exact map_of (cons_of rfl (cons_of rfl rfl)) this
    · refine Nat.le_trans ?_ hl
      rw [List.length_zip]
      omega
  have a1 : fMap (fCons (fComp [2, 3] (fMap (fCons (fName 0) (fCons (fSlice (fName 0) (fMap (fC (.int 1)) asPart) fNoPart) fNil)) asZip) (gUnp (gsCons (gSet 2) (gsCons (gSet 3) gsNil)) 2) fYes (f2 (fName 2) (fName 3) ltD)) fNil) gAll [.dat (lD fl), .un, .un, .un] = some (.bool true, [.dat (lD fl), .un, .un, .un]) := by
    refine map_of (cons_of r2 rfl) ((gAll_map (fun p : Cell × Cell => ltC p.1 p.2) _).trans ?_)
    rw [zip_all fl h.inc]
  have a2 : f2 (fMap (fCons (fCall 2 [] (fCons (fName 0) (fCons fDNew fNil)) F_parts_there) fNil) gLen) (fC (.int 1)) eqD [.dat (lD fl), .un, .un, .un] = some (.bool true, [.dat (lD fl), .un, .un, .un]) :=
    f2_of (map_of (cons_of (call_of (ds := [lD fl, .dict []]) rfl rfl hp) rfl) rfl) rfl rfl
  refine ⟨_, run_rt ((seq_nx (env1 := [.dat (lD fl), .un, .un, .un]) ?_).trans (ret_of (env1 := [.dat (lD fl), .un, .un, .un]) ?_))⟩
  · refine (if_f (env1 := [.dat (lD fl), .un, .un, .un]) ?_).trans rfl
    rw [orB_b (b := false) (env1 := [.dat (lD fl), .un, .un, .un]) rfl]
    show fOrB _ _ _ = _
    rw [orB_b t0]
    exact t1
  · rw [and_b a1]
    exact a2
theorem e_check {fl : List Cell} (h : Floor fl) : ∃ env, F_check_floor [.dat (lD fl)] = some (.none, env) := by
  obtain ⟨env, e⟩ := e_isfloor h
  refine ⟨_, run_nx (env := [.dat (lD fl)]) ?_⟩
  refine (if_f (env1 := [.dat (lD fl)]) ?_).trans rfl
  exact map_of (map_of (call_of (ds := [lD fl]) rfl rfl e) rfl) rfl
theorem e_floorforms {fl : List Cell} (h : Floor fl) : ∃ env, F_floor_forms [.dat (lD fl)] = some (llD (formsL fl), env) := by
  obtain ⟨env, e⟩ := e_check h
  obtain ⟨env2, e2⟩ := e_forms h.conn.1 (by have := h.len; omega)
  refine ⟨_, run_rt ((seq_nx (env1 := [.dat (lD fl)]) ?_).trans (ret_of (call_of (ds := [lD fl]) rfl rfl e2)))⟩
  unfold sExpr
  rw [call_of (env1 := [.dat (lD fl)]) (ds := [lD fl]) (dds := []) (n := 1) rfl rfl e]
theorem e_alike {fl gl : List Cell} (h : Floor fl) (k : Floor gl) (h1 : (formsL fl) ≠ []) (k1 : formsL gl ≠ []) : ∃ env, F_are_floors_alike [.dat (lD fl), .dat (lD gl)] = some (.bool (decide ((formsL fl).head? = (formsL gl).head?)), env) := by
  obtain ⟨env, e⟩ := e_check h
  obtain ⟨envg, eg⟩ := e_isfloor k
  obtain ⟨env2, e2⟩ := e_forms h.conn.1 (by have := h.len; omega)
  obtain ⟨env3, e3⟩ := e_forms k.conn.1 (by have := k.len; omega)
  obtain ⟨f, fs, hf⟩ : ∃ f fs, formsL fl = f :: fs := by
    cases q : formsL fl with
    | nil => exact absurd q h1
    | cons f fs => exact ⟨f, fs, rfl⟩
  obtain ⟨g, gs, hg⟩ : ∃ f fs, formsL gl = f :: fs := by
    cases q : formsL gl with
    | nil => exact absurd q k1
    | cons f fs => exact ⟨f, fs, rfl⟩
  rw [hf] at e2 ⊢
  rw [hg] at e3 ⊢
  refine ⟨_, run_rt ((seq_nx (env1 := [.dat (lD fl), .dat (lD gl)]) ?_).trans ((seq_nx (env1 := [.dat (lD fl), .dat (lD gl)]) ?_).trans (ret_of (f2_of (f2_of (call_of (ds := [lD fl]) rfl rfl e2) rfl (c := lD f) ?_) (f2_of (call_of (ds := [lD gl]) rfl rfl e3) rfl (c := lD g) ?_) ?_))))⟩
  · unfold sExpr
    rw [call_of (env1 := [.dat (lD fl), .dat (lD gl)]) (ds := [lD fl]) (dds := []) (n := 1) rfl rfl e]
  · refine (if_f (env1 := [.dat (lD fl), .dat (lD gl)]) ?_).trans rfl
    exact map_of (map_of (call_of (ds := [lD gl]) rfl rfl eg) rfl) rfl
  · exact ix0 _ _
  · exact ix0 _ _
  · unfold eqD
    rw [if_pos ⟨sh_lD f, sh_lD g⟩, eqv_lD]
    simp
end K65


set_option Elab.async false
set_option linter.all false
set_option autoImplicit false
set_option maxRecDepth 100000
set_option maxHeartbeats 1000000
namespace K65
open PySem Vl Fl

/-! ### draws -/
theorem log_lt {n k : Nat} (h : n < 2 ^ k) (hk : 0 < k) : n.log2 < k := by
  by_cases h0 : n = 0
  · subst h0; simpa using hk
  · exact (Nat.log2_lt h0).mpr h
theorem mul_ok {i j : Int} (hi : i.natAbs < 2 ^ 250) (hj : j.natAbs < 2 ^ 250) : mulA (.int i) (.int j) = some (.int (i * j)) := by
  have h1 := log_lt hi (by omega)
  have h2 := log_lt hj (by omega)
  show (if decide (i.natAbs.log2 + j.natAbs.log2 < 1000000) = true then _ else _) = _
  rw [if_pos (decide_eq_true (by omega))]
theorem mul_nat {i j : Int} (h0 : 0 ≤ i) (h1 : i < 2 ^ 240) (k0 : 0 ≤ j) (k1 : j < 2 ^ 240) : mulA (.int i) (.int j) = some (.int (i * j)) := by
  have e1 : (2 : Nat) ^ 240 ≤ 2 ^ 250 := Nat.pow_le_pow_right (by omega) (by omega)
  have a1 : i.natAbs < 2 ^ 240 := by
    have : ((i.natAbs : Nat) : Int) < ((2 ^ 240 : Nat) : Int) := by rw [Int.natAbs_of_nonneg h0]; exact h1
    exact Int.ofNat_lt.mp this
  have a2 : j.natAbs < 2 ^ 240 := by
    have : ((j.natAbs : Nat) : Int) < ((2 ^ 240 : Nat) : Int) := by rw [Int.natAbs_of_nonneg k0]; exact k1
    exact Int.ofNat_lt.mp this
  exact mul_ok (Nat.lt_of_lt_of_le a1 e1) (Nat.lt_of_lt_of_le a2 e1)
theorem big_of {i : Int} {n : Nat} (h : i < (2 : Int) ^ n) (hn : n ≤ 240) : i < (2 : Int) ^ 240 := by
  refine Int.lt_of_lt_of_le h ?_
  exact_mod_cast Nat.pow_le_pow_right (n := 2) (by omega) hn
theorem mul_lt {i j : Int} {a b : Nat} (h0 : 0 ≤ i) (h1 : i < 2 ^ a) (k0 : 0 ≤ j) (k1 : j < 2 ^ b) : 0 ≤ i * j ∧ i * j < 2 ^ (a + b) := by
  refine ⟨Int.mul_nonneg h0 k0, ?_⟩
  rw [Int.pow_add]
  rcases Int.lt_or_eq_of_le h0 with h | h
  · exact Int.lt_of_le_of_lt (Int.mul_le_mul_of_nonneg_left (Int.le_of_lt k1) h0) (Int.mul_lt_mul_of_pos_right h1 (Int.lt_of_le_of_lt k0 k1))
  · subst h
    rw [Int.zero_mul]
    exact Int.mul_pos (Int.lt_of_le_of_lt (Int.le_refl 0) h1) (Int.lt_of_le_of_lt k0 k1)
theorem e_mixed {sd n i : Int} (h1 : 0 ≤ sd) (h2 : sd < 2147483629) (h3 : 0 ≤ n) (h4 : n < 2 ^ 40) (h5 : 0 ≤ i) (h6 : i ≤ 62) : ∃ r env, F__law_mixed [.dat (.int sd), .dat (.int n), .dat (.int i)] = some (.int r, env) ∧ 0 ≤ r ∧ r < 2147483587 := by
  have p31 : (2 : Int) ^ 31 = 2147483648 := by decide
  have p6 : (2 : Int) ^ 6 = 64 := by decide
  have sd31 : sd < (2 : Int) ^ 31 := by omega
  have i6 : i < (2 : Int) ^ 6 := by omega
  have m1 : mulA (.int sd) (.int 69069) = some (.int (sd * 69069)) := mul_nat h1 (big_of sd31 (by omega)) (by omega) (by decide)
  have m2 : mulA (.int 104729) (.int n) = some (.int (104729 * n)) := mul_nat (by omega) (by decide) h3 (big_of h4 (by omega))
  have b2 := mul_lt (i := 104729) (j := n) (a := 17) (b := 40) (by omega) (by decide) h3 h4
  have m3 : mulA (.int (104729 * n)) (.int n) = some (.int (104729 * n * n)) := mul_nat b2.1 (big_of b2.2 (by omega)) h3 (big_of h4 (by omega))
  have m4 : mulA (.int 7919) (.int i) = some (.int (7919 * i)) := mul_nat (by omega) (by decide) h5 (big_of i6 (by omega))
  have y0 : ∀ z : Int, 0 ≤ z % 2147483647 ∧ z % 2147483647 < 2 ^ 31 := fun z => by
    rw [p31]
    omega
  have y1 : ∀ z : Int, 0 ≤ z % 2147483629 ∧ z % 2147483629 < 2 ^ 31 := fun z => by
    rw [p31]
    omega
  have q := y0 (sd * 69069 + 104729 * n * n + 7919 * i + n)
  have m5 := mul_nat q.1 (big_of q.2 (by omega)) q.1 (big_of q.2 (by omega))
  have q2 := y1 ((sd * 69069 + 104729 * n * n + 7919 * i + n) % 2147483647 * ((sd * 69069 + 104729 * n * n + 7919 * i + n) % 2147483647) + 40503)
  have m6 := mul_nat (j := 48271) q2.1 (big_of q2.2 (by omega)) (by omega) (by decide)
  refine ⟨_, _, run_rt ((seq_nx (asg_of (f2_of (f2_of rfl rfl m1) (f2_of (f2_of rfl rfl m2) rfl m3) rfl) rfl)).trans ((seq_nx (asg_of (f2_of (map_of (cons_of (f2_of (f2_of rfl (f2_of rfl rfl m4) rfl) rfl rfl) rfl) rfl) rfl rfl) rfl)).trans
    ((seq_nx (asg_of (f2_of (map_of (cons_of (f2_of (f2_of rfl rfl m5) rfl rfl) rfl) rfl) rfl rfl) rfl)).trans (ret_of (f2_of (map_of (cons_of (f2_of rfl rfl m6) rfl) rfl) rfl rfl))))), ?_, ?_⟩
  · omega
  · omega

theorem pget (a b c d : Int) : purseD [a, b, c, d] = .list [.int a, .int b, .int c, .int d] := rfl
def DBODY : FS := sSeq (sSub 0 (f2 (f2 (fLook 0) (fC (.int 2)) ixD) (fC (.int 1)) addD) (fC (.int 2)))
    (sAsg (f2 (f2 (fName 3) (fC (.int 2147483587)) mulA) (fCall 3 [] (fCons (f2 (fLook 0) (fC (.int 1)) ixD) (fCons (f2 (fLook 0) (fC (.int 2)) ixD) (fCons (f2 (fLook 0) (fC (.int 3)) ixD) fNil))) F__law_mixed) addD) (gSet 3))
theorem e_dbody {big sd n i fd : Int} {a b s : Slot} {k : Nat} (h1 : 0 ≤ sd) (h2 : sd < 2147483629) (h3 : 0 ≤ n) (h4 : n + 1 < 2 ^ 40) (h5 : 0 ≤ i) (h6 : i ≤ 62) (hf : 0 ≤ fd) (hf2 : fd < 2 ^ (32 * k)) (hk : k ≤ 5) :
    ∃ fd', DBODY [.own (purseD [big, sd, n, i]), a, b, .dat (.int fd), s] = some (.nx [.own (purseD [big, sd, n + 1, i]), a, b, .dat (.int fd'), s]) ∧ 0 ≤ fd' ∧ fd' < 2 ^ (32 * (k + 1)) := by
  obtain ⟨r, env, e, r0, r1⟩ := e_mixed h1 h2 (by omega : 0 ≤ n + 1) h4 h5 h6
  have m := mul_nat (j := 2147483587) hf (big_of hf2 (by omega)) (by omega) (by decide)
  refine ⟨fd * 2147483587 + r, ?_, by omega, ?_⟩
  · refine (seq_nx (env1 := [.own (purseD [big, sd, n + 1, i]), a, b, .dat (.int fd), s]) rfl).trans ?_
    exact asg_of (f2_of (f2_of rfl rfl m) (call_of (ds := [.int sd, .int (n + 1), .int i]) rfl rfl e) rfl) rfl
  · have : fd * 2147483587 + r < fd * 2147483587 + 2147483587 := by omega
    have e2 : (2 : Int) ^ (32 * (k + 1)) = 2 ^ (32 * k) * 4294967296 := by rw [show 32 * (k + 1) = 32 * k + 32 by omega, Int.pow_add]; rfl
    rw [e2]
    have : (fd + 1) * 2147483587 ≤ 2 ^ (32 * k) * 2147483587 := Int.mul_le_mul_of_nonneg_right (by omega) (by omega)
    have pos : (0 : Int) ≤ 2 ^ (32 * k) := by omega
    generalize (2 : Int) ^ (32 * k) = z at *
    omega
theorem e_draw {ms : List Int} {K many : Int} (h : PurseL K ms) (hK : K ≤ 1000000000) (h1 : 1 ≤ many) (h2 : many < 2 ^ 60) : ∃ r ms' env, F__law_draw [.own (purseD ms), .dat (.int many)] = some (.int r, .own (purseD ms') :: env) ∧ PurseL (K + 3) ms' ∧ 0 ≤ r ∧ r < many := by
  obtain ⟨big, sd, n, i, rfl, hb, hs, hn, hi⟩ := h
  by_cases hbig : 0 < big
  · refine ⟨big % many, [big / many, sd, n, i], _, run_rt ((seq_rt (d := .int (big % many)) (env1 := [.own (purseD [big / many, sd, n, i]), .dat (.int many), .dat (.int (big % many)), .un, .un]) ?_)), ⟨_, _, _, _, rfl, ⟨?_, ?_⟩, hs, ⟨hn.1, by omega⟩, hi⟩, Int.emod_nonneg _ (by omega), Int.emod_lt_of_pos _ (by omega)⟩
    · have t : fMap (f2 (f2 (fLook 0) (fC (.int 0)) ixD) (fC (.int 0)) (cmpI fun i j => decide (j < i))) asB [.own (purseD [big, sd, n, i]), .dat (.int many), .un, .un, .un] = some (true, [.own (purseD [big, sd, n, i]), .dat (.int many), .un, .un, .un]) := by
        have : fMap (f2 (f2 (fLook 0) (fC (.int 0)) ixD) (fC (.int 0)) (cmpI fun i j => decide (j < i))) asB [.own (purseD [big, sd, n, i]), .dat (.int many), .un, .un, .un] = some (decide (0 < big), [.own (purseD [big, sd, n, i]), .dat (.int many), .un, .un, .un]) := rfl
        rw [this, decide_eq_true hbig]
      have md : modD (.int big) (.int many) = some (.int (big % many)) := by
        show (if decide (0 < many) = true then _ else _) = _
        rw [if_pos (decide_eq_true (by omega))]
      have dv : fdivD (.int big) (.int many) = some (.int (big / many)) := by
        show (if (decide (0 < many) && decide (many.natAbs.log2 < 9000)) = true then _ else _) = _
        rw [if_pos]
        have : many.natAbs < 2 ^ 60 := by omega
        have := log_lt this (by omega)
        simp
        omega
      refine (if_t t).trans ((seq_nx (env1 := [.own (purseD [big, sd, n, i]), .dat (.int many), .dat (.int (big % many)), .un, .un]) (asg_of (f2_of (map_of (cons_of (f2_of rfl rfl rfl) rfl) rfl) rfl md) rfl)).trans ((seq_nx (env1 := [.own (purseD [big / many, sd, n, i]), .dat (.int many), .dat (.int (big % many)), .un, .un]) ?_).trans (ret_of rfl)))
      unfold sSub
      rw [f2_of (f2_of rfl rfl rfl) rfl dv]; rfl
    · exact Int.ediv_nonneg (by omega) (by omega)
    · exact Int.lt_of_le_of_lt (Int.ediv_le_self _ (by omega)) hb.2
  · have hb0 : big = 0 := by omega
    subst hb0
    have bits : Builtin.Int.intBits many ≤ 60 := by
      unfold Builtin.Int.intBits
      split
      · omega
      · have : many.natAbs < 2 ^ 60 := by omega
        have := log_lt this (by omega)
        omega
    have t : fMap (f2 (f2 (fLook 0) (fC (.int 0)) ixD) (fC (.int 0)) (cmpI fun i j => decide (j < i))) asB [.own (purseD [0, sd, n, i]), .dat (.int many), .un, .un, .un] = some (false, [.own (purseD [0, sd, n, i]), .dat (.int many), .un, .un, .un]) := rfl
    have dv : fdivD (.int (Builtin.Int.intBits many : Nat)) (.int 28) = some (.int ((Builtin.Int.intBits many : Nat) / 28)) := rfl
    have it : fMap (fCons (f2 (fC (.int 1)) (f2 (fBits (fName 1)) (fC (.int 28)) fdivD) addD) fNil) asR1 [.own (purseD [0, sd, n, i]), .dat (.int many), .un, .dat (.int 0), .un] = some (rangeD 0 (1 + ((Builtin.Int.intBits many : Nat) : Int) / 28).toNat, [.own (purseD [0, sd, n, i]), .dat (.int many), .un, .dat (.int 0), .un]) := by
      refine map_of (cons_of (f2_of rfl (f2_of rfl rfl dv) rfl) rfl) ?_
      unfold asR1
      dsimp only
      rw [if_pos ⟨by omega, by omega⟩]
    have LOOP := sFor_inv (g := gSet 4) (bd := DBODY) (fun k : Nat => PyData.int (0 + (k : Nat))) (List.range (1 + ((Builtin.Int.intBits many : Nat) : Int) / 28).toNat) (fun k env => ∃ fd s, env = [.own (purseD [0, sd, n + k, i]), .dat (.int many), .un, .dat (.int fd), s] ∧ 0 ≤ fd ∧ fd < 2 ^ (32 * k)) (fi := fMap (fCons (f2 (fC (.int 1)) (f2 (fBits (fName 1)) (fC (.int 28)) fdivD) addD) fNil) asR1) it ⟨0, .un, by simp, by omega, by simp⟩
    refine Exists.elim (LOOP ?_) ?_
    · rintro k x env hx ⟨fd, s, rfl, f0, f1⟩
      have hk := (List.getElem?_eq_some_iff.mp hx).1
      rw [List.length_range] at hk
      have p40 : (2 : Int) ^ 40 = 1099511627776 := by decide
      obtain ⟨fd', e, g0, g1⟩ := e_dbody (big := 0) (sd := sd) (n := n + k) (i := i) (a := .dat (.int many)) (b := .un) (s := .dat (.int (0 + (x : Nat)))) (k := k) hs.1 hs.2 (by omega) (by rw [p40]; omega) hi.1 hi.2 f0 f1 (by omega)
      exact ⟨_, _, rfl, .inl e, fd', _, by rw [show n + ((k + 1 : Nat) : Int) = n + k + 1 by omega], g0, g1⟩
    · rintro env' ⟨l1, fd, s, rfl, f0, f1⟩
      rw [List.length_range] at l1 f1
      have md : modD (.int fd) (.int many) = some (.int (fd % many)) := by
        show (if decide (0 < many) = true then _ else _) = _
        rw [if_pos (decide_eq_true (by omega))]
      refine ⟨fd % many, _, _, run_rt ((seq_nx (env1 := [.own (purseD [0, sd, n, i]), .dat (.int many), .un, .un, .un]) ((if_f t).trans rfl)).trans ((seq_nx (env1 := [.own (purseD [0, sd, n, i]), .dat (.int many), .un, .dat (.int 0), .un]) rfl).trans ((seq_nx l1).trans (ret_of (f2_of (map_of (cons_of rfl rfl) rfl) rfl md))))), ⟨_, _, _, _, rfl, hb, hs, ⟨by omega, by omega⟩, hi⟩, Int.emod_nonneg _ (by omega), Int.emod_lt_of_pos _ (by omega)⟩
end K65


set_option Elab.async false
set_option linter.all false
set_option autoImplicit false
set_option maxRecDepth 100000
set_option maxHeartbeats 1000000
namespace K65
open PySem Vl Fl

theorem ix_nat {ds : List D} {r : Int} (h0 : 0 ≤ r) (h1 : r < ds.length) : ∃ d, d ∈ ds ∧ ixD (.list ds) (.int r) = some d := by
  have hlt : r.toNat < ds.length := by omega
  refine ⟨ds[r.toNat], List.getElem_mem hlt, ?_⟩
  unfold ixD
  dsimp only
  unfold L2.atI L2.ixN
  rw [if_pos h0, if_pos h1]
  simp [hlt]
theorem d_draw {ms : List Int} {K many : Int} {rest : SE} {fm : FE D} (h : PurseL K ms) (hK : K ≤ 1000000000) (h1 : 1 ≤ many) (h2 : many < 2 ^ 60) (hm : fm (.own (purseD ms) :: rest) = some (.int many, .own (purseD ms) :: rest)) :
    ∃ r ms', fCall1 2 0 (fCons fm fNil) F__law_draw (.own (purseD ms) :: rest) = some (.int r, .own (purseD ms') :: rest) ∧ PurseL (K + 3) ms' ∧ 0 ≤ r ∧ r < many := by
  obtain ⟨r, ms', env, e, p, r0, r1⟩ := e_draw h hK h1 h2
  exact ⟨r, ms', call1_of (i := 0) (env1 := .own (purseD ms) :: rest) (ds := [.int many]) (d := purseD ms) (d' := purseD ms') rfl (cons_of hm rfl) rfl rfl e rfl, p, r0, r1⟩
theorem e_oneof {α : Type} (enc : α → D) {l : List α} {ms : List Int} {K : Int} (hne : l ≠ []) (hl : l.length ≤ 1000) (h : PurseL K ms) (hK : K ≤ 1000000000) :
    ∃ a, a ∈ l ∧ ∃ ms' env, F__law_one_of [.own (purseD ms), .dat (.list (l.map enc))] = some (enc a, .own (purseD ms') :: env) ∧ PurseL (K + 3) ms' := by
  have pos := List.length_pos_iff.mpr hne
  have p60 : (2 : Int) ^ 60 = 1152921504606846976 := by decide
  obtain ⟨r, ms', e, p, r0, r1⟩ := d_draw (rest := [.dat (.list (l.map enc))]) (fm := fMap (fCons (fName 1) fNil) gLen) (many := ((l.map enc).length : Nat)) h hK (by rw [List.length_map]; omega) (by rw [List.length_map, p60]; omega) rfl
  obtain ⟨d, hd, he⟩ := ix_nat (ds := l.map enc) r0 r1
  obtain ⟨a, ha, rfl⟩ := List.mem_map.mp hd
  exact ⟨a, ha, ms', _, run_rt (ret_of (f2_of rfl e he)), p⟩
theorem d_oneof {α : Type} (enc : α → D) {l : List α} {ms : List Int} {K : Int} {rest : SE} {fl : FE D} (hne : l ≠ []) (hl : l.length ≤ 1000) (h : PurseL K ms) (hK : K ≤ 1000000000) (hf : fl (.own (purseD ms) :: rest) = some (.list (l.map enc), .own (purseD ms) :: rest)) :
    ∃ a, a ∈ l ∧ ∃ ms', fCall1 2 0 (fCons fl fNil) F__law_one_of (.own (purseD ms) :: rest) = some (enc a, .own (purseD ms') :: rest) ∧ PurseL (K + 3) ms' := by
  obtain ⟨a, ha, ms', env, e, p⟩ := e_oneof enc hne hl h hK
  exact ⟨a, ha, ms', call1_of (i := 0) (env1 := .own (purseD ms) :: rest) (ds := [.list (l.map enc)]) (d := purseD ms) (d' := purseD ms') rfl (cons_of hf rfl) rfl rfl e rfl, p⟩
theorem d_oneofB {l : List Cell} {ms : List Int} {K : Int} {a b : Slot} {rest : SE} (hne : l ≠ []) (hl : l.length ≤ 1000) (h : PurseL K ms) (hK : K ≤ 1000000000) :
    ∃ c, c ∈ l ∧ ∃ ms', fCall1B 0 3 F__law_one_of (.own (purseD ms) :: a :: b :: .own (lD l) :: rest) = some (cD c, .own (purseD ms') :: a :: b :: .own (lD l) :: rest) ∧ PurseL (K + 3) ms' := by
  obtain ⟨c, hc, ms', env, e, p⟩ := e_oneof cD hne hl h hK
  refine ⟨c, hc, ms', ?_, p⟩
  have hp : ∃ w x y z, ms' = [w, x, y, z] := by
    obtain ⟨w, x, y, z, rfl, _⟩ := p
    exact ⟨w, x, y, z, rfl⟩
  obtain ⟨w, x, y, z, rfl⟩ := hp
  have e' : F__law_one_of [.own (purseD ms), .dat (lD l)] = some (cD c, .own (purseD [w, x, y, z]) :: env) := e
  show (match F__law_one_of [.own (purseD ms), .dat (lD l)] with | some (r, envF) => _ | none => none) = _
  rw [e']; rfl
theorem besL_mem {a b : Cell} : b ∈ besL a ↔ b ∈ besC a := by
  unfold besL besC
  simp only [List.mem_cons, List.mem_nil_iff, or_false]
  constructor <;> (rintro (h | h | h | h) <;> simp [h])
theorem chain_le {env : SE} {f g h : FE D} {a b c : Int} (h1 : f env = some (.int a, env)) (h2 : g env = some (.int b, env)) (h3 : h env = some (.int c, env)) :
    fChain f g h (cmpI fun i j => decide (i ≤ j)) ltD env = some (decide (a ≤ b) && decide (b < c), env) := by
  unfold fChain
  rw [h1]
  dsimp only
  rw [h2]
  dsimp only
  have e : cmpI (fun i j => decide (i ≤ j)) (.int a) (.int b) = some (.bool (decide (a ≤ b))) := rfl
  rw [e]
  have lt : ltD (.int b) (.int c) = some (.bool (decide (b < c))) := by
    unfold ltD
    rw [if_pos ⟨⟨rfl, rfl⟩, rfl, rfl⟩, PySem.W.dataLt_int]
  cases decide (a ≤ b)
  · rfl
  · dsimp only
    exact map_of (map_of h3 lt) rfl
/-- cells while they are drawn -/
structure Pre (w : Int) (k : Nat) (l : List Cell) : Prop where
  nd : l.Nodup
  ok : ∀ c ∈ l, (0 ≤ c.1 ∧ c.1 < w) ∧ 0 ≤ c.2 ∧ c.2 < w
  cn : Conn l
  len : l.length ≤ k
def GBODY : FS := sSeq (sAsg (fIf (fMap (f2 (fCall1 2 0 (fCons (fC (.int 3)) fNil) F__law_draw) (fC (.int 0)) (cmpI fun i j => decide (j < i))) asB) (fCall1B 0 3 F__law_one_of) (f2 (fLook 3) (fMap (fC (.int 1)) negD) ixD)) (gSet 5))
    (sSeq (sAsg (fCall1 2 0 (fCons (fCall 1 [] (fCons (fName 5) fNil) F__law_beside) fNil) F__law_one_of) (gSet 6))
    (sIf (fAndB (fChain (fC (.int 0)) (f2 (fName 6) (fC (.int 0)) ixD) (fName 2) (cmpI fun i j => decide (i ≤ j)) ltD) (fAndB (fChain (fC (.int 0)) (f2 (fName 6) (fC (.int 1)) ixD) (fName 2) (cmpI fun i j => decide (i ≤ j)) ltD) (fMap (f2 (fName 6) (fLook 3) (inA fun c => !c)) asB))) (sMeth 3 (fName 6) cAppend) sNil))
theorem e_gbody {ms : List Int} {K w : Int} {l : List Cell} {k : Nat} {a s4 s5 s6 : Slot} (h : PurseL K ms) (hK : K ≤ 900000000) (hp : Pre w k l) (hk : k < 900) :
    ∃ ms' l' s5' s6', GBODY [.own (purseD ms), a, .dat (.int w), .own (lD l), s4, s5, s6, .un, .un, .un, .un] = some (.nx [.own (purseD ms'), a, .dat (.int w), .own (lD l'), s4, s5', s6', .un, .un, .un, .un]) ∧ PurseL (K + 9) ms' ∧ Pre w (k + 1) l' := by
  have p60 : (3 : Int) < 2 ^ 60 := by decide
  obtain ⟨r, ms1, e1, p1, r0, r1⟩ := d_draw (rest := [a, .dat (.int w), .own (lD l), s4, s5, s6, .un, .un, .un, .un]) (fm := fC (.int 3)) (many := 3) h (by omega) (by omega) p60 rfl
  -- here
  obtain ⟨here, hh, ms2, e2, p2⟩ : ∃ here, here ∈ l ∧ ∃ ms2, fIf (fMap (f2 (fCall1 2 0 (fCons (fC (.int 3)) fNil) F__law_draw) (fC (.int 0)) (cmpI fun i j => decide (j < i))) asB) (fCall1B 0 3 F__law_one_of) (f2 (fLook 3) (fMap (fC (.int 1)) negD) ixD) [.own (purseD ms), a, .dat (.int w), .own (lD l), s4, s5, s6, .un, .un, .un, .un] = some (cD here, [.own (purseD ms2), a, .dat (.int w), .own (lD l), s4, s5, s6, .un, .un, .un, .un]) ∧ PurseL (K + 6) ms2 := by
    have t : fMap (f2 (fCall1 2 0 (fCons (fC (.int 3)) fNil) F__law_draw) (fC (.int 0)) (cmpI fun i j => decide (j < i))) asB [.own (purseD ms), a, .dat (.int w), .own (lD l), s4, s5, s6, .un, .un, .un, .un] = some (decide (0 < r), [.own (purseD ms1), a, .dat (.int w), .own (lD l), s4, s5, s6, .un, .un, .un, .un]) :=
      map_of (f2_of e1 rfl rfl) rfl
    by_cases hr : 0 < r
    · rw [decide_eq_true hr] at t
      obtain ⟨c, hc, ms2, e2, p2⟩ := d_oneofB (l := l) (a := a) (b := .dat (.int w)) (rest := [s4, s5, s6, .un, .un, .un, .un]) hp.cn.1 (by have := hp.len; omega) p1 (by omega)
      exact ⟨c, hc, ms2, (ifE_t t).trans e2, by rw [show K + 6 = K + 3 + 3 by omega]; exact p2⟩
    · rw [decide_eq_false hr] at t
      refine ⟨l.getLast hp.cn.1, List.getLast_mem _, ms1, (ifE_f t).trans (f2_of rfl rfl ?_), p1.mono (by omega)⟩
      show L2.atI (l.map cD) (-1) = _
      unfold L2.atI L2.ixN
      have pos := List.length_pos_iff.mpr hp.cn.1
      rw [if_neg (by omega), if_pos (by rw [List.length_map]; omega)]
      have e : ((-1 : Int) + ((l.map cD).length : Nat)).toNat = l.length - 1 := by rw [List.length_map]; omega
      show (l.map cD)[((-1 : Int) + ((l.map cD).length : Nat)).toNat]? = _
      rw [e, List.getElem?_map, List.getElem?_eq_getElem (by omega), Option.map_some, List.getLast_eq_getElem]
  obtain ⟨late, hlate, ms3, e3, p3⟩ := d_oneof cD (l := besL here) (rest := [a, .dat (.int w), .own (lD l), s4, .dat (cD here), s6, .un, .un, .un, .un]) (fl := fCall 1 [] (fCons (fName 5) fNil) F__law_beside) (by simp [besL]) (by simp [besL]) p2 (by omega) (call_of (ds := [cD here]) rfl rfl (e_lbeside here))
  have hl2 := besL_mem.mp hlate
  have t1 : fChain (fC (.int 0)) (f2 (fName 6) (fC (.int 0)) ixD) (fName 2) (cmpI fun i j => decide (i ≤ j)) ltD [.own (purseD ms3), a, .dat (.int w), .own (lD l), s4, .dat (cD here), .dat (cD late), .un, .un, .un, .un] = some (decide (0 ≤ late.1) && decide (late.1 < w), [.own (purseD ms3), a, .dat (.int w), .own (lD l), s4, .dat (cD here), .dat (cD late), .un, .un, .un, .un]) :=
    chain_le rfl rfl rfl
  have t2 : fChain (fC (.int 0)) (f2 (fName 6) (fC (.int 1)) ixD) (fName 2) (cmpI fun i j => decide (i ≤ j)) ltD [.own (purseD ms3), a, .dat (.int w), .own (lD l), s4, .dat (cD here), .dat (cD late), .un, .un, .un, .un] = some (decide (0 ≤ late.2) && decide (late.2 < w), [.own (purseD ms3), a, .dat (.int w), .own (lD l), s4, .dat (cD here), .dat (cD late), .un, .un, .un, .un]) :=
    chain_le rfl rfl rfl
  have t3 : fMap (f2 (fName 6) (fLook 3) (inA fun c => !c)) asB [.own (purseD ms3), a, .dat (.int w), .own (lD l), s4, .dat (cD here), .dat (cD late), .un, .un, .un, .un] = some (!decide (late ∈ l), [.own (purseD ms3), a, .dat (.int w), .own (lD l), s4, .dat (cD here), .dat (cD late), .un, .un, .un, .un]) :=
    map_of (f2_of rfl rfl (inA_cD (fun c => !c) late l)) rfl
  have T : fAndB (fChain (fC (.int 0)) (f2 (fName 6) (fC (.int 0)) ixD) (fName 2) (cmpI fun i j => decide (i ≤ j)) ltD) (fAndB (fChain (fC (.int 0)) (f2 (fName 6) (fC (.int 1)) ixD) (fName 2) (cmpI fun i j => decide (i ≤ j)) ltD) (fMap (f2 (fName 6) (fLook 3) (inA fun c => !c)) asB)) [.own (purseD ms3), a, .dat (.int w), .own (lD l), s4, .dat (cD here), .dat (cD late), .un, .un, .un, .un] =
      some ((decide (0 ≤ late.1) && decide (late.1 < w)) && ((decide (0 ≤ late.2) && decide (late.2 < w)) && !decide (late ∈ l)), [.own (purseD ms3), a, .dat (.int w), .own (lD l), s4, .dat (cD here), .dat (cD late), .un, .un, .un, .un]) := by
    rw [andB_b t1]
    cases decide (0 ≤ late.1) && decide (late.1 < w)
    · rfl
    · show fAndB _ _ _ = _
      rw [andB_b t2]
      cases decide (0 ≤ late.2) && decide (late.2 < w)
      · rfl
      · exact t3
  have p3' : PurseL (K + 9) ms3 := by rw [show K + 9 = K + 6 + 3 by omega]; exact p3
  by_cases hb : ((decide (0 ≤ late.1) && decide (late.1 < w)) && ((decide (0 ≤ late.2) && decide (late.2 < w)) && !decide (late ∈ l))) = true
  · rw [hb] at T
    simp only [Bool.and_eq_true, decide_eq_true_eq, Bool.not_eq_true', decide_eq_false_iff_not] at hb
    have hc : cAppend (cD late) (l.map cD) = some ((l ++ [late]).map cD) := by
      unfold cAppend
      rw [if_pos (by rw [List.length_map]; exact L2.small1000 (by have := hp.len; omega)), List.map_append]; rfl
    refine ⟨ms3, l ++ [late], .dat (cD here), .dat (cD late), (seq_nx (asg_of e2 rfl)).trans ((seq_nx (asg_of e3 rfl)).trans ((if_t T).trans (meth_of (i := 3) (env1 := [.own (purseD ms3), a, .dat (.int w), .own (lD l), s4, .dat (cD here), .dat (cD late), .un, .un, .un, .un]) (a := cD late) (ds := l.map cD) rfl rfl rfl hc))), p3', ?_, fun c hc => ?_, hp.cn.add hh hl2, by rw [List.length_append, List.length_singleton]; have := hp.len; omega⟩
    · rw [List.nodup_append]
      refine ⟨hp.nd, by simp, fun x hx y hy => ?_⟩
      have : y = late := by simpa using hy
      subst this
      rintro rfl
      exact hb.2.2 hx
    · rcases List.mem_append.mp hc with h | h
      · exact hp.ok c h
      · have : c = late := by simpa using h
        subst this
        exact ⟨hb.1, hb.2.1⟩
  · have hb' := (Bool.not_eq_true _).mp hb
    rw [hb'] at T
    exact ⟨ms3, l, .dat (cD here), .dat (cD late), (seq_nx (asg_of e2 rfl)).trans ((seq_nx (asg_of e3 rfl)).trans ((if_f T).trans rfl)), p3', hp.nd, hp.ok, hp.cn, by have := hp.len; omega⟩
end K65


set_option Elab.async false
set_option linter.all false
set_option autoImplicit false
set_option maxRecDepth 100000
set_option maxHeartbeats 1000000
namespace K65
open PySem Vl Fl

theorem fComp_all' {α : Type} {vs : List Nat} {fi : FE (List D)} {g : TgF} {f : FE D} {env env1 : SE} (enc : α → D) (l : List α) (φ : α → D) (hi : fi env = some (l.map enc, env1)) (hl : l.length ≤ sizeLine)
    (h : ∀ a ∈ l, ∃ e1 e3, g (enc a) (wipeE env1 vs) = some e1 ∧ f e1 = some (φ a, e3)) : fComp vs fi g fYes f env = some (.list (l.map φ), env1) := by
  unfold fComp
  rw [hi]
  dsimp only
  rw [if_pos (by simpa using hl), compD_all enc φ l h]
def movC (r u : Int) (c : Cell) : Cell := (c.1 + r, c.2 + u)
theorem movC_bes {r u : Int} (a b : Cell) (h : b ∈ besC a) : movC r u b ∈ besC (movC r u a) := by
  rw [besC_mem] at *
  unfold movC
  dsimp only
  omega
theorem movC_inv (r u : Int) (c : Cell) : movC (-r) (-u) (movC r u c) = c := by
  unfold movC
  refine Prod.ext ?_ ?_ <;> dsimp only <;> omega
theorem map_nodup {l : List Cell} {f g : Cell → Cell} (h : l.Nodup) (hf : ∀ c, g (f c) = c) : (l.map f).Nodup := by
  refine List.Pairwise.map _ (fun a b hne => ?_) h
  intro z
  have := congrArg g z
  rw [hf, hf] at this
  exact hne this
theorem e_lawfloor {ms : List Int} {K most wide : Int} (h : PurseL K ms) (hK : K ≤ 800000000) (m1 : 1 ≤ most) (m2 : most ≤ 100) (w1 : 1 ≤ wide) (w2 : wide ≤ 100) :
    ∃ fl ms' env, F__law_floor [.own (purseD ms), .dat (.int most), .dat (.int wide)] = some (lD fl, .own (purseD ms') :: env) ∧ PurseL (K + 1000) ms' ∧ Floor fl ∧ (fl.length : Int) ≤ most ∧ ∀ c ∈ fl, c.1 < 1000000000000 ∧ c.2 < 1000000000000 := by
  have p60 : (2 : Int) ^ 60 = 1152921504606846976 := by decide
  obtain ⟨r1, ms1, e1, p1, a1, b1⟩ := d_draw (rest := [.dat (.int most), .dat (.int wide), .un, .un, .un, .un, .un, .un, .un, .un]) (fm := fName 2) (many := wide) h (by omega) w1 (by omega) rfl
  obtain ⟨r2, ms2, e2, p2, a2, b2⟩ := d_draw (rest := [.dat (.int most), .dat (.int wide), .un, .un, .un, .un, .un, .un, .un, .un]) (fm := fName 2) (many := wide) p1 (by omega) w1 (by omega) rfl
  have s1 : sOwn (fMap (fCons (fMap (fCons (fCall1 2 0 (fCons (fName 2) fNil) F__law_draw) (fCons (fCall1 2 0 (fCons (fName 2) fNil) F__law_draw) fNil)) gTuple) fNil) gList) 3 [.own (purseD ms), .dat (.int most), .dat (.int wide), .un, .un, .un, .un, .un, .un, .un, .un] =
      some (.nx [.own (purseD ms2), .dat (.int most), .dat (.int wide), .own (lD [(r1, r2)]), .un, .un, .un, .un, .un, .un, .un]) :=
    own_of (env1 := [.own (purseD ms2), .dat (.int most), .dat (.int wide), .un, .un, .un, .un, .un, .un, .un, .un]) (map_of (cons_of (map_of (cons_of e1 (cons_of e2 rfl)) rfl) rfl) rfl) (by simp)
  obtain ⟨r3, ms3, e3, p3, a3, b3⟩ := d_draw (rest := [.dat (.int most), .dat (.int wide), .own (lD [(r1, r2)]), .un, .un, .un, .un, .un, .un, .un]) (fm := fName 1) (many := most) p2 (by omega) m1 (by omega) rfl
  have it : fMap (fCons (fCall1 2 0 (fCons (fName 1) fNil) F__law_draw) fNil) asR1 [.own (purseD ms2), .dat (.int most), .dat (.int wide), .own (lD [(r1, r2)]), .un, .un, .un, .un, .un, .un, .un] = some (rangeD 0 r3.toNat, [.own (purseD ms3), .dat (.int most), .dat (.int wide), .own (lD [(r1, r2)]), .un, .un, .un, .un, .un, .un, .un]) := by
    refine map_of (cons_of e3 rfl) ?_
    unfold asR1
    dsimp only
    rw [if_pos ⟨by omega, by omega⟩]
  have LOOP := sFor_inv (g := gSet 4) (bd := GBODY) (fun k : Nat => PyData.int (0 + (k : Nat))) (List.range r3.toNat) (fun k env => ∃ ms l s4 s5 s6, env = [.own (purseD ms), .dat (.int most), .dat (.int wide), .own (lD l), s4, s5, s6, .un, .un, .un, .un] ∧ PurseL (K + 9 + 9 * (k : Nat)) ms ∧ Pre wide (k + 1) l) (fi := fMap (fCons (fCall1 2 0 (fCons (fName 1) fNil) F__law_draw) fNil) asR1) it
    ⟨ms3, [(r1, r2)], .un, .un, .un, rfl, p3.mono (by omega), by simp, fun c hc => by
      have : c = (r1, r2) := by simpa using hc
      subst this
      exact ⟨⟨a1, b1⟩, a2, b2⟩, (Gr.one _).conn, by simp⟩
  refine Exists.elim (LOOP ?_) ?_
  · rintro k x env hx ⟨ms4, l, s4, s5, s6, rfl, p4, pre⟩
    have hk := (List.getElem?_eq_some_iff.mp hx).1
    rw [List.length_range] at hk
    obtain ⟨ms5, l', s5', s6', e, p5, pre'⟩ := e_gbody (a := .dat (.int most)) (s4 := .dat (.int (0 + (x : Nat)))) (s5 := s5) (s6 := s6) p4 (by omega) pre (by omega)
    exact ⟨_, _, rfl, .inl e, ms5, l', _, _, _, rfl, p5.mono (by omega), pre'⟩
  · rintro env' ⟨l1, ms4, l, s4, s5, s6, rfl, p4, pre⟩
    rw [List.length_range] at p4 pre
    obtain ⟨r5, ms5, e5, p5, a5, b5⟩ := d_draw (rest := [.dat (.int most), .dat (.int wide), .own (lD l), s4, s5, s6, .un, .un, .un, .un]) (fm := fC (.int 5)) (many := 5) p4 (by omega) (by omega) (by omega) rfl
    have t : fMap (f2 (fCall1 2 0 (fCons (fC (.int 5)) fNil) F__law_draw) (fC (.int 0)) eqD) asB [.own (purseD ms4), .dat (.int most), .dat (.int wide), .own (lD l), s4, s5, s6, .un, .un, .un, .un] = some (decide (r5 = 0), [.own (purseD ms5), .dat (.int most), .dat (.int wide), .own (lD l), s4, s5, s6, .un, .un, .un, .un]) :=
      map_of (f2_of e5 rfl rfl) rfl
    have hlen : l.length ≤ 100 := by have := pre.len; omega
    have so : ∀ m : List Cell, m.length ≤ 1000 → gSorted [lD m] = some (lD (sortC m)) := fun m hm => by
      unfold gSorted lD
      dsimp only
      rw [sortD_cD _ (szl hm)]; rfl
    by_cases h5 : r5 = 0
    · rw [decide_eq_true h5] at t
      obtain ⟨ru, ms6, e6, p6, a6, b6⟩ := d_draw (rest := [.dat (.int most), .dat (.int wide), .own (lD l), s4, s5, s6, .un, .un, .un, .un]) (fm := f2 (fC (.int 10)) (fC (.int 11)) powD) (many := 100000000000) p5 (by omega) (by omega) (by omega) rfl
      obtain ⟨rv, ms7, e7, p7, a7, b7⟩ := d_draw (rest := [.dat (.int most), .dat (.int wide), .own (lD l), s4, s5, s6, .un, .un, .un, .un]) (fm := f2 (fC (.int 10)) (fC (.int 11)) powD) (many := 100000000000) p6 (by omega) (by omega) (by omega) rfl
      have c : fComp [9, 10] (fMap (fFreeze 3) asL) (gUnp (gsCons (gSet 9) (gsCons (gSet 10) gsNil)) 2) fYes (fMap (fCons (f2 (fName 9) (fName 7) addD) (fCons (f2 (fName 10) (fName 8) addD) fNil)) gTuple) [.own (purseD ms7), .dat (.int most), .dat (.int wide), .own (lD l), s4, s5, s6, .dat (.int ru), .dat (.int rv), .un, .un] =
          some (lD (l.map (movC ru rv)), [.own (purseD ms7), .dat (.int most), .dat (.int wide), .dat (lD l), s4, s5, s6, .dat (.int ru), .dat (.int rv), .un, .un]) := by
        rw [fComp_all' (env1 := [.own (purseD ms7), .dat (.int most), .dat (.int wide), .dat (lD l), s4, s5, s6, .dat (.int ru), .dat (.int rv), .un, .un]) cD l (fun c => cD (movC ru rv c)) rfl (szl (by omega)) fun c _ => ⟨_, _, rfl, rfl⟩]
        unfold lD
        rw [List.map_map]; rfl
      refine ⟨sortC (l.map (movC ru rv)), ms7, _, run_rt ((seq_nx s1).trans ((seq_nx l1).trans ((seq_nx (env1 := [.own (purseD ms7), .dat (.int most), .dat (.int wide), .dat (lD (l.map (movC ru rv))), s4, s5, s6, .dat (.int ru), .dat (.int rv), .un, .un]) ((if_t t).trans ((seq_nx (env1 := [.own (purseD ms7), .dat (.int most), .dat (.int wide), .own (lD l), s4, s5, s6, .dat (.int ru), .dat (.int rv), .un, .un]) (asg_of (map_of (cons_of e6 (cons_of e7 rfl)) rfl) rfl)).trans (asg_of c rfl)))).trans (ret_of (map_of (cons_of rfl rfl) (so _ (by rw [List.length_map]; omega))))))), p7.mono (by omega), ?_, ?_, fun x hx => ?_⟩
      · refine Floor.of (map_nodup pre.nd (movC_inv ru rv)) (fun c hc => ?_) (pre.cn.map (movC_inv ru rv) movC_bes) (by rw [List.length_map]; omega)
        obtain ⟨d, hd, rfl⟩ := List.mem_map.mp hc
        have := pre.ok d hd
        unfold movC
        dsimp only
        omega
      · rw [(sortC_perm _).length_eq, List.length_map]
        have := pre.len
        omega
      · obtain ⟨d, hd, rfl⟩ := List.mem_map.mp ((sortC_perm _).mem_iff.mp hx)
        have := pre.ok d hd
        unfold movC
        dsimp only
        omega
    · rw [decide_eq_false h5] at t
      refine ⟨sortC l, ms5, _, run_rt ((seq_nx s1).trans ((seq_nx l1).trans ((seq_nx (env1 := [.own (purseD ms5), .dat (.int most), .dat (.int wide), .own (lD l), s4, s5, s6, .un, .un, .un, .un]) ((if_f t).trans rfl)).trans (ret_of (map_of (cons_of rfl rfl) (so _ (by omega))))))), p5.mono (by omega), ?_, ?_, fun x hx => ?_⟩
      · exact Floor.of pre.nd (fun c hc => by have := pre.ok c hc; omega) pre.cn (by omega)
      · rw [(sortC_perm _).length_eq]
        have := pre.len
        omega
      · have := pre.ok x ((sortC_perm _).mem_iff.mp hx)
        omega
end K65


set_option Elab.async false
set_option linter.all false
set_option autoImplicit false
set_option maxRecDepth 100000
set_option maxHeartbeats 1000000
namespace K65
open PySem Vl Fl

/-! ### _law_exact of equal things -/
def exOk : Nat → D → Bool
  | 0, _ => false
  | _ + 1, .int _ => true
  | _ + 1, .bool _ => true
  | n + 1, .list ds => ds.all (exOk n) && decide (ds.length ≤ sizeLine)
  | n + 1, .tuple ds => ds.all (exOk n) && decide (ds.length ≤ sizeLine)
  | _ + 1, _ => false
theorem zipD_self : ∀ ds : List D, zipD ds ds = ds.map fun d => PyData.tuple [d, d]
  | [] => rfl
  | d :: ds => by rw [zipD, zipD_self ds]; rfl
theorem eqv_int (i : Int) : PyData.eqv (.int i) (.int i) = true := by simp [PyData.eqv]
theorem eqv_bool (i : Bool) : PyData.eqv (.bool i) (.bool i) = true := by simp [PyData.eqv]
theorem eq_int (i : Int) : eqD (.int i) (.int i) = some (.bool true) := by
  unfold eqD
  rw [if_pos ⟨rfl, rfl⟩, eqv_int]
theorem eq_bool (i : Bool) : eqD (.bool i) (.bool i) = some (.bool true) := by
  unfold eqD
  rw [if_pos ⟨rfl, rfl⟩, eqv_bool]
theorem all_true {α : Type} (l : List α) : gAll [.list (l.map fun _ => PyData.bool true)] = some (.bool true) := by
  have := gAll_map (fun _ : α => true) l
  rw [this]
  simp
theorem e_exact : ∀ (n : Nat) (d : D), exOk n d = true → ∃ env, lev L__law_exact n [.dat d, .dat d] = some (.bool true, env)
  | 0, _, h => by cases h
  | n + 1, .int i, _ => by
    refine ⟨[.dat (.int i), .dat (.int i), .un, .dat (.bool true), .un, .un, .un], ?_⟩
    have h : lev L__law_exact (n + 1) [.dat (.int i), .dat (.int i)] = (match (match eqD (.int i) (.int i) with | some c => some (c, [Slot.dat (.int i), .dat (.int i), .un, .dat (.bool true), .un, .un, .un]) | none => none) with | some (d, env) => some (d, env) | none => none) := rfl
    rw [h, eq_int]
  | n + 1, .bool i, _ => by
    refine ⟨[.dat (.bool i), .dat (.bool i), .un, .dat (.bool true), .un, .un, .un], ?_⟩
    have h : lev L__law_exact (n + 1) [.dat (.bool i), .dat (.bool i)] = (match (match eqD (.bool i) (.bool i) with | some c => some (c, [Slot.dat (.bool i), .dat (.bool i), .un, .dat (.bool true), .un, .un, .un]) | none => none) with | some (d, env) => some (d, env) | none => none) := rfl
    rw [h, eq_bool]
  | n + 1, .list ds, h => by
    have h' : ds.all (exOk n) = true ∧ ds.length ≤ sizeLine := by
      have : (ds.all (exOk n) && decide (ds.length ≤ sizeLine)) = true := h
      rw [Bool.and_eq_true] at this
      exact ⟨this.1, of_decide_eq_true this.2⟩
    refine ⟨_, run_rt ((seq_nx (env1 := [.dat (.list ds), .dat (.list ds), .un, .un, .un, .un, .un]) rfl).trans (seq_rt ((if_t (env1 := [.dat (.list ds), .dat (.list ds), .un, .un, .un, .un, .un]) rfl).trans ((seq_nx (env1 := [.dat (.list ds), .dat (.list ds), .dat (.bool true), .un, .un, .un, .un]) rfl).trans ((seq_nx (env1 := [.dat (.list ds), .dat (.list ds), .dat (.bool true), .dat (.bool true), .un, .un, .un]) rfl).trans (ret_of (env1 := [.dat (.list ds), .dat (.list ds), .dat (.bool true), .dat (.bool true), .un, .un, .un]) ?_))))))⟩
    rw [and_b (b := true) (env1 := [.dat (.list ds), .dat (.list ds), .dat (.bool true), .dat (.bool true), .un, .un, .un]) rfl]
    show fAnd _ _ _ = _
    rw [and_b (b := true) (env1 := [.dat (.list ds), .dat (.list ds), .dat (.bool true), .dat (.bool true), .un, .un, .un]) (f2_of rfl rfl (eq_int _))]
    refine map_of (cons_of (fComp_all (fun d => PyData.tuple [d, d]) ds (fun _ => PyData.bool true) ?_ h'.2 fun d hd => ?_) rfl) (all_true ds)
    · refine map_of (cons_of rfl (cons_of rfl rfl)) ?_
      show some (zipD ds ds) = _
      rw [zipD_self]
    · obtain ⟨env, e⟩ := e_exact n d (List.all_eq_true.mp h'.1 d hd)
      exact ⟨_, _, rfl, call_of (ds := [d, d]) rfl rfl e⟩
  | n + 1, .tuple ds, h => by
    have h' : ds.all (exOk n) = true ∧ ds.length ≤ sizeLine := by
      have : (ds.all (exOk n) && decide (ds.length ≤ sizeLine)) = true := h
      rw [Bool.and_eq_true] at this
      exact ⟨this.1, of_decide_eq_true this.2⟩
    refine ⟨_, run_rt ((seq_nx (env1 := [.dat (.tuple ds), .dat (.tuple ds), .un, .un, .un, .un, .un]) rfl).trans (seq_rt ((if_t (env1 := [.dat (.tuple ds), .dat (.tuple ds), .un, .un, .un, .un, .un]) rfl).trans ((seq_nx (env1 := [.dat (.tuple ds), .dat (.tuple ds), .dat (.bool true), .un, .un, .un, .un]) rfl).trans ((seq_nx (env1 := [.dat (.tuple ds), .dat (.tuple ds), .dat (.bool true), .dat (.bool true), .un, .un, .un]) rfl).trans (ret_of (env1 := [.dat (.tuple ds), .dat (.tuple ds), .dat (.bool true), .dat (.bool true), .un, .un, .un]) ?_))))))⟩
    rw [and_b (b := true) (env1 := [.dat (.tuple ds), .dat (.tuple ds), .dat (.bool true), .dat (.bool true), .un, .un, .un]) rfl]
    show fAnd _ _ _ = _
    rw [and_b (b := true) (env1 := [.dat (.tuple ds), .dat (.tuple ds), .dat (.bool true), .dat (.bool true), .un, .un, .un]) (f2_of rfl rfl (eq_int _))]
    refine map_of (cons_of (fComp_all (fun d => PyData.tuple [d, d]) ds (fun _ => PyData.bool true) ?_ h'.2 fun d hd => ?_) rfl) (all_true ds)
    · refine map_of (cons_of rfl (cons_of rfl rfl)) ?_
      show some (zipD ds ds) = _
      rw [zipD_self]
    · obtain ⟨env, e⟩ := e_exact n d (List.all_eq_true.mp h'.1 d hd)
      exact ⟨_, _, rfl, call_of (ds := [d, d]) rfl rfl e⟩
  | n + 1, .none, h => by cases h
  | n + 1, .str _, h => by cases h
  | n + 1, .dict _, h => by cases h
theorem ex_cD (n : Nat) (c : Cell) : exOk (n + 2) (cD c) = true := rfl
theorem ex_lD (n : Nat) {l : List Cell} (h : l.length ≤ 1000) : exOk (n + 3) (lD l) = true := by
  show ((l.map cD).all (exOk (n + 2)) && decide ((l.map cD).length ≤ sizeLine)) = true
  rw [Bool.and_eq_true]
  refine ⟨?_, decide_eq_true (by rw [List.length_map]; exact szl h)⟩
  rw [List.all_eq_true]
  intro d hd
  obtain ⟨c, _, rfl⟩ := List.mem_map.mp hd
  exact ex_cD n c
theorem ex_llD (n : Nat) {l : List (List Cell)} (h : l.length ≤ 1000) (h2 : ∀ f ∈ l, f.length ≤ 1000) : exOk (n + 4) (llD l) = true := by
  show ((l.map lD).all (exOk (n + 3)) && decide ((l.map lD).length ≤ sizeLine)) = true
  rw [Bool.and_eq_true]
  refine ⟨?_, decide_eq_true (by rw [List.length_map]; exact szl h)⟩
  rw [List.all_eq_true]
  intro d hd
  obtain ⟨c, hc, rfl⟩ := List.mem_map.mp hd
  exact ex_lD n (h2 c hc)
end K65


set_option Elab.async false
set_option linter.all false
set_option autoImplicit false
set_option maxRecDepth 100000
set_option maxHeartbeats 1000000
namespace K65
open PySem Vl Fl

/-! ### what is moved or turned has the same forms -/
theorem foldl_min : ∀ (xs : List Int) (x : Int), xs.foldl min x ∈ x :: xs ∧ ∀ y ∈ x :: xs, xs.foldl min x ≤ y
  | [], x => ⟨by simp, fun y hy => by simp at hy; simp [hy]⟩
  | z :: xs, x => by
    obtain ⟨h1, h2⟩ := foldl_min xs (min x z)
    rw [List.foldl_cons]
    refine ⟨?_, fun y hy => ?_⟩
    · rcases List.mem_cons.mp h1 with h | h
      · rw [h]
        by_cases hz : x ≤ z
        · rw [Int.min_eq_left hz]; simp
        · rw [Int.min_eq_right (by omega)]; simp
      · simp [h]
    · have h0 := h2 (min x z) List.mem_cons_self
      rcases List.mem_cons.mp hy with h | h
      · subst h; omega
      · rcases List.mem_cons.mp h with h | h
        · subst h; omega
        · exact h2 y (List.mem_cons_of_mem _ h)
theorem least_mem {l : List Int} (h : l ≠ []) : least l ∈ l := by
  cases l with
  | nil => exact absurd rfl h
  | cons x xs => exact (foldl_min xs x).1
theorem least_le {l : List Int} {y : Int} (h : y ∈ l) : least l ≤ y := by
  cases l with
  | nil => cases h
  | cons x xs => exact (foldl_min xs x).2 y h
theorem least_eq {l m : List Int} (h : l ≠ []) (hm : ∀ x, x ∈ l ↔ x ∈ m) : least l = least m := by
  have hm' : m ≠ [] := by
    rintro rfl
    cases l with
    | nil => exact h rfl
    | cons a l => exact absurd ((hm a).mp List.mem_cons_self) (by simp)
  have h1 := least_le ((hm _).mp (least_mem h))
  have h2 := least_le ((hm _).mpr (least_mem hm'))
  omega
theorem least_add {l : List Int} (h : l ≠ []) (r : Int) : least (l.map (· + r)) = least l + r := by
  have h' : l.map (· + r) ≠ [] := by simpa using h
  obtain ⟨x, hx, e⟩ := List.mem_map.mp (least_mem h')
  have h1 := least_le hx
  have h2 : least (l.map (· + r)) ≤ least l + r := least_le (List.mem_map.mpr ⟨_, least_mem h, rfl⟩)
  omega
theorem norm_perm {l m : List Cell} (h : l ≠ []) (p : l.Perm m) : normC l = normC m := by
  unfold normC
  have e1 : least (l.map (·.1)) = least (m.map (·.1)) := least_eq (by simpa using h) fun x => (p.map (·.1)).mem_iff
  have e2 : least (l.map (·.2)) = least (m.map (·.2)) := least_eq (by simpa using h) fun x => (p.map (·.2)).mem_iff
  rw [e1, e2]
  exact sortC_eq (p.map _)
theorem norm_mov {l : List Cell} (h : l ≠ []) (r u : Int) : normC (l.map (movC r u)) = normC l := by
  unfold normC
  have e1 : (l.map (movC r u)).map (·.1) = (l.map (·.1)).map (· + r) := by rw [List.map_map, List.map_map]; rfl
  have e2 : (l.map (movC r u)).map (·.2) = (l.map (·.2)).map (· + u) := by rw [List.map_map, List.map_map]; rfl
  rw [e1, e2, least_add (by simpa using h), least_add (by simpa using h), List.map_map]
  congr 1
  refine List.map_congr_left fun c _ => ?_
  unfold movC
  refine Prod.ext ?_ ?_ <;> dsimp only [Function.comp] <;> omega
theorem norm_is (l : List Cell) : normC l = sortC (l.map (movC (-least (l.map (·.1))) (-least (l.map (·.2))))) := by
  unfold normC
  congr 1
theorem norm_ne {l : List Cell} (h : l ≠ []) : normC l ≠ [] := by
  rw [norm_is]
  intro z
  have := (sortC_perm (l.map (movC (-least (l.map (·.1))) (-least (l.map (·.2)))))).length_eq
  rw [z, List.length_map] at this
  exact h (List.eq_nil_of_length_eq_zero this.symm)
theorem norm_len (l : List Cell) : (normC l).length = l.length := by
  rw [norm_is, (sortC_perm _).length_eq, List.length_map]
/-- what goes with moving -/
def Goes (f : Cell → Cell) : Prop := ∀ r u, ∃ r' u', ∀ c, f (movC r u c) = movC r' u' (f c)
theorem norm_f {f : Cell → Cell} (hf : Goes f) {l : List Cell} (h : l ≠ []) : normC ((normC l).map f) = normC (l.map f) := by
  obtain ⟨r', u', e⟩ := hf (-least (l.map (·.1))) (-least (l.map (·.2)))
  have p : ((normC l).map f).Perm ((l.map f).map (movC r' u')) := by
    rw [norm_is]
    refine ((sortC_perm _).map f).trans ?_
    rw [List.map_map, List.map_map]
    rw [show f ∘ movC (-least (l.map (·.1))) (-least (l.map (·.2))) = movC r' u' ∘ f from funext fun c => e c]
  rw [norm_perm (by simpa using norm_ne h) p, norm_mov (by simpa using h)]
theorem goes_rot : Goes rotC := fun r u => ⟨-u, r, fun c => by
  unfold rotC movC
  refine Prod.ext ?_ ?_ <;> dsimp only <;> omega⟩
theorem goes_mir : Goes mirC := fun r u => ⟨-r, u, fun c => by
  unfold mirC movC
  refine Prod.ext ?_ ?_ <;> dsimp only <;> omega⟩
theorem goes_id : Goes id := fun r u => ⟨r, u, fun _ => rfl⟩
theorem norm_norm {l : List Cell} (h : l ≠ []) : normC (normC l) = normC l := by
  have := norm_f goes_id h
  simpa using this
def rr (s : List Cell) : List Cell := normC (s.map rotC)
def mi (s : List Cell) : List Cell := normC (s.map mirC)
structure Nm (s : List Cell) : Prop where
  ne : s ≠ []
  nm : normC s = s
theorem nm_norm {l : List Cell} (h : l ≠ []) : Nm (normC l) := ⟨norm_ne h, norm_norm h⟩
theorem nm_rr {s : List Cell} (h : Nm s) : Nm (rr s) := nm_norm (by simpa using h.ne)
theorem nm_mi {s : List Cell} (h : Nm s) : Nm (mi s) := nm_norm (by simpa using h.ne)
theorem rr4 {s : List Cell} (h : Nm s) : rr (rr (rr (rr s))) = s := by
  have n : ∀ t : List Cell, t ≠ [] → t.map rotC ≠ [] := fun t ht => by simpa using ht
  unfold rr
  rw [norm_f goes_rot (n s h.ne), norm_f goes_rot (n _ (n s h.ne)), norm_f goes_rot (n _ (n _ (n s h.ne)))]
  have : (((s.map rotC).map rotC).map rotC).map rotC = s := by
    simp only [List.map_map]
    have e : (rotC ∘ rotC ∘ rotC ∘ rotC) = id := by
      funext c
      unfold rotC
      refine Prod.ext ?_ ?_ <;> dsimp only [Function.comp, id] <;> omega
    rw [e, List.map_id]
  rw [this, h.nm]
theorem mi2 {s : List Cell} (h : Nm s) : mi (mi s) = s := by
  unfold mi
  rw [norm_f goes_mir (by simpa using h.ne)]
  have : (s.map mirC).map mirC = s := by
    rw [List.map_map]
    have e : (mirC ∘ mirC) = id := by
      funext c
      unfold mirC
      refine Prod.ext ?_ ?_ <;> dsimp only [Function.comp, id] <;> omega
    rw [e, List.map_id]
  rw [this, h.nm]
theorem rmr {s : List Cell} (h : Nm s) : rr (mi (rr s)) = mi s := by
  have n : s.map rotC ≠ [] := by simpa using h.ne
  unfold rr mi
  rw [norm_f goes_mir n, norm_f goes_rot (by simpa using n)]
  congr 1
  simp only [List.map_map]
  refine List.map_congr_left fun c _ => ?_
  unfold rotC mirC
  refine Prod.ext ?_ ?_ <;> dsimp only [Function.comp] <;> omega
theorem rm {s : List Cell} (h : Nm s) : rr (mi s) = mi (rr (rr (rr s))) := by
  have := rmr (nm_rr (nm_rr (nm_rr h)))
  rwa [rr4 h] at this
/-- all forms of a normal one -/
def orb (s : List Cell) : List (List Cell) := [rr s, mi (rr s), rr (rr s), mi (rr (rr s)), rr (rr (rr s)), mi (rr (rr (rr s))), s, mi s]
theorem orb_rr {s y : List Cell} (h : Nm s) (hy : y ∈ orb s) : rr y ∈ orb s := by
  have h1 := nm_rr h
  have h2 := nm_rr h1
  have h3 := nm_rr h2
  unfold orb at hy
  simp only [List.mem_cons, List.mem_nil_iff, or_false] at hy
  rcases hy with e | e | e | e | e | e | e | e <;> subst e
  · simp [orb]
  · rw [rmr h]; simp [orb]
  · simp [orb]
  · rw [rmr h1]; simp [orb]
  · rw [rr4 h]; simp [orb]
  · rw [rmr h2]; simp [orb]
  · simp [orb]
  · rw [rm h]; simp [orb]
theorem orb_mi {s y : List Cell} (h : Nm s) (hy : y ∈ orb s) : mi y ∈ orb s := by
  have h1 := nm_rr h
  have h2 := nm_rr h1
  have h3 := nm_rr h2
  unfold orb at hy
  simp only [List.mem_cons, List.mem_nil_iff, or_false] at hy
  rcases hy with e | e | e | e | e | e | e | e <;> subst e
  · simp [orb]
  · rw [mi2 h1]; simp [orb]
  · simp [orb]
  · rw [mi2 h2]; simp [orb]
  · simp [orb]
  · rw [mi2 h3]; simp [orb]
  · simp [orb]
  · rw [mi2 h]; simp [orb]
theorem orb_self (s : List Cell) : s ∈ orb s := by simp [orb]
theorem orb_nm {s y : List Cell} (h : Nm s) (hy : y ∈ orb s) : Nm y := by
  have h1 := nm_rr h
  have h2 := nm_rr h1
  have h3 := nm_rr h2
  unfold orb at hy
  simp only [List.mem_cons, List.mem_nil_iff, or_false] at hy
  rcases hy with e | e | e | e | e | e | e | e <;> subst e
  · exact h1
  · exact nm_mi h1
  · exact h2
  · exact nm_mi h2
  · exact h3
  · exact nm_mi h3
  · exact h
  · exact nm_mi h
theorem orb_sub {s x y : List Cell} (h : Nm s) (hx : x ∈ orb s) (hy : y ∈ orb x) : y ∈ orb s := by
  unfold orb at hy
  simp only [List.mem_cons, List.mem_nil_iff, or_false] at hy
  have a1 := orb_rr h hx
  have a2 := orb_rr h a1
  have a3 := orb_rr h a2
  rcases hy with e | e | e | e | e | e | e | e <;> subst e
  · exact a1
  · exact orb_mi h a1
  · exact a2
  · exact orb_mi h a2
  · exact a3
  · exact orb_mi h a3
  · exact hx
  · exact orb_mi h hx
theorem orb_back {s x : List Cell} (h : Nm s) (hx : x ∈ orb s) : s ∈ orb x := by
  have h1 := nm_rr h
  have h2 := nm_rr h1
  have h3 := nm_rr h2
  have hn := orb_nm h hx
  unfold orb at hx
  simp only [List.mem_cons, List.mem_nil_iff, or_false] at hx
  have r4 := rr4 h
  rcases hx with e | e | e | e | e | e | e | e <;> subst e
  · have := orb_rr hn (orb_rr hn (orb_rr hn (orb_self _))); rwa [r4] at this
  · have := orb_rr hn (orb_rr hn (orb_rr hn (orb_mi hn (orb_self _)))); rwa [mi2 h1, r4] at this
  · have := orb_rr hn (orb_rr hn (orb_self _)); rwa [r4] at this
  · have := orb_rr hn (orb_rr hn (orb_mi hn (orb_self _))); rwa [mi2 h2, r4] at this
  · have := orb_rr hn (orb_self _); rwa [r4] at this
  · have := orb_rr hn (orb_mi hn (orb_self _)); rwa [mi2 h3, r4] at this
  · exact orb_self _
  · have := orb_mi hn (orb_self _); rwa [mi2 h] at this
theorem orb_eq {s x : List Cell} (h : Nm s) (hx : x ∈ orb s) (y : List Cell) : y ∈ orb x ↔ y ∈ orb s :=
  ⟨orb_sub h hx, orb_sub (orb_nm h hx) (orb_back h hx)⟩
end K65


set_option Elab.async false
set_option linter.all false
set_option autoImplicit false
set_option maxRecDepth 100000
set_option maxHeartbeats 1000000
namespace K65
open PySem Vl Fl

theorem rotN_ne {l : List Cell} (h : l ≠ []) (k : Nat) : rotN k l ≠ [] := fun z => h (List.eq_nil_of_length_eq_zero (by rw [← rotN_len l k, z]; rfl))
theorem norm_rot {l : List Cell} (h : l ≠ []) (k : Nat) : normC (rotN (k + 1) l) = rr (normC (rotN k l)) := by
  unfold rr
  rw [norm_f goes_rot (rotN_ne h k)]; rfl
theorem norm_mir {l : List Cell} (h : l ≠ []) (k : Nat) : normC ((rotN k l).map mirC) = mi (normC (rotN k l)) := by
  unfold mi
  rw [norm_f goes_mir (rotN_ne h k)]
def dd (l : List (List Cell)) : List (List Cell) := l.foldl add1 []
theorem fnd_dd {l : List Cell} (h : l ≠ []) : fnd l 4 = dd (orb (normC l)) := by
  have hn := nm_norm h
  have e1 := norm_rot h 0
  have e2 := norm_rot h 1
  have e3 := norm_rot h 2
  have e4 := norm_rot h 3
  have z : rotN 0 l = l := rfl
  rw [z] at e1
  rw [e1] at e2
  rw [e2] at e3
  rw [e3, rr4 hn] at e4
  have m1 := norm_mir h 1
  have m2 := norm_mir h 2
  have m3 := norm_mir h 3
  have m4 := norm_mir h 4
  rw [e1] at m1
  rw [e2] at m2
  rw [e3] at m3
  rw [e4] at m4
  unfold fnd fnd fnd fnd fnd
  simp only [Nat.zero_add, Nat.reduceAdd]
  rw [e1, e2, e3, e4, m1, m2, m3, m4]
  unfold dd orb
  simp only [List.foldl_cons, List.foldl_nil]
theorem add1_mem {fs : List (List Cell)} {f x : List Cell} : x ∈ add1 fs f ↔ x ∈ fs ∨ x = f := by
  unfold add1
  split
  · rename_i h
    constructor
    · exact .inl
    · rintro (h2 | rfl)
      · exact h2
      · exact h
  · simp
theorem add1_nd {fs : List (List Cell)} {f : List Cell} (h : fs.Nodup) : (add1 fs f).Nodup := by
  unfold add1
  split
  · exact h
  · rename_i hf
    rw [List.nodup_append]
    refine ⟨h, by simp, fun x hx y hy => ?_⟩
    have : y = f := by simpa using hy
    subst this
    rintro rfl
    exact hf hx
theorem fold_add : ∀ (l fs : List (List Cell)), fs.Nodup → (l.foldl add1 fs).Nodup ∧ ∀ x, x ∈ l.foldl add1 fs ↔ x ∈ fs ∨ x ∈ l
  | [], fs, h => ⟨h, fun x => by simp⟩
  | f :: l, fs, h => by
    obtain ⟨h1, h2⟩ := fold_add l (add1 fs f) (add1_nd h)
    refine ⟨h1, fun x => ?_⟩
    rw [List.foldl_cons, h2, add1_mem, List.mem_cons]
    constructor
    · rintro ((h | h) | h)
      · exact .inl h
      · exact .inr (.inl h)
      · exact .inr (.inr h)
    · rintro (h | h | h)
      · exact .inl (.inl h)
      · exact .inl (.inr h)
      · exact .inr h
theorem dd_nd (l : List (List Cell)) : (dd l).Nodup := (fold_add l [] List.nodup_nil).1
theorem dd_mem {l : List (List Cell)} {x : List Cell} : x ∈ dd l ↔ x ∈ l := by
  rw [dd, (fold_add l [] List.nodup_nil).2]; simp
theorem perm_of {l m : List (List Cell)} (h1 : l.Nodup) (h2 : m.Nodup) (h : ∀ x, x ∈ l ↔ x ∈ m) : l.Perm m := (List.perm_ext_iff_of_nodup h1 h2).mpr h
theorem forms_is {l : List Cell} (h : l ≠ []) : formsL l = sortL (dd (orb (normC l))) := by
  unfold formsL
  rw [fnd_dd h]
theorem forms_mem {l : List Cell} (h : l ≠ []) {x : List Cell} : x ∈ formsL l ↔ x ∈ orb (normC l) := by
  rw [forms_is h, (sortL_perm _).mem_iff, dd_mem]
theorem forms_ne {l : List Cell} (h : l ≠ []) : formsL l ≠ [] := by
  intro z
  have : normC l ∈ formsL l := (forms_mem h).mpr (orb_self _)
  rw [z] at this; cases this
theorem forms_len_le {l : List Cell} : (formsL l).length ≤ 8 := by
  unfold formsL
  rw [(sortL_perm _).length_eq]
  exact fnd_len l 4
theorem forms_eq {f g : List Cell} (hf : f ≠ []) (hg : g ≠ []) (h : normC g ∈ orb (normC f)) : formsL g = formsL f := by
  rw [forms_is hf, forms_is hg]
  refine sortL_eq (perm_of (dd_nd _) (dd_nd _) fun x => ?_)
  rw [dd_mem, dd_mem]
  exact orb_eq (nm_norm hf) h x
theorem forms_iff {f g : List Cell} (hf : f ≠ []) (hg : g ≠ []) : normC g ∈ formsL f ↔ formsL g = formsL f := by
  constructor
  · intro h
    exact forms_eq hf hg ((forms_mem hf).mp h)
  · intro h
    rw [← h]
    exact (forms_mem hg).mpr (orb_self _)
theorem forms_head {f g : List Cell} (hf : f ≠ []) (hg : g ≠ []) : (formsL f).head? = (formsL g).head? ↔ formsL g = formsL f := by
  constructor
  · intro h
    obtain ⟨x, xs, e⟩ : ∃ x xs, formsL f = x :: xs := by
      cases q : formsL f with
      | nil => exact absurd q (forms_ne hf)
      | cons x xs => exact ⟨x, xs, rfl⟩
    obtain ⟨y, ys, e2⟩ : ∃ x xs, formsL g = x :: xs := by
      cases q : formsL g with
      | nil => exact absurd q (forms_ne hg)
      | cons x xs => exact ⟨x, xs, rfl⟩
    rw [e, e2] at h
    have h : x = y := by simpa using h
    subst h
    have a1 : x ∈ orb (normC f) := (forms_mem hf).mp (by rw [e]; exact List.mem_cons_self)
    have a2 : x ∈ orb (normC g) := (forms_mem hg).mp (by rw [e2]; exact List.mem_cons_self)
    refine forms_eq hf hg ?_
    have b2 := orb_back (nm_norm hg) a2
    exact orb_sub (nm_norm hf) a1 b2
  · intro h
    rw [h]
/-! ### 1, 2, 4 or 8 -/
theorem rr_inj {s t : List Cell} (hs : Nm s) (ht : Nm t) (h : rr s = rr t) : s = t := by
  rw [← rr4 hs, ← rr4 ht, h]
theorem mi_inj {s t : List Cell} (hs : Nm s) (ht : Nm t) (h : mi s = mi t) : s = t := by
  rw [← mi2 hs, ← mi2 ht, h]
theorem len_of {s : List Cell} (u : List (List Cell)) (hu : u.Nodup) (h : ∀ x, x ∈ orb s ↔ x ∈ u) : (dd (orb s)).length = u.length :=
  (perm_of (dd_nd _) hu fun x => by rw [dd_mem]; exact h x).length_eq
theorem orb_len {s : List Cell} (h : Nm s) : (dd (orb s)).length = 1 ∨ (dd (orb s)).length = 2 ∨ (dd (orb s)).length = 4 ∨ (dd (orb s)).length = 8 := by
  have h1 := nm_rr h
  have h2 := nm_rr h1
  have h3 := nm_rr h2
  have hm := nm_mi h
  have r4 := rr4 h
  have q0 := rm h
  by_cases P1 : rr s = s
  · have e2 : rr (rr s) = s := by rw [P1, P1]
    have e3 : rr (rr (rr s)) = s := by rw [P1, P1, P1]
    by_cases C0 : mi s = s
    · left
      refine len_of [s] (by simp) fun x => ?_
      simp [orb, P1, C0]
    · right; left
      refine len_of [s, mi s] (by simp [Ne.symm C0]) fun x => ?_
      simp only [orb, P1, List.mem_cons, List.mem_nil_iff, or_false]
      constructor
      · rintro (h | h | h | h | h | h | h | h) <;> simp [h]
      · rintro (h | h) <;> simp [h]
  · by_cases P2 : rr (rr s) = s
    · have e3 : rr (rr (rr s)) = rr s := by rw [P2]
      rw [e3] at q0
      have q1 : mi (rr s) = rr (mi s) := q0.symm
      by_cases C0 : mi s = s
      · right; left
        refine len_of [s, rr s] (by simp [Ne.symm P1]) fun x => ?_
        have : mi (rr s) = rr s := by rw [q1, C0]
        simp only [orb, P2, C0, this, List.mem_cons, List.mem_nil_iff, or_false]
        constructor
        · rintro (h | h | h | h | h | h | h | h) <;> simp [h]
        · rintro (h | h) <;> simp [h]
      · by_cases C1 : mi s = rr s
        · right; left
          refine len_of [s, rr s] (by simp [Ne.symm P1]) fun x => ?_
          have : mi (rr s) = s := by rw [q1, C1, P2]
          simp only [orb, P2, C1, this, List.mem_cons, List.mem_nil_iff, or_false]
          constructor
          · rintro (h | h | h | h | h | h | h | h) <;> simp [h]
          · rintro (h | h) <;> simp [h]
        · right; right; left
          have d1 : mi (rr s) ≠ s := fun z => C1 (by
            have := congrArg rr z
            rw [rmr h] at this; exact this)
          have d2 : mi (rr s) ≠ rr s := fun z => C0 (by
            have := congrArg rr z
            rw [rmr h, P2] at this; exact this)
          have d3 : mi (rr s) ≠ mi s := fun z => P1 (mi_inj h1 h z)
          refine len_of [s, rr s, mi s, mi (rr s)] (by
            simp [Ne.symm P1, Ne.symm C0, Ne.symm C1, Ne.symm d1, Ne.symm d2, Ne.symm d3]) fun x => ?_
          simp only [orb, P2, List.mem_cons, List.mem_nil_iff, or_false]
          constructor
          · rintro (h | h | h | h | h | h | h | h) <;> simp [h]
          · rintro (h | h | h | h) <;> simp [h]
    · -- four turns, all unlike
      have n03 : rr (rr (rr s)) ≠ s := fun z => P1 (by
        have := congrArg rr z
        rw [r4] at this; exact this.symm)
      have n12 : rr (rr s) ≠ rr s := fun z => P1 (rr_inj h1 h z)
      have n13 : rr (rr (rr s)) ≠ rr s := fun z => P2 (rr_inj h2 h z)
      have n23 : rr (rr (rr s)) ≠ rr (rr s) := fun z => n12 (rr_inj h2 h1 z)
      have k1 := rmr h
      have k2 := rmr h1
      have k3 := rmr h2
      have four : mi s ∈ [s, rr s, rr (rr s), rr (rr (rr s))] → (dd (orb s)).length = 4 := fun hmem => by
        refine len_of [s, rr s, rr (rr s), rr (rr (rr s))] (by simp [Ne.symm P1, Ne.symm P2, Ne.symm n03, Ne.symm n12, Ne.symm n13, Ne.symm n23]) fun x => ?_
        have clos : ∀ y, y ∈ [s, rr s, rr (rr s), rr (rr (rr s))] → rr y ∈ [s, rr s, rr (rr s), rr (rr (rr s))] := fun y hy => by
          simp only [List.mem_cons, List.mem_nil_iff, or_false] at hy
          rcases hy with e | e | e | e <;> subst e <;> simp [r4]
        have m3 : mi (rr (rr (rr s))) ∈ [s, rr s, rr (rr s), rr (rr (rr s))] := by rw [← q0]; exact clos _ hmem
        have m2 : mi (rr (rr s)) ∈ [s, rr s, rr (rr s), rr (rr (rr s))] := by rw [← k3]; exact clos _ m3
        have m1 : mi (rr s) ∈ [s, rr s, rr (rr s), rr (rr (rr s))] := by rw [← k2]; exact clos _ m2
        constructor
        · intro hx
          unfold orb at hx
          simp only [List.mem_cons, List.mem_nil_iff, or_false] at hx
          rcases hx with e | e | e | e | e | e | e | e <;> subst e
          · simp
          · exact m1
          · simp
          · exact m2
          · simp
          · exact m3
          · simp
          · exact hmem
        · intro hx
          simp only [List.mem_cons, List.mem_nil_iff, or_false] at hx
          rcases hx with e | e | e | e <;> subst e <;> simp [orb]
      by_cases C : mi s ∈ [s, rr s, rr (rr s), rr (rr (rr s))]
      · right; right; left
        exact four C
      · right; right; right
        have back : ∀ y, Nm y → rr y ∈ [s, rr s, rr (rr s), rr (rr (rr s))] → y ∈ [s, rr s, rr (rr s), rr (rr (rr s))] := fun y hy hm => by
          simp only [List.mem_cons, List.mem_nil_iff, or_false] at hm
          rcases hm with e | e | e | e
          · have : y = rr (rr (rr s)) := rr_inj hy h3 (by rw [e, r4])
            simp [this]
          · have := rr_inj hy h e
            simp [this]
          · have := rr_inj hy h1 e
            simp [this]
          · have := rr_inj hy h2 e
            simp [this]
        have c1 : mi (rr s) ∉ [s, rr s, rr (rr s), rr (rr (rr s))] := fun z => C (by
          rw [← k1]
          simp only [List.mem_cons, List.mem_nil_iff, or_false] at z
          rcases z with e | e | e | e <;> rw [e] <;> simp [r4])
        have c2 : mi (rr (rr s)) ∉ [s, rr s, rr (rr s), rr (rr (rr s))] := fun z => c1 (by
          rw [← k2]
          simp only [List.mem_cons, List.mem_nil_iff, or_false] at z
          rcases z with e | e | e | e <;> rw [e] <;> simp [r4])
        have c3 : mi (rr (rr (rr s))) ∉ [s, rr s, rr (rr s), rr (rr (rr s))] := fun z => c2 (by
          rw [← k3]
          simp only [List.mem_cons, List.mem_nil_iff, or_false] at z
          rcases z with e | e | e | e <;> rw [e] <;> simp [r4])
        simp only [List.mem_cons, List.mem_nil_iff, or_false, not_or] at C c1 c2 c3
        obtain ⟨g1, g2, g3, g4⟩ := C
        obtain ⟨a1, a2, a3, a4⟩ := c1
        obtain ⟨b1, b2, b3, b4⟩ := c2
        obtain ⟨d1, d2, d3, d4⟩ := c3
        have w1 : mi (rr s) ≠ mi s := fun z => P1 (mi_inj h1 h z)
        have w2 : mi (rr (rr s)) ≠ mi s := fun z => P2 (mi_inj h2 h z)
        have w3 : mi (rr (rr (rr s))) ≠ mi s := fun z => n03 (mi_inj h3 h z)
        have w4 : mi (rr (rr s)) ≠ mi (rr s) := fun z => n12 (mi_inj h2 h1 z)
        have w5 : mi (rr (rr (rr s))) ≠ mi (rr s) := fun z => n13 (mi_inj h3 h1 z)
        have w6 : mi (rr (rr (rr s))) ≠ mi (rr (rr s)) := fun z => n23 (mi_inj h3 h2 z)
        refine (len_of [s, rr s, rr (rr s), rr (rr (rr s)), mi s, mi (rr s), mi (rr (rr s)), mi (rr (rr (rr s)))] (by
          simp [Ne.symm P1, Ne.symm P2, Ne.symm n03, Ne.symm n12, Ne.symm n13, Ne.symm n23, Ne.symm g1, Ne.symm g2, Ne.symm g3, Ne.symm g4, Ne.symm a1, Ne.symm a2, Ne.symm a3, Ne.symm a4, Ne.symm b1, Ne.symm b2, Ne.symm b3, Ne.symm b4, Ne.symm d1, Ne.symm d2, Ne.symm d3, Ne.symm d4, Ne.symm w1, Ne.symm w2, Ne.symm w3, Ne.symm w4, Ne.symm w5, Ne.symm w6]) fun x => ?_)
        unfold orb
        simp only [List.mem_cons, List.mem_nil_iff, or_false]
        constructor
        · rintro (h | h | h | h | h | h | h | h) <;> simp [h]
        · rintro (h | h | h | h | h | h | h | h) <;> simp [h]
theorem forms_count {l : List Cell} (h : l ≠ []) : (formsL l).length = 1 ∨ (formsL l).length = 2 ∨ (formsL l).length = 4 ∨ (formsL l).length = 8 := by
  rw [forms_is h, (sortL_perm _).length_eq]
  exact orb_len (nm_norm h)
end K65


set_option Elab.async false
set_option linter.all false
set_option autoImplicit false
set_option maxRecDepth 100000
set_option maxHeartbeats 1000000
namespace K65
open PySem Vl Fl

/-! ### how long a floor's text is -/
theorem repr_le {n k : Nat} (hk : 1 ≤ k) (hn : n < 10 ^ k) : (Nat.repr n).length ≤ k := by
  have := PyProof.Rows.digits10_le hk hn
  simpa [Nat.repr] using this
theorem int_len {i : Int} (h0 : 0 ≤ i) (h1 : i < 10 ^ 13) : (PyData.int i).shown.length ≤ 13 := by
  obtain ⟨n, rfl⟩ := Int.eq_ofNat_of_zero_le h0
  show (Str.ofString (toString (n : Int))).length ≤ 13
  rw [PyProof.Rows.ofString_len]
  exact repr_le (by omega) (by exact_mod_cast h1)
theorem cell_len {c : Cell} (h : 0 ≤ c.1 ∧ c.1 < 10 ^ 13) (k : 0 ≤ c.2 ∧ c.2 < 10 ^ 13) : (cD c).shown.length ≤ 30 := by
  have a := int_len h.1 h.2
  have b := int_len k.1 k.2
  have e : (cD c).shown = ("(" : Str) ++ ((PyData.int c.1).shown ++ ", " ++ (PyData.int c.2).shown) ++ (")" : String) := rfl
  rw [e, PySem.strLen_append, PySem.strLen_append, PySem.strLen_append, PySem.strLen_append]
  have e1 : (("(" : Str)).length = 1 := rfl
  have e2 : ((", " : String) : Str).length = 2 := rfl
  have e3 : ((")" : String) : Str).length = 1 := rfl
  omega
theorem text_len : ∀ (ts : List Str) (k : Nat) (acc : Str), (∀ t ∈ ts, t.length ≤ 30) → (textFrom k acc ts).length ≤ acc.length + 32 * ts.length
  | [], _, acc, _ => by show acc.length ≤ _; omega
  | t :: ts, k, acc, h => by
    have ih := text_len ts (k + 1) (acc ++ (if k > 0 then ", " else "" : String) ++ t) fun x hx => h x (List.mem_cons_of_mem _ hx)
    have ht := h t List.mem_cons_self
    have e : (acc ++ (if k > 0 then ", " else "" : String) ++ t).length ≤ acc.length + 2 + t.length := by
      rw [PySem.strLen_append, PySem.strLen_append]
      split
      · have : ((", " : String) : Str).length = 2 := rfl
        omega
      · have : (("" : String) : Str).length = 0 := rfl
        omega
    show (textFrom (k + 1) _ ts).length ≤ _
    rw [List.length_cons]
    omega
theorem shownAll_mem : ∀ (l : List Cell), ∀ t ∈ PyData.shownAll (l.map cD), ∃ c ∈ l, t = (cD c).shown
  | [], t, h => by cases h
  | c :: l, t, h => by
    rw [List.map_cons, PyData.shownAll] at h
    rcases List.mem_cons.mp h with h | h
    · exact ⟨c, List.mem_cons_self, h⟩
    · obtain ⟨d, hd, e⟩ := shownAll_mem l t h
      exact ⟨d, List.mem_cons_of_mem _ hd, e⟩
theorem shownAll_len : ∀ (l : List Cell), (PyData.shownAll (l.map cD)).length = l.length
  | [] => rfl
  | c :: l => by rw [List.map_cons, PyData.shownAll, List.length_cons, shownAll_len l, List.length_cons]
def Bnd (l : List Cell) : Prop := ∀ c ∈ l, (0 ≤ c.1 ∧ c.1 < 10 ^ 13) ∧ 0 ≤ c.2 ∧ c.2 < 10 ^ 13
theorem show_all : ∀ l : List Cell, Bnd l → PyData.showableAll (l.map cD) = true
  | [], _ => rfl
  | c :: l, h => by
    rw [List.map_cons, PyData.showableAll, show_all l fun d hd => h d (List.mem_cons_of_mem _ hd)]
    have hc := h c List.mem_cons_self
    have n1 : c.1.natAbs < 2 ^ 60 := by omega
    have n2 : c.2.natAbs < 2 ^ 60 := by omega
    have l1 := log_lt n1 (by omega)
    have l2 := log_lt n2 (by omega)
    simp [cD, PyData.showable, PyData.showableAll]
    omega
theorem text_ok {l : List Cell} (hb : Bnd l) (hl : l.length ≤ 1000) : (lD l).shown.length ≤ sizeLine := by
  show (listText (PyData.shownAll (l.map cD))).length ≤ _
  unfold listText
  rw [PySem.strLen_append]
  have := text_len (PyData.shownAll (l.map cD)) 0 "[" fun t ht => by
    obtain ⟨c, hc, e⟩ := shownAll_mem l t ht
    rw [e]
    have := hb c hc
    exact cell_len this.1 this.2
  rw [shownAll_len] at this
  have e1 : (("[" : Str)).length = 1 := rfl
  have e2 : (("]" : String) : Str).length = 1 := rfl
  have := sizeLine_eq
  omega
theorem ok_lit (s : String) : PyData.strOk (Str.ofString s) = true := by
  unfold PyData.strOk
  rw [Str.ofString_eq_toList]
  simp only [List.all_toArray, List.all_map, List.all_eq_true]
  intro c _
  have := c.valid
  simp only [Function.comp, decide_eq_true_eq]
  show c.val.toNat < 1114112
  rcases this with h | h
  · have : c.val.toNat < 0xd800 := h
    omega
  · exact h.2
theorem ok_app {a b : Str} (h1 : PyData.strOk a = true) (h2 : PyData.strOk b = true) : PyData.strOk (a ++ b) = true := by
  unfold PyData.strOk at *
  rw [Str.cps_append, Array.all_append, h1, h2]; rfl
theorem ok_cell (c : Cell) : PyData.strOk (cD c).shown = true := by
  have e : (cD c).shown = ("(" : Str) ++ ((PyData.int c.1).shown ++ ", " ++ (PyData.int c.2).shown) ++ (")" : String) := rfl
  rw [e]
  exact ok_app (ok_app (ok_lit _) (ok_app (ok_app (ok_lit _) (ok_lit _)) (ok_lit _))) (ok_lit _)
theorem ok_text : ∀ (ts : List Str) (k : Nat) (acc : Str), PyData.strOk acc = true → (∀ t ∈ ts, PyData.strOk t = true) → PyData.strOk (textFrom k acc ts) = true
  | [], _, _, h, _ => h
  | t :: ts, k, acc, h, ht => by
    refine ok_text ts (k + 1) _ (ok_app (ok_app h ?_) (ht t List.mem_cons_self)) fun x hx => ht x (List.mem_cons_of_mem _ hx)
    split <;> exact ok_lit _
theorem ok_shown (l : List Cell) : PyData.strOk (lD l).shown = true := by
  show PyData.strOk (listText (PyData.shownAll (l.map cD))) = true
  unfold listText
  refine ok_app (ok_text _ _ _ (ok_lit _) fun t ht => ?_) (ok_lit _)
  obtain ⟨c, _, e⟩ := shownAll_mem l t ht
  rw [e]
  exact ok_cell c
theorem e_repr {l : List Cell} (hb : Bnd l) (hl : l.length ≤ 1000) : gRepr [lD l] = some (.str (lD l).shown) := by
  show (if (lD l).canLay0 = true ∧ (lD l).showable = true ∧ (lD l).depth ≤ 40 ∧ (lD l).shown.length ≤ sizeLine then _ else _) = _
  have h1 : (lD l).showable = true := by unfold lD; rw [PyData.showable]; exact show_all l hb
  have h2 : (lD l).depth ≤ 40 := by have := depth_lD l; omega
  rw [if_pos ⟨lay_lD l, h1, h2, text_ok hb hl⟩]; rfl

/-! ### forms of floors are floors -/
structure Good (l : List Cell) : Prop where
  nd : l.Nodup
  cn : Conn l
  len : l.length ≤ 400
  sp : ∀ a ∈ l, ∀ b ∈ l, a.1 - b.1 < 5000000000000 ∧ a.2 - b.2 < 5000000000000
theorem Good.map {l : List Cell} {f g : Cell → Cell} (h : Good l) (hf : ∀ c, g (f c) = c) (hn : ∀ a b, b ∈ besC a → f b ∈ besC (f a)) (hs : ∀ a b, a ∈ l → b ∈ l → (f a).1 - (f b).1 < 5000000000000 ∧ (f a).2 - (f b).2 < 5000000000000) : Good (l.map f) := by
  refine ⟨map_nodup h.nd hf, h.cn.map hf hn, by rw [List.length_map]; exact h.len, fun a ha b hb => ?_⟩
  obtain ⟨x, hx, rfl⟩ := List.mem_map.mp ha
  obtain ⟨y, hy, rfl⟩ := List.mem_map.mp hb
  exact hs x y hx hy
theorem Good.perm {l m : List Cell} (h : Good l) (p : m.Perm l) : Good m :=
  ⟨p.nodup_iff.mpr h.nd, h.cn.iff fun c => p.mem_iff.symm, by rw [p.length_eq]; exact h.len, fun a ha b hb => h.sp a (p.mem_iff.mp ha) b (p.mem_iff.mp hb)⟩
theorem Good.mov {l : List Cell} (h : Good l) (r u : Int) : Good (l.map (movC r u)) :=
  h.map (movC_inv r u) movC_bes fun a b ha hb => by
    have := h.sp a ha b hb
    unfold movC
    dsimp only
    omega
theorem Good.norm {l : List Cell} (h : Good l) : Good (normC l) := by
  rw [norm_is]
  exact (h.mov _ _).perm (sortC_perm _)
theorem Good.rot {l : List Cell} (h : Good l) : Good (l.map rotC) :=
  h.map (g := fun c => (c.2, 0 - c.1)) (fun c => by unfold rotC; refine Prod.ext ?_ ?_ <;> dsimp only <;> omega) (fun a b hb => by
    rw [besC_mem] at *
    unfold rotC
    dsimp only
    omega) fun a b ha hb => by
    have h1 := h.sp a ha b hb
    have h2 := h.sp b hb a ha
    unfold rotC
    dsimp only
    omega
theorem Good.mir {l : List Cell} (h : Good l) : Good (l.map mirC) :=
  h.map (g := mirC) (fun c => by unfold mirC; refine Prod.ext ?_ ?_ <;> dsimp only <;> omega) (fun a b hb => by
    rw [besC_mem] at *
    unfold mirC
    dsimp only
    omega) fun a b ha hb => by
    have h1 := h.sp a ha b hb
    have h2 := h.sp b hb a ha
    unfold mirC
    dsimp only
    omega
theorem Good.orb {s x : List Cell} (h : Good s) (hx : x ∈ orb s) : Good x := by
  have rr' : ∀ {t}, Good t → Good (rr t) := fun h => h.rot.norm
  have mi' : ∀ {t}, Good t → Good (mi t) := fun h => h.mir.norm
  unfold K65.orb at hx
  simp only [List.mem_cons, List.mem_nil_iff, or_false] at hx
  rcases hx with e | e | e | e | e | e | e | e <;> subst e
  · exact rr' h
  · exact mi' (rr' h)
  · exact rr' (rr' h)
  · exact mi' (rr' (rr' h))
  · exact rr' (rr' (rr' h))
  · exact mi' (rr' (rr' (rr' h)))
  · exact h
  · exact mi' h
theorem Good.floor {l : List Cell} (h : Good l) : Floor (normC l) ∧ ∀ c ∈ normC l, c.1 < 5000000000000 ∧ c.2 < 5000000000000 := by
  have ne := h.cn.1
  have k1 := least_mem (l := l.map (·.1)) (by simpa using ne)
  have k2 := least_mem (l := l.map (·.2)) (by simpa using ne)
  obtain ⟨p1, hp1, e1⟩ := List.mem_map.mp k1
  obtain ⟨p2, hp2, e2⟩ := List.mem_map.mp k2
  have cell : ∀ c ∈ l.map (movC (-least (l.map (·.1))) (-least (l.map (·.2)))), (0 ≤ c.1 ∧ 0 ≤ c.2) ∧ c.1 < 5000000000000 ∧ c.2 < 5000000000000 := fun c hc => by
    obtain ⟨d, hd, rfl⟩ := List.mem_map.mp hc
    have a1 := least_le (l := l.map (·.1)) (List.mem_map.mpr ⟨d, hd, rfl⟩)
    have a2 := least_le (l := l.map (·.2)) (List.mem_map.mpr ⟨d, hd, rfl⟩)
    have b1 := h.sp d hd p1 hp1
    have b2 := h.sp d hd p2 hp2
    unfold movC
    dsimp only
    omega
  rw [norm_is]
  refine ⟨Floor.of (map_nodup h.nd (movC_inv _ _)) (fun c hc => (cell c hc).1) (h.cn.map (movC_inv _ _) movC_bes) (by rw [List.length_map]; exact h.len), fun c hc => (cell c ((sortC_perm _).mem_iff.mp hc)).2⟩
theorem Floor.good {fl : List Cell} (h : Floor fl) (hb : ∀ c ∈ fl, c.1 < 1000000000002 ∧ c.2 < 1000000000002) : Good fl :=
  ⟨h.nodup, h.conn, h.len, fun a ha b hc => by
    have h1 := h.pos a ha
    have h2 := h.pos b hc
    have h3 := hb a ha
    omega⟩
/-- a form is a floor -/
theorem form_floor {fl f : List Cell} (h : Floor fl) (hb : ∀ c ∈ fl, c.1 < 1000000000002 ∧ c.2 < 1000000000002) (hf : f ∈ formsL fl) : Floor f ∧ ∀ c ∈ f, c.1 < 5000000000000 ∧ c.2 < 5000000000000 := by
  have hn := nm_norm h.conn.1
  have ho := (forms_mem h.conn.1).mp hf
  have g := ((h.good hb).norm).orb ho
  have hnm := orb_nm hn ho
  have := g.floor
  rwa [hnm.nm] at this
end K65


set_option Elab.async false
set_option linter.all false
set_option autoImplicit false
set_option maxRecDepth 100000
set_option maxHeartbeats 1000000
namespace K65
open PySem Vl Fl

theorem callO_of {n : Nat} {r : Bool} {ds : List D} {fa : FE (List D)} {T : FD} {env env1 envF : SE} {d : D} (h : fa env = some (ds, env1)) (hn : ds.length = n) (hT : T ((turnL r ds).map .dat) = some (d, envF)) : fCallO n r fa T env = some (d, env1) := by
  unfold fCallO
  refine map_of h ?_
  rw [if_pos hn, hT]; rfl
theorem par_of {i j : Nat} {f g : FE D} {env env1 env2 : SE} {a b : D} (h1 : f env = some (a, env1)) (h2 : g env1 = some (b, env2)) (hi : i < env2.length ∧ j < env2.length) : sPar i j false false f g env = some (.nx ((env2.set i (.dat a)).set j (.dat b))) := by
  unfold sPar
  rw [h1]
  dsimp only
  rw [h2]
  dsimp only
  rw [if_pos hi]; rfl
theorem sh_str (l : List Cell) : (PyData.str (lD l).shown).canLay0 = true ∧ SeqAt.shaped (.str (lD l).shown) = true := by
  have h1 : (PyData.str (lD l).shown).canLay0 = true := by
    rw [PyData.canLay0]
    exact ok_shown l
  refine ⟨h1, ?_⟩
  unfold SeqAt.shaped
  rw [h1]; rfl
theorem ne_str (l : List Cell) : neD (.str (lD l).shown) (.str (lD l).shown) = some (.bool false) := by
  unfold neD
  rw [if_pos ⟨(sh_str l).2, (sh_str l).2⟩, SeqAt.eqv_refl _ (sh_str l).1]; rfl
theorem eq_str (l : List Cell) : eqD (.str (lD l).shown) (.str (lD l).shown) = some (.bool true) := by
  unfold eqD
  rw [if_pos ⟨(sh_str l).2, (sh_str l).2⟩, SeqAt.eqv_refl _ (sh_str l).1]
theorem eq_llD (l m : List (List Cell)) : eqD (llD l) (llD m) = some (.bool (decide (l = m))) := by
  unfold eqD
  rw [if_pos ⟨sh_llD l, sh_llD m⟩, eqv_llD]
theorem call2_of {fa : FE (List D)} {T : FD} {env env1 envF : SE} {a b r : D} (h : fa env = some ([a, b], env1)) (hT : T [.dat a, .dat b] = some (r, envF)) : fCall 2 [] fa T env = some (r, env1) := call_of (ds := [a, b]) h rfl hT
theorem e_exact7 (d : D) (h : exOk 7 d = true) : ∃ env, F__law_exact [.dat d, .dat d] = some (.bool true, env) := by
  unfold F__law_exact
  exact e_exact 7 d h
def LBODY : FS := sSeq (sPar 11 12 false false (f2 (fCall 1 [] (fCons (fName 10) fNil) F__law_moved) (fName 3) (inA fun c => c)) (fMap (fCons (fName 10) fNil) gRepr))
    (sSeq (sAsg (fMap (fCons (fCall 2 [] (fCons (fName 1) (fCons (fName 10) fNil)) F_are_floors_alike) (fCons (fCallO 2 true (fCons (fName 10) (fCons (fName 1) fNil)) F_are_floors_alike) (fCons (fCall 2 [] (fCons (fName 10) (fCons (fName 1) fNil)) F_are_floors_alike) (fCons (f2 (fCall 1 [] (fCons (fName 10) fNil) F_floor_forms) (fName 3) eqD) fNil)))) gList) (gSet 4))
    (sIf (fOrB (fNot (fMap (fCall 2 [] (fCons (f2 (fMap (fCons (fName 11) fNil) gList) (fC (.int 4)) mulA) (fCons (fName 4) fNil)) F__law_exact) asB)) (fMap (f2 (fMap (fCons (fName 10) fNil) gRepr) (fName 12) neD) asB)) (sRet (fC (.bool false))) sNil))
theorem e_other {fl gl : List Cell} (hf : Floor fl) (hg : Floor gl) (hb : Bnd gl) {p n s4 s5 s6 s7 s8 s9 s11 s12 s13 s14 s15 : Slot} : ∃ t4 t11 t12, LBODY [p, .dat (lD fl), n, .dat (llD (formsL fl)), s4, s5, s6, s7, s8, s9, .dat (lD gl), s11, s12, s13, s14, s15] =
    some (.nx [p, .dat (lD fl), n, .dat (llD (formsL fl)), t4, s5, s6, s7, s8, s9, .dat (lD gl), t11, t12, s13, s14, s15]) := by
  have nf := hf.conn.1
  have ng := hg.conn.1
  obtain ⟨x1, m1⟩ := e_lmoved ng (by have := hg.len; omega)
  obtain ⟨x2, m2⟩ := e_alike hf hg (forms_ne nf) (forms_ne ng)
  obtain ⟨x3, m3⟩ := e_alike hg hf (forms_ne ng) (forms_ne nf)
  obtain ⟨x4, m4⟩ := e_floorforms hg
  have rp := e_repr hb (by have := hg.len; omega)
  have i1 : decide ((formsL fl).head? = (formsL gl).head?) = decide (normC gl ∈ formsL fl) := decide_eq_decide.mpr ((forms_head nf ng).trans (forms_iff nf ng).symm)
  have i2 : decide ((formsL gl).head? = (formsL fl).head?) = decide (normC gl ∈ formsL fl) := decide_eq_decide.mpr (eq_comm.trans ((forms_head nf ng).trans (forms_iff nf ng).symm))
  have i3 : decide (formsL gl = formsL fl) = decide (normC gl ∈ formsL fl) := decide_eq_decide.mpr (forms_iff nf ng).symm
  rw [i1] at m2
  rw [i2] at m3
  generalize hB : decide (normC gl ∈ formsL fl) = B at *
  have e1 : inA (fun c => c) (lD (normC gl)) (llD (formsL fl)) = some (.bool B) := by
    have := inA_lD (fun c => c) (normC gl) (formsL fl)
    rw [hB] at this
    exact this
  have e4 : eqD (llD (formsL gl)) (llD (formsL fl)) = some (.bool B) := by rw [eq_llD, i3]
  obtain ⟨x5, m5⟩ := e_exact7 (.list [.bool B, .bool B, .bool B, .bool B]) rfl
  refine ⟨.dat (.list [.bool B, .bool B, .bool B, .bool B]), .dat (.bool B), .dat (.str (lD gl).shown), ?_⟩
  refine (seq_nx (env1 := [p, .dat (lD fl), n, .dat (llD (formsL fl)), s4, s5, s6, s7, s8, s9, .dat (lD gl), .dat (.bool B), .dat (.str (lD gl).shown), s13, s14, s15]) (par_of (env2 := [p, .dat (lD fl), n, .dat (llD (formsL fl)), s4, s5, s6, s7, s8, s9, .dat (lD gl), s11, s12, s13, s14, s15]) (f2_of (call_of (ds := [lD gl]) rfl rfl m1) rfl e1) (map_of (cons_of rfl rfl) rp) ⟨by simp, by simp⟩)).trans ?_
  refine (seq_nx (env1 := [p, .dat (lD fl), n, .dat (llD (formsL fl)), .dat (.list [.bool B, .bool B, .bool B, .bool B]), s5, s6, s7, s8, s9, .dat (lD gl), .dat (.bool B), .dat (.str (lD gl).shown), s13, s14, s15]) (asg_of (map_of (cons_of (call_of (ds := [lD fl, lD gl]) rfl rfl m2) (cons_of (callO_of (ds := [lD gl, lD fl]) rfl rfl m2) (cons_of (call_of (ds := [lD gl, lD fl]) rfl rfl m3) (cons_of (f2_of (call_of (ds := [lD gl]) rfl rfl m4) rfl e4) rfl)))) rfl) rfl)).trans ?_
  refine (if_f (env1 := [p, .dat (lD fl), n, .dat (llD (formsL fl)), .dat (.list [.bool B, .bool B, .bool B, .bool B]), s5, s6, s7, s8, s9, .dat (lD gl), .dat (.bool B), .dat (.str (lD gl).shown), s13, s14, s15]) ?_).trans rfl
  rw [orB_b (b := false) (env1 := [p, .dat (lD fl), n, .dat (llD (formsL fl)), .dat (.list [.bool B, .bool B, .bool B, .bool B]), s5, s6, s7, s8, s9, .dat (lD gl), .dat (.bool B), .dat (.str (lD gl).shown), s13, s14, s15])]
  · exact map_of (a := .bool false) (f2_of (map_of (cons_of rfl rfl) rp) rfl (ne_str gl)) rfl
  · exact map_of (a := true) (map_of (a := .bool true) (call2_of (cons_of (f2_of (a := .list [.bool B]) (b := .int 4) (c := .list [.bool B, .bool B, .bool B, .bool B]) (map_of (cons_of rfl rfl) rfl) rfl rfl) (cons_of rfl rfl)) m5) rfl) rfl
theorem told_of {i j : Nat} {f : FE D} {t : FE Bool} {fr : FS} {env e1 e2 : SE} {d : D} {r : Option Out} (hl : i < env.length ∧ j < env.length ∧ i ≠ j) (h1 : f (hideOwn env) = some (d, e1)) (h2 : spoils d = true) (h3 : t ((hideOwn env).set i (.dat d)) = some (false, e2)) (h4 : fr ((env.set i .un).set j .un) = r) : fTold i j f t fr env = r := by
  unfold fTold
  rw [if_pos hl, h1]
  dsimp only
  rw [if_pos h2, h3]
  exact h4
theorem spoils_ll {l : List (List Cell)} (h1 : l.length ≤ 8) (h2 : ∀ f ∈ l, f.length ≤ 400) : spoils (.list [llD l, llD l]) = true := by
  have nd : noDicts [PyData.list (l.map lD), llD l] = true := by
    refine canLays_noDict _ ?_
    rw [PyData.canLayAll0, PyData.canLayAll0]
    have := lay_llD l
    unfold llD at this ⊢
    rw [this]; rfl
  show (noDicts (PyData.list (l.map lD) :: [llD l]) && (l.map lD).all (fun d => match d with
    | .list es => decide (es.length + (l.map lD).length < sizeLine)
    | _ => false) && decide ((l.map lD).length < sizeLine)) = true
  have sz := sizeLine_eq
  rw [nd, Bool.true_and, Bool.and_eq_true]
  refine ⟨?_, decide_eq_true (by rw [List.length_map]; omega)⟩
  rw [List.all_eq_true]
  intro d hd
  obtain ⟨f, hf, rfl⟩ := List.mem_map.mp hd
  show decide ((f.map cD).length + (l.map lD).length < sizeLine) = true
  have := h2 f hf
  exact decide_eq_true (by rw [List.length_map, List.length_map]; omega)
theorem count_ok {n : Nat} (h : n = 1 ∨ n = 2 ∨ n = 4 ∨ n = 8) : inA (fun c => !c) (.int (n : Nat)) (.tuple [.int 1, .int 2, .int 4, .int 8]) = some (.bool false) := by
  rcases h with h | h | h | h <;> subst h <;> rfl
theorem fComp_of' {α : Type} {vs : List Nat} {fi : FE (List D)} {g : TgF} {t : FE Bool} {f : FE D} {env env1 : SE} (enc : α → D) (l : List α) (p : α → Bool) (φ : α → D) (hi : fi env = some (l.map enc, env1)) (hl : l.length ≤ sizeLine)
    (h : ∀ a ∈ l, ∃ e1 e2, g (enc a) (wipeE env1 vs) = some e1 ∧ t e1 = some (p a, e2) ∧ (p a = true → ∃ e3, f e1 = some (φ a, e3))) : fComp vs fi g t f env = some (.list ((l.filter p).map φ), env1) := by
  unfold fComp
  rw [hi]
  dsimp only
  rw [if_pos (by simpa using hl), compD_map enc p φ l h]
theorem d_lawfloor {ms : List Int} {K most wide : Int} {rest : SE} {fa : FE (List D)} (h : PurseL K ms) (hK : K ≤ 800000000) (m1 : 1 ≤ most) (m2 : most ≤ 100) (w1 : 1 ≤ wide) (w2 : wide ≤ 100) (hf : fa (.own (purseD ms) :: rest) = some ([.int most, .int wide], .own (purseD ms) :: rest)) :
    ∃ fl ms', fCall1 3 0 fa F__law_floor (.own (purseD ms) :: rest) = some (lD fl, .own (purseD ms') :: rest) ∧ PurseL (K + 1000) ms' ∧ Floor fl ∧ (fl.length : Int) ≤ most ∧ ∀ c ∈ fl, c.1 < 1000000000000 ∧ c.2 < 1000000000000 := by
  obtain ⟨fl, ms', env, e, p, a, b, c⟩ := e_lawfloor h hK m1 m2 w1 w2
  exact ⟨fl, ms', call1_of (i := 0) (env1 := .own (purseD ms) :: rest) (ds := [.int most, .int wide]) (d := purseD ms) (d' := purseD ms') rfl hf rfl rfl e rfl, p, a, b, c⟩
theorem cut_take1 {α : Type} (xs : List α) : cutL xs none (some 1) = xs.take 1 := by
  unfold cutL
  have e1 : HT.sIx xs.length xs.length (some 1) = min 1 xs.length := HT.sIx_nat _ _ 1
  have e2 : HT.sIx xs.length 0 none = 0 := rfl
  rw [e1, e2]
  cases xs with
  | nil => rfl
  | cons x xs =>
    have : min 1 (x :: xs).length = 1 := by simp
    rw [this]; rfl

theorem e_right {ms : List Int} {K : Int} {fl : List Cell} (h : PurseL K ms) (hK : K ≤ 700000000) (hf : Floor fl) (hb : ∀ c ∈ fl, c.1 < 1000000000000 ∧ c.2 < 1000000000000) (hlen : fl.length ≤ 20) :
    ∃ ms' env, F__law_right [.own (purseD ms), .dat (lD fl)] = some (.bool true, .own (purseD ms') :: env) ∧ PurseL (K + 1100) ms' := by
  have nf := hf.conn.1
  have p60 : (2 : Int) ^ 60 = 1152921504606846976 := by decide
  have hb2 : ∀ c ∈ fl, c.1 < 1000000000002 ∧ c.2 < 1000000000002 := fun c hc => by have := hb c hc; omega
  have bnd : Bnd fl := fun c hc => by
    have h1 := hf.pos c hc
    have h2 := hb c hc
    omega
  have rp := e_repr bnd (by omega)
  obtain ⟨x1, m1⟩ := e_lforms nf (by omega : fl.length ≤ 1000)
  obtain ⟨x2, m2⟩ := e_floorforms hf
  have ffl := fun f (hff : f ∈ formsL fl) => form_floor hf hb2 hff
  have flen : ∀ f ∈ formsL fl, f.length ≤ 400 := fun f hff => (ffl f hff).1.len
  have dlen := forms_len_le (l := fl)
  have ex1 : exOk 7 (.list [llD (formsL fl), llD (formsL fl)]) = true := by
    show ([llD (formsL fl), llD (formsL fl)].all (exOk 6) && decide (2 ≤ sizeLine)) = true
    have e := ex_llD 2 (l := formsL fl) (by omega) (fun f hff => by have := flen f hff; omega)
    rw [List.all_cons, List.all_cons, e]; rfl
  have ex2 : exOk 7 (llD (formsL fl)) = true := ex_llD 3 (l := formsL fl) (by omega) (fun f hff => by have := flen f hff; omega)
  obtain ⟨x3, m3⟩ := e_exact7 _ ex1
  obtain ⟨x4, m4⟩ := e_exact7 _ ex2
  generalize hT : (lD fl).shown = TX at *
  -- the first two statements
  have s1 : sPar 2 3 false false (fMap (fCons (fName 1) fNil) gRepr) (fCall 1 [] (fCons (fName 1) fNil) F__law_forms) [.own (purseD ms), .dat (lD fl), .un, .un, .un, .un, .un, .un, .un, .un, .un, .un, .un, .un, .un, .un] =
      some (.nx [.own (purseD ms), .dat (lD fl), .dat (.str TX), .dat (llD (formsL fl)), .un, .un, .un, .un, .un, .un, .un, .un, .un, .un, .un, .un]) :=
    par_of (env2 := [.own (purseD ms), .dat (lD fl), .un, .un, .un, .un, .un, .un, .un, .un, .un, .un, .un, .un, .un, .un]) (map_of (cons_of rfl rfl) rp) (call_of (ds := [lD fl]) rfl rfl m1) ⟨by simp, by simp⟩
  -- draws
  obtain ⟨r1, ms1, e1, p1, a1, b1⟩ := d_draw (rest := [.dat (lD fl), .dat (.str TX), .dat (llD (formsL fl)), .un, .un, .un, .un, .un, .un, .un, .un, .un, .un, .un, .un]) (fm := fC (.int 99)) (many := 99) h (by omega) (by omega) (by omega) rfl
  obtain ⟨r2, ms2, e2, p2, a2, b2⟩ := d_draw (rest := [.dat (lD fl), .dat (.str TX), .dat (llD (formsL fl)), .un, .un, .un, .un, .un, .un, .un, .un, .un, .un, .un, .un]) (fm := f2 (fC (.int 10)) (fC (.int 10)) powD) (many := 10000000000) p1 (by omega) (by omega) (by omega) rfl
  have s3 : sAsg (fMap (fCons (fCall1 2 0 (fCons (fC (.int 99)) fNil) F__law_draw) (fCons (fCall1 2 0 (fCons (f2 (fC (.int 10)) (fC (.int 10)) powD) fNil) F__law_draw) fNil)) gTuple) (gUnp (gsCons (gSet 6) (gsCons (gSet 7) gsNil)) 2) [.own (purseD ms), .dat (lD fl), .dat (.str TX), .dat (llD (formsL fl)), .un, .un, .un, .un, .un, .un, .un, .un, .un, .un, .un, .un] =
      some (.nx [.own (purseD ms2), .dat (lD fl), .dat (.str TX), .dat (llD (formsL fl)), .un, .un, .dat (.int r1), .dat (.int r2), .un, .un, .un, .un, .un, .un, .un, .un]) :=
    asg_of (map_of (cons_of e1 (cons_of e2 rfl)) rfl) rfl
  -- others
  obtain ⟨x5, m5⟩ := e_lmoved nf (by omega : fl.length ≤ 1000)
  obtain ⟨f0, hf0, ms3, e3, p3⟩ := d_oneof lD (l := formsL fl) (rest := [.dat (lD fl), .dat (.str TX), .dat (llD (formsL fl)), .un, .un, .dat (.int r1), .dat (.int r2), .un, .un, .un, .un, .un, .un, .un, .un]) (fl := fName 3) (forms_ne nf) (by omega) p2 (by omega) rfl
  obtain ⟨ff0, fb0⟩ := ffl f0 hf0
  have c1 : fComp [13, 14] (fMap (fCall1 2 0 (fCons (fName 3) fNil) F__law_one_of) asL) (gUnp (gsCons (gSet 13) (gsCons (gSet 14) gsNil)) 2) fYes (fMap (fCons (f2 (fName 13) (fName 6) addD) (fCons (f2 (fName 14) (fName 7) addD) fNil)) gTuple) [.own (purseD ms2), .dat (lD fl), .dat (.str TX), .dat (llD (formsL fl)), .un, .un, .dat (.int r1), .dat (.int r2), .un, .un, .un, .un, .un, .un, .un, .un] =
      some (lD (f0.map (movC r1 r2)), [.own (purseD ms3), .dat (lD fl), .dat (.str TX), .dat (llD (formsL fl)), .un, .un, .dat (.int r1), .dat (.int r2), .un, .un, .un, .un, .un, .un, .un, .un]) := by
    rw [fComp_all' (env1 := [.own (purseD ms3), .dat (lD fl), .dat (.str TX), .dat (llD (formsL fl)), .un, .un, .dat (.int r1), .dat (.int r2), .un, .un, .un, .un, .un, .un, .un, .un]) cD f0 (fun c => cD (movC r1 r2 c)) (map_of (a := lD f0) e3 rfl) (szl (by have := ff0.len; omega)) fun c _ => ⟨_, _, rfl, rfl⟩]
    unfold lD
    rw [List.map_map]; rfl
  obtain ⟨g0, ms4, e4, p4, gf, glen, gb⟩ := d_lawfloor (most := 10) (wide := 4) (rest := [.dat (lD fl), .dat (.str TX), .dat (llD (formsL fl)), .un, .un, .dat (.int r1), .dat (.int r2), .un, .un, .un, .un, .un, .un, .un, .un]) (fa := fCons (fC (.int 10)) (fCons (fC (.int 4)) fNil)) p3 (by omega) (by omega) (by omega) (by omega) (by omega) rfl
  have s4 : sAsg (fMap (fCons (fCall 1 [] (fCons (fName 1) fNil) F__law_moved) (fCons (fComp [13, 14] (fMap (fCall1 2 0 (fCons (fName 3) fNil) F__law_one_of) asL) (gUnp (gsCons (gSet 13) (gsCons (gSet 14) gsNil)) 2) fYes (fMap (fCons (f2 (fName 13) (fName 6) addD) (fCons (f2 (fName 14) (fName 7) addD) fNil)) gTuple)) (fCons (fCall1 3 0 (fCons (fC (.int 10)) (fCons (fC (.int 4)) fNil)) F__law_floor) fNil))) gList) (gSet 8) [.own (purseD ms2), .dat (lD fl), .dat (.str TX), .dat (llD (formsL fl)), .un, .un, .dat (.int r1), .dat (.int r2), .un, .un, .un, .un, .un, .un, .un, .un] =
      some (.nx [.own (purseD ms4), .dat (lD fl), .dat (.str TX), .dat (llD (formsL fl)), .un, .un, .dat (.int r1), .dat (.int r2), .dat (llD [normC fl, f0.map (movC r1 r2), g0]), .un, .un, .un, .un, .un, .un, .un]) :=
    asg_of (map_of (cons_of (call_of (ds := [lD fl]) rfl rfl m5) (cons_of c1 (cons_of e4 rfl))) rfl) rfl
  -- near
  obtain ⟨hc, hhc, ms5, e5, p5⟩ := d_oneof cD (l := fl) (rest := [.dat (lD fl), .dat (.str TX), .dat (llD (formsL fl)), .un, .un, .dat (.int r1), .dat (.int r2), .dat (llD [normC fl, f0.map (movC r1 r2), g0]), .un, .un, .un, .un, .un, .un, .un]) (fl := fName 1) nf (by omega) p4 (by omega) rfl
  let near := (besL hc).filter fun c => !decide (c ∈ fl) && (decide (0 ≤ c.1) && decide (0 ≤ c.2))
  have c2 : fComp [15] (fMap (fCall 1 [] (fCons (fCall1 2 0 (fCons (fName 1) fNil) F__law_one_of) fNil) F__law_beside) asL) (gSet 15) (fAndB (fMap (f2 (fName 15) (fName 1) (inA fun c => !c)) asB) (fAndB (fMap (f2 (f2 (fName 15) (fC (.int 0)) ixD) (fC (.int 0)) (cmpI fun i j => decide (j ≤ i))) asB) (fMap (f2 (f2 (fName 15) (fC (.int 1)) ixD) (fC (.int 0)) (cmpI fun i j => decide (j ≤ i))) asB))) (fName 15) [.own (purseD ms4), .dat (lD fl), .dat (.str TX), .dat (llD (formsL fl)), .un, .un, .dat (.int r1), .dat (.int r2), .dat (llD [normC fl, f0.map (movC r1 r2), g0]), .un, .un, .un, .un, .un, .un, .un] =
      some (lD near, [.own (purseD ms5), .dat (lD fl), .dat (.str TX), .dat (llD (formsL fl)), .un, .un, .dat (.int r1), .dat (.int r2), .dat (llD [normC fl, f0.map (movC r1 r2), g0]), .un, .un, .un, .un, .un, .un, .un]) := by
    refine fComp_of' cD (besL hc) (fun c => !decide (c ∈ fl) && (decide (0 ≤ c.1) && decide (0 ≤ c.2))) cD (map_of (a := lD (besL hc)) (call_of (ds := [cD hc]) (cons_of e5 rfl) rfl (e_lbeside hc)) rfl) (by have := sizeLine_eq; simp [besL]; omega) fun c _ => ?_
    refine ⟨[.own (purseD ms5), .dat (lD fl), .dat (.str TX), .dat (llD (formsL fl)), .un, .un, .dat (.int r1), .dat (.int r2), .dat (llD [normC fl, f0.map (movC r1 r2), g0]), .un, .un, .un, .un, .un, .un, .dat (cD c)], [.own (purseD ms5), .dat (lD fl), .dat (.str TX), .dat (llD (formsL fl)), .un, .un, .dat (.int r1), .dat (.int r2), .dat (llD [normC fl, f0.map (movC r1 r2), g0]), .un, .un, .un, .un, .un, .un, .dat (cD c)], rfl, ?_, fun _ => ⟨_, rfl⟩⟩
    rw [andB_b (b := !decide (c ∈ fl)) (env1 := [.own (purseD ms5), .dat (lD fl), .dat (.str TX), .dat (llD (formsL fl)), .un, .un, .dat (.int r1), .dat (.int r2), .dat (llD [normC fl, f0.map (movC r1 r2), g0]), .un, .un, .un, .un, .un, .un, .dat (cD c)]) (map_of (f2_of rfl rfl (inA_cD (fun c => !c) c fl)) rfl)]
    cases (!decide (c ∈ fl))
    · rfl
    · show fAndB _ _ _ = _
      rw [andB_b (b := decide (0 ≤ c.1)) (env1 := [.own (purseD ms5), .dat (lD fl), .dat (.str TX), .dat (llD (formsL fl)), .un, .un, .dat (.int r1), .dat (.int r2), .dat (llD [normC fl, f0.map (movC r1 r2), g0]), .un, .un, .un, .un, .un, .un, .dat (cD c)]) rfl]
      cases decide (0 ≤ c.1) <;> rfl
  have s5 := asg_of (g := gSet 9) (env2 := [.own (purseD ms5), .dat (lD fl), .dat (.str TX), .dat (llD (formsL fl)), .un, .un, .dat (.int r1), .dat (.int r2), .dat (llD [normC fl, f0.map (movC r1 r2), g0]), .dat (lD near), .un, .un, .un, .un, .un, .un]) c2 rfl
  -- one cell more
  let more : List (List Cell) := if near = [] then [] else [sortC (fl ++ near.take 1)]
  have c3 : fComp [15] (fMap (fMap (fCons (fSlice (fName 9) fNoPart (fMap (fC (.int 1)) asPart)) fNil) gList) asL) (gSet 15) (fMap (f2 (fName 9) (fMap fNil gList) neD) asB) (fMap (fCons (f2 (fName 1) (fName 15) addD) fNil) gSorted) [.own (purseD ms5), .dat (lD fl), .dat (.str TX), .dat (llD (formsL fl)), .un, .un, .dat (.int r1), .dat (.int r2), .dat (llD [normC fl, f0.map (movC r1 r2), g0]), .dat (lD near), .un, .un, .un, .un, .un, .un] =
      some (llD more, [.own (purseD ms5), .dat (lD fl), .dat (.str TX), .dat (llD (formsL fl)), .un, .un, .dat (.int r1), .dat (.int r2), .dat (llD [normC fl, f0.map (movC r1 r2), g0]), .dat (lD near), .un, .un, .un, .un, .un, .un]) := by
    have nl : near.length ≤ 4 := List.length_filter_le _ _
    have := fComp_of' (env1 := [.own (purseD ms5), .dat (lD fl), .dat (.str TX), .dat (llD (formsL fl)), .un, .un, .dat (.int r1), .dat (.int r2), .dat (llD [normC fl, f0.map (movC r1 r2), g0]), .dat (lD near), .un, .un, .un, .un, .un, .un]) (env := [.own (purseD ms5), .dat (lD fl), .dat (.str TX), .dat (llD (formsL fl)), .un, .un, .dat (.int r1), .dat (.int r2), .dat (llD [normC fl, f0.map (movC r1 r2), g0]), .dat (lD near), .un, .un, .un, .un, .un, .un]) (vs := [15]) (g := gSet 15) (t := fMap (f2 (fName 9) (fMap fNil gList) neD) asB) (f := fMap (fCons (f2 (fName 1) (fName 15) addD) fNil) gSorted) (fi := fMap (fMap (fCons (fSlice (fName 9) fNoPart (fMap (fC (.int 1)) asPart)) fNil) gList) asL)
      lD [near.take 1] (fun _ => !decide (near = [])) (fun l => lD (sortC (fl ++ l))) (by
        have sl : fSlice (fName 9) fNoPart (fMap (fC (.int 1)) asPart) [.own (purseD ms5), .dat (lD fl), .dat (.str TX), .dat (llD (formsL fl)), .un, .un, .dat (.int r1), .dat (.int r2), .dat (llD [normC fl, f0.map (movC r1 r2), g0]), .dat (lD near), .un, .un, .un, .un, .un, .un] = some (lD (near.take 1), [.own (purseD ms5), .dat (lD fl), .dat (.str TX), .dat (llD (formsL fl)), .un, .un, .dat (.int r1), .dat (.int r2), .dat (llD [normC fl, f0.map (movC r1 r2), g0]), .dat (lD near), .un, .un, .un, .un, .un, .un]) := by
          show some (PyData.list (cutL (near.map cD) none (some 1)), _) = _
          rw [cut_take1, ← List.map_take]; rfl
        exact map_of (map_of (cons_of sl rfl) rfl) rfl) (by simp; have := sizeLine_eq; omega) (fun a ha => by
        have ea : a = near.take 1 := by simpa using ha
        subst ea
        refine ⟨_, _, rfl, map_of (a := .bool (!decide (near = []))) (f2_of (a := lD near) (b := lD []) rfl rfl ?_) rfl, fun _ => ⟨_, map_of (cons_of (f2_of (a := lD fl) (b := lD (near.take 1)) (c := lD (fl ++ near.take 1)) rfl rfl ?_) rfl) ?_⟩⟩
        · unfold neD
          rw [if_pos ⟨sh_lD near, sh_lD []⟩, eqv_lD]
        · show addD (.list (fl.map cD)) (.list ((near.take 1).map cD)) = _
          unfold addD
          dsimp only
          rw [if_pos (by rw [List.length_map, List.length_map]; refine szl ?_; have : (near.take 1).length ≤ 1 := List.length_take_le _ _; omega)]
          unfold lD
          rw [List.map_append]
        · unfold gSorted lD
          dsimp only
          rw [sortD_cD _ (szl (by rw [List.length_append]; have : (near.take 1).length ≤ 1 := List.length_take_le _ _; omega))]; rfl)
    rw [this]
    by_cases hn : near = []
    · show some (PyData.list (List.map _ (List.filter (fun _ => !decide (near = [])) _)), _) = _
      rw [decide_eq_true hn]
      have : more = [] := if_pos hn
      rw [this]; rfl
    · show some (PyData.list (List.map _ (List.filter (fun _ => !decide (near = [])) _)), _) = _
      rw [decide_eq_false hn]
      have : more = [sortC (fl ++ near.take 1)] := if_neg hn
      rw [this]; rfl
  have mlen : more.length ≤ 1 := by
    show (if near = [] then [] else [sortC (fl ++ near.take 1)]).length ≤ 1
    split <;> simp
  have s6 := asg_of (g := gSet 8) (env := [.own (purseD ms5), .dat (lD fl), .dat (.str TX), .dat (llD (formsL fl)), .un, .un, .dat (.int r1), .dat (.int r2), .dat (llD [normC fl, f0.map (movC r1 r2), g0]), .dat (lD near), .un, .un, .un, .un, .un, .un]) (env1 := [.own (purseD ms5), .dat (lD fl), .dat (.str TX), .dat (llD (formsL fl)), .un, .un, .dat (.int r1), .dat (.int r2), .dat (llD [normC fl, f0.map (movC r1 r2), g0]), .dat (lD near), .un, .un, .un, .un, .un, .un]) (env2 := [.own (purseD ms5), .dat (lD fl), .dat (.str TX), .dat (llD (formsL fl)), .un, .un, .dat (.int r1), .dat (.int r2), .dat (llD ([normC fl, f0.map (movC r1 r2), g0] ++ more)), .dat (lD near), .un, .un, .un, .un, .un, .un]) (f2_of (env := [.own (purseD ms5), .dat (lD fl), .dat (.str TX), .dat (llD (formsL fl)), .un, .un, .dat (.int r1), .dat (.int r2), .dat (llD [normC fl, f0.map (movC r1 r2), g0]), .dat (lD near), .un, .un, .un, .un, .un, .un]) (env1 := [.own (purseD ms5), .dat (lD fl), .dat (.str TX), .dat (llD (formsL fl)), .un, .un, .dat (.int r1), .dat (.int r2), .dat (llD [normC fl, f0.map (movC r1 r2), g0]), .dat (lD near), .un, .un, .un, .un, .un, .un]) (f := fName 8) (h := addD) (a := llD [normC fl, f0.map (movC r1 r2), g0]) (c := llD ([normC fl, f0.map (movC r1 r2), g0] ++ more)) rfl c3 (by
    show addD (.list ([normC fl, f0.map (movC r1 r2), g0].map lD)) (.list (more.map lD)) = _
    unfold addD
    dsimp only
    rw [if_pos (by rw [List.length_map, List.length_map]; refine szl ?_; simp; omega)]
    unfold llD
    rw [List.map_append])) rfl
  -- all of them are floors
  have oth : ∀ g ∈ [normC fl, f0.map (movC r1 r2), g0] ++ more, Floor g ∧ Bnd g := by
    intro g hg
    rcases List.mem_append.mp hg with hg | hg
    · simp only [List.mem_cons, List.mem_nil_iff, or_false] at hg
      rcases hg with e | e | e <;> subst e
      · obtain ⟨k1, k2⟩ := (hf.good hb2).floor
        refine ⟨k1, fun c hc => ?_⟩
        have h1 := k1.pos c hc
        have h2 := k2 c hc
        omega
      · refine ⟨⟨?_, fun c hc => ?_, ff0.conn.map (movC_inv r1 r2) movC_bes, by rw [List.length_map]; exact ff0.len⟩, fun c hc => ?_⟩
        · refine List.Pairwise.map _ (fun a b hab => ?_) ff0.inc
          rw [ltC_iff] at hab ⊢
          unfold movC
          dsimp only
          omega
        · obtain ⟨d, hd, rfl⟩ := List.mem_map.mp hc
          have := ff0.pos d hd
          unfold movC
          dsimp only
          omega
        · obtain ⟨d, hd, rfl⟩ := List.mem_map.mp hc
          have h1 := ff0.pos d hd
          have h2 := fb0 d hd
          unfold movC
          dsimp only
          omega
      · refine ⟨gf, fun c hc => ?_⟩
        have h1 := gf.pos c hc
        have h2 := gb c hc
        omega
    · by_cases hn : near = []
      · have : more = [] := if_pos hn
        rw [this] at hg; cases hg
      · have em : more = [sortC (fl ++ near.take 1)] := if_neg hn
        rw [em] at hg
        have hg : g = sortC (fl ++ near.take 1) := by simpa using hg
        obtain ⟨x, xs, ex⟩ : ∃ x xs, near = x :: xs := by
          cases q : near with
          | nil => exact absurd q hn
          | cons x xs => exact ⟨x, xs, rfl⟩
        have hx : x ∈ near := by rw [ex]; exact List.mem_cons_self
        have hx' := List.mem_filter.mp hx
        simp only [Bool.and_eq_true, Bool.not_eq_true', decide_eq_false_iff_not, decide_eq_true_eq] at hx'
        rw [ex] at hg
        have hg : g = sortC (fl ++ [x]) := hg
        subst hg
        have hbes := besL_mem.mp hx'.1
        have near1 : x.1 < 1000000000002 ∧ x.2 < 1000000000002 := by
          have := hb hc hhc
          rw [besC_mem] at hbes
          omega
        refine ⟨Floor.of ?_ (fun c hc' => ?_) (hf.conn.add hhc hbes) (by rw [List.length_append, List.length_singleton]; omega), fun c hc' => ?_⟩
        · rw [List.nodup_append]
          refine ⟨hf.nodup, by simp, fun a ha b hb' => ?_⟩
          have : b = x := by simpa using hb'
          subst this
          rintro rfl
          exact hx'.2.1 ha
        · rcases List.mem_append.mp hc' with h' | h'
          · exact hf.pos c h'
          · have : c = x := by simpa using h'
            subst this
            exact hx'.2.2
        · rcases List.mem_append.mp ((sortC_perm _).mem_iff.mp hc') with h' | h'
          · have h1 := hf.pos c h'
            have h2 := hb c h'
            omega
          · have : c = x := by simpa using h'
            subst this
            have := hx'.2.2
            omega
  have LOOP := sFor_inv (g := gSet 10) (bd := LBODY) (fi := fMap (fName 8) asL) lD ([normC fl, f0.map (movC r1 r2), g0] ++ more) (fun _ env => ∃ t4 t10 t11 t12, env = [.own (purseD ms5), .dat (lD fl), .dat (.str TX), .dat (llD (formsL fl)), t4, .un, .dat (.int r1), .dat (.int r2), .dat (llD ([normC fl, f0.map (movC r1 r2), g0] ++ more)), .dat (lD near), t10, t11, t12, .un, .un, .un]) (env := [.own (purseD ms5), .dat (lD fl), .dat (.str TX), .dat (llD (formsL fl)), .un, .un, .dat (.int r1), .dat (.int r2), .dat (llD ([normC fl, f0.map (movC r1 r2), g0] ++ more)), .dat (lD near), .un, .un, .un, .un, .un, .un]) rfl ⟨_, _, _, _, rfl⟩
  refine Exists.elim (LOOP ?_) ?_
  · rintro i gl env hgl ⟨t4, t10, t11, t12, rfl⟩
    obtain ⟨q1, q2⟩ := oth gl (List.mem_of_getElem? hgl)
    obtain ⟨u4, u11, u12, e⟩ := e_other hf q1 q2 (p := .own (purseD ms5)) (n := .dat (.str TX)) (s4 := t4) (s5 := .un) (s6 := .dat (.int r1)) (s7 := .dat (.int r2)) (s8 := .dat (llD ([normC fl, f0.map (movC r1 r2), g0] ++ more))) (s9 := .dat (lD near)) (s11 := t11) (s12 := t12) (s13 := .un) (s14 := .un) (s15 := .un)
    exact ⟨_, _, rfl, .inl e, _, _, _, _, rfl⟩
  · rintro env' ⟨l1, t4, t10, t11, t12, rfl⟩
    have told : fMap (fCons (fCall 1 [] (fCons (fName 1) fNil) F_floor_forms) (fCons (fCallO 1 false (fCons (fName 1) fNil) F_floor_forms) fNil)) gList [.un, .dat (lD fl), .dat (.str TX), .dat (llD (formsL fl)), .un, .un, .un, .un, .un, .un, .un, .un, .un, .un, .un, .un] = some (.list [llD (formsL fl), llD (formsL fl)], [.un, .dat (lD fl), .dat (.str TX), .dat (llD (formsL fl)), .un, .un, .un, .un, .un, .un, .un, .un, .un, .un, .un, .un]) :=
      map_of (cons_of (call_of (ds := [lD fl]) rfl rfl m2) (cons_of (callO_of (ds := [lD fl]) rfl rfl m2) rfl)) rfl
    refine ⟨ms5, [.dat (lD fl), .dat (.str TX), .dat (llD (formsL fl)), t4, .un, .dat (.int r1), .dat (.int r2), .dat (llD ([normC fl, f0.map (movC r1 r2), g0] ++ more)), .dat (lD near), t10, t11, t12, .un, .un, .un], run_rt (env := [.own (purseD ms5), .dat (lD fl), .dat (.str TX), .dat (llD (formsL fl)), t4, .un, .dat (.int r1), .dat (.int r2), .dat (llD ([normC fl, f0.map (movC r1 r2), g0] ++ more)), .dat (lD near), t10, t11, t12, .un, .un, .un]) ((seq_nx s1).trans (told_of (e1 := [.un, .dat (lD fl), .dat (.str TX), .dat (llD (formsL fl)), .un, .un, .un, .un, .un, .un, .un, .un, .un, .un, .un, .un]) (e2 := [.un, .dat (lD fl), .dat (.str TX), .dat (llD (formsL fl)), .dat (.list [llD (formsL fl), llD (formsL fl)]), .un, .un, .un, .un, .un, .un, .un, .un, .un, .un, .un]) (d := .list [llD (formsL fl), llD (formsL fl)]) ⟨by simp, by simp, by omega⟩ told (spoils_ll dlen flen) ?_ ((seq_nx s3).trans ((seq_nx s4).trans ((seq_nx s5).trans ((seq_nx s6).trans ((seq_nx l1).trans (ret_of ?_)))))))), by rw [show K + 1100 = K + 1100 by rfl]; exact p5.mono (by omega)⟩
    · rw [orB_b (b := false) (env1 := [.un, .dat (lD fl), .dat (.str TX), .dat (llD (formsL fl)), .dat (.list [llD (formsL fl), llD (formsL fl)]), .un, .un, .un, .un, .un, .un, .un, .un, .un, .un, .un])]
      · rw [cond_false]
        refine map_of (a := PyData.bool false) (f2_of (f := fMap (fCons (fName 3) fNil) gLen) (g := fMap (fCons (fC (.int 1)) (fCons (fC (.int 2)) (fCons (fC (.int 4)) (fCons (fC (.int 8)) fNil)))) gTuple) (h := inA fun c => !c) (b := .tuple [.int 1, .int 2, .int 4, .int 8]) (a := PyData.int ((formsL fl).map lD).length) (map_of (cons_of rfl rfl) rfl) rfl (c := PyData.bool false) ?_) rfl
        rw [List.length_map]
        exact count_ok (forms_count nf)
      · exact map_of (a := true) (map_of (a := .bool true) (call2_of (cons_of (map_of (cons_of rfl (cons_of rfl rfl)) rfl) (cons_of rfl rfl)) m3) rfl) rfl
    · have mc : fCall 1 [] (fCons (fName 1) fNil) F_floor_forms [.own (purseD ms5), .dat (lD fl), .dat (.str TX), .dat (llD (formsL fl)), t4, .un, .dat (.int r1), .dat (.int r2), .dat (llD ([normC fl, f0.map (movC r1 r2), g0] ++ more)), .dat (lD near), t10, t11, t12, .un, .un, .un] = some (llD (formsL fl), [.own (purseD ms5), .dat (lD fl), .dat (.str TX), .dat (llD (formsL fl)), t4, .un, .dat (.int r1), .dat (.int r2), .dat (llD ([normC fl, f0.map (movC r1 r2), g0] ++ more)), .dat (lD near), t10, t11, t12, .un, .un, .un]) := call_of (ds := [lD fl]) rfl rfl m2
      refine (and_b (b := true) (env1 := [.own (purseD ms5), .dat (lD fl), .dat (.str TX), .dat (llD (formsL fl)), t4, .un, .dat (.int r1), .dat (.int r2), .dat (llD ([normC fl, f0.map (movC r1 r2), g0] ++ more)), .dat (lD near), t10, t11, t12, .un, .un, .un]) (call2_of (a := llD (formsL fl)) (b := llD (formsL fl)) (cons_of rfl (cons_of mc rfl)) m4)).trans ?_
      refine f2_of (map_of (cons_of rfl rfl) rp) rfl ?_
      rw [← hT]
      exact eq_str fl
end K65


set_option Elab.async false
set_option linter.all false
set_option autoImplicit false
set_option maxRecDepth 100000
set_option maxHeartbeats 1000000
namespace K65
open PySem Vl Fl

theorem d_draw1 {ms : List Int} {K many : Int} {a : Slot} {rest : SE} (h : PurseL K ms) (hK : K ≤ 1000000000) (h1 : 1 ≤ many) (h2 : many < 2 ^ 60) :
    ∃ r ms', fCall1 2 1 (fCons (fC (.int many)) fNil) F__law_draw (a :: .own (purseD ms) :: rest) = some (.int r, a :: .own (purseD ms') :: rest) ∧ PurseL (K + 3) ms' ∧ 0 ≤ r ∧ r < many := by
  obtain ⟨r, ms', env, e, p, r0, r1⟩ := e_draw h hK h1 h2
  exact ⟨r, ms', call1_of (i := 1) (env1 := a :: .own (purseD ms) :: rest) (ds := [.int many]) (d := purseD ms) (d' := purseD ms') rfl (cons_of rfl rfl) rfl rfl e rfl, p, r0, r1⟩
theorem e_turn {ms : List Int} {K : Int} {a b c : Slot} (h : PurseL K ms) (hK : K ≤ 600000000) :
    ∃ ms', fCall1 2 1 (fCons (fCall1 3 1 (fCons (fC (.int 12)) (fCons (f2 (fC (.int 3)) (fCall1 2 1 (fCons (fC (.int 3)) fNil) F__law_draw) addD) fNil)) F__law_floor) fNil) F__law_right [a, .own (purseD ms), b, c] = some (.bool true, [a, .own (purseD ms'), b, c]) ∧ PurseL (K + 3000) ms' := by
  have p60 : (2 : Int) ^ 60 = 1152921504606846976 := by decide
  obtain ⟨r, ms1, e1, p1, r0, r1⟩ := d_draw1 (a := a) (rest := [b, c]) (many := 3) h (by omega) (by omega) (by omega)
  obtain ⟨fl, ms2, env2, e2, p2, ff, flen, fb⟩ := e_lawfloor (most := 12) (wide := 3 + r) p1 (by omega) (by omega) (by omega) (by omega) (by omega)
  have c2 : fCall1 3 1 (fCons (fC (.int 12)) (fCons (f2 (fC (.int 3)) (fCall1 2 1 (fCons (fC (.int 3)) fNil) F__law_draw) addD) fNil)) F__law_floor [a, .own (purseD ms), b, c] = some (lD fl, [a, .own (purseD ms2), b, c]) :=
    call1_of (i := 1) (env1 := [a, .own (purseD ms1), b, c]) (ds := [.int 12, .int (3 + r)]) (d := purseD ms1) (d' := purseD ms2) rfl (cons_of rfl (cons_of (f2_of (a := .int 3) (b := .int r) rfl e1 rfl) rfl)) rfl rfl e2 rfl
  obtain ⟨ms3, env3, e3, p3⟩ := e_right p2 (by omega) ff fb (by omega)
  exact ⟨ms3, call1_of (i := 1) (env1 := [a, .own (purseD ms2), b, c]) (ds := [lD fl]) (d := purseD ms2) (d' := purseD ms3) rfl (cons_of c2 rfl) rfl rfl e3 rfl, p3.mono (by omega)⟩
theorem l_bd {ms : List Int} {K : Int} (h : PurseL K ms) (hK : K ≤ 500000000) : ∃ env' ms', B_law ((uns 4).set 1 (.own (purseD ms))) = some (.nx env') ∧ env'.length = 4 ∧ env'[1]? = some (.own (purseD ms')) ∧ PurseL (K + 12000) ms' := by
  have L := sFor_inv (g := gSet 2) (bd := sIf (fNot (fMap (fCall1 2 1 (fCons (fCall1 3 1 (fCons (fC (.int 12)) (fCons (f2 (fC (.int 3)) (fCall1 2 1 (fCons (fC (.int 3)) fNil) F__law_draw) addD) fNil)) F__law_floor) fNil) F__law_right) asB)) (sRet (fC (.bool false))) sNil) (fi := fMap (fCons (fC (.int 4)) fNil) asR1) (env := [.un, .own (purseD ms), .un, .un]) (env0 := [.un, .own (purseD ms), .un, .un]) (fun n : Int => .int n) [0, 1, 2, 3] (fun i env => ∃ b ms', env = [.un, .own (purseD ms'), b, .un] ∧ PurseL (K + 3000 * i) ms') rfl ⟨_, _, rfl, by simpa using h⟩
  refine Exists.elim (L ?_) ?_
  · rintro i n env hi ⟨b, ms1, rfl, p⟩
    have hi4 : i < 4 := by
      have := (List.getElem?_eq_some_iff.mp hi).1
      simpa using this
    obtain ⟨ms2, e, p2⟩ := e_turn (a := .un) (b := .dat (.int n)) (c := .un) p (by omega)
    refine ⟨[.un, .own (purseD ms1), .dat (.int n), .un], [.un, .own (purseD ms2), .dat (.int n), .un], rfl, .inl ?_, _, _, rfl, p2.mono (by omega)⟩
    refine (if_f (env1 := [.un, .own (purseD ms2), .dat (.int n), .un]) ?_).trans rfl
    exact map_of (a := true) (map_of (a := .bool true) e rfl) rfl
  · rintro env' ⟨l1, b, ms', rfl, p⟩
    exact ⟨_, ms', l1, rfl, rfl, p.mono (by simp)⟩
def chk : Option Out → Bool
  | some (.rt (.bool true) _) => true
  | _ => false
theorem chk_of {o : Option Out} (h : chk o = true) : ∃ env', o = some (.rt (.bool true) env') := by
  unfold chk at h
  split at h
  · exact ⟨_, rfl⟩
  · cases h
set_option maxHeartbeats 0 in
theorem l_end : ∃ env', R_law (uns 4) = some (.rt (.bool true) env') := chk_of (by decide +kernel)
theorem hpow {i : Int} {n : Nat} (h : (Builtin.Int.intBits i : Int) * n ≤ 2 ^ 27) : powD (.int i) (.int n) = some (.int (i ^ n)) := by
  show (if (decide ((0 : Int) ≤ (n : Int)) && decide ((Builtin.Int.intBits i : Int) * (n : Int) ≤ 2 ^ 27)) = true then some (PyData.int (i ^ (n : Int).toNat)) else none) = _
  rw [if_pos (by rw [Bool.and_eq_true]; exact ⟨decide_eq_true (by omega), decide_eq_true h⟩), Int.toNat_natCast]
theorem l_purse (i sd : Int) : ∃ ms env', R_purse [.un, .dat (.int i), .dat (.int sd)] = some (.rt (purseD ms) env') ∧ (0 ≤ i → i ≤ 62 → PurseL 0 ms) := by
  let x : Int := if sd - 10 ^ 18 < 0 then 0 else sd - 10 ^ 18
  have hx : 0 ≤ x := by
    show 0 ≤ (if sd - 10 ^ 18 < 0 then 0 else sd - 10 ^ 18)
    split <;> omega
  have hm : (gBest fun a b => PySem.W.dataLt b a) [.int (sd - 10 ^ 18), .int 0] = some (.int x) := by
    show (if alikeB [.int (sd - 10 ^ 18), .int 0] = true ∧ (plain1 (.int (sd - 10 ^ 18)) && plain1 (.int 0)) = true then some (if PySem.W.dataLt (.int (sd - 10 ^ 18)) (.int 0) then PyData.int 0 else .int (sd - 10 ^ 18)) else none) = _
    rw [if_pos ⟨rfl, rfl⟩, PySem.W.dataLt_int]
    show some (if decide (sd - 10 ^ 18 < 0) = true then PyData.int 0 else .int (sd - 10 ^ 18)) = some (.int (if sd - 10 ^ 18 < 0 then 0 else sd - 10 ^ 18))
    by_cases hs : sd - 10 ^ 18 < 0
    · rw [if_pos hs, decide_eq_true hs]; rfl
    · rw [if_neg hs, decide_eq_false hs]; rfl
  have m1 : modD (.int x) (.int ((10 ^ 60) ^ 8)) = some (.int (x % 10 ^ 480)) := by
    show (if decide ((0 : Int) < (10 ^ 60) ^ 8) = true then some (PyData.int (x % (10 ^ 60) ^ 8)) else none) = _
    rw [if_pos (by decide), show ((10 : Int) ^ 60) ^ 8 = 10 ^ 480 by decide]
  have m2 : modD (.int sd) (.int 2147483629) = some (.int (sd % 2147483629)) := rfl
  have c1 : f2 (f2 (fC (.int 10)) (fC (.int 60)) powD) (fC (.int 8)) powD [.un, .dat (.int i), .dat (.int sd)] = some (.int ((10 ^ 60) ^ 8), [.un, .dat (.int i), .dat (.int sd)]) := f2_of (a := .int (10 ^ 60)) (b := .int 8) (f2_of (a := .int 10) (b := .int 60) rfl rfl (hpow (n := 60) (by decide +kernel))) rfl (hpow (n := 8) (by decide +kernel))
  refine ⟨[x % 10 ^ 480, sd % 2147483629, 0, i], _, ret_of (map_of (cons_of (f2_of (a := .int x) (b := .int ((10 ^ 60) ^ 8)) (map_of (cons_of (map_of (cons_of (f2_of (a := .int sd) (b := .int (10 ^ 18)) (c := .int (sd - 10 ^ 18)) rfl (f2_of (a := .int 10) (b := .int 18) rfl rfl (hpow (n := 18) (by decide +kernel))) rfl) (cons_of rfl rfl)) hm) rfl) rfl) c1 m1) (cons_of (f2_of (a := .int sd) (map_of (cons_of rfl rfl) rfl) rfl m2) (cons_of rfl (cons_of rfl rfl)))) rfl), fun i0 i1 => ⟨_, _, _, _, rfl, ⟨Int.emod_nonneg _ (by decide), Int.emod_lt_of_pos _ (by decide)⟩, ⟨Int.emod_nonneg _ (by decide), Int.emod_lt_of_pos _ (by decide)⟩, ⟨by omega, by omega⟩, i0, i1⟩⟩
open PySem.Spec L2 in
theorem ok_whole {P : Program} {w : World} {K : PySem.W.Frag} {mg : Str → Option Value} {base : Heap} (T : Txt K mg) : FnG P w K mg base 9 T.a_law T.d_law ["script"] (spLaw K) :=
  ok2_law T 12000 (by decide) (ok2_purses T (ok2_purse T fun i sd _ => l_purse i sd))
    (fun t ms ht h => by
      have := l_bd h (by omega)
      obtain ⟨env', ms', h1, h2, h3, h4⟩ := this
      exact ⟨env', ms', h1, h2, h3, h4.mono (by omega)⟩) l_end
end K65


open PySem PySem.W PyProof.Rows
set_option Elab.async false
set_option maxRecDepth 100000
set_option maxHeartbeats 0
open_top head65 for PySem.Challenge.rw_seenfromwithin_k65_whole_forms


set_option Elab.async false
set_option linter.all false
set_option autoImplicit false
set_option maxRecDepth 100000
set_option maxHeartbeats 0
namespace K65
open PySem PySem.Spec L2 Vl
theorem all_mk {P : Program} {w : World} {K : PySem.W.Frag} {h : Heap} {mg : Str → Option Value} {fa : Addr} (X : K.In h) (G : h.Ns mainGlobals mg) (hfa : mg "law" = some (.ref fa))
    (plain : ∀ (K : PySem.W.Frag) (mg : Str → Option Value) (base : Heap) (T : Txt K mg), FnG P w K mg base 9 T.a_law T.d_law ["script"] (spLaw K))
    {q0 : Addr} {oc0 kV0 dc0 pm0 cd0 ct0 : Value} {od0 an0 : Option Addr} {sl0 : Array (Option Value)}
    (a0 : PySem.W.nsIn K mainGlobals "is_whole" = some (some (.ref q0)))
    (l0 : K.lookup q0 = some ⟨oc0, od0, .func (PySem.W.fnOf "is_whole" "is_whole" (defArgs (top 1)) (defBody (top 1)) (defScope (top 1)) .none kV0 dc0 pm0 an0 cd0 ct0), sl0⟩)
    (c0 : PySem.W.codeIn K cd0 "is_whole" = true) (k0 : PySem.W.keepIn K (.ref q0) = true)
    {q1 : Addr} {oc1 kV1 dc1 pm1 cd1 ct1 : Value} {od1 an1 : Option Addr} {sl1 : Array (Option Value)}
    (a1 : PySem.W.nsIn K mainGlobals "is_count" = some (some (.ref q1)))
    {t1 : Addr} {ot1 : Obj} {u1 : Nat} {m1 : Nat}
    (l1 : K.lookup q1 = some ⟨oc1, od1, .func (PySem.W.fnOf "is_count" "is_count" (defArgs (top 2)) (defBody (top 2)) (defScope (top 2)) (.ref t1) kV1 dc1 pm1 an1 cd1 ct1), sl1⟩)
    (t11 : K.lookup t1 = some ot1) (t12 : ot1.data = .seq #[.int 0 u1] m1)
    (c1 : PySem.W.codeIn K cd1 "is_count" = true) (k1 : PySem.W.keepIn K (.ref q1) = true)
    {q2 : Addr} {oc2 kV2 dc2 pm2 cd2 ct2 : Value} {od2 an2 : Option Addr} {sl2 : Array (Option Value)}
    (a2 : PySem.W.nsIn K mainGlobals "is_tuple_of" = some (some (.ref q2)))
    (l2 : K.lookup q2 = some ⟨oc2, od2, .func (PySem.W.fnOf "is_tuple_of" "is_tuple_of" (defArgs (top 3)) (defBody (top 3)) (defScope (top 3)) .none kV2 dc2 pm2 an2 cd2 ct2), sl2⟩)
    (c2 : PySem.W.codeIn K cd2 "is_tuple_of" = true) (k2 : PySem.W.keepIn K (.ref q2) = true)
    {q3 : Addr} {oc3 kV3 dc3 pm3 cd3 ct3 : Value} {od3 an3 : Option Addr} {sl3 : Array (Option Value)}
    (a3 : PySem.W.nsIn K mainGlobals "is_cell" = some (some (.ref q3)))
    (l3 : K.lookup q3 = some ⟨oc3, od3, .func (PySem.W.fnOf "is_cell" "is_cell" (defArgs (top 9)) (defBody (top 9)) (defScope (top 9)) .none kV3 dc3 pm3 an3 cd3 ct3), sl3⟩)
    (c3 : PySem.W.codeIn K cd3 "is_cell" = true) (k3 : PySem.W.keepIn K (.ref q3) = true)
    {q4 : Addr} {oc4 kV4 dc4 pm4 cd4 ct4 : Value} {od4 an4 : Option Addr} {sl4 : Array (Option Value)}
    (a4 : PySem.W.nsIn K mainGlobals "beside" = some (some (.ref q4)))
    (l4 : K.lookup q4 = some ⟨oc4, od4, .func (PySem.W.fnOf "beside" "beside" (defArgs (top 10)) (defBody (top 10)) (defScope (top 10)) .none kV4 dc4 pm4 an4 cd4 ct4), sl4⟩)
    (c4 : PySem.W.codeIn K cd4 "beside" = true) (k4 : PySem.W.keepIn K (.ref q4) = true)
    {q5 : Addr} {oc5 kV5 dc5 pm5 cd5 ct5 : Value} {od5 an5 : Option Addr} {sl5 : Array (Option Value)}
    (a5 : PySem.W.nsIn K mainGlobals "parts_there" = some (some (.ref q5)))
    (l5 : K.lookup q5 = some ⟨oc5, od5, .func (PySem.W.fnOf "parts_there" "parts_there" (defArgs (top 11)) (defBody (top 11)) (defScope (top 11)) .none kV5 dc5 pm5 an5 cd5 ct5), sl5⟩)
    (c5 : PySem.W.codeIn K cd5 "parts_there" = true) (k5 : PySem.W.keepIn K (.ref q5) = true)
    {q6 : Addr} {oc6 kV6 dc6 pm6 cd6 ct6 : Value} {od6 an6 : Option Addr} {sl6 : Array (Option Value)}
    (a6 : PySem.W.nsIn K mainGlobals "is_floor" = some (some (.ref q6)))
    (l6 : K.lookup q6 = some ⟨oc6, od6, .func (PySem.W.fnOf "is_floor" "is_floor" (defArgs (top 12)) (defBody (top 12)) (defScope (top 12)) .none kV6 dc6 pm6 an6 cd6 ct6), sl6⟩)
    (c6 : PySem.W.codeIn K cd6 "is_floor" = true) (k6 : PySem.W.keepIn K (.ref q6) = true)
    {q7 : Addr} {oc7 kV7 dc7 pm7 cd7 ct7 : Value} {od7 an7 : Option Addr} {sl7 : Array (Option Value)}
    (a7 : PySem.W.nsIn K mainGlobals "check_floor" = some (some (.ref q7)))
    (l7 : K.lookup q7 = some ⟨oc7, od7, .func (PySem.W.fnOf "check_floor" "check_floor" (defArgs (top 13)) (defBody (top 13)) (defScope (top 13)) .none kV7 dc7 pm7 an7 cd7 ct7), sl7⟩)
    (c7 : PySem.W.codeIn K cd7 "check_floor" = true) (k7 : PySem.W.keepIn K (.ref q7) = true)
    {q8 : Addr} {oc8 kV8 dc8 pm8 cd8 ct8 : Value} {od8 an8 : Option Addr} {sl8 : Array (Option Value)}
    (a8 : PySem.W.nsIn K mainGlobals "moved_least" = some (some (.ref q8)))
    (l8 : K.lookup q8 = some ⟨oc8, od8, .func (PySem.W.fnOf "moved_least" "moved_least" (defArgs (top 14)) (defBody (top 14)) (defScope (top 14)) .none kV8 dc8 pm8 an8 cd8 ct8), sl8⟩)
    (c8 : PySem.W.codeIn K cd8 "moved_least" = true) (k8 : PySem.W.keepIn K (.ref q8) = true)
    {q9 : Addr} {oc9 kV9 dc9 pm9 cd9 ct9 : Value} {od9 an9 : Option Addr} {sl9 : Array (Option Value)}
    (a9 : PySem.W.nsIn K mainGlobals "forms_there" = some (some (.ref q9)))
    (l9 : K.lookup q9 = some ⟨oc9, od9, .func (PySem.W.fnOf "forms_there" "forms_there" (defArgs (top 15)) (defBody (top 15)) (defScope (top 15)) .none kV9 dc9 pm9 an9 cd9 ct9), sl9⟩)
    (c9 : PySem.W.codeIn K cd9 "forms_there" = true) (k9 : PySem.W.keepIn K (.ref q9) = true)
    {q10 : Addr} {oc10 kV10 dc10 pm10 cd10 ct10 : Value} {od10 an10 : Option Addr} {sl10 : Array (Option Value)}
    (a10 : PySem.W.nsIn K mainGlobals "floor_forms" = some (some (.ref q10)))
    (l10 : K.lookup q10 = some ⟨oc10, od10, .func (PySem.W.fnOf "floor_forms" "floor_forms" (defArgs (top 16)) (defBody (top 16)) (defScope (top 16)) .none kV10 dc10 pm10 an10 cd10 ct10), sl10⟩)
    (c10 : PySem.W.codeIn K cd10 "floor_forms" = true) (k10 : PySem.W.keepIn K (.ref q10) = true)
    {q11 : Addr} {oc11 kV11 dc11 pm11 cd11 ct11 : Value} {od11 an11 : Option Addr} {sl11 : Array (Option Value)}
    (a11 : PySem.W.nsIn K mainGlobals "are_floors_alike" = some (some (.ref q11)))
    (l11 : K.lookup q11 = some ⟨oc11, od11, .func (PySem.W.fnOf "are_floors_alike" "are_floors_alike" (defArgs (top 17)) (defBody (top 17)) (defScope (top 17)) .none kV11 dc11 pm11 an11 cd11 ct11), sl11⟩)
    (c11 : PySem.W.codeIn K cd11 "are_floors_alike" = true) (k11 : PySem.W.keepIn K (.ref q11) = true)
    {q12 : Addr} {oc12 kV12 dc12 pm12 cd12 ct12 : Value} {od12 an12 : Option Addr} {sl12 : Array (Option Value)}
    (a12 : PySem.W.nsIn K mainGlobals "_law_purse" = some (some (.ref q12)))
    (l12 : K.lookup q12 = some ⟨oc12, od12, .func (PySem.W.fnOf "_law_purse" "_law_purse" (defArgs (top 19)) (defBody (top 19)) (defScope (top 19)) .none kV12 dc12 pm12 an12 cd12 ct12), sl12⟩)
    (c12 : PySem.W.codeIn K cd12 "_law_purse" = true) (k12 : PySem.W.keepIn K (.ref q12) = true)
    {q13 : Addr} {oc13 kV13 dc13 pm13 cd13 ct13 : Value} {od13 an13 : Option Addr} {sl13 : Array (Option Value)}
    (a13 : PySem.W.nsIn K mainGlobals "_law_mixed" = some (some (.ref q13)))
    (l13 : K.lookup q13 = some ⟨oc13, od13, .func (PySem.W.fnOf "_law_mixed" "_law_mixed" (defArgs (top 20)) (defBody (top 20)) (defScope (top 20)) .none kV13 dc13 pm13 an13 cd13 ct13), sl13⟩)
    (c13 : PySem.W.codeIn K cd13 "_law_mixed" = true) (k13 : PySem.W.keepIn K (.ref q13) = true)
    {q14 : Addr} {oc14 kV14 dc14 pm14 cd14 ct14 : Value} {od14 an14 : Option Addr} {sl14 : Array (Option Value)}
    (a14 : PySem.W.nsIn K mainGlobals "_law_draw" = some (some (.ref q14)))
    (l14 : K.lookup q14 = some ⟨oc14, od14, .func (PySem.W.fnOf "_law_draw" "_law_draw" (defArgs (top 21)) (defBody (top 21)) (defScope (top 21)) .none kV14 dc14 pm14 an14 cd14 ct14), sl14⟩)
    (c14 : PySem.W.codeIn K cd14 "_law_draw" = true) (k14 : PySem.W.keepIn K (.ref q14) = true)
    {q15 : Addr} {oc15 kV15 dc15 pm15 cd15 ct15 : Value} {od15 an15 : Option Addr} {sl15 : Array (Option Value)}
    (a15 : PySem.W.nsIn K mainGlobals "_law_purses" = some (some (.ref q15)))
    (l15 : K.lookup q15 = some ⟨oc15, od15, .func (PySem.W.fnOf "_law_purses" "_law_purses" (defArgs (top 22)) (defBody (top 22)) (defScope (top 22)) .none kV15 dc15 pm15 an15 cd15 ct15), sl15⟩)
    (c15 : PySem.W.codeIn K cd15 "_law_purses" = true) (k15 : PySem.W.keepIn K (.ref q15) = true)
    {q16 : Addr} {oc16 kV16 dc16 pm16 cd16 ct16 : Value} {od16 an16 : Option Addr} {sl16 : Array (Option Value)}
    (a16 : PySem.W.nsIn K mainGlobals "_law_one_of" = some (some (.ref q16)))
    (l16 : K.lookup q16 = some ⟨oc16, od16, .func (PySem.W.fnOf "_law_one_of" "_law_one_of" (defArgs (top 23)) (defBody (top 23)) (defScope (top 23)) .none kV16 dc16 pm16 an16 cd16 ct16), sl16⟩)
    (c16 : PySem.W.codeIn K cd16 "_law_one_of" = true) (k16 : PySem.W.keepIn K (.ref q16) = true)
    {q17 : Addr} {oc17 kV17 dc17 pm17 cd17 ct17 : Value} {od17 an17 : Option Addr} {sl17 : Array (Option Value)}
    (a17 : PySem.W.nsIn K mainGlobals "_law_exact" = some (some (.ref q17)))
    (l17 : K.lookup q17 = some ⟨oc17, od17, .func (PySem.W.fnOf "_law_exact" "_law_exact" (defArgs (top 24)) (defBody (top 24)) (defScope (top 24)) .none kV17 dc17 pm17 an17 cd17 ct17), sl17⟩)
    (c17 : PySem.W.codeIn K cd17 "_law_exact" = true) (k17 : PySem.W.keepIn K (.ref q17) = true)
    {q18 : Addr} {oc18 kV18 dc18 pm18 cd18 ct18 : Value} {od18 an18 : Option Addr} {sl18 : Array (Option Value)}
    (a18 : PySem.W.nsIn K mainGlobals "_law_beside" = some (some (.ref q18)))
    (l18 : K.lookup q18 = some ⟨oc18, od18, .func (PySem.W.fnOf "_law_beside" "_law_beside" (defArgs (top 25)) (defBody (top 25)) (defScope (top 25)) .none kV18 dc18 pm18 an18 cd18 ct18), sl18⟩)
    (c18 : PySem.W.codeIn K cd18 "_law_beside" = true) (k18 : PySem.W.keepIn K (.ref q18) = true)
    {q19 : Addr} {oc19 kV19 dc19 pm19 cd19 ct19 : Value} {od19 an19 : Option Addr} {sl19 : Array (Option Value)}
    (a19 : PySem.W.nsIn K mainGlobals "_law_floor" = some (some (.ref q19)))
    (l19 : K.lookup q19 = some ⟨oc19, od19, .func (PySem.W.fnOf "_law_floor" "_law_floor" (defArgs (top 26)) (defBody (top 26)) (defScope (top 26)) .none kV19 dc19 pm19 an19 cd19 ct19), sl19⟩)
    (c19 : PySem.W.codeIn K cd19 "_law_floor" = true) (k19 : PySem.W.keepIn K (.ref q19) = true)
    {q20 : Addr} {oc20 kV20 dc20 pm20 cd20 ct20 : Value} {od20 an20 : Option Addr} {sl20 : Array (Option Value)}
    (a20 : PySem.W.nsIn K mainGlobals "_law_moved" = some (some (.ref q20)))
    (l20 : K.lookup q20 = some ⟨oc20, od20, .func (PySem.W.fnOf "_law_moved" "_law_moved" (defArgs (top 27)) (defBody (top 27)) (defScope (top 27)) .none kV20 dc20 pm20 an20 cd20 ct20), sl20⟩)
    (c20 : PySem.W.codeIn K cd20 "_law_moved" = true) (k20 : PySem.W.keepIn K (.ref q20) = true)
    {q21 : Addr} {oc21 kV21 dc21 pm21 cd21 ct21 : Value} {od21 an21 : Option Addr} {sl21 : Array (Option Value)}
    (a21 : PySem.W.nsIn K mainGlobals "_law_forms" = some (some (.ref q21)))
    (l21 : K.lookup q21 = some ⟨oc21, od21, .func (PySem.W.fnOf "_law_forms" "_law_forms" (defArgs (top 28)) (defBody (top 28)) (defScope (top 28)) .none kV21 dc21 pm21 an21 cd21 ct21), sl21⟩)
    (c21 : PySem.W.codeIn K cd21 "_law_forms" = true) (k21 : PySem.W.keepIn K (.ref q21) = true)
    {q22 : Addr} {oc22 kV22 dc22 pm22 cd22 ct22 : Value} {od22 an22 : Option Addr} {sl22 : Array (Option Value)}
    (a22 : PySem.W.nsIn K mainGlobals "_law_right" = some (some (.ref q22)))
    (l22 : K.lookup q22 = some ⟨oc22, od22, .func (PySem.W.fnOf "_law_right" "_law_right" (defArgs (top 29)) (defBody (top 29)) (defScope (top 29)) .none kV22 dc22 pm22 an22 cd22 ct22), sl22⟩)
    (c22 : PySem.W.codeIn K cd22 "_law_right" = true) (k22 : PySem.W.keepIn K (.ref q22) = true)
    {q23 : Addr} {oc23 kV23 dc23 pm23 cd23 ct23 : Value} {od23 an23 : Option Addr} {sl23 : Array (Option Value)}
    (a23 : PySem.W.nsIn K mainGlobals "law" = some (some (.ref q23)))
    (l23 : K.lookup q23 = some ⟨oc23, od23, .func (PySem.W.fnOf "law" "law" (defArgs (top 30)) (defBody (top 30)) (defScope (top 30)) .none kV23 dc23 pm23 an23 cd23 ct23), sl23⟩)
    (c23 : PySem.W.codeIn K cd23 "law" = true) (k23 : PySem.W.keepIn K (.ref q23) = true)
    (z_all : PySem.W.nsIn K mainGlobals "all" = some none)
    (z_bool : PySem.W.nsIn K mainGlobals "bool" = some none)
    (z_dict : PySem.W.nsIn K mainGlobals "dict" = some none)
    (z_int : PySem.W.nsIn K mainGlobals "int" = some none)
    (z_isinstance : PySem.W.nsIn K mainGlobals "isinstance" = some none)
    (z_len : PySem.W.nsIn K mainGlobals "len" = some none)
    (z_list : PySem.W.nsIn K mainGlobals "list" = some none)
    (z_max : PySem.W.nsIn K mainGlobals "max" = some none)
    (z_min : PySem.W.nsIn K mainGlobals "min" = some none)
    (z_range : PySem.W.nsIn K mainGlobals "range" = some none)
    (z_repr : PySem.W.nsIn K mainGlobals "repr" = some none)
    (z_sorted : PySem.W.nsIn K mainGlobals "sorted" = some none)
    (z_str : PySem.W.nsIn K mainGlobals "str" = some none)
    (z_sum : PySem.W.nsIn K mainGlobals "sum" = some none)
    (z_tuple : PySem.W.nsIn K mainGlobals "tuple" = some none)
    (z_zip : PySem.W.nsIn K mainGlobals "zip" = some none) :
    ∃ fd : FuncData, (∀ (s : Shared) (v : Value), BindsTo s fd ⟨[v], []⟩ [("script", v)]) ∧ ∀ base : Heap, K.In base → base.Ns mainGlobals mg → FnG P w K mg base 9 fa fd ["script"] (spLaw K) := by
  have e := hfa.symm.trans (PySem.W.mg_of X G a23)
  cases e
  have F0 := fun_mk (st := top 1) l0 c0 k0
  have B0 := F0.binds (ps := ["value"]) fun _ _ _ _ _ _ us hl => match us, hl with | [_], _ => rfl
  have F1 : FunD K "is_count" "is_count" (defArgs (top 2)) (defBody (top 2)) (defScope (top 2)) [.int 0] [] q1 _ := ⟨⟨_, _, _, _, _, _, _, _, _, _, rfl, l1, c1, .inr ⟨by simp, t1, _, [.int 0 u1], _, rfl, t11, t12, .cons ⟨_, rfl⟩ .nil⟩, .inl rfl⟩, k1⟩
  obtain ⟨ds1, e1⟩ := F1.binds1 (ps := ["value", "least"]) 1 0 (by simp) rfl (fun _ _ _ _ _ _ _ us its h1 h2 => match us, its, h1, h2 with | [_], [_], _, _ => ⟨_, rfl, rfl⟩)
  have F2 := fun_mk (st := top 3) l2 c2 k2
  have B2 := F2.binds (ps := ["value", "size"]) fun _ _ _ _ _ _ us hl => match us, hl with | [_, _], _ => rfl
  have F3 := fun_mk (st := top 9) l3 c3 k3
  have B3 := F3.binds (ps := ["value"]) fun _ _ _ _ _ _ us hl => match us, hl with | [_], _ => rfl
  have F4 := fun_mk (st := top 10) l4 c4 k4
  have B4 := F4.binds (ps := ["cell"]) fun _ _ _ _ _ _ us hl => match us, hl with | [_], _ => rfl
  have F5 := fun_mk (st := top 11) l5 c5 k5
  have B5 := F5.binds (ps := ["cells", "walls"]) fun _ _ _ _ _ _ us hl => match us, hl with | [_, _], _ => rfl
  have F6 := fun_mk (st := top 12) l6 c6 k6
  have B6 := F6.binds (ps := ["value"]) fun _ _ _ _ _ _ us hl => match us, hl with | [_], _ => rfl
  have F7 := fun_mk (st := top 13) l7 c7 k7
  have B7 := F7.binds (ps := ["value"]) fun _ _ _ _ _ _ us hl => match us, hl with | [_], _ => rfl
  have F8 := fun_mk (st := top 14) l8 c8 k8
  have B8 := F8.binds (ps := ["cells"]) fun _ _ _ _ _ _ us hl => match us, hl with | [_], _ => rfl
  have F9 := fun_mk (st := top 15) l9 c9 k9
  have B9 := F9.binds (ps := ["floor"]) fun _ _ _ _ _ _ us hl => match us, hl with | [_], _ => rfl
  have F10 := fun_mk (st := top 16) l10 c10 k10
  have B10 := F10.binds (ps := ["floor"]) fun _ _ _ _ _ _ us hl => match us, hl with | [_], _ => rfl
  have O10 : KBn K _ ["floor"] 0 ["floor"] (fun _ ws => turnL false ws) (fun _ zs => turnL false zs) := kbn_mk (g := fun l => turnL false l) F10 turnL_vals (fun _ _ _ _ _ _ ws hl => match ws, hl with | [_], _ => rfl)
  have F11 := fun_mk (st := top 17) l11 c11 k11
  have B11 := F11.binds (ps := ["floor", "other"]) fun _ _ _ _ _ _ us hl => match us, hl with | [_, _], _ => rfl
  have O11 : KBn K _ ["floor", "other"] 0 ["other", "floor"] (fun _ ws => turnL true ws) (fun _ zs => turnL true zs) := kbn_mk (g := fun l => turnL true l) F11 turnL_vals (fun _ _ _ _ _ _ ws hl => match ws, hl with | [_, _], _ => rfl)
  have F12 := fun_mk (st := top 19) l12 c12 k12
  have B12 := F12.binds (ps := ["script", "at"]) fun _ _ _ _ _ _ us hl => match us, hl with | [_, _], _ => rfl
  have F13 := fun_mk (st := top 20) l13 c13 k13
  have B13 := F13.binds (ps := ["seed", "spin", "at"]) fun _ _ _ _ _ _ us hl => match us, hl with | [_, _, _], _ => rfl
  have F14 := fun_mk (st := top 21) l14 c14 k14
  have B14 := F14.binds (ps := ["purse", "many"]) fun _ _ _ _ _ _ us hl => match us, hl with | [_, _], _ => rfl
  have F15 := fun_mk (st := top 22) l15 c15 k15
  have B15 := F15.binds (ps := ["script", "few"]) fun _ _ _ _ _ _ us hl => match us, hl with | [_, _], _ => rfl
  have F16 := fun_mk (st := top 23) l16 c16 k16
  have B16 := F16.binds (ps := ["purse", "some"]) fun _ _ _ _ _ _ us hl => match us, hl with | [_, _], _ => rfl
  have F17 := fun_mk (st := top 24) l17 c17 k17
  have B17 := F17.binds (ps := ["mine", "theirs"]) fun _ _ _ _ _ _ us hl => match us, hl with | [_, _], _ => rfl
  have F18 := fun_mk (st := top 25) l18 c18 k18
  have B18 := F18.binds (ps := ["cell"]) fun _ _ _ _ _ _ us hl => match us, hl with | [_], _ => rfl
  have F19 := fun_mk (st := top 26) l19 c19 k19
  have B19 := F19.binds (ps := ["purse", "most", "wide"]) fun _ _ _ _ _ _ us hl => match us, hl with | [_, _, _], _ => rfl
  have F20 := fun_mk (st := top 27) l20 c20 k20
  have B20 := F20.binds (ps := ["cells"]) fun _ _ _ _ _ _ us hl => match us, hl with | [_], _ => rfl
  have F21 := fun_mk (st := top 28) l21 c21 k21
  have B21 := F21.binds (ps := ["floor"]) fun _ _ _ _ _ _ us hl => match us, hl with | [_], _ => rfl
  have F22 := fun_mk (st := top 29) l22 c22 k22
  have B22 := F22.binds (ps := ["purse", "floor"]) fun _ _ _ _ _ _ us hl => match us, hl with | [_, _], _ => rfl
  have F23 := fun_mk (st := top 30) l23 c23 k23
  have B23 := F23.binds (ps := ["script"]) fun _ _ _ _ _ _ us hl => match us, hl with | [_], _ => rfl
  let T : Txt K mg := { a_is_whole := _, d_is_whole := _, f_is_whole := F0, b_is_whole := B0, m_is_whole := PySem.W.mg_of X G a0, a_is_count := _, d_is_count := _, f_is_count := F1, v_is_count := ds1, e_is_count := e1, m_is_count := PySem.W.mg_of X G a1, a_is_tuple_of := _, d_is_tuple_of := _, f_is_tuple_of := F2, b_is_tuple_of := B2, m_is_tuple_of := PySem.W.mg_of X G a2, a_is_cell := _, d_is_cell := _, f_is_cell := F3, b_is_cell := B3, m_is_cell := PySem.W.mg_of X G a3, a_beside := _, d_beside := _, f_beside := F4, b_beside := B4, m_beside := PySem.W.mg_of X G a4, a_parts_there := _, d_parts_there := _, f_parts_there := F5, b_parts_there := B5, m_parts_there := PySem.W.mg_of X G a5, a_is_floor := _, d_is_floor := _, f_is_floor := F6, b_is_floor := B6, m_is_floor := PySem.W.mg_of X G a6, a_check_floor := _, d_check_floor := _, f_check_floor := F7, b_check_floor := B7, m_check_floor := PySem.W.mg_of X G a7, a_moved_least := _, d_moved_least := _, f_moved_least := F8, b_moved_least := B8, m_moved_least := PySem.W.mg_of X G a8, a_forms_there := _, d_forms_there := _, f_forms_there := F9, b_forms_there := B9, m_forms_there := PySem.W.mg_of X G a9, a_floor_forms := _, d_floor_forms := _, f_floor_forms := F10, b_floor_forms := B10, o_floor_forms := O10, m_floor_forms := PySem.W.mg_of X G a10, a_are_floors_alike := _, d_are_floors_alike := _, f_are_floors_alike := F11, b_are_floors_alike := B11, o_are_floors_alike := O11, m_are_floors_alike := PySem.W.mg_of X G a11, a__law_purse := _, d__law_purse := _, f__law_purse := F12, b__law_purse := B12, m__law_purse := PySem.W.mg_of X G a12, a__law_mixed := _, d__law_mixed := _, f__law_mixed := F13, b__law_mixed := B13, m__law_mixed := PySem.W.mg_of X G a13, a__law_draw := _, d__law_draw := _, f__law_draw := F14, b__law_draw := B14, m__law_draw := PySem.W.mg_of X G a14, a__law_purses := _, d__law_purses := _, f__law_purses := F15, b__law_purses := B15, m__law_purses := PySem.W.mg_of X G a15, a__law_one_of := _, d__law_one_of := _, f__law_one_of := F16, b__law_one_of := B16, m__law_one_of := PySem.W.mg_of X G a16, a__law_exact := _, d__law_exact := _, f__law_exact := F17, b__law_exact := B17, m__law_exact := PySem.W.mg_of X G a17, a__law_beside := _, d__law_beside := _, f__law_beside := F18, b__law_beside := B18, m__law_beside := PySem.W.mg_of X G a18, a__law_floor := _, d__law_floor := _, f__law_floor := F19, b__law_floor := B19, m__law_floor := PySem.W.mg_of X G a19, a__law_moved := _, d__law_moved := _, f__law_moved := F20, b__law_moved := B20, m__law_moved := PySem.W.mg_of X G a20, a__law_forms := _, d__law_forms := _, f__law_forms := F21, b__law_forms := B21, m__law_forms := PySem.W.mg_of X G a21, a__law_right := _, d__law_right := _, f__law_right := F22, b__law_right := B22, m__law_right := PySem.W.mg_of X G a22, a_law := _, d_law := _, f_law := F23, b_law := B23, m_law := PySem.W.mg_of X G a23, g_all := PySem.W.mg_none_of X G z_all, g_bool := PySem.W.mg_none_of X G z_bool, g_dict := PySem.W.mg_none_of X G z_dict, g_int := PySem.W.mg_none_of X G z_int, g_isinstance := PySem.W.mg_none_of X G z_isinstance, g_len := PySem.W.mg_none_of X G z_len, g_list := PySem.W.mg_none_of X G z_list, g_max := PySem.W.mg_none_of X G z_max, g_min := PySem.W.mg_none_of X G z_min, g_range := PySem.W.mg_none_of X G z_range, g_repr := PySem.W.mg_none_of X G z_repr, g_sorted := PySem.W.mg_none_of X G z_sorted, g_str := PySem.W.mg_none_of X G z_str, g_sum := PySem.W.mg_none_of X G z_sum, g_tuple := PySem.W.mg_none_of X G z_tuple, g_zip := PySem.W.mg_none_of X G z_zip }
  exact ⟨PySem.W.fnOf "law" "law" (defArgs (top 30)) (defBody (top 30)) (defScope (top 30)) .none kV23 dc23 pm23 an23 cd23 ct23, fun s v => .of_eq rfl, fun base _ _ => plain K mg base T⟩
end K65
theorem PySem.Challenge.cw_seenfromwithin_k65_whole_forms_holds : PySem.Challenge.rw_seenfromwithin_k65_whole_forms.Holds := by
  refine head65 ?_
  k_fill
  refine (Vl.walk_ofG (l := PySem.Challenge.rw_seenfromwithin_k65_whole_forms) (n := 63) (k := 9) (x := "script") (sp := fun w => Vl.spLaw _) rfl (by decide) rfl ⟨⟨rfl, by decide, by decide⟩, rfl⟩ (fun w h Y => PySem.W.kIn_of Y) ?F (fun w H a ns h1 _ h3 => ⟨a, ns, rfl, h3, h1, fun _ => rfl⟩))
  intro w mg fa h KX G hmg
  refine' K65.all_mk KX G hmg (fun K mg base T => K65.ok_whole T) ?a0 ?l0 ?c0 ?k0 ?a1 ?l1 ?t11 ?t12 ?c1 ?k1 ?a2 ?l2 ?c2 ?k2 ?a3 ?l3 ?c3 ?k3 ?a4 ?l4 ?c4 ?k4 ?a5 ?l5 ?c5 ?k5 ?a6 ?l6 ?c6 ?k6 ?a7 ?l7 ?c7 ?k7 ?a8 ?l8 ?c8 ?k8 ?a9 ?l9 ?c9 ?k9 ?a10 ?l10 ?c10 ?k10 ?a11 ?l11 ?c11 ?k11 ?a12 ?l12 ?c12 ?k12 ?a13 ?l13 ?c13 ?k13 ?a14 ?l14 ?c14 ?k14 ?a15 ?l15 ?c15 ?k15 ?a16 ?l16 ?c16 ?k16 ?a17 ?l17 ?c17 ?k17 ?a18 ?l18 ?c18 ?k18 ?a19 ?l19 ?c19 ?k19 ?a20 ?l20 ?c20 ?k20 ?a21 ?l21 ?c21 ?k21 ?a22 ?l22 ?c22 ?k22 ?a23 ?l23 ?c23 ?k23 ?z_all ?z_bool ?z_dict ?z_int ?z_isinstance ?z_len ?z_list ?z_max ?z_min ?z_range ?z_repr ?z_sorted ?z_str ?z_sum ?z_tuple ?z_zip
  case a0 => k_is
  case l0 => k_is
  case c0 => k_is
  case k0 => k_is
  case a1 => k_is
  case l1 => k_is
  case t11 => exact rfl
  case t12 => exact rfl
  case c1 => k_is
  case k1 => k_is
  case a2 => k_is
  case l2 => k_is
  case c2 => k_is
  case k2 => k_is
  case a3 => k_is
  case l3 => k_is
  case c3 => k_is
  case k3 => k_is
  case a4 => k_is
  case l4 => k_is
  case c4 => k_is
  case k4 => k_is
  case a5 => k_is
  case l5 => k_is
  case c5 => k_is
  case k5 => k_is
  case a6 => k_is
  case l6 => k_is
  case c6 => k_is
  case k6 => k_is
  case a7 => k_is
  case l7 => k_is
  case c7 => k_is
  case k7 => k_is
  case a8 => k_is
  case l8 => k_is
  case c8 => k_is
  case k8 => k_is
  case a9 => k_is
  case l9 => k_is
  case c9 => k_is
  case k9 => k_is
  case a10 => k_is
  case l10 => k_is
  case c10 => k_is
  case k10 => k_is
  case a11 => k_is
  case l11 => k_is
  case c11 => k_is
  case k11 => k_is
  case a12 => k_is
  case l12 => k_is
  case c12 => k_is
  case k12 => k_is
  case a13 => k_is
  case l13 => k_is
  case c13 => k_is
  case k13 => k_is
  case a14 => k_is
  case l14 => k_is
  case c14 => k_is
  case k14 => k_is
  case a15 => k_is
  case l15 => k_is
  case c15 => k_is
  case k15 => k_is
  case a16 => k_is
  case l16 => k_is
  case c16 => k_is
  case k16 => k_is
  case a17 => k_is
  case l17 => k_is
  case c17 => k_is
  case k17 => k_is
  case a18 => k_is
  case l18 => k_is
  case c18 => k_is
  case k18 => k_is
  case a19 => k_is
  case l19 => k_is
  case c19 => k_is
  case k19 => k_is
  case a20 => k_is
  case l20 => k_is
  case c20 => k_is
  case k20 => k_is
  case a21 => k_is
  case l21 => k_is
  case c21 => k_is
  case k21 => k_is
  case a22 => k_is
  case l22 => k_is
  case c22 => k_is
  case k22 => k_is
  case a23 => k_is
  case l23 => k_is
  case c23 => k_is
  case k23 => k_is
  case z_all => k_is
  case z_bool => k_is
  case z_dict => k_is
  case z_int => k_is
  case z_isinstance => k_is
  case z_len => k_is
  case z_list => k_is
  case z_max => k_is
  case z_min => k_is
  case z_range => k_is
  case z_repr => k_is
  case z_sorted => k_is
  case z_str => k_is
  case z_sum => k_is
  case z_tuple => k_is
  case z_zip => k_is

