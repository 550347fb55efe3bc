import PyProof.Rows.All
import PySem.Challenge.RW_turnwise_k97_orders_read_and_written
import Wide.All
import OpenK.AllK
import Wide.FinOn
import HandS.ForMost
import HandS.Flow
import HandS.IsInst
import HandS.RaiseMore
import HandS.TupAny
import HandS.Style
import HandS.FStr
import HandS.Conv
import HandS.StrMore
import HandS.Deep
import PyProof.ReprRoads
import PyProof.Rows.RegStrFacts
import PyProof.Rows.RegFStrParts
import KE.KxField
import HandS.Replace
import HandS.ReplaceLit
import HandS.ReplaceDef
import KE.KIntText
import HandS.ExcInit
import KE.KExcSuper
import HandS.ExcField
import KE.KExcIs
import HandS.ExcIs
import HandS.More
set_option Elab.async false
set_option linter.all false
set_option maxRecDepth 100000
set_option maxHeartbeats 4000000
/-! The data layer: what a text computes, said of plain data alone (PyData), over the hand layer's judgements. -/
namespace DL
open PySem PySem.Spec PyProof.Rows L2

/-! ### data that stands -/
def keyD : Key → PyData
  | .inl i => .int i
  | .inr x => .str x
/-- a list that may be read: tracked, locked, or one of the written part -/
def RlK (K : PySem.W.Frag) (H : Hp) (a : Addr) (xs : List V) : Prop := Rd H a (.lst xs) ∨ ∃ its : List Value, K.lookup a = some { cls := .type "list", data := .seq its.toArray } ∧ xs.length ≤ sizeLine ∧ Vals xs its
theorem RlK.sq {K : PySem.W.Frag} {H : Hp} {a : Addr} {xs : List V} (h : RlK K H a xs) : SqL K H a xs := by
  rcases h with h | ⟨its, h1, h2, h3⟩
  · exact .inl h
  · exact .inr ⟨_, its.toArray, 0, h1, rfl, rfl, rfl, by rw [List.size_toArray, ← h3.length]; exact h2, by simpa using h3⟩
mutual
inductive Da (K : PySem.W.Frag) (H : Hp) : V → PyData → Prop
  | non : Da K H .non .none
  | bl (b : Bool) : Da K H (.bl b) (.bool b)
  | int (i : Int) : Da K H (.int i) (.int i)
  | str (x : Str) : Da K H (.str x) (.str x)
  | lst {a : Addr} {xs : List V} {ds : List PyData} : RlK K H a xs → DaAll K H xs ds → Da K H (.ref a) (.list ds)
  | tup {a : Addr} {xs : List V} {ds : List PyData} : SqT K H a xs → DaAll K H xs ds → Da K H (.ref a) (.tuple ds)
  | dic {a : Addr} {kvs : List (Key × V)} {ks : List (PyData × PyData)} : Rd H a (.dK kvs) → DaKv K H kvs ks → Da K H (.ref a) (.dict ks)
inductive DaAll (K : PySem.W.Frag) (H : Hp) : List V → List PyData → Prop
  | nil : DaAll K H [] []
  | cons {v : V} {vs : List V} {d : PyData} {ds : List PyData} : Da K H v d → DaAll K H vs ds → DaAll K H (v :: vs) (d :: ds)
inductive DaKv (K : PySem.W.Frag) (H : Hp) : List (Key × V) → List (PyData × PyData) → Prop
  | nil : DaKv K H [] []
  | cons {k : Key} {v : V} {kvs : List (Key × V)} {d : PyData} {ks : List (PyData × PyData)} : Da K H v d → DaKv K H kvs ks → DaKv K H ((k, v) :: kvs) ((keyD k, d) :: ks)
end

/-- what is read in the one may be read in the other -/
def RdLe (H H' : Hp) : Prop := ∀ a u, Rd H a u → Rd H' a u
theorem RdLe.refl (H : Hp) : RdLe H H := fun _ _ h => h
theorem RdLe.trans {H H1 H2 : Hp} (a : RdLe H H1) (b : RdLe H1 H2) : RdLe H H2 := fun x u h => b x u (a x u h)
theorem RlK.mono {K : PySem.W.Frag} {H H' : Hp} {a : Addr} {xs : List V} (h : RlK K H a xs) (e : RdLe H H') : RlK K H' a xs := h.imp (e a _) id
theorem RdLe.l {K : PySem.W.Frag} {H H' : Hp} {a : Addr} {xs : List V} (e : RdLe H H') (h : SqL K H a xs) : SqL K H' a xs := h.imp (e a _) id
theorem RdLe.t {K : PySem.W.Frag} {H H' : Hp} {a : Addr} {xs : List V} (e : RdLe H H') (h : SqT K H a xs) : SqT K H' a xs := h.imp (e a _) id
mutual
theorem Da.mono {K : PySem.W.Frag} {H H' : Hp} (e : RdLe H H') : ∀ {v : V} {d : PyData}, Da K H v d → Da K H' v d
  | _, _, .non => .non
  | _, _, .bl b => .bl b
  | _, _, .int i => .int i
  | _, _, .str x => .str x
  | _, _, .lst h a => .lst (h.mono e) (DaAll.mono e a)
  | _, _, .tup h a => .tup (e.t h) (DaAll.mono e a)
  | _, _, .dic h a => .dic (e _ _ h) (DaKv.mono e a)
theorem DaAll.mono {K : PySem.W.Frag} {H H' : Hp} (e : RdLe H H') : ∀ {vs : List V} {ds : List PyData}, DaAll K H vs ds → DaAll K H' vs ds
  | _, _, .nil => .nil
  | _, _, .cons h t => .cons (Da.mono e h) (DaAll.mono e t)
theorem DaKv.mono {K : PySem.W.Frag} {H H' : Hp} (e : RdLe H H') : ∀ {vs : List (Key × V)} {ds : List (PyData × PyData)}, DaKv K H vs ds → DaKv K H' vs ds
  | _, _, .nil => .nil
  | _, _, .cons h t => .cons (Da.mono e h) (DaKv.mono e t)
end
theorem DaAll.length {K : PySem.W.Frag} {H : Hp} : ∀ {vs : List V} {ds : List PyData}, DaAll K H vs ds → vs.length = ds.length
  | _, _, .nil => rfl
  | _, _, .cons _ t => congrArg (· + 1) (DaAll.length t)
theorem DaAll.get {K : PySem.W.Frag} {H : Hp} : ∀ {vs : List V} {ds : List PyData} {i : Nat} {v : V}, DaAll K H vs ds → vs[i]? = some v → ∃ d, ds[i]? = some d ∧ Da K H v d
  | _, _, _, _, .nil, e => by simp at e
  | _, _, 0, _, .cons h _, e => by
    simp at e
    subst e
    exact ⟨_, rfl, h⟩
  | _, _, i + 1, v, .cons _ t, e => by
    obtain ⟨d, h1, h2⟩ := DaAll.get (i := i) (v := v) t (by simpa using e)
    exact ⟨d, by simpa using h1, h2⟩
theorem DaAll.getD {K : PySem.W.Frag} {H : Hp} {vs : List V} {ds : List PyData} {i : Nat} {d : PyData} (h : DaAll K H vs ds) (e : ds[i]? = some d) : ∃ v, vs[i]? = some v ∧ Da K H v d := by
  have hi : i < vs.length := by
    rw [h.length]
    exact (List.getElem?_eq_some_iff.mp e).1
  obtain ⟨d', e', q⟩ := h.get (List.getElem?_eq_getElem hi)
  rw [e] at e'
  cases e'
  exact ⟨_, List.getElem?_eq_getElem hi, q⟩
theorem DaAll.append {K : PySem.W.Frag} {H : Hp} : ∀ {vs ws : List V} {ds es : List PyData}, DaAll K H vs ds → DaAll K H ws es → DaAll K H (vs ++ ws) (ds ++ es)
  | _, _, _, _, .nil, s => s
  | _, _, _, _, .cons h t, s => .cons h (DaAll.append t s)
theorem DaAll.set {K : PySem.W.Frag} {H : Hp} {v : V} {d : PyData} (q : Da K H v d) : ∀ {vs : List V} {ds : List PyData} (i : Nat), DaAll K H vs ds → DaAll K H (vs.set i v) (ds.set i d)
  | _, _, _, .nil => .nil
  | _, _, 0, .cons _ t => .cons q t
  | _, _, i + 1, .cons h t => .cons h (DaAll.set q i t)
theorem DaAll.take {K : PySem.W.Frag} {H : Hp} : ∀ {vs : List V} {ds : List PyData} (n : Nat), DaAll K H vs ds → DaAll K H (vs.take n) (ds.take n)
  | _, _, 0, _ => .nil
  | _, _, _ + 1, .nil => .nil
  | _, _, n + 1, .cons h t => .cons h (DaAll.take n t)
theorem DaAll.drop {K : PySem.W.Frag} {H : Hp} : ∀ {vs : List V} {ds : List PyData} (n : Nat), DaAll K H vs ds → DaAll K H (vs.drop n) (ds.drop n)
  | _, _, 0, h => h
  | _, _, _ + 1, .nil => .nil
  | _, _, n + 1, .cons _ t => DaAll.drop n t
theorem DaAll.reverse {K : PySem.W.Frag} {H : Hp} : ∀ {vs : List V} {ds : List PyData}, DaAll K H vs ds → DaAll K H vs.reverse ds.reverse
  | _, _, .nil => .nil
  | _, _, .cons h t => by
    rw [List.reverse_cons, List.reverse_cons]
    exact (DaAll.reverse t).append (.cons h .nil)

/-- data below, the heap above: each object as it is, or locked -/
def Sub (Hb H : Hp) : Prop := ∀ a u, Hb a = some u → H a = some u ∨ ((∀ o v, u ≠ .frz o v) ∧ ∃ o, H a = some (.frz o u))
theorem Sub.refl (H : Hp) : Sub H H := fun _ _ h => .inl h
theorem Sub.rd {Hb H : Hp} (s : Sub Hb H) : RdLe Hb H := fun a u h => by
  rcases h with h | ⟨o, h⟩
  · rcases s a _ h with q | ⟨_, o, q⟩
    · exact .inl q
    · exact .inr ⟨o, q⟩
  · rcases s a _ h with q | ⟨n, _⟩
    · exact .inr ⟨o, q⟩
    · exact absurd rfl (n o u)
theorem Sub.no {Hb H : Hp} (s : Sub Hb H) {a : Addr} (h : H a = none) : Hb a = none := by
  cases e : Hb a with
  | none => rfl
  | some u =>
    rcases s a u e with q | ⟨_, o, q⟩ <;> (rw [h] at q; cases q)
theorem Sub.of {Hb Hb2 H : Hp} (a : Same Hb Hb2) (s : Sub Hb2 H) : Sub Hb H := fun x u h => s x u (a x u h)
theorem same_rd {H H' : Hp} (s : Same H H') : RdLe H H' := fun a u h => by
  rcases h with h | ⟨o, h⟩
  · exact .inl (s a _ h)
  · exact .inr ⟨o, s a _ h⟩
theorem same_new {H : Hp} {p : Addr} {o : HO} (h : H p = none) : Same H (upd H p o) := fun b x e => by
  rw [upd_ne (ne_of_none e h)]
  exact e

/-- what may change: the objects O; new ones may come, the data stay -/
structure Grow (O : Addr → Prop) (Hb H Hb2 H2 : Hp) : Prop where
  per : Same Hb Hb2
  keep : ∀ a o, H a = some o → ¬ O a → H2 a = some o
  hid : ∀ a, ¬ O a → Hb a = none → H a ≠ none → Hb2 a = none
  there : ∀ a, H a ≠ none → H2 a ≠ none
abbrev N0 : Addr → Prop := fun _ => False
theorem Grow.refl (O : Addr → Prop) (Hb H : Hp) : Grow O Hb H Hb H := ⟨Same.refl _, fun _ _ h _ => h, fun _ _ h _ => h, fun _ h => h⟩
theorem Grow.trans {O O' : Addr → Prop} {Hb H Hb1 H1 Hb2 H2 : Hp} (a : Grow O Hb H Hb1 H1) (b : Grow O' Hb1 H1 Hb2 H2) (h : ∀ p, O' p → O p ∨ H p = none) : Grow O Hb H Hb2 H2 where
  per := a.per.trans b.per
  keep := fun p o e n => b.keep p o (a.keep p o e n) fun z => (h p z).elim n fun q => by
    rw [q] at e
    cases e
  hid := fun p n e k => b.hid p (fun z => (h p z).elim n k) (a.hid p n e k) (a.there p k)
  there := fun p k => b.there p (a.there p k)
theorem Grow.trans0 {O : Addr → Prop} {Hb H Hb1 H1 Hb2 H2 : Hp} (a : Grow O Hb H Hb1 H1) (b : Grow N0 Hb1 H1 Hb2 H2) : Grow O Hb H Hb2 H2 := a.trans b fun _ z => z.elim
theorem Grow.wide {O O' : Addr → Prop} {Hb H Hb2 H2 : Hp} (a : Grow O Hb H Hb2 H2) (h : ∀ p, O p → O' p) : Grow O' Hb H Hb2 H2 := ⟨a.per, fun p o e n => a.keep p o e fun z => n (h p z), fun p n => a.hid p fun z => n (h p z), a.there⟩
/-- a new object, tracked as data -/
theorem Grow.new {O : Addr → Prop} {Hb H : Hp} {p : Addr} {o : HO} (s : Sub Hb H) (h : H p = none) : Grow O Hb H (upd Hb p o) (upd H p o) where
  per := same_new (s.no h)
  keep := fun a u e _ => by
    rw [upd_ne (ne_of_none e h)]
    exact e
  hid := fun a _ e k => by
    have n : a ≠ p := fun z => k (z ▸ h)
    rw [upd_ne n]
    exact e
  there := fun a k => by
    have n : a ≠ p := fun z => k (z ▸ h)
    rw [upd_ne n]
    exact k
theorem Sub.new {Hb H : Hp} {p : Addr} {o : HO} (s : Sub Hb H) : Sub (upd Hb p o) (upd H p o) := fun a u e => by
  by_cases n : a = p
  · subst n
    rw [upd_same] at e ⊢
    exact .inl e
  · rw [upd_ne n] at e ⊢
    exact s a u e
/-- a new object, not told as data -/
theorem Grow.newH {O : Addr → Prop} {Hb H : Hp} {p : Addr} {o : HO} (h : H p = none) : Grow O Hb H Hb (upd H p o) where
  per := Same.refl _
  keep := fun a u e _ => by
    rw [upd_ne (ne_of_none e h)]
    exact e
  hid := fun a _ e _ => e
  there := fun a k => by
    have n : a ≠ p := fun z => k (z ▸ h)
    rw [upd_ne n]
    exact k
theorem Sub.newH {Hb H : Hp} {p : Addr} {o : HO} (s : Sub Hb H) (h : Hb p = Option.none) : Sub Hb (upd H p o) := fun a u e => by
  rw [upd_ne (ne_of_none e h)]
  exact s a u e
/-- an object of O is written -/
theorem Grow.write {O : Addr → Prop} {Hb H : Hp} {p : Addr} {o : HO} (h : O p) : Grow O Hb H Hb (upd H p o) where
  per := Same.refl _
  keep := fun a u e n => by
    have z : a ≠ p := fun z => n (z ▸ h)
    rw [upd_ne z]
    exact e
  hid := fun a _ e _ => e
  there := fun a k => by
    by_cases z : a = p
    · subst z
      rw [upd_same]
      simp
    · rw [upd_ne z]
      exact k

/-! ### the slots of a def, by data -/
/-- an own object (nobody else holds it): a list, a dict -/
inductive OD where
  | lst (ds : List PyData)
  | dic (ks : List (PyData × PyData))
inductive Sl where
  | un
  | pd (d : PyData)
  | ow (o : OD)
abbrev DEnv := List Sl
def OwOk (K : PySem.W.Frag) (Hb : Hp) : OD → HO → Prop
  | .lst ds, u => ∃ vs, u = .lst vs ∧ DaAll K Hb vs ds
  | .dic ks, u => ∃ kvs, u = .dK kvs ∧ DaKv K Hb kvs ks
theorem OwOk.mono {K : PySem.W.Frag} {Hb Hb2 : Hp} (e : RdLe Hb Hb2) {o : OD} {u : HO} (h : OwOk K Hb o u) : OwOk K Hb2 o u := by
  cases o with
  | lst ds =>
    obtain ⟨vs, e1, e2⟩ := h
    exact ⟨vs, e1, e2.mono e⟩
  | dic ks =>
    obtain ⟨vs, e1, e2⟩ := h
    exact ⟨vs, e1, e2.mono e⟩
def SlOk (K : PySem.W.Frag) (Hb H : Hp) (x : Option (Option V)) : Sl → Prop
  | .un => True
  | .pd d => ∃ v, x = some (some v) ∧ Da K Hb v d
  | .ow o => ∃ p u, x = some (some (.ref p)) ∧ Hb p = none ∧ H p = some u ∧ OwOk K Hb o u
def Owned (σ : L2.St) (ρ : DEnv) (p : Addr) : Prop := ∃ (i : Nat) (o : OD), ρ[i]? = some (.ow o) ∧ σ[i]? = some (some (.ref p))
structure Ok (K : PySem.W.Frag) (σ : L2.St) (Hb H : Hp) (ρ : DEnv) : Prop where
  len : ρ.length = σ.length
  sub : Sub Hb H
  sl : ∀ (i : Nat) (s : Sl), ρ[i]? = some s → SlOk K Hb H σ[i]? s
  ap : ∀ (i j : Nat) (o o' : OD) (p : Addr), ρ[i]? = some (.ow o) → ρ[j]? = some (.ow o') → σ[i]? = some (some (.ref p)) → σ[j]? = some (some (.ref p)) → i = j
/-- own objects may hold other things, all else is as it was -/
def Like (ρ ρ' : DEnv) : Prop := ρ.length = ρ'.length ∧ ∀ i : Nat, ρ[i]? = ρ'[i]? ∨ ∃ o o', ρ[i]? = some (.ow o) ∧ ρ'[i]? = some (.ow o')
theorem Like.refl (ρ : DEnv) : Like ρ ρ := ⟨rfl, fun _ => .inl rfl⟩
theorem Like.ow {ρ ρ' : DEnv} (h : Like ρ ρ') {i : Nat} {o : OD} (e : ρ'[i]? = some (.ow o)) : ∃ o', ρ[i]? = some (.ow o') := by
  rcases h.2 i with q | ⟨o1, o2, q1, q2⟩
  · exact ⟨o, q.trans e⟩
  · exact ⟨o1, q1⟩
theorem Like.symm {ρ ρ' : DEnv} (h : Like ρ ρ') : Like ρ' ρ := ⟨h.1.symm, fun i => (h.2 i).imp Eq.symm fun ⟨o, o', a, b⟩ => ⟨o', o, b, a⟩⟩
theorem Like.trans {ρ ρ1 ρ2 : DEnv} (h : Like ρ ρ1) (h' : Like ρ1 ρ2) : Like ρ ρ2 := ⟨h.1.trans h'.1, fun i => by
  rcases h.2 i with q | ⟨o1, o2, q1, q2⟩
  · rw [q]
    exact h'.2 i
  · rcases h'.2 i with r | ⟨o3, o4, r1, r2⟩
    · exact .inr ⟨o1, o2, q1, r ▸ q2⟩
    · exact .inr ⟨o1, o4, q1, r2⟩⟩
theorem Like.owned {σ : L2.St} {ρ ρ' : DEnv} (h : Like ρ ρ') {p : Addr} (q : Owned σ ρ' p) : Owned σ ρ p := by
  obtain ⟨i, o, e, s⟩ := q
  obtain ⟨o', e'⟩ := h.ow e
  exact ⟨i, o', e', s⟩
theorem Like.set {ρ : DEnv} {i : Nat} {o o' : OD} (h : ρ[i]? = some (.ow o)) : Like ρ (ρ.set i (.ow o')) := ⟨by simp, fun j => by
  by_cases e : i = j
  · subst e
    have hl := (List.getElem?_eq_some_iff.mp h).1
    exact .inr ⟨o, o', h, by rw [List.getElem?_set_self hl]⟩
  · rw [List.getElem?_set_ne e]
    exact .inl rfl⟩
section
variable {K : PySem.W.Frag} {σ : L2.St} {Hb H Hb2 H2 : Hp} {ρ ρ' : DEnv}
theorem Ok.own (h : Ok K σ Hb H ρ) {i : Nat} {o : OD} (e : ρ[i]? = some (.ow o)) : ∃ p u, σ[i]? = some (some (.ref p)) ∧ Hb p = none ∧ H p = some u ∧ OwOk K Hb o u := h.sl i _ e
theorem Ok.pd (h : Ok K σ Hb H ρ) {i : Nat} {d : PyData} (e : ρ[i]? = some (.pd d)) : ∃ v, σ[i]? = some (some v) ∧ Da K Hb v d := h.sl i _ e
/-- nothing of the own objects has changed -/
theorem Ok.grow (h : Ok K σ Hb H ρ) (g : Grow N0 Hb H Hb2 H2) (s : Sub Hb2 H2) : Ok K σ Hb2 H2 ρ := by
  refine ⟨h.len, s, fun i x e => ?_, h.ap⟩
  have q := h.sl i x e
  cases x with
  | un => trivial
  | pd d =>
    obtain ⟨v, e1, e2⟩ := q
    exact ⟨v, e1, e2.mono (same_rd g.per)⟩
  | ow o =>
    obtain ⟨p, u, e1, e2, e3, e4⟩ := q
    exact ⟨p, u, e1, g.hid p (fun z => z) e2 (by rw [e3]; simp), g.keep p u e3 fun z => z, e4.mono (same_rd g.per)⟩
/-- the own object of a slot is written -/
theorem Ok.write (h : Ok K σ Hb H ρ) {i : Nat} {o o' : OD} {p : Addr} {u : HO} (e : ρ[i]? = some (.ow o)) (es : σ[i]? = some (some (.ref p))) (q : OwOk K Hb o' u) : Ok K σ Hb (upd H p u) (ρ.set i (.ow o')) := by
  have hp : Hb p = none := by
    obtain ⟨p', _, e1, e2, _⟩ := h.own e
    rw [es] at e1
    cases e1
    exact e2
  have hl := (List.getElem?_eq_some_iff.mp e).1
  refine ⟨by rw [List.length_set]; exact h.len, fun a x ea => ?_, fun j x ej => ?_, fun j k o1 o2 r ej ek sj sk => ?_⟩
  · rw [upd_ne (ne_of_none ea hp)]
    exact h.sub a x ea
  · by_cases n : i = j
    · subst n
      rw [List.getElem?_set_self hl] at ej
      cases ej
      exact ⟨p, u, es, hp, upd_same, q⟩
    · rw [List.getElem?_set_ne n] at ej
      have z := h.sl j x ej
      cases x with
      | un => trivial
      | pd d => exact z
      | ow o2 =>
        obtain ⟨p2, u2, e1, e2, e3, e4⟩ := z
        refine ⟨p2, u2, e1, e2, ?_, e4⟩
        rw [upd_ne]
        · exact e3
        · rintro rfl
          exact n (h.ap i j o o2 p2 e ej es e1)
  · have back : ∀ (m : Nat) (o3 : OD), (ρ.set i (.ow o'))[m]? = some (.ow o3) → ∃ o4, ρ[m]? = some (.ow o4) := fun m o3 em => (Like.set (o' := o') e).ow em
    obtain ⟨_, e1⟩ := back j o1 ej
    obtain ⟨_, e2⟩ := back k o2 ek
    exact h.ap j k _ _ r e1 e2 sj sk
end

/-! ### what is wanted of a value that comes: it is told as data over the same, or grown, data -/
def Ret (K : PySem.W.Frag) (Hb H : Hp) (P : PyData → Prop) (Q : VK) : Prop := ∀ v d Hb2 H2, Sub Hb2 H2 → Grow N0 Hb H Hb2 H2 → Da K Hb2 v d → P d → Q v H2
section
variable {K : PySem.W.Frag} {Hb H : Hp} {P : PyData → Prop} {Q : VK}
theorem Ret.val (r : Ret K Hb H P Q) (s : Sub Hb H) {v : V} {d : PyData} (h : Da K Hb v d) (p : P d) : Q v H := r v d Hb H s (Grow.refl _ _ _) h p
theorem Ret.tup (r : Ret K Hb H P Q) (s : Sub Hb H) {vs : List V} {ds : List PyData} {a : Addr} (n : H a = none) (h : DaAll K Hb vs ds) (p : P (.tuple ds)) : Q (.ref a) (upd H a (.tup vs)) :=
  r _ _ (upd Hb a (.tup vs)) _ s.new (Grow.new s n) (.tup (.inl (.inl upd_same)) (h.mono (same_rd (same_new (s.no n))))) p
theorem Ret.lst (r : Ret K Hb H P Q) (s : Sub Hb H) {vs : List V} {ds : List PyData} {a : Addr} (n : H a = none) (h : DaAll K Hb vs ds) (p : P (.list ds)) : Q (.ref a) (upd H a (.lst vs)) :=
  r _ _ (upd Hb a (.lst vs)) _ s.new (Grow.new s n) (.lst (.inl (.inl upd_same)) (h.mono (same_rd (same_new (s.no n))))) p
end
end DL

/-! The data layer: judgements. EW: an expression comes to data; TW: a test; AW: arguments; EN: a new list or dict; SW, SsW: statements; GW: a target. -/
namespace DL
open PySem PySem.Spec PyProof.Rows L2

/-! ### expressions -/
def tW (K : PySem.W.Frag) (ρ : DEnv) (Post : PyData → DEnv → Prop) : TE := fun σ H Q => ∃ Hb, Ok K σ Hb H ρ ∧ ∀ v d Hb2 H2 ρ', Ok K σ Hb2 H2 ρ' → Grow (Owned σ ρ) Hb H Hb2 H2 → Like ρ ρ' → Da K Hb2 v d → Post d ρ' → Q v H2
def tWT (K : PySem.W.Frag) (ρ : DEnv) (Post : Bool → DEnv → Prop) : TT := fun σ H Q => ∃ Hb, Ok K σ Hb H ρ ∧ ∀ b Hb2 H2 ρ', Ok K σ Hb2 H2 ρ' → Grow (Owned σ ρ) Hb H Hb2 H2 → Like ρ ρ' → Post b ρ' → Q b H2
def tWA (K : PySem.W.Frag) (ρ : DEnv) (Post : List PyData → DEnv → Prop) : TA := fun σ H Q => ∃ Hb, Ok K σ Hb H ρ ∧ ∀ vs ds Hb2 H2 ρ', Ok K σ Hb2 H2 ρ' → Grow (Owned σ ρ) Hb H Hb2 H2 → Like ρ ρ' → DaAll K Hb2 vs ds → Post ds ρ' → Q vs H2
def tN (K : PySem.W.Frag) (ρ : DEnv) (Post : OD → DEnv → Prop) : TE := fun σ H Q => ∃ Hb, Ok K σ Hb H ρ ∧ ∀ p u o Hb2 H2 ρ', Ok K σ Hb2 H2 ρ' → Grow (Owned σ ρ) Hb H Hb2 H2 → Like ρ ρ' → H p = none → Hb2 p = none → H2 p = some u → OwOk K Hb2 o u → Post o ρ' → Q (.ref p) H2
def EW (X : Cx) (e : Expr) (ρ : DEnv) (Post : PyData → DEnv → Prop) : Prop := PE X e (tW X.K ρ Post)
def TW (X : Cx) (e : Expr) (ρ : DEnv) (Post : Bool → DEnv → Prop) : Prop := PT X e (tWT X.K ρ Post)
def TWW (X : Cx) (e : Expr) (ρ : DEnv) (Post : Bool → DEnv → Prop) : Prop := PW X e (tWT X.K ρ Post)
def AW (X : Cx) (es : List Expr) (ρ : DEnv) (Post : List PyData → DEnv → Prop) : Prop := PA X es (tWA X.K ρ Post)
def EN (X : Cx) (e : Expr) (ρ : DEnv) (Post : OD → DEnv → Prop) : Prop := PE X e (tN X.K ρ Post)
/-- the strongest reading there is -/
def tAny (X : Cx) (e : Expr) : TE := fun σ H Q => ∀ pins s, Inv X pins σ H s → wpAny (model X.prog X.w) X.A (eval e X.env) (EP X pins σ Q) X.xe s
def tAnyT (X : Cx) (e : Expr) : TT := fun σ H Q => ∀ pins s, Inv X pins σ H s → wpAny (model X.prog X.w) X.A (isTrue e X.env (eval e X.env)) (TP X pins σ Q) X.xe s
def tAnyW (X : Cx) (e : Expr) : TT := fun σ H Q => ∀ wh pins s, Inv X pins σ H s → wpAny (model X.prog X.w) X.A (isTrue e X.env wh) (TP X pins σ Q) X.xe s
def tAnyA (X : Cx) (es : List Expr) : TA := fun σ H Q => ∀ pos pins s, Inv X pins σ H s → wpAny (model X.prog X.w) X.A (spliced (backTo pos (starEach es X.env))) (AP X pins σ Q) X.xe s
def tAnyS (X : Cx) (st : Stmt) : TS := fun D σ H => ∀ pins s, Inv X pins σ H s → wpAny (model X.prog X.w) X.A (exec st X.env) (SP X pins D) X.xe s
def tAnySs (X : Cx) (st : List Stmt) : TS := fun D σ H => ∀ pins s, Inv X pins σ H s → wpAny (model X.prog X.w) X.A (execs st X.env) (SP X pins D) X.xe s
def tAnyG (X : Cx) (tg : Expr) : TG := fun v σ H Q => ∀ pins s u, Inv X pins σ H s → RelV v u → wpAny (model X.prog X.w) X.A (assign tg X.env u) (fun _ s' => ∃ σ' H', Inv X pins σ' H' s' ∧ Q σ' H') X.xe s
section
variable {X : Cx} {ρ : DEnv}
theorem pe_any (e : Expr) : PE X e (tAny X e) := ⟨fun pins s σ H Q I h => h pins s I⟩
theorem pt_any (e : Expr) : PT X e (tAnyT X e) := ⟨fun pins s σ H Q I h => h pins s I⟩
theorem pw_any (e : Expr) : PW X e (tAnyW X e) := ⟨fun wh pins s σ H Q I h => h wh pins s I⟩
theorem pa_any (es : List Expr) : PA X es (tAnyA X es) := ⟨fun pos pins s σ H Q I h => h pos pins s I⟩
theorem ps_any (st : Stmt) : PS X st (tAnyS X st) := ⟨fun pins s σ H D I h => h pins s I⟩
theorem pss_any (st : List Stmt) : PSs X st (tAnySs X st) := ⟨fun pins s σ H D I h => h pins s I⟩
theorem pg_any (tg : Expr) : PG X tg (tAnyG X tg) := ⟨fun pins s σ H v u Q I r h => h pins s u I r⟩
theorem EW.use {e : Expr} {Post : PyData → DEnv → Prop} (h : EW X e ρ Post) {σ : L2.St} {H : Hp} {Q : VK} (w : tW X.K ρ Post σ H Q) : tAny X e σ H Q := fun pins s I => h.run pins s σ H Q I w
theorem EN.use {e : Expr} {Post : OD → DEnv → Prop} (h : EN X e ρ Post) {σ : L2.St} {H : Hp} {Q : VK} (w : tN X.K ρ Post σ H Q) : tAny X e σ H Q := fun pins s I => h.run pins s σ H Q I w
theorem TW.use {e : Expr} {Post : Bool → DEnv → Prop} (h : TW X e ρ Post) {σ : L2.St} {H : Hp} {Q : Bool → Hp → Prop} (w : tWT X.K ρ Post σ H Q) : tAnyT X e σ H Q := fun pins s I => h.run pins s σ H Q I w
theorem TWW.use {e : Expr} {Post : Bool → DEnv → Prop} (h : TWW X e ρ Post) {σ : L2.St} {H : Hp} {Q : Bool → Hp → Prop} (w : tWT X.K ρ Post σ H Q) : tAnyW X e σ H Q := fun wh pins s I => h.run wh pins s σ H Q I w
theorem AW.use {es : List Expr} {Post : List PyData → DEnv → Prop} (h : AW X es ρ Post) {σ : L2.St} {H : Hp} {Q : List V → Hp → Prop} (w : tWA X.K ρ Post σ H Q) : tAnyA X es σ H Q := fun pos pins s I => h.run pos pins s σ H Q I w
theorem EW.by {e : Expr} {t : TE} {Post : PyData → DEnv → Prop} (h : PE X e t) (w : ∀ σ H Q, tW X.K ρ Post σ H Q → t σ H Q) : EW X e ρ Post := ⟨fun pins s σ H Q I q => h.run pins s σ H Q I (w σ H Q q)⟩
theorem EN.by {e : Expr} {t : TE} {Post : OD → DEnv → Prop} (h : PE X e t) (w : ∀ σ H Q, tN X.K ρ Post σ H Q → t σ H Q) : EN X e ρ Post := ⟨fun pins s σ H Q I q => h.run pins s σ H Q I (w σ H Q q)⟩
theorem TW.by {e : Expr} {t : TT} {Post : Bool → DEnv → Prop} (h : PT X e t) (w : ∀ σ H Q, tWT X.K ρ Post σ H Q → t σ H Q) : TW X e ρ Post := ⟨fun pins s σ H Q I q => h.run pins s σ H Q I (w σ H Q q)⟩
theorem TWW.by {e : Expr} {t : TT} {Post : Bool → DEnv → Prop} (h : PW X e t) (w : ∀ σ H Q, tWT X.K ρ Post σ H Q → t σ H Q) : TWW X e ρ Post := ⟨fun wh pins s σ H Q I q => h.run wh pins s σ H Q I (w σ H Q q)⟩
theorem AW.by {es : List Expr} {t : TA} {Post : List PyData → DEnv → Prop} (h : PA X es t) (w : ∀ σ H Q, tWA X.K ρ Post σ H Q → t σ H Q) : AW X es ρ Post := ⟨fun pos pins s σ H Q I q => h.run pos pins s σ H Q I (w σ H Q q)⟩
theorem EW.mono {e : Expr} {P P' : PyData → DEnv → Prop} (h : EW X e ρ P) (i : ∀ d ρ', P d ρ' → P' d ρ') : EW X e ρ P' := EW.by h fun σ H Q ⟨Hb, ok, q⟩ => ⟨Hb, ok, fun v d Hb2 H2 ρ' a b c d' p => q v d Hb2 H2 ρ' a b c d' (i _ _ p)⟩
theorem EN.mono {e : Expr} {P P' : OD → DEnv → Prop} (h : EN X e ρ P) (i : ∀ d ρ', P d ρ' → P' d ρ') : EN X e ρ P' := EN.by h fun σ H Q ⟨Hb, ok, q⟩ => ⟨Hb, ok, fun p u o Hb2 H2 ρ' a b c d e f g z => q p u o Hb2 H2 ρ' a b c d e f g (i _ _ z)⟩
theorem TW.mono {e : Expr} {P P' : Bool → DEnv → Prop} (h : TW X e ρ P) (i : ∀ d ρ', P d ρ' → P' d ρ') : TW X e ρ P' := TW.by h fun σ H Q ⟨Hb, ok, q⟩ => ⟨Hb, ok, fun b Hb2 H2 ρ' a c d p => q b Hb2 H2 ρ' a c d (i _ _ p)⟩
/-- the reading of an expression in the middle of another one: e, then what the continuation asks -/
theorem EW.go {e : Expr} {P : PyData → DEnv → Prop} {σ : L2.St} {H : Hp} {Q : VK} {ρ0 : DEnv} {Hb0 H0 Hb : Hp} (h : EW X e ρ P) (ok : Ok X.K σ Hb H ρ) (g : Grow (Owned σ ρ0) Hb0 H0 Hb H) (lk : Like ρ0 ρ)
    (k : ∀ v d Hb2 H2 ρ', Ok X.K σ Hb2 H2 ρ' → Grow (Owned σ ρ0) Hb0 H0 Hb2 H2 → Same Hb Hb2 → Like ρ0 ρ' → Da X.K Hb2 v d → P d ρ' → Q v H2) : tAny X e σ H Q :=
  h.use ⟨Hb, ok, fun v d Hb2 H2 ρ' ok' g' l' dv p => k v d Hb2 H2 ρ' ok' (g.trans g' fun p q => .inl (lk.owned q)) g'.per (lk.trans l') dv p⟩
theorem TW.go {e : Expr} {P : Bool → DEnv → Prop} {σ : L2.St} {H : Hp} {Q : Bool → Hp → Prop} {ρ0 : DEnv} {Hb0 H0 Hb : Hp} (h : TW X e ρ P) (ok : Ok X.K σ Hb H ρ) (g : Grow (Owned σ ρ0) Hb0 H0 Hb H) (lk : Like ρ0 ρ)
    (k : ∀ b Hb2 H2 ρ', Ok X.K σ Hb2 H2 ρ' → Grow (Owned σ ρ0) Hb0 H0 Hb2 H2 → Same Hb Hb2 → Like ρ0 ρ' → P b ρ' → Q b H2) : tAnyT X e σ H Q :=
  h.use ⟨Hb, ok, fun b Hb2 H2 ρ' ok' g' l' p => k b Hb2 H2 ρ' ok' (g.trans g' fun p q => .inl (lk.owned q)) g'.per (lk.trans l') p⟩
theorem TWW.go {e : Expr} {P : Bool → DEnv → Prop} {σ : L2.St} {H : Hp} {Q : Bool → Hp → Prop} {ρ0 : DEnv} {Hb0 H0 Hb : Hp} (h : TWW X e ρ P) (ok : Ok X.K σ Hb H ρ) (g : Grow (Owned σ ρ0) Hb0 H0 Hb H) (lk : Like ρ0 ρ)
    (k : ∀ b Hb2 H2 ρ', Ok X.K σ Hb2 H2 ρ' → Grow (Owned σ ρ0) Hb0 H0 Hb2 H2 → Same Hb Hb2 → Like ρ0 ρ' → P b ρ' → Q b H2) : tAnyW X e σ H Q :=
  h.use ⟨Hb, ok, fun b Hb2 H2 ρ' ok' g' l' p => k b Hb2 H2 ρ' ok' (g.trans g' fun p q => .inl (lk.owned q)) g'.per (lk.trans l') p⟩
theorem AW.go {es : List Expr} {P : List PyData → DEnv → Prop} {σ : L2.St} {H : Hp} {Q : List V → Hp → Prop} {ρ0 : DEnv} {Hb0 H0 Hb : Hp} (h : AW X es ρ P) (ok : Ok X.K σ Hb H ρ) (g : Grow (Owned σ ρ0) Hb0 H0 Hb H) (lk : Like ρ0 ρ)
    (k : ∀ vs ds Hb2 H2 ρ', Ok X.K σ Hb2 H2 ρ' → Grow (Owned σ ρ0) Hb0 H0 Hb2 H2 → Same Hb Hb2 → Like ρ0 ρ' → DaAll X.K Hb2 vs ds → P ds ρ' → Q vs H2) : tAnyA X es σ H Q :=
  h.use ⟨Hb, ok, fun vs ds Hb2 H2 ρ' ok' g' l' dv p => k vs ds Hb2 H2 ρ' ok' (g.trans g' fun p q => .inl (lk.owned q)) g'.per (lk.trans l') dv p⟩
/-- behind all parts: a value that comes without any change of own objects -/
theorem fin0 {K : PySem.W.Frag} {σ : L2.St} {H0 Hb0 Hb H : Hp} {ρ0 ρ1 : DEnv} {Post : PyData → DEnv → Prop} {Q : VK}
    (q : ∀ v d Hb2 H2 ρ', Ok K σ Hb2 H2 ρ' → Grow (Owned σ ρ0) Hb0 H0 Hb2 H2 → Like ρ0 ρ' → Da K Hb2 v d → Post d ρ' → Q v H2) (ok : Ok K σ Hb H ρ1) (g : Grow (Owned σ ρ0) Hb0 H0 Hb H) (lk : Like ρ0 ρ1) : Ret K Hb H (fun d => Post d ρ1) Q :=
  fun v d Hb2 H2 s g2 dv p => q v d Hb2 H2 ρ1 (ok.grow g2 s) (g.trans0 g2) lk dv p

/-! ### names, constants -/
theorem ew_name {x : Str} {pos : Pos} {Post : PyData → DEnv → Prop} (i : Nat) {d : PyData} (hp : PE X (.Name x pos) (tVar i)) (e : ρ[i]? = some (.pd d)) (h : Post d ρ) : EW X (.Name x pos) ρ Post :=
  EW.by hp fun σ H Q ⟨Hb, ok, q⟩ => by
    obtain ⟨v, e1, e2⟩ := ok.pd e
    exact ⟨v, e1, q v d Hb H ρ ok (Grow.refl _ _ _) (Like.refl _) e2 h⟩
theorem ew_const {e : Expr} {v : V} {Post : PyData → DEnv → Prop} {d : PyData} (hp : PE X e (tC v)) (dv : ∀ Hb, Da X.K Hb v d) (h : Post d ρ) : EW X e ρ Post :=
  EW.by hp fun σ H Q ⟨Hb, ok, q⟩ => q v d Hb H ρ ok (Grow.refl _ _ _) (Like.refl _) (dv Hb) h
theorem ew_int {i : Int} {j : Nat} {pos : Pos} {Post : PyData → DEnv → Prop} (h : Post (.int i) ρ) : EW X (.Constant (.int i) j pos) ρ Post := ew_const pe_int (fun _ => .int i) h
theorem ew_bl {b : Bool} {j : Nat} {pos : Pos} {Post : PyData → DEnv → Prop} (h : Post (.bool b) ρ) : EW X (.Constant (.bool b) j pos) ρ Post := ew_const pe_bl (fun _ => .bl b) h
theorem ew_non {j : Nat} {pos : Pos} {Post : PyData → DEnv → Prop} (h : Post .none ρ) : EW X (.Constant .none j pos) ρ Post := ew_const pe_non (fun _ => .non) h
theorem ew_str {x : Str} {j : Nat} {pos : Pos} {Post : PyData → DEnv → Prop} (h : Post (.str x) ρ) : EW X (.Constant (.str x) j pos) ρ Post := ew_const pe_str (fun _ => .str x) h

/-! ### operators: OpD tells an operator by data -/
abbrev G2 := PyData → PyData → (PyData → Prop) → Prop
abbrev G1 := PyData → (PyData → Prop) → Prop
abbrev GA := List PyData → (PyData → Prop) → Prop
def OpD (X : Cx) (f : Value → Value → Sem Value) (g : G2) : Prop := ∃ r : R2, OpR X f r ∧ ∀ Hb H x y dx dy (P : PyData → Prop) (Q : VK), Da X.K Hb x dx → Da X.K Hb y dy → Sub Hb H → g dx dy P → Ret X.K Hb H P Q → r x y H Q
def UnD (X : Cx) (f : Value → Sem Value) (g : G1) : Prop := ∃ r : V → Hp → VK → Prop, UnR X f r ∧ ∀ Hb H x dx (P : PyData → Prop) (Q : VK), Da X.K Hb x dx → Sub Hb H → g dx P → Ret X.K Hb H P Q → r x H Q
def CallD (X : Cx) (f : Value) (g : GA) : Prop := ∃ r : List V → Hp → VK → Prop, CallR X f r ∧ ∀ Hb H xs ds (P : PyData → Prop) (Q : VK), DaAll X.K Hb xs ds → Sub Hb H → g ds P → Ret X.K Hb H P Q → r xs H Q
/-- one of two -/
theorem OpD.or {f : Value → Value → Sem Value} {g g' : G2} (h : OpD X f g) (h' : OpD X f g') : OpD X f fun x y P => g x y P ∨ g' x y P := by
  obtain ⟨r, o, q⟩ := h
  obtain ⟨r', o', q'⟩ := h'
  refine ⟨fun x y H Q => r x y H Q ∨ r' x y H Q, fun pins s σ H x y v u Q I rx ry z => z.elim (o pins s σ H x y v u Q I rx ry) (o' pins s σ H x y v u Q I rx ry), fun Hb H x y dx dy P Q a b s g k => g.imp (fun z => q Hb H x y dx dy P Q a b s z k) fun z => q' Hb H x y dx dy P Q a b s z k⟩
theorem OpD.imp {f : Value → Value → Sem Value} {g g' : G2} (h : OpD X f g) (i : ∀ x y P, g' x y P → g x y P) : OpD X f g' := by
  obtain ⟨r, o, q⟩ := h
  exact ⟨r, o, fun Hb H x y dx dy P Q a b s z k => q Hb H x y dx dy P Q a b s (i _ _ _ z) k⟩
theorem CallD.or {f : Value} {g g' : GA} (h : CallD X f g) (h' : CallD X f g') : CallD X f fun x P => g x P ∨ g' x P := by
  obtain ⟨r, o, q⟩ := h
  obtain ⟨r', o', q'⟩ := h'
  refine ⟨fun x H Q => r x H Q ∨ r' x H Q, fun pins s σ H x v Q I rx z => z.elim (o pins s σ H x v Q I rx) (o' pins s σ H x v Q I rx), fun Hb H x dx P Q a s g k => g.imp (fun z => q Hb H x dx P Q a s z k) fun z => q' Hb H x dx P Q a s z k⟩
theorem CallD.imp {f : Value} {g g' : GA} (h : CallD X f g) (i : ∀ x P, g' x P → g x P) : CallD X f g' := by
  obtain ⟨r, o, q⟩ := h
  exact ⟨r, o, fun Hb H x dx P Q a s z k => q Hb H x dx P Q a s (i _ _ z) k⟩
variable {a b : Expr} {pos : Pos} {Post : PyData → DEnv → Prop}
theorem ew_bin {op : Operator} {g : G2} (ho : OpD X (binaryOp op) g) (h : EW X a ρ fun x ρ1 => EW X b ρ1 fun y ρ2 => g x y fun d => Post d ρ2) : EW X (.BinOp a op b pos) ρ Post := by
  obtain ⟨r, o, q⟩ := ho
  refine EW.by (pe_op o (pe_any a) (pe_any b)) fun σ H Q ⟨Hb, ok, k⟩ => ?_
  refine h.go ok (Grow.refl _ _ _) (Like.refl _) fun v dv Hb1 H1 ρ1 ok1 g1 _ l1 d1 p1 => ?_
  refine p1.go ok1 g1 l1 fun w dw Hb2 H2 ρ2 ok2 g2 s2 l2 d2 p2 => ?_
  exact q Hb2 H2 v w dv dw _ Q (d1.mono (same_rd s2)) d2 ok2.sub p2 (fin0 k ok2 g2 l2)
theorem ew_cmp {op : CmpOp} {g : G2} (ho : OpD X (compareOp op) g) (hm : behindInMarks op b = false) (h : EW X a ρ fun x ρ1 => EW X b ρ1 fun y ρ2 => g x y fun d => Post d ρ2) : EW X (.Compare a [op] [b] pos) ρ Post := by
  obtain ⟨r, o, q⟩ := ho
  refine EW.by (pe_cmpR o (pe_any a) (pe_any b) hm) fun σ H Q ⟨Hb, ok, k⟩ => ?_
  refine h.go ok (Grow.refl _ _ _) (Like.refl _) fun v dv Hb1 H1 ρ1 ok1 g1 _ l1 d1 p1 => ?_
  refine p1.go ok1 g1 l1 fun w dw Hb2 H2 ρ2 ok2 g2 s2 l2 d2 p2 => ?_
  exact q Hb2 H2 v w dv dw _ Q (d1.mono (same_rd s2)) d2 ok2.sub p2 (fin0 k ok2 g2 l2)
/-- data that is a bool -/
def IsB (d : PyData) (P : Bool → Prop) : Prop := ∃ b, d = .bool b ∧ P b
theorem tw_cmp {op : CmpOp} {g : G2} {P : Bool → DEnv → Prop} (ho : OpD X (compareOp op) g) (hm : behindInMarks op b = false) (h : EW X a ρ fun x ρ1 => EW X b ρ1 fun y ρ2 => g x y fun d => IsB d fun k => P k ρ2) : TW X (.Compare a [op] [b] pos) ρ P := by
  obtain ⟨r, o, q⟩ := ho
  refine TW.by (pt_cmpR o (pe_any a) (pe_any b) hm) fun σ H Q ⟨Hb, ok, k⟩ => ?_
  refine h.go ok (Grow.refl _ _ _) (Like.refl _) fun v dv Hb1 H1 ρ1 ok1 g1 _ l1 d1 p1 => ?_
  refine p1.go ok1 g1 l1 fun w dw Hb2 H2 ρ2 ok2 g2 s2 l2 d2 p2 => ?_
  refine q Hb2 H2 v w dv dw _ _ (d1.mono (same_rd s2)) d2 ok2.sub p2 fun z dz Hb3 H3 s3 g3 d3 ⟨bz, e, pz⟩ => ?_
  subst e
  cases d3
  exact ⟨bz, rfl, k bz Hb3 H3 ρ2 (ok2.grow g3 s3) (g2.trans0 g3) l2 pz⟩
theorem ew_un {op : UnaryOp} {g : G1} (ho : UnD X (unaryOp op) g) (h : EW X a ρ fun x ρ1 => g x fun d => Post d ρ1) : EW X (.UnaryOp op a pos) ρ Post := by
  obtain ⟨r, o, q⟩ := ho
  refine EW.by (pe_un o (pe_any a)) fun σ H Q ⟨Hb, ok, k⟩ => ?_
  refine h.go ok (Grow.refl _ _ _) (Like.refl _) fun v dv Hb1 H1 ρ1 ok1 g1 _ l1 d1 p1 => ?_
  exact q Hb1 H1 v dv _ Q d1 ok1.sub p1 (fin0 k ok1 g1 l1)

/-! ### arguments -/
theorem aw_nil {P : List PyData → DEnv → Prop} (h : P [] ρ) : AW X [] ρ P := AW.by pa_nil fun σ H Q ⟨Hb, ok, k⟩ => k [] [] Hb H ρ ok (Grow.refl _ _ _) (Like.refl _) .nil h
theorem aw_cons {e : Expr} {es : List Expr} {P : List PyData → DEnv → Prop} (h : EW X e ρ fun d ρ1 => AW X es ρ1 fun ds ρ2 => P (d :: ds) ρ2) (hs : starEach (e :: es) X.env = (false, eval e X.env) :: starEach es X.env := by rfl) : AW X (e :: es) ρ P := by
  refine AW.by (pa_cons (pe_any e) (pa_any es) hs) fun σ H Q ⟨Hb, ok, k⟩ => ?_
  refine h.go ok (Grow.refl _ _ _) (Like.refl _) fun v dv Hb1 H1 ρ1 ok1 g1 _ l1 d1 p1 => ?_
  refine p1.go ok1 g1 l1 fun vs ds Hb2 H2 ρ2 ok2 g2 s2 l2 d2 p2 => ?_
  exact k (v :: vs) (dv :: ds) Hb2 H2 ρ2 ok2 g2 l2 (.cons (d1.mono (same_rd s2)) d2) p2
theorem small {n : Nat} (h : n ≤ 100000) : n ≤ sizeLine := Nat.le_trans h (by decide)
theorem ew_tup {es : List Expr} {x1 : Nat} (h : AW X es ρ fun ds ρ' => ds.length ≤ 1000 ∧ Post (.tuple ds) ρ') : EW X (.Tuple es x1 pos) ρ Post := by
  refine EW.by (pe_tup (pa_any es)) fun σ H Q ⟨Hb, ok, k⟩ => ?_
  refine h.go ok (Grow.refl _ _ _) (Like.refl _) fun vs ds Hb1 H1 ρ1 ok1 g1 _ l1 d1 ⟨hz, p1⟩ => ?_
  exact ⟨by rw [d1.length]; exact small (by omega), fun p hp => (fin0 k ok1 g1 l1).tup ok1.sub hp d1 p1⟩
/-- a new list -/
theorem fin0N {K : PySem.W.Frag} {σ : L2.St} {H0 Hb0 Hb H : Hp} {ρ0 ρ1 : DEnv} {Post : OD → DEnv → Prop} {Q : VK} {p : Addr} {u : HO} {o : OD}
    (q : ∀ p u o Hb2 H2 ρ', Ok K σ Hb2 H2 ρ' → Grow (Owned σ ρ0) Hb0 H0 Hb2 H2 → Like ρ0 ρ' → H0 p = none → Hb2 p = none → H2 p = some u → OwOk K Hb2 o u → Post o ρ' → Q (.ref p) H2)
    (ok : Ok K σ Hb H ρ1) (g : Grow (Owned σ ρ0) Hb0 H0 Hb H) (lk : Like ρ0 ρ1) (n : H p = none) (w : OwOk K Hb o u) (h : Post o ρ1) : Q (.ref p) (upd H p u) := by
  have n0 : H0 p = none := by
    cases e : H0 p with
    | none => rfl
    | some x => exact absurd n (g.there p (by rw [e]; simp))
  have nb : Hb p = none := ok.sub.no n
  exact q p u o Hb (upd H p u) ρ1 (ok.grow (Grow.newH n) (ok.sub.newH nb)) (g.trans0 (Grow.newH n)) lk n0 nb upd_same w h
theorem en_lst {es : List Expr} {P : OD → DEnv → Prop} (h : AW X es ρ fun ds ρ' => ds.length ≤ 1000 ∧ P (.lst ds) ρ') : EN X (.List es pos) ρ P := by
  refine EN.by (pe_lst (pa_any es)) fun σ H Q ⟨Hb, ok, k⟩ => ?_
  refine h.go ok (Grow.refl _ _ _) (Like.refl _) fun vs ds Hb1 H1 ρ1 ok1 g1 _ l1 d1 ⟨hz, p1⟩ => ?_
  exact ⟨by rw [d1.length]; exact small (by omega), fun p hp => fin0N (o := .lst ds) k ok1 g1 l1 hp ⟨vs, rfl, d1⟩ p1⟩
def OD.data : OD → PyData
  | .lst ds => .list ds
  | .dic ks => .dict ks
/-- a new object, told as data from now on -/
theorem Ok.freeze {K : PySem.W.Frag} {σ : L2.St} {Hb H : Hp} {ρ : DEnv} {p : Addr} {u : HO} (ok : Ok K σ Hb H ρ) (hp : H p = some u) (n : ¬ Owned σ ρ p) (hb : Hb p = none) : Ok K σ (upd Hb p u) H ρ := by
  refine ⟨ok.len, fun a x e => ?_, fun i s e => ?_, ok.ap⟩
  · by_cases z : a = p
    · subst z
      rw [upd_same] at e
      cases e
      exact .inl hp
    · rw [upd_ne z] at e
      exact ok.sub a x e
  · have q := ok.sl i s e
    have m := same_rd (same_new (o := u) hb)
    cases s with
    | un => trivial
    | pd d =>
      obtain ⟨v, e1, e2⟩ := q
      exact ⟨v, e1, e2.mono m⟩
    | ow o =>
      obtain ⟨r, x, e1, e2, e3, e4⟩ := q
      refine ⟨r, x, e1, ?_, e3, e4.mono m⟩
      rw [upd_ne]
      · exact e2
      · rintro rfl
        exact n ⟨i, o, e, e1⟩
theorem OwOk.da {K : PySem.W.Frag} {Hb : Hp} {p : Addr} {u : HO} {o : OD} (hb : Hb p = none) (w : OwOk K Hb o u) : Da K (upd Hb p u) (.ref p) o.data := by
  have m := same_rd (same_new (o := u) hb)
  cases o with
  | lst ds =>
    obtain ⟨vs, rfl, h⟩ := w
    exact .lst (.inl (.inl upd_same)) (h.mono m)
  | dic ks =>
    obtain ⟨kvs, rfl, h⟩ := w
    exact .dic (.inl upd_same) (h.mono m)
theorem EN.ew {e : Expr} (h : EN X e ρ fun o ρ' => Post o.data ρ') : EW X e ρ Post := by
  refine EW.by h fun σ H Q ⟨Hb, ok, k⟩ => ⟨Hb, ok, fun p u o Hb2 H2 ρ' ok2 g2 l2 n nb hp w z => ?_⟩
  have no : ¬ Owned σ ρ' p := fun q => by
    obtain ⟨i, o', e1, e2⟩ := l2.owned q
    obtain ⟨p', u', s1, _, s3, _⟩ := ok.own e1
    rw [e2] at s1
    cases s1
    rw [n] at s3
    cases s3
  refine k (.ref p) o.data (upd Hb2 p u) H2 ρ' (ok2.freeze hp no nb) ⟨g2.per.trans (same_new nb), g2.keep, fun a na e k => ?_, g2.there⟩ l2 (w.da nb) z
  have z : a ≠ p := fun z => k (z ▸ n)
  rw [upd_ne z]
  exact g2.hid a na e k
theorem ew_lst {es : List Expr} (h : AW X es ρ fun ds ρ' => ds.length ≤ 1000 ∧ Post (.list ds) ρ') : EW X (.List es pos) ρ Post := (en_lst h).ew

/-! ### tests -/
theorem tw_of {P : Bool → DEnv → Prop} (he : ∀ wh, isTrue a X.env wh = (do let v ← wh; standAt a.pos; holding [v] (truthy v))) (h : EW X a ρ fun d ρ' => IsB d fun b => P b ρ') : TW X a ρ P := by
  refine TW.by (pt_val (pe_any a) he) fun σ H Q ⟨Hb, ok, k⟩ => ?_
  refine h.go ok (Grow.refl _ _ _) (Like.refl _) fun v dv Hb1 H1 ρ1 ok1 g1 _ l1 d1 ⟨bz, e, p1⟩ => ?_
  subst e
  cases d1
  exact ⟨bz, rfl, k bz Hb1 H1 ρ1 ok1 g1 l1 p1⟩
theorem tw_not {P : Bool → DEnv → Prop} (h : TW X a ρ fun c ρ' => P (!c) ρ') : TW X (.UnaryOp .Not a pos) ρ P := by
  refine TW.by (pt_not (pt_any a)) fun σ H Q ⟨Hb, ok, k⟩ => ?_
  exact h.go ok (Grow.refl _ _ _) (Like.refl _) fun c Hb1 H1 ρ1 ok1 g1 _ l1 p1 => k (!c) Hb1 H1 ρ1 ok1 g1 l1 p1
theorem TWW.tw {P : Bool → DEnv → Prop} (h : TWW X a ρ P) : TW X a ρ P := TW.by (PW.pt h) fun _ _ _ q => q
theorem tww_and1 {P : Bool → DEnv → Prop} (h : TW X a ρ P) : TWW X (.BoolOp .And [a] pos) ρ P := TWW.by (pw_and1 h) fun _ _ _ q => q
theorem tww_or1 {P : Bool → DEnv → Prop} (h : TW X a ρ P) : TWW X (.BoolOp .Or [a] pos) ρ P := TWW.by (pw_or1 h) fun _ _ _ q => q
theorem tww_and {rest : List Expr} {P : Bool → DEnv → Prop} (h : TW X a ρ fun c ρ1 => (c = true → TWW X (.BoolOp .And (b :: rest) pos) ρ1 P) ∧ (c = false → P false ρ1)) : TWW X (.BoolOp .And (a :: b :: rest) pos) ρ P := by
  refine TWW.by (pw_and (pt_any a) (pw_any _)) fun σ H Q ⟨Hb, ok, k⟩ => ?_
  refine h.go ok (Grow.refl _ _ _) (Like.refl _) fun c Hb1 H1 ρ1 ok1 g1 _ l1 ⟨p1, p2⟩ => ?_
  cases c with
  | true => exact (p1 rfl).go ok1 g1 l1 fun c Hb2 H2 ρ2 ok2 g2 _ l2 q => k c Hb2 H2 ρ2 ok2 g2 l2 q
  | false => exact k false Hb1 H1 ρ1 ok1 g1 l1 (p2 rfl)
theorem tww_or {rest : List Expr} {P : Bool → DEnv → Prop} (h : TW X a ρ fun c ρ1 => (c = true → P true ρ1) ∧ (c = false → TWW X (.BoolOp .Or (b :: rest) pos) ρ1 P)) : TWW X (.BoolOp .Or (a :: b :: rest) pos) ρ P := by
  refine TWW.by (pw_or (pt_any a) (pw_any _)) fun σ H Q ⟨Hb, ok, k⟩ => ?_
  refine h.go ok (Grow.refl _ _ _) (Like.refl _) fun c Hb1 H1 ρ1 ok1 g1 _ l1 ⟨p1, p2⟩ => ?_
  cases c with
  | true => exact k true Hb1 H1 ρ1 ok1 g1 l1 (p1 rfl)
  | false => exact (p2 rfl).go ok1 g1 l1 fun c Hb2 H2 ρ2 ok2 g2 _ l2 q => k c Hb2 H2 ρ2 ok2 g2 l2 q
/-! .. as values, of bools -/
theorem ew_one {op : BoolOp} (h : EW X a ρ Post) : EW X (.BoolOp op [a] pos) ρ Post := EW.by (pe_one h) fun _ _ _ q => q
theorem ew_and {rest : List Expr} (h : EW X a ρ fun d ρ1 => IsB d fun c => (c = true → EW X (.BoolOp .And (b :: rest) pos) ρ1 Post) ∧ (c = false → Post (.bool false) ρ1)) : EW X (.BoolOp .And (a :: b :: rest) pos) ρ Post := by
  refine EW.by (pe_and (pe_any a) (pe_any _)) fun σ H Q ⟨Hb, ok, k⟩ => ?_
  refine h.go ok (Grow.refl _ _ _) (Like.refl _) fun v dv Hb1 H1 ρ1 ok1 g1 _ l1 d1 ⟨c, e, p1, p2⟩ => ?_
  subst e
  cases d1
  refine ⟨c, rfl, ?_⟩
  cases c with
  | true => exact (p1 rfl).go ok1 g1 l1 fun v d Hb2 H2 ρ2 ok2 g2 _ l2 dv q => k v d Hb2 H2 ρ2 ok2 g2 l2 dv q
  | false => exact k _ _ Hb1 H1 ρ1 ok1 g1 l1 (.bl false) (p2 rfl)
theorem ew_or {rest : List Expr} (h : EW X a ρ fun d ρ1 => IsB d fun c => (c = true → Post (.bool true) ρ1) ∧ (c = false → EW X (.BoolOp .Or (b :: rest) pos) ρ1 Post)) : EW X (.BoolOp .Or (a :: b :: rest) pos) ρ Post := by
  refine EW.by (pe_or (pe_any a) (pe_any _)) fun σ H Q ⟨Hb, ok, k⟩ => ?_
  refine h.go ok (Grow.refl _ _ _) (Like.refl _) fun v dv Hb1 H1 ρ1 ok1 g1 _ l1 d1 ⟨c, e, p1, p2⟩ => ?_
  subst e
  cases d1
  refine ⟨c, rfl, ?_⟩
  cases c with
  | true => exact k _ _ Hb1 H1 ρ1 ok1 g1 l1 (.bl true) (p1 rfl)
  | false => exact (p2 rfl).go ok1 g1 l1 fun v d Hb2 H2 ρ2 ok2 g2 _ l2 dv q => k v d Hb2 H2 ρ2 ok2 g2 l2 dv q
theorem ew_not (h : EW X a ρ fun d ρ1 => IsB d fun c => Post (.bool (!c)) ρ1) : EW X (.UnaryOp .Not a pos) ρ Post := by
  refine EW.by (pe_not (pe_any a)) fun σ H Q ⟨Hb, ok, k⟩ => ?_
  refine h.go ok (Grow.refl _ _ _) (Like.refl _) fun v dv Hb1 H1 ρ1 ok1 g1 _ l1 d1 ⟨c, e, p1⟩ => ?_
  subst e
  cases d1
  exact ⟨c, rfl, k _ _ Hb1 H1 ρ1 ok1 g1 l1 (.bl _) p1⟩
theorem ew_ifExp {c : Expr} (h : TW X c ρ fun k ρ1 => (k = true → EW X a ρ1 Post) ∧ (k = false → EW X b ρ1 Post)) : EW X (.IfExp c a b pos) ρ Post := by
  refine EW.by (pe_ifExp (pt_any c) (pe_any a) (pe_any b)) fun σ H Q ⟨Hb, ok, k⟩ => ?_
  refine h.go ok (Grow.refl _ _ _) (Like.refl _) fun c Hb1 H1 ρ1 ok1 g1 _ l1 ⟨p1, p2⟩ => ?_
  cases c with
  | true => exact (p1 rfl).go ok1 g1 l1 fun v d Hb2 H2 ρ2 ok2 g2 _ l2 dv q => k v d Hb2 H2 ρ2 ok2 g2 l2 dv q
  | false => exact (p2 rfl).go ok1 g1 l1 fun v d Hb2 H2 ρ2 ok2 g2 _ l2 dv q => k v d Hb2 H2 ρ2 ok2 g2 l2 dv q
end
end DL

/-! The data layer: targets, statements, loops. -/
namespace DL
open PySem PySem.Spec PyProof.Rows L2

/-! ### slots forgotten -/
def wipeD (ρ : DEnv) : List Nat → DEnv
  | [] => ρ
  | v :: vs => (wipeD ρ vs).set v .un
theorem wipeD_length (ρ : DEnv) : ∀ vs, (wipeD ρ vs).length = ρ.length
  | [] => rfl
  | v :: vs => by
    unfold wipeD
    rw [List.length_set, wipeD_length ρ vs]
theorem wipeD_get (ρ : DEnv) : ∀ (vs : List Nat) (i : Nat), i ∉ vs → (wipeD ρ vs)[i]? = ρ[i]?
  | [], i, _ => rfl
  | v :: vs, i, h => by
    unfold wipeD
    rw [List.getElem?_set_ne (show v ≠ i from fun e => h (by rw [e]; exact List.mem_cons_self)), wipeD_get ρ vs i fun z => h (List.mem_cons_of_mem _ z)]
theorem wipeD_in {ρ : DEnv} {s : Sl} : ∀ {vs : List Nat} {i : Nat}, i ∈ vs → (wipeD ρ vs)[i]? = some s → s = .un
  | [], _, h, _ => by cases h
  | v :: vs, i, h, e => by
    unfold wipeD at e
    by_cases n : v = i
    · subst n
      by_cases hl : v < (wipeD ρ vs).length
      · rw [List.getElem?_set_self hl] at e
        exact (Option.some.inj e).symm
      · rw [List.getElem?_eq_none (by simpa using hl)] at e
        cases e
    · rw [List.getElem?_set_ne n] at e
      rcases List.mem_cons.mp h with z | z
      · exact absurd z.symm n
      · exact wipeD_in z e
theorem wipeD_idem (ρ : DEnv) (vs : List Nat) : wipeD (wipeD ρ vs) vs = wipeD ρ vs := by
  refine List.ext_getElem? fun i => ?_
  by_cases hv : i ∈ vs
  · by_cases hi : i < ρ.length
    · have h1 : i < (wipeD ρ vs).length := by rw [wipeD_length]; exact hi
      have h2 : i < (wipeD (wipeD ρ vs) vs).length := by rw [wipeD_length]; exact h1
      rw [List.getElem?_eq_getElem h1, List.getElem?_eq_getElem h2]
      rw [wipeD_in hv (List.getElem?_eq_getElem h1), wipeD_in hv (List.getElem?_eq_getElem h2)]
    · rw [List.getElem?_eq_none (by rw [wipeD_length, wipeD_length]; omega), List.getElem?_eq_none (by rw [wipeD_length]; omega)]
  · rw [wipeD_get _ vs i hv]
theorem wipeD_un (ρ : DEnv) {vs : List Nat} {i : Nat} (hv : i ∈ vs) (hi : i < ρ.length) : (wipeD ρ vs)[i]? = some .un := by
  have h1 : i < (wipeD ρ vs).length := by rw [wipeD_length]; exact hi
  rw [List.getElem?_eq_getElem h1, wipeD_in hv (List.getElem?_eq_getElem h1)]
theorem wipeD_set {ρ : DEnv} {i : Nat} {s : Sl} {vs : List Nat} (h : i ∈ vs) : wipeD (ρ.set i s) vs = wipeD ρ vs := by
  refine List.ext_getElem? fun j => ?_
  by_cases hv : j ∈ vs
  · by_cases hj : j < ρ.length
    · rw [wipeD_un ρ hv hj, wipeD_un _ hv (by simpa using hj)]
    · rw [List.getElem?_eq_none (by rw [wipeD_length, List.length_set]; omega), List.getElem?_eq_none (by rw [wipeD_length]; omega)]
  · rw [wipeD_get _ vs j hv, wipeD_get _ vs j hv, List.getElem?_set_ne]
    rintro rfl
    exact hv h
theorem Like.wiped {ρ ρ' : DEnv} (l : Like ρ ρ') (vs : List Nat) : Like (wipeD ρ vs) (wipeD ρ' vs) := by
  refine ⟨by rw [wipeD_length, wipeD_length]; exact l.1, fun i => ?_⟩
  by_cases hv : i ∈ vs
  · by_cases hi : i < ρ.length
    · rw [wipeD_un ρ hv hi, wipeD_un ρ' hv (l.1 ▸ hi)]
      exact .inl rfl
    · rw [List.getElem?_eq_none (by rw [wipeD_length]; omega), List.getElem?_eq_none (by rw [wipeD_length, ← l.1]; omega)]
      exact .inl rfl
  · rw [wipeD_get _ vs i hv, wipeD_get _ vs i hv]
    exact l.2 i

/-! ### targets -/
theorem wipe_get (σ : L2.St) : ∀ (vs : List Nat) (i : Nat), i ∉ vs → (wipe σ vs)[i]? = σ[i]?
  | [], i, _ => rfl
  | v :: vs, i, h => by
    unfold wipe
    rw [List.getElem?_set_ne (show v ≠ i from fun e => h (by rw [e]; exact List.mem_cons_self)), wipe_get σ vs i fun z => h (List.mem_cons_of_mem _ z)]
theorem wipe_set {i : Nat} {x : Option V} : ∀ {σ : L2.St} {vs : List Nat}, i ∈ vs → wipe (σ.set i x) vs = wipe σ vs := by
  intro σ vs
  induction vs with
  | nil => intro h; cases h
  | cons v vs ih =>
    intro h
    unfold wipe
    by_cases m : i ∈ vs
    · rw [ih m]
    · have e : i = v := by
        rcases List.mem_cons.mp h with e | e
        · exact e
        · exact absurd e m
      subst e
      have c : ∀ ws : List Nat, i ∉ ws → wipe (σ.set i x) ws = (wipe σ ws).set i x := by
        intro ws
        induction ws with
        | nil => intro _; rfl
        | cons w ws ihw =>
          intro hn
          unfold wipe
          rw [ihw fun z => hn (List.mem_cons_of_mem _ z), List.set_comm]
          exact fun z => hn (z ▸ List.mem_cons_self)
      rw [c vs m, List.set_set]
structure FinG (K : PySem.W.Frag) (ts : List Nat) (σ : L2.St) (ρ : DEnv) (Hb H : Hp) (σ' : L2.St) (ρ' : DEnv) (Hb2 H2 : Hp) : Prop where
  ok : Ok K σ' Hb2 H2 ρ'
  gr : Grow (Owned σ ρ) Hb H Hb2 H2
  ow : ∀ p, Owned σ' ρ' p → Owned σ ρ p ∨ H p = none
  wp : wipe σ' ts = wipe σ ts
  lw : Like (wipeD ρ ts) (wipeD ρ' ts)
theorem FinG.refl {K : PySem.W.Frag} {ts : List Nat} {σ : L2.St} {ρ : DEnv} {Hb H : Hp} (ok : Ok K σ Hb H ρ) : FinG K ts σ ρ Hb H σ ρ Hb H := ⟨ok, Grow.refl _ _ _, fun _ h => .inl h, rfl, Like.refl _⟩
theorem FinG.trans {K : PySem.W.Frag} {ts : List Nat} {σ σ1 σ2 : L2.St} {ρ ρ1 ρ2 : DEnv} {Hb H Hb1 H1 Hb2 H2 : Hp} (a : FinG K ts σ ρ Hb H σ1 ρ1 Hb1 H1) (b : FinG K ts σ1 ρ1 Hb1 H1 σ2 ρ2 Hb2 H2) : FinG K ts σ ρ Hb H σ2 ρ2 Hb2 H2 where
  ok := b.ok
  gr := a.gr.trans b.gr a.ow
  ow := fun p h => (b.ow p h).elim (a.ow p) fun n => .inr (by
    cases e : H p with
    | none => rfl
    | some o => exact absurd n (a.gr.there p (by rw [e]; simp)))
  wp := b.wp.trans a.wp
  lw := a.lw.trans b.lw
theorem FinG.like {K : PySem.W.Frag} {ts : List Nat} {σ : L2.St} {ρ ρ1 : DEnv} {Hb H Hb1 H1 : Hp} (ok : Ok K σ Hb1 H1 ρ1) (g : Grow (Owned σ ρ) Hb H Hb1 H1) (l : Like ρ ρ1) : FinG K ts σ ρ Hb H σ ρ1 Hb1 H1 := ⟨ok, g, fun _ h => .inl (l.owned h), rfl, l.wiped ts⟩
def tWG (K : PySem.W.Frag) (ts : List Nat) (d : PyData) (ρ : DEnv) (Post : DEnv → Prop) : TG := fun v σ H Q => ∃ Hb, Ok K σ Hb H ρ ∧ Da K Hb v d ∧ ∀ σ' ρ' Hb2 H2, FinG K ts σ ρ Hb H σ' ρ' Hb2 H2 → Post ρ' → Q σ' H2
def GW (X : Cx) (ts : List Nat) (tg : Expr) (d : PyData) (ρ : DEnv) (Post : DEnv → Prop) : Prop := PG X tg (tWG X.K ts d ρ Post)
/-- a slot gets data -/
theorem Ok.set {K : PySem.W.Frag} {σ : L2.St} {ρ : DEnv} {Hb H : Hp} (ok : Ok K σ Hb H ρ) {i : Nat} {v : V} {d : PyData} (hv : Da K Hb v d) : Ok K (σ.set i (some v)) Hb H (ρ.set i (.pd d)) := by
  refine ⟨by rw [List.length_set, List.length_set]; exact ok.len, ok.sub, fun j s e => ?_, fun j k o o' p ej ek sj sk => ?_⟩
  · by_cases n : i = j
    · subst n
      by_cases hl : i < ρ.length
      · rw [List.getElem?_set_self hl] at e
        cases e
        exact ⟨v, by rw [List.getElem?_set_self (ok.len ▸ hl)], hv⟩
      · rw [List.getElem?_eq_none (by simpa using hl)] at e
        cases e
    · rw [List.getElem?_set_ne n] at e
      have q := ok.sl j s e
      rw [List.getElem?_set_ne n]
      exact q
  · have nj : i ≠ j := by
      rintro rfl
      by_cases hl : i < ρ.length
      · rw [List.getElem?_set_self hl] at ej
        cases ej
      · rw [List.getElem?_eq_none (by simpa using hl)] at ej
        cases ej
    have nk : i ≠ k := by
      rintro rfl
      by_cases hl : i < ρ.length
      · rw [List.getElem?_set_self hl] at ek
        cases ek
      · rw [List.getElem?_eq_none (by simpa using hl)] at ek
        cases ek
    rw [List.getElem?_set_ne nj] at ej sj
    rw [List.getElem?_set_ne nk] at ek sk
    exact ok.ap j k o o' p ej ek sj sk
theorem owned_set {σ : L2.St} {ρ : DEnv} {i : Nat} {v : V} {d : PyData} {p : Addr} (h : Owned (σ.set i (some v)) (ρ.set i (.pd d)) p) : Owned σ ρ p := by
  obtain ⟨j, o, e, s⟩ := h
  have nj : i ≠ j := by
    rintro rfl
    by_cases hl : i < ρ.length
    · rw [List.getElem?_set_self hl] at e
      cases e
    · rw [List.getElem?_eq_none (by simpa using hl)] at e
      cases e
  rw [List.getElem?_set_ne nj] at e s
  exact ⟨j, o, e, s⟩
theorem FinG.set {K : PySem.W.Frag} {ts : List Nat} {σ : L2.St} {ρ : DEnv} {Hb H : Hp} (ok : Ok K σ Hb H ρ) {i : Nat} {v : V} {d : PyData} (hv : Da K Hb v d) (hi : i ∈ ts) : FinG K ts σ ρ Hb H (σ.set i (some v)) (ρ.set i (.pd d)) Hb H :=
  ⟨ok.set hv, Grow.refl _ _ _, fun _ h => .inl (owned_set h), wipe_set hi, by rw [wipeD_set hi]; exact Like.refl _⟩
/-- a slot gets a new own object -/
theorem FinG.setN {K : PySem.W.Frag} {ts : List Nat} {σ : L2.St} {ρ ρ0 : DEnv} {Hb0 H0 Hb H : Hp} (ok : Ok K σ Hb H ρ) (g : Grow (Owned σ ρ0) Hb0 H0 Hb H) (l : Like ρ0 ρ) (ok0 : Ok K σ Hb0 H0 ρ0) {i : Nat} {p : Addr} {u : HO} {o : OD} (n : H0 p = none) (nb : Hb p = none) (hp : H p = some u) (w : OwOk K Hb o u) (hi : i ∈ ts) (hl : i < ρ.length) :
    FinG K ts σ ρ0 Hb0 H0 (σ.set i (some (.ref p))) (ρ.set i (.ow o)) Hb H := by
  have np : ∀ (j : Nat) (o' : OD), ρ[j]? = some (.ow o') → σ[j]? ≠ some (some (.ref p)) := fun j o' e s => by
    obtain ⟨o2, e2⟩ := l.ow e
    obtain ⟨q, u', s1, _, s3, _⟩ := ok0.own e2
    rw [s] at s1
    cases s1
    rw [n] at s3
    cases s3
  have hl' : i < σ.length := ok.len ▸ hl
  refine ⟨⟨by rw [List.length_set, List.length_set]; exact ok.len, ok.sub, fun j s e => ?_, fun j k o1 o2 q ej ek sj sk => ?_⟩, g, fun q h => ?_, wipe_set hi, by rw [wipeD_set hi]; exact l.wiped ts⟩
  · by_cases m : i = j
    · subst m
      rw [List.getElem?_set_self hl] at e
      cases e
      exact ⟨p, u, by rw [List.getElem?_set_self hl'], nb, hp, w⟩
    · rw [List.getElem?_set_ne m] at e
      have q := ok.sl j s e
      rw [List.getElem?_set_ne m]
      exact q
  · by_cases mj : i = j
    · by_cases mk : i = k
      · exact mj.symm.trans mk
      · subst mj
        rw [List.getElem?_set_self hl'] at sj
        rw [List.getElem?_set_ne mk] at ek sk
        cases sj
        exact absurd sk (np k o2 ek)
    · by_cases mk : i = k
      · subst mk
        rw [List.getElem?_set_self hl'] at sk
        rw [List.getElem?_set_ne mj] at ej sj
        cases sk
        exact absurd sj (np j o1 ej)
      · rw [List.getElem?_set_ne mj] at ej sj
        rw [List.getElem?_set_ne mk] at ek sk
        exact ok.ap j k o1 o2 q ej ek sj sk
  · obtain ⟨j, o1, e, s⟩ := h
    by_cases m : i = j
    · subst m
      rw [List.getElem?_set_self hl'] at s
      cases s
      exact .inr n
    · rw [List.getElem?_set_ne m] at e s
      exact .inl (l.owned ⟨j, o1, e, s⟩)
section
variable {X : Cx} {ρ : DEnv} {ts : List Nat}
theorem gw_name {x : Str} {pos : Pos} {P : DEnv → Prop} {d : PyData} (i : Nat) (hp : PG X (.Name x pos) (gName i)) (hi : i ∈ ts) (h : P (ρ.set i (.pd d))) : GW X ts (.Name x pos) d ρ P :=
  ⟨fun pins s σ H v u Q I r ⟨Hb, ok, dv, k⟩ => hp.run pins s σ H v u Q I r (k _ _ _ _ (FinG.set ok dv hi) h)⟩
theorem gw_tup2 {x y : Str} {px py pos : Pos} {k : Nat} {P : DEnv → Prop} {d1 d2 : PyData} (i j : Nat) (hx : PG X (.Name x px) (gName i)) (hy : PG X (.Name y py) (gName j)) (hc : X.calm = true) (hi : i ∈ ts) (hj : j ∈ ts) (h : P ((ρ.set i (.pd d1)).set j (.pd d2)))
    (hn : (assignEach [.Name x px, .Name y py] X.env).length = 2 := by rfl) (hst : (assignEach [.Name x px, .Name y py] X.env).findIdx? (·.1) = none := by rfl) : GW X ts (.Tuple [.Name x px, .Name y py] k pos) (.tuple [d1, d2]) ρ P := by
  refine ⟨fun pins s σ H v u Q I r ⟨Hb, ok, dv, k⟩ => ?_⟩
  refine (pg_tup hc (pgs_cons hx (pgs_cons hy pgs_nil)) hn hst).run pins s σ H v u Q I r ?_
  cases dv with
  | tup hs ha =>
    cases ha with
    | cons h1 ha =>
      cases ha with
      | cons h2 ha =>
        cases ha
        refine ⟨_, _, rfl, ok.sub.rd.t hs, rfl, _, _, rfl, _, _, rfl, rfl, ?_⟩
        exact k _ _ _ _ ((FinG.set ok h1 hi).trans (FinG.set (ok.set h1) h2 hj)) h
theorem gw_tup3 {x y z : Str} {px py pz pos : Pos} {k : Nat} {P : DEnv → Prop} {d1 d2 d3 : PyData} (i j m : Nat) (hx : PG X (.Name x px) (gName i)) (hy : PG X (.Name y py) (gName j)) (hz : PG X (.Name z pz) (gName m)) (hc : X.calm = true) (hi : i ∈ ts) (hj : j ∈ ts) (hm : m ∈ ts) (h : P (((ρ.set i (.pd d1)).set j (.pd d2)).set m (.pd d3)))
    (hn : (assignEach [.Name x px, .Name y py, .Name z pz] X.env).length = 3 := by rfl) (hst : (assignEach [.Name x px, .Name y py, .Name z pz] X.env).findIdx? (·.1) = none := by rfl) : GW X ts (.Tuple [.Name x px, .Name y py, .Name z pz] k pos) (.tuple [d1, d2, d3]) ρ P := by
  refine ⟨fun pins s σ H v u Q I r ⟨Hb, ok, dv, k⟩ => ?_⟩
  refine (pg_tup hc (pgs_cons hx (pgs_cons hy (pgs_cons hz pgs_nil))) hn hst).run pins s σ H v u Q I r ?_
  cases dv with
  | tup hs ha =>
    cases ha with
    | cons h1 ha =>
      cases ha with
      | cons h2 ha =>
        cases ha with
        | cons h3 ha =>
          cases ha
          refine ⟨_, _, rfl, ok.sub.rd.t hs, rfl, _, _, rfl, _, _, rfl, _, _, rfl, rfl, ?_⟩
          exact k _ _ _ _ (((FinG.set ok h1 hi).trans (FinG.set (ok.set h1) h2 hj)).trans (FinG.set ((ok.set h1).set h2) h3 hm)) h
end

/-! ### statements -/
structure DE where
  nx : DEnv → Prop
  rt : PyData → DEnv → Prop
  bk : DEnv → Prop := fun _ => False
  ct : DEnv → Prop := fun _ => False
  /-- an own object returned -/
  ro : OD → DEnv → Prop := fun _ _ => False
inductive RV where
  | d (x : PyData)
  | o (x : OD)
def DE.rv (D : DE) : RV → DEnv → Prop
  | .d x => D.rt x
  | .o x => D.ro x
/-- behind a statement; pr: slots that stay -/
structure Fin (K : PySem.W.Frag) (pr : List Nat) (σ : L2.St) (ρ : DEnv) (Hb H : Hp) (σ' : L2.St) (ρ' : DEnv) (Hb2 H2 : Hp) : Prop where
  ok : Ok K σ' Hb2 H2 ρ'
  gr : Grow (Owned σ ρ) Hb H Hb2 H2
  ow : ∀ p, Owned σ' ρ' p → Owned σ ρ p ∨ H p = none
  st : ∀ i ∈ pr, σ'[i]? = σ[i]?
section
variable {K : PySem.W.Frag} {pr ts : List Nat} {σ σ1 σ2 : L2.St} {ρ ρ1 ρ2 : DEnv} {Hb H Hb1 H1 Hb2 H2 : Hp}
theorem Fin.refl (ok : Ok K σ Hb H ρ) : Fin K pr σ ρ Hb H σ ρ Hb H := ⟨ok, Grow.refl _ _ _, fun _ h => .inl h, fun _ _ => rfl⟩
theorem Fin.trans (a : Fin K pr σ ρ Hb H σ1 ρ1 Hb1 H1) (b : Fin K pr σ1 ρ1 Hb1 H1 σ2 ρ2 Hb2 H2) : Fin K pr σ ρ Hb H σ2 ρ2 Hb2 H2 where
  ok := b.ok
  gr := a.gr.trans b.gr a.ow
  ow := fun p h => (b.ow p h).elim (a.ow p) fun n => .inr (by
    cases e : H p with
    | none => rfl
    | some o => exact absurd n (a.gr.there p (by rw [e]; simp)))
  st := fun i h => (b.st i h).trans (a.st i h)
theorem Fin.like (ok : Ok K σ Hb1 H1 ρ1) (g : Grow (Owned σ ρ) Hb H Hb1 H1) (l : Like ρ ρ1) : Fin K pr σ ρ Hb H σ ρ1 Hb1 H1 := ⟨ok, g, fun _ h => .inl (l.owned h), fun _ _ => rfl⟩
theorem FinG.fin (a : FinG K ts σ ρ Hb H σ1 ρ1 Hb1 H1) (h : ∀ i ∈ pr, i ∉ ts) : Fin K pr σ ρ Hb H σ1 ρ1 Hb1 H1 := ⟨a.ok, a.gr, a.ow, fun i hi => by
  rw [← wipe_get σ1 ts i (h i hi), a.wp, wipe_get σ ts i (h i hi)]⟩
end
/-- what is returned -/
def RDa (K : PySem.W.Frag) (σ : L2.St) (ρ : DEnv) (H Hb2 H2 : Hp) (v : V) : RV → Prop
  | .d x => Da K Hb2 v x
  | .o x => ∃ p u, v = .ref p ∧ (Owned σ ρ p ∨ H p = none) ∧ Hb2 p = none ∧ H2 p = some u ∧ OwOk K Hb2 x u
theorem RDa.back {K : PySem.W.Frag} {pr : List Nat} {σ σ1 σ2 : L2.St} {ρ ρ1 ρ2 : DEnv} {Hb H Hb1 H1 Hb2 H2 : Hp} {v : V} {r : RV} (h : RDa K σ2 ρ2 H1 Hb2 H2 v r) (f : Fin K pr σ ρ Hb H σ1 ρ1 Hb1 H1) : RDa K σ2 ρ2 H Hb2 H2 v r := by
  cases r with
  | d x => exact h
  | o x =>
    obtain ⟨p, u, e, w, q⟩ := h
    refine ⟨p, u, e, w.imp id fun n => ?_, q⟩
    cases e : H p with
    | none => rfl
    | some o => exact absurd n (f.gr.there p (by rw [e]; simp))
def tWS (K : PySem.W.Frag) (pr : List Nat) (ρ : DEnv) (D : DE) : TS := fun DD σ H => ∃ Hb, Ok K σ Hb H ρ ∧ (∀ σ' ρ' Hb2 H2, Fin K pr σ ρ Hb H σ' ρ' Hb2 H2 → D.nx ρ' → DD.nx σ' H2) ∧
  (∀ v r σ' ρ' Hb2 H2, Fin K pr σ ρ Hb H σ' ρ' Hb2 H2 → RDa K σ' ρ' H Hb2 H2 v r → D.rv r ρ' → DD.rt v H2) ∧ (∀ σ' ρ' Hb2 H2, Fin K pr σ ρ Hb H σ' ρ' Hb2 H2 → D.bk ρ' → DD.bk σ' H2) ∧ (∀ σ' ρ' Hb2 H2, Fin K pr σ ρ Hb H σ' ρ' Hb2 H2 → D.ct ρ' → DD.ct σ' H2)
def SW (X : Cx) (pr : List Nat) (st : Stmt) (ρ : DEnv) (D : DE) : Prop := PS X st (tWS X.K pr ρ D)
def SsW (X : Cx) (pr : List Nat) (st : List Stmt) (ρ : DEnv) (D : DE) : Prop := PSs X st (tWS X.K pr ρ D)
section
variable {X : Cx} {pr : List Nat} {ρ : DEnv} {D : DE} {pos : Pos}
theorem SW.by {st : Stmt} {t : TS} (h : PS X st t) (w : ∀ DD σ H, tWS X.K pr ρ D DD σ H → t DD σ H) : SW X pr st ρ D := ⟨fun pins s σ H DD I q => h.run pins s σ H DD I (w DD σ H q)⟩
theorem SsW.by {st : List Stmt} {t : TS} (h : PSs X st t) (w : ∀ DD σ H, tWS X.K pr ρ D DD σ H → t DD σ H) : SsW X pr st ρ D := ⟨fun pins s σ H DD I q => h.run pins s σ H DD I (w DD σ H q)⟩
/-- the rest behind a part -/
theorem SsW.go {st : List Stmt} {D' : DE} {DD : Ends} {ρ1 : DEnv} {σ σ1 : L2.St} {Hb H Hb1 H1 : Hp} (h : SsW X pr st ρ1 D') (f : Fin X.K pr σ ρ Hb H σ1 ρ1 Hb1 H1)
    (k : (∀ σ' ρ' Hb2 H2, Fin X.K pr σ ρ Hb H σ' ρ' Hb2 H2 → Same Hb1 Hb2 → D'.nx ρ' → DD.nx σ' H2) ∧ (∀ v r σ' ρ' Hb2 H2, Fin X.K pr σ ρ Hb H σ' ρ' Hb2 H2 → RDa X.K σ' ρ' H Hb2 H2 v r → D'.rv r ρ' → DD.rt v H2) ∧ (∀ σ' ρ' Hb2 H2, Fin X.K pr σ ρ Hb H σ' ρ' Hb2 H2 → D'.bk ρ' → DD.bk σ' H2) ∧ (∀ σ' ρ' Hb2 H2, Fin X.K pr σ ρ Hb H σ' ρ' Hb2 H2 → Same Hb1 Hb2 → D'.ct ρ' → DD.ct σ' H2)) : tAnySs X st DD σ1 H1 :=
  fun pins s I => h.run pins s σ1 H1 DD I ⟨Hb1, f.ok, fun σ' ρ' Hb2 H2 f2 => k.1 σ' ρ' Hb2 H2 (f.trans f2) f2.gr.per, fun v d σ' ρ' Hb2 H2 f2 r => k.2.1 v d σ' ρ' Hb2 H2 (f.trans f2) (r.back f), fun σ' ρ' Hb2 H2 f2 => k.2.2.1 σ' ρ' Hb2 H2 (f.trans f2), fun σ' ρ' Hb2 H2 f2 => k.2.2.2 σ' ρ' Hb2 H2 (f.trans f2) f2.gr.per⟩
theorem SW.go {st : Stmt} {D' : DE} {DD : Ends} {ρ1 : DEnv} {σ σ1 : L2.St} {Hb H Hb1 H1 : Hp} (h : SW X pr st ρ1 D') (f : Fin X.K pr σ ρ Hb H σ1 ρ1 Hb1 H1)
    (k : (∀ σ' ρ' Hb2 H2, Fin X.K pr σ ρ Hb H σ' ρ' Hb2 H2 → D'.nx ρ' → DD.nx σ' H2) ∧ (∀ v r σ' ρ' Hb2 H2, Fin X.K pr σ ρ Hb H σ' ρ' Hb2 H2 → RDa X.K σ' ρ' H Hb2 H2 v r → D'.rv r ρ' → DD.rt v H2) ∧ (∀ σ' ρ' Hb2 H2, Fin X.K pr σ ρ Hb H σ' ρ' Hb2 H2 → D'.bk ρ' → DD.bk σ' H2) ∧ (∀ σ' ρ' Hb2 H2, Fin X.K pr σ ρ Hb H σ' ρ' Hb2 H2 → D'.ct ρ' → DD.ct σ' H2)) : tAnyS X st DD σ1 H1 :=
  fun pins s I => h.run pins s σ1 H1 DD I ⟨Hb1, f.ok, fun σ' ρ' Hb2 H2 f2 => k.1 σ' ρ' Hb2 H2 (f.trans f2), fun v d σ' ρ' Hb2 H2 f2 r => k.2.1 v d σ' ρ' Hb2 H2 (f.trans f2) (r.back f), fun σ' ρ' Hb2 H2 f2 => k.2.2.1 σ' ρ' Hb2 H2 (f.trans f2), fun σ' ρ' Hb2 H2 f2 => k.2.2.2 σ' ρ' Hb2 H2 (f.trans f2)⟩
theorem GW.go {ts : List Nat} {tg : Expr} {P : DEnv → Prop} {d : PyData} {ρ1 : DEnv} {σ σ1 : L2.St} {Hb H Hb1 H1 : Hp} {v : V} {Q : L2.St → Hp → Prop} (h : GW X ts tg d ρ1 P) (f : Fin X.K pr σ ρ Hb H σ1 ρ1 Hb1 H1) (hd : ∀ i ∈ pr, i ∉ ts) (dv : Da X.K Hb1 v d)
    (k : ∀ σ' ρ' Hb2 H2, Fin X.K pr σ ρ Hb H σ' ρ' Hb2 H2 → Same Hb1 Hb2 → P ρ' → Q σ' H2) : tAnyG X tg v σ1 H1 Q :=
  fun pins s u I r => h.run pins s σ1 H1 v u Q I r ⟨Hb1, f.ok, dv, fun σ' ρ' Hb2 H2 f2 p => k σ' ρ' Hb2 H2 (f.trans (f2.fin hd)) f2.gr.per p⟩
theorem ssw_nil (h : D.nx ρ) : SsW X pr [] ρ D := SsW.by pss_nil fun DD σ H ⟨Hb, ok, k, _⟩ => k σ ρ Hb H (Fin.refl ok) h
theorem ssw_cons {st : Stmt} {rest : List Stmt} (h : SW X pr st ρ { D with nx := fun ρ' => SsW X pr rest ρ' D }) : SsW X pr (st :: rest) ρ D :=
  SsW.by (pss_cons (ps_any st) (pss_any rest)) fun DD σ H ⟨Hb, ok, k1, k2, k3, k4⟩ => h.go (Fin.refl ok) ⟨fun σ' ρ' Hb2 H2 f q => SsW.go q f ⟨fun σ' ρ' Hb2 H2 f _ => k1 σ' ρ' Hb2 H2 f, k2, k3, fun σ' ρ' Hb2 H2 f _ => k4 σ' ρ' Hb2 H2 f⟩, k2, k3, k4⟩
theorem sw_expr {e : Expr} (h : EW X e ρ fun _ ρ' => D.nx ρ') (hs : swapsWith e none pos.line X.env = pure false := by rfl) : SW X pr (.Expr e pos) ρ D :=
  SW.by (ps_expr (pe_any e) hs) fun DD σ H ⟨Hb, ok, k, _⟩ => h.go ok (Grow.refl _ _ _) (Like.refl _) fun v d Hb2 H2 ρ' ok' g' _ l' dv p => k σ ρ' Hb2 H2 (Fin.like ok' g' l') p
theorem sw_ret {e : Expr} (h : EW X e ρ D.rt) : SW X pr (.Return (some e) pos) ρ D :=
  SW.by (ps_ret (pe_any e)) fun DD σ H ⟨Hb, ok, _, k, _⟩ => h.go ok (Grow.refl _ _ _) (Like.refl _) fun v d Hb2 H2 ρ' ok' g' _ l' dv p => k v (.d d) σ ρ' Hb2 H2 (Fin.like ok' g' l') dv p
theorem sw_retN (h : D.rt .none ρ) : SW X pr (.Return none pos) ρ D :=
  SW.by ps_retN fun DD σ H ⟨Hb, ok, _, k, _⟩ => k .non (.d .none) σ ρ Hb H (Fin.refl ok) .non h
/-- return of an own object: a slot's -/
theorem sw_retO {x : Str} {px : Pos} (i : Nat) {o : OD} (hp : PE X (.Name x px) (tVar i)) (e : ρ[i]? = some (.ow o)) (h : D.ro o ρ) : SW X pr (.Return (some (.Name x px)) pos) ρ D := by
  refine SW.by (ps_ret hp) fun DD σ H ⟨Hb, ok, _, k, _⟩ => ?_
  obtain ⟨p, u, s1, s2, s3, s4⟩ := ok.own e
  exact ⟨_, s1, k _ (.o o) σ ρ Hb H (Fin.refl ok) ⟨p, u, rfl, .inl ⟨i, o, e, s1⟩, s2, s3, s4⟩ h⟩
theorem sw_pass (h : D.nx ρ) : SW X pr (.Pass pos) ρ D := SW.by ps_pass fun DD σ H ⟨Hb, ok, k, _⟩ => k σ ρ Hb H (Fin.refl ok) h
theorem sw_break (h : D.bk ρ) : SW X pr (.Break pos) ρ D := SW.by ps_break fun DD σ H ⟨Hb, ok, _, _, k, _⟩ => k σ ρ Hb H (Fin.refl ok) h
theorem sw_cont (h : D.ct ρ) : SW X pr (.Continue pos) ρ D := SW.by ps_continue fun DD σ H ⟨Hb, ok, _, _, _, k⟩ => k σ ρ Hb H (Fin.refl ok) h
theorem sw_if {c : Expr} {a b : List Stmt} (h : TW X c ρ fun k ρ1 => (k = true → SsW X pr a ρ1 D) ∧ (k = false → SsW X pr b ρ1 D)) : SW X pr (.If c a b pos) ρ D := by
  refine SW.by (ps_if (pt_any c) (pss_any a) (pss_any b)) fun DD σ H ⟨Hb, ok, k1, k2, k3, k4⟩ => ?_
  refine h.go ok (Grow.refl _ _ _) (Like.refl _) fun c Hb1 H1 ρ1 ok1 g1 _ l1 ⟨p1, p2⟩ => ?_
  cases c with
  | true => exact (p1 rfl).go (Fin.like ok1 g1 l1) ⟨fun σ' ρ' Hb2 H2 f _ => k1 σ' ρ' Hb2 H2 f, k2, k3, fun σ' ρ' Hb2 H2 f _ => k4 σ' ρ' Hb2 H2 f⟩
  | false => exact (p2 rfl).go (Fin.like ok1 g1 l1) ⟨fun σ' ρ' Hb2 H2 f _ => k1 σ' ρ' Hb2 H2 f, k2, k3, fun σ' ρ' Hb2 H2 f _ => k4 σ' ρ' Hb2 H2 f⟩
theorem sw_set {x : Str} {pos' : Pos} {e : Expr} (i : Nat) (hp : PS X (.Assign [.Name x pos'] e pos) (tAsg (tAny X e) (gName i))) (hi : i ∉ pr) (h : EW X e ρ fun d ρ' => D.nx (ρ'.set i (.pd d))) : SW X pr (.Assign [.Name x pos'] e pos) ρ D :=
  SW.by hp fun DD σ H ⟨Hb, ok, k, _⟩ => h.go ok (Grow.refl _ _ _) (Like.refl _) fun v d Hb2 H2 ρ' ok' g' _ l' dv p =>
    k _ _ Hb2 H2 ((Fin.like ok' g' l').trans ((FinG.set (ts := [i]) ok' dv List.mem_cons_self).fin fun j hj z => hi (by simpa using (List.mem_singleton.mp z) ▸ hj))) p
theorem EN.go {e : Expr} {P : OD → DEnv → Prop} {σ : L2.St} {H : Hp} {Q : VK} {Hb : Hp} (h : EN X e ρ P) (ok : Ok X.K σ Hb H ρ)
    (k : ∀ p u o Hb2 H2 ρ', Ok X.K σ Hb2 H2 ρ' → Grow (Owned σ ρ) Hb H Hb2 H2 → Like ρ ρ' → H p = none → Hb2 p = none → H2 p = some u → OwOk X.K Hb2 o u → P o ρ' → Q (.ref p) H2) : tAny X e σ H Q := h.use ⟨Hb, ok, k⟩
/-- return of a new own object -/
theorem sw_retE {e : Expr} (h : EN X e ρ D.ro) : SW X pr (.Return (some e) pos) ρ D :=
  SW.by (ps_ret (pe_any e)) fun DD σ H ⟨Hb, ok, _, k, _⟩ => h.go ok fun p u o Hb2 H2 ρ' ok' g' l' n nb hu w z => k _ (.o o) σ ρ' Hb2 H2 (Fin.like ok' g' l') ⟨p, u, rfl, .inr n, nb, hu, w⟩ z
theorem sw_setN {x : Str} {pos' : Pos} {e : Expr} (i : Nat) (hp : PS X (.Assign [.Name x pos'] e pos) (tAsg (tAny X e) (gName i))) (hi : i ∉ pr) (hl : i < ρ.length) (h : EN X e ρ fun o ρ' => D.nx (ρ'.set i (.ow o))) : SW X pr (.Assign [.Name x pos'] e pos) ρ D :=
  SW.by hp fun DD σ H ⟨Hb, ok, k, _⟩ => h.go ok fun p u o Hb2 H2 ρ' ok' g' l' n nb hu w z =>
    k _ _ Hb2 H2 ((FinG.setN (ts := [i]) ok' g' l' ok n nb hu w List.mem_cons_self (l'.1 ▸ hl)).fin fun j hj z => hi (by simpa using (List.mem_singleton.mp z) ▸ hj)) z
/-- any target -/
theorem sw_asg {tg e : Expr} {ts : List Nat} (h : EW X e ρ fun d ρ' => GW X ts tg d ρ' D.nx) (hd : ∀ i ∈ pr, i ∉ ts) (hs : swapsWithSole [tg] e pos.line X.env = pure false := by rfl) (hw : swappedStores [tg] e X.env = pure none := by rfl)
    (h1 : (assignEach [tg] X.env).map (·.2) = [assign tg X.env] := by rfl) : SW X pr (.Assign [tg] e pos) ρ D :=
  SW.by (ps_asg (pe_any e) (pg_any tg) hs hw h1) fun DD σ H ⟨Hb, ok, k, _⟩ => h.go ok (Grow.refl _ _ _) (Like.refl _) fun v d Hb2 H2 ρ' ok' g' _ l' dv p =>
    GW.go p (Fin.like ok' g' l') hd dv fun σ' ρ' Hb3 H3 f _ q => k σ' ρ' Hb3 H3 f q
/-- x, y = a, b -/
theorem sw_par {x y : Str} {a b : Expr} {px py pt : Pos} {kt k2 : Nat} {pt2 : Pos} (i j : Nat) (hp : PS X (.Assign [.Tuple [.Name x px, .Name y py] kt pt] (.Tuple [a, b] k2 pt2) pos) (tPar i j (tAnyA X [a, b]))) (hi : i ∉ pr) (hj : j ∉ pr)
    (h : AW X [a, b] ρ fun ds ρ' => ∃ d1 d2, ds = [d1, d2] ∧ D.nx ((ρ'.set i (.pd d1)).set j (.pd d2))) : SW X pr (.Assign [.Tuple [.Name x px, .Name y py] kt pt] (.Tuple [a, b] k2 pt2) pos) ρ D := by
  refine SW.by hp fun DD σ H ⟨Hb, ok, k, _⟩ => ?_
  refine h.go ok (Grow.refl _ _ _) (Like.refl _) fun vs ds Hb2 H2 ρ' ok' g' _ l' dv ⟨d1, d2, e, p⟩ => ?_
  subst e
  cases dv with
  | cons h1 dv =>
    cases dv with
    | cons h2 dv =>
      cases dv
      refine ⟨_, _, rfl, k _ _ Hb2 H2 ((Fin.like ok' g' l').trans (((FinG.set (ts := [i, j]) ok' h1 (by simp)).trans (FinG.set (ok'.set h1) h2 (by simp))).fin fun m hm z => ?_)) p⟩
      rcases List.mem_cons.mp z with z | z
      · exact hi (z ▸ hm)
      · exact hj (List.mem_singleton.mp z ▸ hm)
/-- x += e, by the operator on data -/
def IpD (X : Cx) (op : Operator) (g : G2) : Prop := ∃ r : TIp, PIp X op r ∧ ∀ Hb H x y dx dy (P : PyData → Prop) (Q : VK), Da X.K Hb x dx → Da X.K Hb y dy → Sub Hb H → g dx dy P → Ret X.K Hb H P Q → r x y H Q
theorem sw_aug {x : Str} {pos' : Pos} {op : Operator} {e : Expr} {g : G2} {dx : PyData} (i : Nat) (hp : ∀ ti, PIp X op ti → PS X (.AugAssign (.Name x pos') op e pos) (tAug i (tAny X e) ti)) (ho : IpD X op g) (hi : i ∉ pr) (hx : ρ[i]? = some (.pd dx))
    (h : EW X e ρ fun dy ρ' => g dx dy fun d => D.nx (ρ'.set i (.pd d))) : SW X pr (.AugAssign (.Name x pos') op e pos) ρ D := by
  obtain ⟨r, o, q⟩ := ho
  refine SW.by (hp r o) fun DD σ H ⟨Hb, ok, k, _⟩ => ?_
  obtain ⟨v, e1, e2⟩ := ok.pd hx
  refine ⟨v, e1, h.go ok (Grow.refl _ _ _) (Like.refl _) fun w dw Hb2 H2 ρ' ok' g' s' l' dv p => ?_⟩
  refine q Hb2 H2 v w dx dw _ _ (e2.mono (same_rd s')) dv ok'.sub p fun z dz Hb3 H3 s3 g3 d3 p3 => ?_
  have ok3 := ok'.grow g3 s3
  exact k _ _ Hb3 H3 ((Fin.like ok3 (g'.trans0 g3) l').trans ((FinG.set (ts := [i]) ok3 d3 List.mem_cons_self).fin fun j hj z => hi (by simpa using (List.mem_singleton.mp z) ▸ hj))) p3
/-- an own object, from now on data that nobody changes -/
theorem freeze {sts : List Stmt} (i : Nat) {o : OD} (e : ρ[i]? = some (.ow o)) (h : SsW X pr sts (ρ.set i (.pd o.data)) D) : SsW X pr sts ρ D := by
  refine SsW.by h fun DD σ H ⟨Hb, ok, k1, k2, k3, k4⟩ => ?_
  obtain ⟨p, u, s1, s2, s3, s4⟩ := ok.own e
  have hl := (List.getElem?_eq_some_iff.mp e).1
  have sub : ∀ (j : Nat) (o' : OD), (ρ.set i (.pd o.data))[j]? = some (.ow o') → i ≠ j ∧ ρ[j]? = some (.ow o') := fun j o' q => by
    have n : i ≠ j := by
      rintro rfl
      rw [List.getElem?_set_self hl] at q
      cases q
    rw [List.getElem?_set_ne n] at q
    exact ⟨n, q⟩
  have ok2 : Ok X.K σ (upd Hb p u) H (ρ.set i (.pd o.data)) := by
    refine ⟨by rw [List.length_set]; exact ok.len, fun a x e => ?_, fun j s q => ?_, fun j k o1 o2 r a b => ok.ap j k o1 o2 r (sub j o1 a).2 (sub k o2 b).2⟩
    · by_cases z : a = p
      · subst z
        rw [upd_same] at e
        cases e
        exact .inl s3
      · rw [upd_ne z] at e
        exact ok.sub a x e
    · have m := same_rd (same_new (o := u) s2)
      by_cases n : i = j
      · subst n
        rw [List.getElem?_set_self hl] at q
        cases q
        exact ⟨_, s1, s4.da s2⟩
      · rw [List.getElem?_set_ne n] at q
        have z := ok.sl j s q
        cases s with
        | un => trivial
        | pd d =>
          obtain ⟨v, e1, e2⟩ := z
          exact ⟨v, e1, e2.mono m⟩
        | ow o' =>
          obtain ⟨r, x, e1, e2, e3, e4⟩ := z
          refine ⟨r, x, e1, ?_, e3, e4.mono m⟩
          rw [upd_ne]
          · exact e2
          · rintro rfl
            exact n (ok.ap i j o o' r e q s1 e1)
  have back : ∀ {σ' : L2.St} {ρ' : DEnv} {Hb2 H2 : Hp}, Fin X.K pr σ (ρ.set i (.pd o.data)) (upd Hb p u) H σ' ρ' Hb2 H2 → Fin X.K pr σ ρ Hb H σ' ρ' Hb2 H2 := fun {σ' ρ' Hb2 H2} f => by
    have ow : ∀ q, Owned σ (ρ.set i (.pd o.data)) q → Owned σ ρ q := fun q ⟨j, o', a, b⟩ => ⟨j, o', (sub j o' a).2, b⟩
    refine ⟨f.ok, ⟨(same_new s2).trans f.gr.per, fun a x ea n => f.gr.keep a x ea fun z => n (ow a z), fun a n ea ha => ?_, f.gr.there⟩, fun q z => (f.ow q z).imp (ow q) id, f.st⟩
    refine f.gr.hid a (fun z => n (ow a z)) ?_ ha
    rw [upd_ne]
    · exact ea
    · rintro rfl
      exact n ⟨i, o, e, s1⟩
  exact ⟨_, ok2, fun σ' ρ' Hb2 H2 f => k1 σ' ρ' Hb2 H2 (back f), fun v d σ' ρ' Hb2 H2 f => k2 v d σ' ρ' Hb2 H2 (back f), fun σ' ρ' Hb2 H2 f => k3 σ' ρ' Hb2 H2 (back f), fun σ' ρ' Hb2 H2 f => k4 σ' ρ' Hb2 H2 (back f)⟩
end
end DL

/-! The data layer: operators, subscripts, slices, built-ins by data. -/
namespace DL
open PySem PySem.Spec PyProof.Rows L2

/-! ### data as the library reads it -/
section
variable {X : Cx} {pins : List (Addr × Obj)} {σ : L2.St} {H : Hp} {s : Shared}
theorem kv_key {k : Key} {v : Value} (h : keyIs k v = true) {h' : Heap} : ∃ as, Reads h' v (keyD k) as := by
  rcases keyIs_shape h with ⟨i, t, rfl, rfl⟩ | ⟨x, t, rfl, rfl⟩
  · exact ⟨_, Reads.int i t⟩
  · exact ⟨_, Reads.str x t⟩
mutual
theorem Da.dp {K : PySem.W.Frag} : ∀ (d : PyData) (v : V), d.canLay0 = true → Da K H v d → Dp K H v d
  | .none, _, _, h => by
    cases h
    exact .non
  | .bool b, _, _, h => by
    cases h
    exact .bl b
  | .int i, _, _, h => by
    cases h
    exact .int i
  | .str x, _, _, h => by
    cases h
    exact .str x
  | .list ds, _, c, h => by
    cases h with
    | lst hs ha => exact .lst hs.sq (DaAll.dp ds _ (by simpa [PyData.canLay0] using c) ha)
  | .tuple ds, _, c, h => by
    cases h with
    | tup hs ha => exact .tup hs (DaAll.dp ds _ (by simpa [PyData.canLay0] using c) ha)
  | .dict _, _, c, _ => by simp [PyData.canLay0] at c
theorem DaAll.dp {K : PySem.W.Frag} : ∀ (ds : List PyData) (vs : List V), PyData.canLayAll0 ds = true → DaAll K H vs ds → DpAll K H vs ds
  | [], _, _, h => by
    cases h
    exact .nil
  | d :: ds, _, c, h => by
    have c' : d.canLay0 = true ∧ PyData.canLayAll0 ds = true := by simpa [PyData.canLayAll0] using c
    cases h with
    | cons h1 h2 => exact .cons (Da.dp d _ c'.1 h1) (DaAll.dp ds _ c'.2 h2)
end
end
theorem line_eq : sizeLine = 16777216 := sizeLine_eq

/-! ### operators -/
def AddW : G2
  | .int i, .int j, P => P (.int (i + j))
  | .str s, .str t, P => s.length + t.length ≤ 16777216 ∧ P (.str (s ++ t))
  | .list xs, .list ys, P => xs.length + ys.length ≤ 16777216 ∧ P (.list (xs ++ ys))
  | .tuple xs, .tuple ys, P => xs.length + ys.length ≤ 16777216 ∧ P (.tuple (xs ++ ys))
  | _, _, _ => False
def SubW : G2
  | .int i, .int j, P => P (.int (i - j))
  | _, _, _ => False
def MulW : G2
  | .int i, .int j, P => CMul i j ∧ P (.int (i * j))
  | _, _, _ => False
def FdivW : G2
  | .int i, .int j, P => (0 < j ∧ j < 1073741824) ∧ P (.int (i / j))
  | _, _, _ => False
def ModW : G2
  | .int i, .int j, P => 0 < j ∧ P (.int (i % j))
  | _, _, _ => False
def PowW : G2
  | .int i, .int j, P => (0 ≤ j ∧ j ≤ 1000000 ∧ i.natAbs < 2 ^ 64) ∧ P (.int (i ^ j.toNat))
  | _, _, _ => False
def CmpW (f : Int → Int → Bool) : G2
  | .int i, .int j, P => P (.bool (f i j))
  | _, _, _ => False
abbrev LtW : G2 := CmpW fun i j => decide (i < j)
abbrev LeW : G2 := CmpW fun i j => decide (i ≤ j)
abbrev GtW : G2 := CmpW fun i j => decide (j < i)
abbrev GeW : G2 := CmpW fun i j => decide (j ≤ i)
def EqW : G2
  | .int i, .int j, P => P (.bool (decide (i = j)))
  | .str i, .str j, P => P (.bool (decide (i = j)))
  | x, y, P => x.canLay0 = true ∧ y.canLay0 = true ∧ min x.depth y.depth ≤ 64 ∧ P (.bool (PyData.eqv x y))
def NeW : G2
  | .int i, .int j, P => P (.bool (!decide (i = j)))
  | .str i, .str j, P => P (.bool (!decide (i = j)))
  | x, y, P => x.canLay0 = true ∧ y.canLay0 = true ∧ min x.depth y.depth ≤ 64 ∧ P (.bool (!PyData.eqv x y))
def isN : PyData → Bool
  | .none => true
  | _ => false
def isBl (b : Bool) : PyData → Bool
  | .bool c => c == b
  | _ => false
def IsW : G2
  | x, .none, P => P (.bool (isN x))
  | x, .bool b, P => P (.bool (isBl b x))
  | _, _, _ => False
def IsNotW : G2
  | x, .none, P => P (.bool (!isN x))
  | x, .bool b, P => P (.bool (!isBl b x))
  | _, _, _ => False
/-- x in s: one sign in a text; a text in a text; an item of a list, a tuple -/
def inD (x : PyData) (xs : List PyData) : Bool := xs.any fun z => PyData.eqv z x
def InW : G2
  | .str x, .str s, P => P (.bool (!(Builtin.Str.occurrences s x 0 s.length 1).isEmpty))
  | x, .list xs, P => x.canLay0 = true ∧ PyData.canLayAll0 xs = true ∧ x.depth ≤ 64 ∧ P (.bool (inD x xs))
  | x, .tuple xs, P => x.canLay0 = true ∧ PyData.canLayAll0 xs = true ∧ x.depth ≤ 64 ∧ P (.bool (inD x xs))
  | _, _, _ => False
def NotInW : G2
  | .str x, .str s, P => P (.bool (!(!(Builtin.Str.occurrences s x 0 s.length 1).isEmpty)))
  | x, .list xs, P => x.canLay0 = true ∧ PyData.canLayAll0 xs = true ∧ x.depth ≤ 64 ∧ P (.bool (!inD x xs))
  | x, .tuple xs, P => x.canLay0 = true ∧ PyData.canLayAll0 xs = true ∧ x.depth ≤ 64 ∧ P (.bool (!inD x xs))
  | _, _, _ => False
section
variable {X : Cx}
/-- two ints -/
theorem opD_I {f : Value → Value → Sem Value} {C : Int → Int → Prop} {g : Int → Int → V} {gd : Int → Int → PyData} {w : G2} (ho : OpR X f (rI C g)) (hg : ∀ i j Hb, Da X.K Hb (g i j) (gd i j)) (hw : ∀ x y P, w x y P → ∃ i j, x = .int i ∧ y = .int j ∧ C i j ∧ P (gd i j)) : OpD X f w := by
  refine ⟨_, ho, fun Hb H x y dx dy P Q a b s g k => ?_⟩
  obtain ⟨i, j, rfl, rfl, c, p⟩ := hw _ _ _ g
  cases a
  cases b
  exact ⟨i, j, rfl, rfl, c, k.val s (hg i j Hb) p⟩
theorem opD_I0 {f : Value → Value → Sem Value} {g : Int → Int → V} {gd : Int → Int → PyData} {w : G2} (ho : OpR X f (rI0 g)) (hg : ∀ i j Hb, Da X.K Hb (g i j) (gd i j)) (hw : ∀ x y P, w x y P → ∃ i j, x = .int i ∧ y = .int j ∧ P (gd i j)) : OpD X f w := by
  refine ⟨_, ho, fun Hb H x y dx dy P Q a b s g k => ?_⟩
  obtain ⟨i, j, rfl, rfl, p⟩ := hw _ _ _ g
  cases a
  cases b
  exact ⟨i, j, rfl, rfl, k.val s (hg i j Hb) p⟩
theorem od_sub : OpD X (binaryOp .Sub) SubW := opD_I0 op_sub (fun _ _ _ => .int _) fun x y P h => by
  cases x <;> cases y <;> first | exact (show False from h).elim | exact ⟨_, _, rfl, rfl, h⟩
theorem od_mul : OpD X (binaryOp .Mult) MulW := opD_I op_mul (fun _ _ _ => .int _) fun x y P h => by
  cases x <;> cases y <;> first | exact (show False from h).elim | exact ⟨_, _, rfl, rfl, h⟩
theorem od_fdiv : OpD X (binaryOp .FloorDiv) FdivW := opD_I op_fdiv (fun _ _ _ => .int _) fun x y P h => by
  cases x <;> cases y <;> first | exact (show False from h).elim | exact ⟨_, _, rfl, rfl, h⟩
theorem od_mod : OpD X (binaryOp .Mod) ModW := opD_I op_mod (fun _ _ _ => .int _) fun x y P h => by
  cases x <;> cases y <;> first | exact (show False from h).elim | exact ⟨_, _, rfl, rfl, h⟩
theorem od_pow : OpD X (binaryOp .Pow) PowW := opD_I op_pow (fun _ _ _ => .int _) fun x y P h => by
  cases x <;> cases y <;> first | exact (show False from h).elim | exact ⟨_, _, rfl, rfl, h⟩
theorem od_lt : OpD X (compareOp .Lt) LtW := opD_I0 op_lt (fun _ _ _ => .bl _) fun x y P h => by
  cases x <;> cases y <;> first | exact (show False from h).elim | exact ⟨_, _, rfl, rfl, h⟩
theorem od_le : OpD X (compareOp .LtE) LeW := opD_I0 op_le (fun _ _ _ => .bl _) fun x y P h => by
  cases x <;> cases y <;> first | exact (show False from h).elim | exact ⟨_, _, rfl, rfl, h⟩
theorem od_gt : OpD X (compareOp .Gt) GtW := opD_I0 op_gt (fun _ _ _ => .bl _) fun x y P h => by
  cases x <;> cases y <;> first | exact (show False from h).elim | exact ⟨_, _, rfl, rfl, h⟩
theorem od_ge : OpD X (compareOp .GtE) GeW := opD_I0 op_ge (fun _ _ _ => .bl _) fun x y P h => by
  cases x <;> cases y <;> first | exact (show False from h).elim | exact ⟨_, _, rfl, rfl, h⟩
/-- list + list, of lists that are read -/
def rCatR (K : PySem.W.Frag) : R2 := fun x y H Q => ∃ l b xs zs, x = .ref l ∧ y = .ref b ∧ RlK K H l xs ∧ RlK K H b zs ∧ xs.length + zs.length ≤ sizeLine ∧ ∀ p, H p = none → Q (.ref p) (upd H p (.lst (xs ++ zs)))
theorem RlK.at {pins : List (Addr × Obj)} {σ : L2.St} {H : Hp} {s : Shared} {l : Addr} {xs : List V} (I : Inv X pins σ H s) (h : RlK X.K H l xs) : xs.length ≤ sizeLine ∧ ∃ (its : List Value) (n : Nat), Vals xs its ∧ s.heap.get? l = some { cls := .type "list", data := .seq its.toArray n } := by
  rcases h with h | ⟨its, h1, h2, h3⟩
  · exact h.ok I.hok
  · exact ⟨h2, its, 0, h3, I.kIn l _ h1⟩
theorem op_catR : OpR X (binaryOp .Add) (rCatR X.K) := by
  intro pins s σ H x y v u Q I rx ry h
  obtain ⟨l, b, xs, zs, rfl, rfl, hH, hB, hz, q⟩ := h
  cases rx
  cases ry
  obtain ⟨z, its, n, r, e⟩ := hH.at I
  obtain ⟨z2, its2, n2, r2, e2⟩ := hB.at I
  have hl := r.length
  have hl2 := r2.length
  refine PySem.P.add_list e e2 ?_ (by rw [List.size_toArray, List.size_toArray]; omega)
  have ea : its.toArray ++ its2.toArray = (its ++ its2).toArray := by simp
  rw [ea]
  exact ⟨.ref _, _, I.lnew (t' := s.toks) (r.append r2) (by rw [List.length_append]; omega), rfl, q _ I.fresh⟩
theorem od_add : OpD X (binaryOp .Add) AddW := by
  have h1 : OpD X (binaryOp .Add) fun x y P => ∃ i j, x = .int i ∧ y = .int j ∧ P (.int (i + j)) := opD_I0 op_add (fun _ _ _ => .int _) fun _ _ _ h => h
  have h2 : OpD X (binaryOp .Add) fun x y P => ∃ i j, x = .str i ∧ y = .str j ∧ i.length + j.length ≤ 16777216 ∧ P (.str (i ++ j)) := by
    refine ⟨_, op_add_str, fun Hb H x y dx dy P Q a b s g k => ?_⟩
    obtain ⟨i, j, rfl, rfl, c, p⟩ := g
    cases a
    cases b
    exact ⟨i, j, rfl, rfl, by rw [line_eq]; exact c, k.val s (.str _) p⟩
  have h3 : OpD X (binaryOp .Add) fun x y P => ∃ xs ys, x = .list xs ∧ y = .list ys ∧ xs.length + ys.length ≤ 16777216 ∧ P (.list (xs ++ ys)) := by
    refine ⟨_, op_catR, fun Hb H x y dx dy P Q a b s g k => ?_⟩
    obtain ⟨i, j, rfl, rfl, c, p⟩ := g
    cases a with
    | lst ha a2 =>
      cases b with
      | lst hb b2 => exact ⟨_, _, _, _, rfl, rfl, ha.mono s.rd, hb.mono s.rd, by rw [line_eq, a2.length, b2.length]; exact c, fun q hq => k.lst s hq (a2.append b2) p⟩
  have h4 : OpD X (binaryOp .Add) fun x y P => ∃ xs ys, x = .tuple xs ∧ y = .tuple ys ∧ xs.length + ys.length ≤ 16777216 ∧ P (.tuple (xs ++ ys)) := by
    refine ⟨_, op_catA, fun Hb H x y dx dy P Q a b s g k => ?_⟩
    obtain ⟨i, j, rfl, rfl, c, p⟩ := g
    cases a with
    | tup ha a2 =>
      cases b with
      | tup hb b2 =>
        refine ⟨_, _, _, _, rfl, rfl, s.rd.t ha, s.rd.t hb, by rw [line_eq, a2.length, b2.length]; exact c, ?_, ?_, ?_⟩
        · intro e
          subst e
          cases a2
          exact k.val s (.tup hb b2) p
        · intro _ e
          subst e
          cases b2
          rw [List.append_nil] at p
          exact k.val s (.tup ha a2) p
        · intro _ _ q hq
          exact k.tup s hq (a2.append b2) p
  refine (((h1.or h2).or h3).or h4).imp fun x y P h => ?_
  cases x <;> cases y <;> first
    | exact (show False from h).elim
    | exact .inl (.inl (.inl ⟨_, _, rfl, rfl, h⟩))
    | exact .inl (.inl (.inr ⟨_, _, rfl, rfl, h⟩))
    | exact .inl (.inr ⟨_, _, rfl, rfl, h⟩)
    | exact .inr ⟨_, _, rfl, rfl, h⟩
def rEqZ (K : PySem.W.Frag) (neg : Bool) : R2 := fun x y H Q => ∃ d e, Dp K H x d ∧ Dp K H y e ∧ d.canLay0 = true ∧ e.canLay0 = true ∧ min d.depth e.depth ≤ 64 ∧ Q (.bl (if neg then !PyData.eqv d e else PyData.eqv d e)) H
theorem op_eqZ (hu : X.A.units + 64 < cLine) : OpR X (compareOp .Eq) (rEqZ X.K false) := by
  intro pins s σ H x y v u Q I rx ry h
  obtain ⟨d, e, hd, he, c1, c2, hz, q⟩ := h
  obtain ⟨as, r1⟩ := Dp.reads I d x v hd rx
  obtain ⟨bs, r2⟩ := Dp.reads I e y u he ry
  exact SeqAt.compareEq_reads r1 r2 c1 c2 (by omega) ⟨.bl _, H, I, rfl, q⟩
theorem op_neZ (hu : X.A.units + 64 < cLine) : OpR X (compareOp .NotEq) (rEqZ X.K true) := by
  intro pins s σ H x y v u Q I rx ry h
  obtain ⟨d, e, hd, he, c1, c2, hz, q⟩ := h
  obtain ⟨as, r1⟩ := Dp.reads I d x v hd rx
  obtain ⟨bs, r2⟩ := Dp.reads I e y u he ry
  exact SeqAt.compareNe_reads r1 r2 c1 c2 (by omega) ⟨.bl _, H, I, rfl, q⟩
theorem od_eq (hu : X.A.units + 65 < cLine) : OpD X (compareOp .Eq) EqW := by
  have h1 : OpD X (compareOp .Eq) fun x y P => ∃ i j, x = .int i ∧ y = .int j ∧ P (.bool (decide (i = j))) := by
    refine ⟨_, op_eq, fun Hb H x y dx dy P Q a b s g k => ?_⟩
    obtain ⟨i, j, rfl, rfl, p⟩ := g
    cases a
    cases b
    refine ⟨rfl, ?_⟩
    rw [show decide (V.int i = V.int j) = decide (i = j) by rw [Bool.eq_iff_iff]; simp]
    exact k.val s (.bl _) p
  have h2 : OpD X (compareOp .Eq) fun x y P => ∃ i j, x = .str i ∧ y = .str j ∧ P (.bool (decide (i = j))) := by
    refine ⟨_, op_eq, fun Hb H x y dx dy P Q a b s g k => ?_⟩
    obtain ⟨i, j, rfl, rfl, p⟩ := g
    cases a
    cases b
    refine ⟨rfl, ?_⟩
    rw [show decide (V.str i = V.str j) = decide (i = j) by rw [Bool.eq_iff_iff]; simp]
    exact k.val s (.bl _) p
  have h3 : OpD X (compareOp .Eq) fun x y P => x.canLay0 = true ∧ y.canLay0 = true ∧ min x.depth y.depth ≤ 64 ∧ P (.bool (PyData.eqv x y)) :=
    ⟨_, op_eqZ (by omega), fun Hb H x y dx dy P Q a b s ⟨c1, c2, hz, p⟩ k => ⟨dx, dy, (a.mono s.rd).dp _ _ c1, (b.mono s.rd).dp _ _ c2, c1, c2, hz, k.val s (.bl _) p⟩⟩
  refine ((h1.or h2).or h3).imp fun x y P h => ?_
  cases x <;> cases y <;> first | exact .inr h | exact .inl (.inl ⟨_, _, rfl, rfl, h⟩) | exact .inl (.inr ⟨_, _, rfl, rfl, h⟩)
theorem od_ne (hu : X.A.units + 65 < cLine) : OpD X (compareOp .NotEq) NeW := by
  have h1 : OpD X (compareOp .NotEq) fun x y P => ∃ i j, x = .int i ∧ y = .int j ∧ P (.bool (!decide (i = j))) := by
    refine ⟨_, op_ne, fun Hb H x y dx dy P Q a b s g k => ?_⟩
    obtain ⟨i, j, rfl, rfl, p⟩ := g
    cases a
    cases b
    refine ⟨rfl, ?_⟩
    rw [show decide (V.int i = V.int j) = decide (i = j) by rw [Bool.eq_iff_iff]; simp]
    exact k.val s (.bl _) p
  have h2 : OpD X (compareOp .NotEq) fun x y P => ∃ i j, x = .str i ∧ y = .str j ∧ P (.bool (!decide (i = j))) := by
    refine ⟨_, op_ne, fun Hb H x y dx dy P Q a b s g k => ?_⟩
    obtain ⟨i, j, rfl, rfl, p⟩ := g
    cases a
    cases b
    refine ⟨rfl, ?_⟩
    rw [show decide (V.str i = V.str j) = decide (i = j) by rw [Bool.eq_iff_iff]; simp]
    exact k.val s (.bl _) p
  have h3 : OpD X (compareOp .NotEq) fun x y P => x.canLay0 = true ∧ y.canLay0 = true ∧ min x.depth y.depth ≤ 64 ∧ P (.bool (!PyData.eqv x y)) :=
    ⟨_, op_neZ (by omega), fun Hb H x y dx dy P Q a b s ⟨c1, c2, hz, p⟩ k => ⟨dx, dy, (a.mono s.rd).dp _ _ c1, (b.mono s.rd).dp _ _ c2, c1, c2, hz, k.val s (.bl _) p⟩⟩
  refine ((h1.or h2).or h3).imp fun x y P h => ?_
  cases x <;> cases y <;> first | exact .inr h | exact .inl (.inl ⟨_, _, rfl, rfl, h⟩) | exact .inl (.inr ⟨_, _, rfl, rfl, h⟩)
/-- is None, is True, is False -/
def rIsZ (neg : Bool) : R2 := fun x y H Q => (y = .non ∧ Q (.bl (if neg then !decide (x = .non) else decide (x = .non))) H) ∨ ∃ b, y = .bl b ∧ Q (.bl (if neg then !decide (x = .bl b) else decide (x = .bl b))) H
theorem beq_relN {x : V} {v : Value} (r : RelV x v) : (v == Value.none) = decide (x = .non) := r.none_iff
theorem beq_relB {x : V} {v : Value} {b : Bool} (r : RelV x v) : (v == Value.bool b) = decide (x = .bl b) := by
  cases x with
  | non =>
    cases r
    rfl
  | bl c =>
    cases r
    cases b <;> cases c <;> rfl
  | int _ =>
    obtain ⟨t, rfl⟩ := r
    rfl
  | str _ =>
    obtain ⟨t, rfl⟩ := r
    rfl
  | byt _ =>
    obtain ⟨t, rfl⟩ := r
    rfl
  | flt _ =>
    obtain ⟨t, rfl⟩ := r
    rfl
  | ref _ =>
    cases r
    rfl
  | ty _ =>
    cases r
    rfl
theorem plainB {x : V} {v : Value} {b : Bool} (r : RelV x v) : plainIs v (.bool b) = true := by
  cases x with
  | non | bl _ | ref _ | ty _ =>
    cases r
    rfl
  | int _ | str _ | byt _ | flt _ =>
    obtain ⟨t, rfl⟩ := r
    rfl
theorem op_isZ : OpR X (compareOp .Is) (rIsZ false) := by
  intro pins s σ H x y v u Q I rx ry h
  rcases h with ⟨rfl, q⟩ | ⟨b, rfl, q⟩
  · cases ry
    exact is_none_gen ⟨.bl _, H, I, by rw [beq_relN rx]; rfl, q⟩
  · cases ry
    exact wpAny_is_plain (plainB rx) ⟨.bl _, H, I, by rw [beq_relB rx]; rfl, q⟩
theorem op_isNotZ : OpR X (compareOp .IsNot) (rIsZ true) := by
  intro pins s σ H x y v u Q I rx ry h
  rcases h with ⟨rfl, q⟩ | ⟨b, rfl, q⟩
  · cases ry
    exact isnot_none_gen ⟨.bl _, H, I, by rw [beq_relN rx]; rfl, q⟩
  · cases ry
    exact wpAny_isNot_plain (plainB rx) ⟨.bl _, H, I, by rw [beq_relB rx]; rfl, q⟩
theorem isN_da {K : PySem.W.Frag} {H : Hp} {x : V} {d : PyData} (h : Da K H x d) : decide (x = .non) = isN d := by
  cases h <;> first | rfl | simp [isN]
theorem isBl_da {K : PySem.W.Frag} {H : Hp} {x : V} {d : PyData} {b : Bool} (h : Da K H x d) : decide (x = .bl b) = isBl b d := by
  cases h <;> first | rfl | (simp [isBl]; done) | skip
  rename_i c
  cases b <;> cases c <;> rfl
theorem od_is : OpD X (compareOp .Is) IsW := by
  refine ⟨_, op_isZ, fun Hb H x y dx dy P Q a b s g k => ?_⟩
  cases b with
  | non => exact .inl ⟨rfl, k.val s (.bl _) (by rw [if_neg Bool.false_ne_true, isN_da a]; exact g)⟩
  | bl c => exact .inr ⟨c, rfl, k.val s (.bl _) (by rw [if_neg Bool.false_ne_true, isBl_da a]; exact g)⟩
  | _ => exact (show False from g).elim
theorem od_isNot : OpD X (compareOp .IsNot) IsNotW := by
  refine ⟨_, op_isNotZ, fun Hb H x y dx dy P Q a b s g k => ?_⟩
  cases b with
  | non => exact .inl ⟨rfl, k.val s (.bl _) (by rw [if_pos rfl, isN_da a]; exact g)⟩
  | bl c => exact .inr ⟨c, rfl, k.val s (.bl _) (by rw [if_pos rfl, isBl_da a]; exact g)⟩
  | _ => exact (show False from g).elim
end
end DL

/-! The data layer: in, subscripts, slices, built-ins. -/
namespace DL
open PySem PySem.Spec PyProof.Rows L2
section
variable {X : Cx}
def rInZ (K : PySem.W.Frag) (neg : Bool) : R2 := fun x y H Q => ∃ d ds, Dp K H x d ∧ (Dp K H y (.list ds) ∨ Dp K H y (.tuple ds)) ∧ d.canLay0 = true ∧ PyData.canLayAll0 ds = true ∧ d.depth ≤ 64 ∧ Q (.bl (if neg then !inD d ds else inD d ds)) H
theorem room_in {A : Around} {d : PyData} {n : Nat} (h : d.depth ≤ 64) (hu : A.units + 65 < cLine) : A.units + 1 + min n d.depth < cLine := by
  have := Nat.min_le_right n d.depth
  omega
theorem op_inZ (hu : X.A.units + 65 < cLine) : OpR X (compareOp .In) (rInZ X.K false) := by
  intro pins s σ H x y v u Q I rx ry h
  obtain ⟨d, ds, hd, he, c1, c2, hz, q⟩ := h
  obtain ⟨as, r1⟩ := Dp.reads I d x v hd rx
  rcases he with he | he
  · obtain ⟨bs, r2⟩ := Dp.reads I _ y u he ry
    exact SeqAt.in_list_reads r2 r1 c2 c1 (room_in hz hu) ⟨.bl _, H, I, rfl, q⟩
  · obtain ⟨bs, r2⟩ := Dp.reads I _ y u he ry
    exact SeqAt.in_tuple_reads r2 r1 c2 c1 (room_in hz hu) ⟨.bl _, H, I, rfl, q⟩
theorem op_notInZ (hu : X.A.units + 65 < cLine) : OpR X (compareOp .NotIn) (rInZ X.K true) := by
  intro pins s σ H x y v u Q I rx ry h
  obtain ⟨d, ds, hd, he, c1, c2, hz, q⟩ := h
  obtain ⟨as, r1⟩ := Dp.reads I d x v hd rx
  rcases he with he | he
  · obtain ⟨bs, r2⟩ := Dp.reads I _ y u he ry
    exact SeqAt.notIn_list_reads r2 r1 c2 c1 (room_in hz hu) ⟨.bl _, H, I, rfl, q⟩
  · obtain ⟨bs, r2⟩ := Dp.reads I _ y u he ry
    exact SeqAt.notIn_tuple_reads r2 r1 c2 c1 (room_in hz hu) ⟨.bl _, H, I, rfl, q⟩
theorem od_in (hu : X.A.units + 65 < cLine) : OpD X (compareOp .In) InW := by
  have h1 : OpD X (compareOp .In) fun x y P => ∃ i j, x = .str i ∧ y = .str j ∧ P (.bool (!(Builtin.Str.occurrences j i 0 j.length 1).isEmpty)) := by
    refine ⟨_, op_in_str, fun Hb H x y dx dy P Q a b s g k => ?_⟩
    obtain ⟨i, j, rfl, rfl, p⟩ := g
    cases a
    cases b
    exact ⟨i, j, rfl, rfl, k.val s (.bl _) p⟩
  have h2 : OpD X (compareOp .In) fun x y P => ∃ ds, (y = .list ds ∨ y = .tuple ds) ∧ x.canLay0 = true ∧ PyData.canLayAll0 ds = true ∧ x.depth ≤ 64 ∧ P (.bool (inD x ds)) := by
    refine ⟨_, op_inZ hu, fun Hb H x y dx dy P Q a b s g k => ?_⟩
    obtain ⟨ds, e, c1, c2, hz, p⟩ := g
    refine ⟨dx, ds, (a.mono s.rd).dp _ _ c1, ?_, c1, c2, hz, k.val s (.bl _) p⟩
    rcases e with rfl | rfl
    · exact .inl ((b.mono s.rd).dp _ _ (by simpa [PyData.canLay0] using c2))
    · exact .inr ((b.mono s.rd).dp _ _ (by simpa [PyData.canLay0] using c2))
  refine (h1.or h2).imp fun x y P h => ?_
  cases y with
  | list ys => exact .inr ⟨ys, .inl rfl, by cases x <;> exact h⟩
  | tuple ys => exact .inr ⟨ys, .inr rfl, by cases x <;> exact h⟩
  | str z => cases x <;> first | exact (show False from h).elim | exact .inl ⟨_, _, rfl, rfl, h⟩
  | _ => cases x <;> exact (show False from h).elim
theorem od_notIn (hu : X.A.units + 65 < cLine) : OpD X (compareOp .NotIn) NotInW := by
  have h1 : OpD X (compareOp .NotIn) fun x y P => ∃ i j, x = .str i ∧ y = .str j ∧ P (.bool (!(!(Builtin.Str.occurrences j i 0 j.length 1).isEmpty))) := by
    refine ⟨_, op_notIn_str, fun Hb H x y dx dy P Q a b s g k => ?_⟩
    obtain ⟨i, j, rfl, rfl, p⟩ := g
    cases a
    cases b
    exact ⟨i, j, rfl, rfl, k.val s (.bl _) p⟩
  have h2 : OpD X (compareOp .NotIn) fun x y P => ∃ ds, (y = .list ds ∨ y = .tuple ds) ∧ x.canLay0 = true ∧ PyData.canLayAll0 ds = true ∧ x.depth ≤ 64 ∧ P (.bool (!inD x ds)) := by
    refine ⟨_, op_notInZ hu, fun Hb H x y dx dy P Q a b s g k => ?_⟩
    obtain ⟨ds, e, c1, c2, hz, p⟩ := g
    refine ⟨dx, ds, (a.mono s.rd).dp _ _ c1, ?_, c1, c2, hz, k.val s (.bl _) p⟩
    rcases e with rfl | rfl
    · exact .inl ((b.mono s.rd).dp _ _ (by simpa [PyData.canLay0] using c2))
    · exact .inr ((b.mono s.rd).dp _ _ (by simpa [PyData.canLay0] using c2))
  refine (h1.or h2).imp fun x y P h => ?_
  cases y with
  | list ys => exact .inr ⟨ys, .inl rfl, by cases x <;> exact h⟩
  | tuple ys => exact .inr ⟨ys, .inr rfl, by cases x <;> exact h⟩
  | str z => cases x <;> first | exact (show False from h).elim | exact .inl ⟨_, _, rfl, rfl, h⟩
  | _ => cases x <;> exact (show False from h).elim

/-! ### subscripts -/
def IxW : G2
  | .list xs, .int i, P => ∃ d, atI xs i = some d ∧ P d
  | .tuple xs, .int i, P => ∃ d, atI xs i = some d ∧ P d
  | .str s, .int i, P => s.length ≤ 16777216 ∧ ∃ c, atI s.cps.toList i = some c ∧ P (.str ⟨#[c]⟩)
  | _, _, _ => False
theorem atI_da {K : PySem.W.Frag} {Hb : Hp} {vs : List V} {ds : List PyData} {i : Int} {d : PyData} (h : DaAll K Hb vs ds) (e : atI ds i = some d) : ∃ v, atI vs i = some v ∧ Da K Hb v d := by
  unfold atI at e ⊢
  rw [h.length]
  cases q : ixN ds.length i with
  | none =>
    rw [q] at e
    cases e
  | some j =>
    rw [q] at e
    exact h.getD (show ds[j]? = some d from e)
theorem ew_ix {ρ : DEnv} {a b : Expr} {pos : Pos} {Post : PyData → DEnv → Prop} (h : EW X a ρ fun x ρ1 => EW X b ρ1 fun y ρ2 => IxW x y fun d => Post d ρ2) (hs : PlainIx b) : EW X (.Subscript a b pos) ρ Post := by
  refine EW.by (pe_ix ((ix_list.or ix_tup).or ix_str) (pe_any a) (pe_any b) hs) fun σ H Q ⟨Hb, ok, k⟩ => ?_
  refine h.go ok (Grow.refl _ _ _) (Like.refl _) fun v dv Hb1 H1 ρ1 ok1 g1 _ l1 d1 p1 => ?_
  refine p1.go ok1 g1 l1 fun w dw Hb2 H2 ρ2 ok2 g2 s2 l2 d2 p2 => ?_
  have r := fin0 k ok2 g2 l2
  have e1 := d1.mono (same_rd s2)
  cases d2 with
  | int i =>
    cases e1 with
    | lst hs ha =>
      obtain ⟨d, e, p⟩ := p2
      obtain ⟨v, e2, dv⟩ := atI_da ha e
      exact .inl (.inl ⟨_, _, i, v, rfl, rfl, (hs.mono ok2.sub.rd).sq, e2, r.val ok2.sub dv p⟩)
    | tup hs ha =>
      obtain ⟨d, e, p⟩ := p2
      obtain ⟨v, e2, dv⟩ := atI_da ha e
      exact .inl (.inr ⟨_, _, i, v, rfl, rfl, ok2.sub.rd.t hs, e2, r.val ok2.sub dv p⟩)
    | str z =>
      obtain ⟨hz, c, e, p⟩ := p2
      exact .inr ⟨z, i, c, rfl, rfl, by rw [line_eq]; exact hz, e, r.val ok2.sub (.str _) p⟩
    | _ => exact (show False from p2).elim
  | _ => cases e1 <;> exact (show False from p2).elim
/-- an item of an own list -/
theorem ew_ixO {ρ : DEnv} {x : Str} {px : Pos} {b : Expr} {pos : Pos} {Post : PyData → DEnv → Prop} (i : Nat) {o : OD} (hp : PE X (.Name x px) (tVar i)) (e : ρ[i]? = some (.ow o)) (h : EW X b ρ fun y ρ2 => ∃ ds j d, ρ2[i]? = some (.ow (.lst ds)) ∧ y = .int j ∧ atI ds j = some d ∧ Post d ρ2) (hs : PlainIx b) : EW X (.Subscript (.Name x px) b pos) ρ Post := by
  refine EW.by (pe_ix ix_list hp (pe_any b) hs) fun σ H Q ⟨Hb, ok, k⟩ => ?_
  obtain ⟨p, u, e1, e2, e3, e4⟩ := ok.own e
  refine ⟨.ref p, e1, h.go ok (Grow.refl _ _ _) (Like.refl _) fun w dw Hb2 H2 ρ2 ok2 g2 s2 l2 d2 ⟨ds, j, d, r1, r2, r3, r4⟩ => ?_⟩
  subst r2
  cases d2
  obtain ⟨p', u', f1, f2, f3, vs, f4, f5⟩ := ok2.own r1
  rw [e1] at f1
  cases f1
  subst f4
  obtain ⟨v, q1, q2⟩ := atI_da f5 r3
  exact ⟨p, vs, j, v, rfl, rfl, .inl (.inl f3), q1, (fin0 k ok2 g2 l2).val ok2.sub q2 r4⟩

/-! ### slices -/
def IsI (d : PyData) (P : Int → Prop) : Prop := ∃ i, d = .int i ∧ P i
def OW (X : Cx) (o : Option Expr) (ρ : DEnv) (P : Option Int → DEnv → Prop) : Prop := match o with
  | none => P none ρ
  | some e => EW X e ρ fun d ρ' => IsI d fun i => P (some i) ρ'
def tAnyO (X : Cx) (o : Option Expr) : TO := match o with
  | none => tNoPart
  | some e => tPart (tAny X e)
theorem po_any (o : Option Expr) : PO X o (tAnyO X o) := match o with
  | none => po_none
  | some e => po_some (pe_any e)
theorem OW.go {o : Option Expr} {P : Option Int → DEnv → Prop} {σ : L2.St} {H : Hp} {Q : Option Int → Hp → Prop} {ρ0 ρ : DEnv} {Hb0 H0 Hb : Hp} (h : OW X o ρ P) (ok : Ok X.K σ Hb H ρ) (g : Grow (Owned σ ρ0) Hb0 H0 Hb H) (lk : Like ρ0 ρ)
    (k : ∀ i Hb2 H2 ρ', Ok X.K σ Hb2 H2 ρ' → Grow (Owned σ ρ0) Hb0 H0 Hb2 H2 → Same Hb Hb2 → Like ρ0 ρ' → P i ρ' → Q i H2) : tAnyO X o σ H Q := by
  cases o with
  | none => exact k none Hb H ρ ok g (Same.refl _) lk h
  | some e =>
    refine EW.go h ok g lk fun v d Hb2 H2 ρ' ok' g' s' l' dv ⟨i, e, p⟩ => ?_
    subst e
    cases dv
    exact ⟨i, rfl, k (some i) Hb2 H2 ρ' ok' g' s' l' p⟩
def cutD {α : Type} (xs : List α) (lo hi : Option Int) : List α := (xs.drop (HT.sIx xs.length 0 lo)).take (HT.sIx xs.length xs.length hi - HT.sIx xs.length 0 lo)
theorem cutD_whole {α : Type} {xs : List α} {lo hi : Option Int} (h : HT.sIx xs.length 0 lo = 0 ∧ HT.sIx xs.length xs.length hi = xs.length) : cutD xs lo hi = xs := by
  unfold cutD
  rw [h.1, h.2, List.drop_zero, Nat.sub_zero, List.take_length]
theorem cutD_da {K : PySem.W.Frag} {Hb : Hp} {vs : List V} {ds : List PyData} (h : DaAll K Hb vs ds) (lo hi : Option Int) : DaAll K Hb (cutV vs lo hi) (cutD ds lo hi) := by
  unfold cutV cutD
  rw [h.length]
  exact (h.drop _).take _
def SlW (x : PyData) (lo hi : Option Int) (P : PyData → Prop) : Prop := match x with
  | .str s => s.length ≤ 16777216 ∧ P (.str (cutS s lo hi))
  | .list xs => P (.list (cutD xs lo hi))
  | .tuple xs => P (.tuple (cutD xs lo hi))
  | _ => False
theorem ew_slice {ρ : DEnv} {a : Expr} {lo hi : Option Expr} {p2 pos : Pos} {Post : PyData → DEnv → Prop} (h : EW X a ρ fun x ρ1 => OW X lo ρ1 fun l ρ2 => OW X hi ρ2 fun u ρ3 => SlW x l u fun d => Post d ρ3) : EW X (.Subscript a (.Slice lo hi none p2) pos) ρ Post := by
  refine EW.by (pe_slice ((sl_list.or sl_tupA).or sl_str) (pe_any a) (po_any lo) (po_any hi)) fun σ H Q ⟨Hb, ok, k⟩ => ?_
  refine h.go ok (Grow.refl _ _ _) (Like.refl _) fun v dv Hb1 H1 ρ1 ok1 g1 _ l1 d1 p1 => ?_
  refine p1.go ok1 g1 l1 fun l Hb2 H2 ρ2 ok2 g2 s2 l2 p2 => ?_
  refine p2.go ok2 g2 l2 fun u Hb3 H3 ρ3 ok3 g3 s3 l3 p3 => ?_
  have r := fin0 k ok3 g3 l3
  have e1 := d1.mono (same_rd (s2.trans s3))
  cases e1 with
  | lst hs ha => exact .inl (.inl ⟨_, _, rfl, (hs.mono ok3.sub.rd).sq, fun p hp => r.lst ok3.sub hp (cutD_da ha l u) p3⟩)
  | tup hs ha =>
    refine .inl (.inr ⟨_, _, rfl, ok3.sub.rd.t hs, fun hw => ?_, fun _ p hp => r.tup ok3.sub hp (cutD_da ha l u) p3⟩)
    rw [ha.length] at hw
    have p3 : Post (.tuple (cutD _ l u)) ρ3 := p3
    rw [cutD_whole hw] at p3
    exact r.val ok3.sub (.tup hs ha) p3
  | str z => exact .inr ⟨z, rfl, by rw [line_eq]; exact p3.1, r.val ok3.sub (.str _) p3.2⟩
  | _ => exact (show False from p3).elim

/-! ### built-ins by name -/
variable {ρ : DEnv} {Post : PyData → DEnv → Prop} {e : Expr} {es : List Expr} {x : Str} {p pos : Pos} {id T : String} {g : GA}
theorem ew_callB (hc : CallD X (.builtin id) g) (hg : Gl X x) (hm : X.mg x = none) (hv : bootBuiltins x = some (.builtin id)) (h : AW X (e :: es) ρ fun ds ρ' => g ds fun d => Post d ρ') (hn : x ≠ "__name__" := by decide) (hdb : (x == ("__debug__" : Str)) = false := by decide)
    (he : starEach (e :: es) X.env = (false, eval e X.env) :: starEach es X.env := by rfl) (hpl : (backTo pos (starEach es X.env)).any (·.1) = false := by rfl) : EW X (.Call (.Name x p) (e :: es) [] pos) ρ Post := by
  obtain ⟨r, o, q⟩ := hc
  refine EW.by (pe_callB o hg hm hv (pa_any (e :: es)) hn hdb he hpl) fun σ H Q ⟨Hb, ok, k⟩ => ?_
  refine h.go ok (Grow.refl _ _ _) (Like.refl _) fun vs ds Hb1 H1 ρ1 ok1 g1 _ l1 d1 p1 => ?_
  exact q Hb1 H1 vs ds _ Q d1 ok1.sub p1 (fin0 k ok1 g1 l1)
theorem ew_callT (hc : CallD X (.type T) g) (hg : Gl X x) (hm : X.mg x = none) (hv : bootBuiltins x = some (.type T)) (h : AW X (e :: es) ρ fun ds ρ' => g ds fun d => Post d ρ') (hn : x ≠ "__name__" := by decide) (hdb : (x == ("__debug__" : Str)) = false := by decide)
    (he : starEach (e :: es) X.env = (false, eval e X.env) :: starEach es X.env := by rfl) (hpl : (backTo pos (starEach es X.env)).any (·.1) = false := by rfl) : EW X (.Call (.Name x p) (e :: es) [] pos) ρ Post := by
  obtain ⟨r, o, q⟩ := hc
  refine EW.by (pe_callTy o hg hm hv (pa_any (e :: es)) hn hdb he hpl) fun σ H Q ⟨Hb, ok, k⟩ => ?_
  refine h.go ok (Grow.refl _ _ _) (Like.refl _) fun vs ds Hb1 H1 ρ1 ok1 g1 _ l1 d1 p1 => ?_
  exact q Hb1 H1 vs ds _ Q d1 ok1.sub p1 (fin0 k ok1 g1 l1)
def LenW : GA
  | [.list xs], P => P (.int xs.length)
  | [.tuple xs], P => P (.int xs.length)
  | [.str s], P => s.length ≤ 16777216 ∧ P (.int s.length)
  | _, _ => False
theorem cd_len : CallD X (.builtin "len") LenW := by
  refine ⟨_, call_len, fun Hb H xs ds P Q a s g k => ?_⟩
  cases a with
  | nil => exact (show False from g).elim
  | cons h1 t =>
    cases t with
    | cons h2 t => cases h1 <;> exact (show False from g).elim
    | nil =>
      cases h1 with
      | lst hs ha => exact ⟨_, _, rfl, .inl ⟨_, (hs.mono s.rd).sq, rfl⟩, k.val s (.int _) (by rw [ha.length]; exact g)⟩
      | tup hs ha => exact ⟨_, _, rfl, .inr ⟨_, s.rd.t hs, rfl⟩, k.val s (.int _) (by rw [ha.length]; exact g)⟩
      | str z => exact ⟨_, _, rfl, ⟨by rw [line_eq]; exact g.1, rfl⟩, k.val s (.int _) g.2⟩
      | _ => exact (show False from g).elim
def IntW : GA
  | [.int i], P => P (.int i)
  | [.bool b], P => P (.int (if b then 1 else 0))
  | [.str s], P => ∃ n, intText? s = some n ∧ s.length ≤ 640 ∧ P (.int n)
  | _, _ => False
theorem cd_int : CallD X (.type "int") IntW := by
  refine ⟨_, call_int1.or call_int_str, fun Hb H xs ds P Q a s g k => ?_⟩
  cases a with
  | nil => exact (show False from g).elim
  | cons h1 t =>
    cases t with
    | cons h2 t => cases h1 <;> exact (show False from g).elim
    | nil =>
      cases h1 with
      | int i => exact .inl (.inl ⟨i, rfl, k.val s (.int _) g⟩)
      | bl b => exact .inl (.inr ⟨b, rfl, k.val s (.int _) g⟩)
      | str z =>
        obtain ⟨n, e, hz, p⟩ := g
        exact .inr ⟨z, n, rfl, e, hz, k.val s (.int _) p⟩
      | _ => exact (show False from g).elim
def StrW : GA
  | [.int i], P => i.natAbs.log2 < 1920 ∧ P (.str (toString i))
  | [.str s], P => P (.str s)
  | _, _ => False
theorem cd_str : CallD X (.type "str") StrW := by
  refine ⟨_, call_str_int.or SkE.call_str_str, fun Hb H xs ds P Q a s g k => ?_⟩
  cases a with
  | nil => exact (show False from g).elim
  | cons h1 t =>
    cases t with
    | cons h2 t => cases h1 <;> exact (show False from g).elim
    | nil =>
      cases h1 with
      | int i => exact .inl ⟨i, rfl, g.1, k.val s (.str _) g.2⟩
      | str z => exact .inr ⟨z, rfl, k.val s (.str _) g⟩
      | _ => exact (show False from g).elim
def ReprW : GA
  | [.int i], P => i.natAbs.log2 < 1920 ∧ P (.str (toString i))
  | [.str s], P => (reprText s).length ≤ 16777216 ∧ P (.str (reprText s))
  | _, _ => False
theorem call_repr_strZ : CallR X (.builtin "repr") (fun xs H Q => ∃ a, xs = [.str a] ∧ (reprText a).length ≤ sizeLine ∧ Q (.str (reprText a)) H) := by
  intro pins s σ H xs us Q I r h
  obtain ⟨a, rfl, hz, q⟩ := h
  obtain ⟨u, rfl, t, rfl⟩ := vals1 r
  exact PySem.P.repr_of_str ⟨.str _, H, I.tok _, ⟨_, rfl⟩, q⟩ hz
theorem cd_repr : CallD X (.builtin "repr") ReprW := by
  refine ⟨_, SkE.call_repr_int.or call_repr_strZ, fun Hb H xs ds P Q a s g k => ?_⟩
  cases a with
  | nil => exact (show False from g).elim
  | cons h1 t =>
    cases t with
    | cons h2 t => cases h1 <;> exact (show False from g).elim
    | nil =>
      cases h1 with
      | int i => exact .inl ⟨i, rfl, g.1, k.val s (.str _) g.2⟩
      | str z => exact .inr ⟨z, rfl, by rw [line_eq]; exact g.1, k.val s (.str _) g.2⟩
      | _ => exact (show False from g).elim
def OrdW : GA
  | [.str s], P => s.length = 1 ∧ P (.int (s.cps.getD 0 0 : Nat))
  | _, _ => False
theorem cd_ord : CallD X (.builtin "ord") OrdW := by
  refine ⟨_, call_ord, fun Hb H xs ds P Q a s g k => ?_⟩
  cases a with
  | nil => exact (show False from g).elim
  | cons h1 t =>
    cases t with
    | cons h2 t => cases h1 <;> exact (show False from g).elim
    | nil =>
      cases h1 with
      | str z => exact ⟨z, rfl, g.1, k.val s (.int _) g.2⟩
      | _ => exact (show False from g).elim
def TupleW : GA
  | [.list xs], P => P (.tuple xs)
  | [.tuple xs], P => P (.tuple xs)
  | _, _ => False
theorem cd_tuple : CallD X (.type "tuple") TupleW := by
  refine ⟨_, call_tuple_of, fun Hb H xs ds P Q a s g k => ?_⟩
  cases a with
  | nil => exact (show False from g).elim
  | cons h1 t =>
    cases t with
    | cons h2 t => cases h1 <;> exact (show False from g).elim
    | nil =>
      cases h1 with
      | lst hs ha => exact ⟨_, _, rfl, .inl ⟨(hs.mono s.rd).sq, fun l hl => k.tup s hl ha g⟩⟩
      | tup hs ha => exact ⟨_, _, rfl, .inr ⟨s.rd.t hs, k.val s (.tup hs ha) g⟩⟩
      | _ => exact (show False from g).elim
def ListW : GA
  | [.list xs], P => P (.list xs)
  | [.tuple xs], P => P (.list xs)
  | _, _ => False
theorem cd_list : CallD X (.type "list") ListW := by
  refine ⟨_, call_list_of, fun Hb H xs ds P Q a s g k => ?_⟩
  cases a with
  | nil => exact (show False from g).elim
  | cons h1 t =>
    cases t with
    | cons h2 t => cases h1 <;> exact (show False from g).elim
    | nil =>
      cases h1 with
      | lst hs ha => exact ⟨_, _, rfl, .inl ((hs.mono s.rd).sq), fun l hl => k.lst s hl ha g⟩
      | tup hs ha => exact ⟨_, _, rfl, .inr (s.rd.t hs), fun l hl => k.lst s hl ha g⟩
      | _ => exact (show False from g).elim
/-- all, any of a list of bools -/
def AllW : GA
  | [.list xs], P => ∃ bs : List Bool, xs = bs.map .bool ∧ P (.bool (bs.all fun b => b))
  | _, _ => False
def AnyW : GA
  | [.list xs], P => ∃ bs : List Bool, xs = bs.map .bool ∧ P (.bool (bs.any fun b => b))
  | _, _ => False
theorem da_bools {K : PySem.W.Frag} {Hb : Hp} : ∀ {bs : List Bool} {vs : List V}, DaAll K Hb vs (bs.map .bool) → vs = bs.map V.bl
  | [], _, h => by
    cases h
    rfl
  | b :: bs, _, h => by
    cases h with
    | cons h1 t =>
      cases h1
      rw [da_bools t]
      rfl
theorem cd_all (hc : X.calm = true) : CallD X (.builtin "all") AllW := by
  refine ⟨_, cr_all hc, fun Hb H xs ds P Q a s g k => ?_⟩
  cases a with
  | nil => exact (show False from g).elim
  | cons h1 t =>
    cases t with
    | cons h2 t => cases h1 <;> exact (show False from g).elim
    | nil =>
      cases h1 with
      | lst hs ha =>
        obtain ⟨bs, e, p⟩ := g
        subst e
        rw [da_bools ha] at hs
        exact ⟨_, bs, rfl, (hs.mono s.rd).sq, k.val s (.bl _) p⟩
      | _ => exact (show False from g).elim
theorem cd_any (hc : X.calm = true) : CallD X (.builtin "any") AnyW := by
  refine ⟨_, cr_any hc, fun Hb H xs ds P Q a s g k => ?_⟩
  cases a with
  | nil => exact (show False from g).elim
  | cons h1 t =>
    cases t with
    | cons h2 t => cases h1 <;> exact (show False from g).elim
    | nil =>
      cases h1 with
      | lst hs ha =>
        obtain ⟨bs, e, p⟩ := g
        subst e
        rw [da_bools ha] at hs
        exact ⟨_, bs, rfl, (hs.mono s.rd).sq, k.val s (.bl _) p⟩
      | _ => exact (show False from g).elim
end
end DL

/-! The data layer: what is walked, for, while, list comprehensions. -/
namespace DL
open PySem PySem.Spec PyProof.Rows L2

/-- the iterator J yields the data xs, whatever comes behind Hb -/
def JOk (K : PySem.W.Frag) (J : It) (xs : List PyData) (Hb : Hp) : Prop := ∀ i Hb1 H, Same Hb Hb1 → Sub Hb1 H →
  (i < xs.length → J.go i H) ∧ (xs.length ≤ i → J.stop i H) ∧ ∀ v H', J.yld i H v H' → i < xs.length → ∃ d Hb2, xs[i]? = some d ∧ Sub Hb2 H' ∧ Grow N0 Hb1 H Hb2 H' ∧ Da K Hb2 v d
def tI (K : PySem.W.Frag) (ρ : DEnv) (Post : List PyData → DEnv → Prop) : TI := fun σ H R => ∃ Hb, Ok K σ Hb H ρ ∧ ∀ J xs Hb2 H2 ρ', Ok K σ Hb2 H2 ρ' → Grow (Owned σ ρ) Hb H Hb2 H2 → Like ρ ρ' → JOk K J xs Hb2 → xs.length ≤ 16777216 → Post xs ρ' → R J H2
def IW (X : Cx) (tg it : Expr) (ρ : DEnv) (Post : List PyData → DEnv → Prop) : Prop := PI X tg it (tI X.K ρ Post)
def tAnyI (X : Cx) (tg it : Expr) : TI := fun σ H R => ∀ pins s, Inv X pins σ H s → wpAny (model X.prog X.w) X.A (eval it X.env) (fun v s1 => wpAny (model X.prog X.w) X.A (pyIter v) (PIE X pins σ tg R) X.xe s1) X.xe s
section
variable {X : Cx} {ρ : DEnv} {tg it : Expr}
theorem pi_any (tg it : Expr) : PI X tg it (tAnyI X tg it) := ⟨fun pins s σ H R I h => h pins s I⟩
theorem IW.by {t : TI} {Post : List PyData → DEnv → Prop} (h : PI X tg it t) (w : ∀ σ H R, tI X.K ρ Post σ H R → t σ H R) : IW X tg it ρ Post := ⟨fun pins s σ H R I q => h.run pins s σ H R I (w σ H R q)⟩
theorem IW.go {P : List PyData → DEnv → Prop} {σ : L2.St} {H : Hp} {R : It → Hp → Prop} {ρ0 : DEnv} {Hb0 H0 Hb : Hp} (h : IW X tg it ρ P) (ok : Ok X.K σ Hb H ρ) (g : Grow (Owned σ ρ0) Hb0 H0 Hb H) (lk : Like ρ0 ρ)
    (k : ∀ J xs Hb2 H2 ρ', Ok X.K σ Hb2 H2 ρ' → Grow (Owned σ ρ0) Hb0 H0 Hb2 H2 → Like ρ0 ρ' → JOk X.K J xs Hb2 → xs.length ≤ 16777216 → P xs ρ' → R J H2) : tAnyI X tg it σ H R :=
  fun pins s I => h.run pins s σ H R I ⟨Hb, ok, fun J xs Hb2 H2 ρ' ok' g' l' j z p => k J xs Hb2 H2 ρ' ok' (g.trans g' fun p q => .inl (lk.owned q)) (lk.trans l') j z p⟩
/-- a list, a tuple, a text -/
def iSeq (K : PySem.W.Frag) (tl : TE) : TI := fun σ H R => tl σ H fun x H1 => (∃ a xs, x = .ref a ∧ SqL K H1 a xs ∧ (xs.length ≤ sizeLine → R (Itl K a) H1)) ∨ (∃ a xs, x = .ref a ∧ SqT K H1 a xs ∧ (xs.length ≤ sizeLine → R (Itt K a) H1)) ∨ ∃ z, x = .str z ∧ R (Its z) H1
theorem pi_seq {tl : TE} (hl : PE X it tl) : PI X tg it (iSeq X.K tl) := by
  refine ⟨fun pins s σ H R I h => ?_⟩
  refine thn (hl.run pins s σ H _ I h) fun v s1 ⟨x, H1, I1, r1, q1⟩ => ?_
  rcases q1 with ⟨a, xs, e, hq, q⟩ | ⟨a, xs, e, hq, q⟩ | ⟨z, e, q⟩
  · subst e
    cases r1
    obtain ⟨its, rv, p, hz⟩ := I1.list hq
    exact wpAny_pyIter_list p.isList (pi_one (tk := s1.toks) I1 _ (turn_list a _) ⟨_, Heap.get?_push_size _ rfl, rfl, rfl⟩ (q hz))
  · subst e
    cases r1
    obtain ⟨its, rv, p, hz⟩ := I1.tuple hq
    exact wpAny_pyIter_tuple (show s1.heap.IsTuple a its.toArray from p) (pi_one (tk := s1.toks) I1 _ (turn_tuple a _) ⟨_, Heap.get?_push_size _ rfl, rfl, rfl⟩ (q hz))
  · subst e
    obtain ⟨t, rfl⟩ := r1
    cases ha : z.cps.all (· < 128)
    · exact wpAny_pyIter_wide ha (pi_one (tk := s1.toks) I1 _ (turn_str _ z t "str_iterator" (.inr rfl)) ⟨_, Heap.get?_push_size _ rfl, rfl, rfl⟩ q)
    · exact wpAny_pyIter_ascii ha (pi_one (tk := s1.toks) I1 _ (turn_str _ z t "str_ascii_iterator" (.inl rfl)) ⟨_, Heap.get?_push_size _ rfl, rfl, rfl⟩ q)
def signsOf (z : Str) : List PyData := z.cps.toList.map fun c => .str ⟨#[c]⟩
def ItW (d : PyData) (P : List PyData → Prop) : Prop := match d with
  | .list xs => P xs
  | .tuple xs => P xs
  | .str z => z.length ≤ 16777216 ∧ P (signsOf z)
  | _ => False
theorem iw_seq {Post : List PyData → DEnv → Prop} (h : EW X it ρ fun d ρ' => ItW d fun xs => Post xs ρ') : IW X tg it ρ Post := by
  refine IW.by (pi_seq (pe_any it)) fun σ H R ⟨Hb, ok, k⟩ => ?_
  refine h.go ok (Grow.refl _ _ _) (Like.refl _) fun v d Hb1 H1 ρ1 ok1 g1 _ l1 d1 p1 => ?_
  cases d1 with
  | @lst a vs ds hs ha =>
    refine .inl ⟨a, vs, rfl, (hs.mono ok1.sub.rd).sq, fun hz => k _ ds Hb1 H1 ρ1 ok1 g1 l1 (fun i Hb2 H s1 s2 => ?_) (by rw [← ha.length, ← line_eq]; exact hz) p1⟩
    have hr : SqL X.K H a vs := ((hs.mono (same_rd s1)).mono s2.rd).sq
    refine ⟨fun hi => ⟨vs, vs[i]'(by rw [ha.length]; exact hi), hr, List.getElem?_eq_getElem _⟩, fun hi => ⟨vs, hr, by rw [ha.length]; exact hi⟩, fun v H' y hi => ?_⟩
    obtain ⟨rfl, y⟩ := y
    obtain ⟨d, e, q⟩ := ha.get (y vs hr)
    exact ⟨d, Hb2, e, s2, Grow.refl _ _ _, q.mono (same_rd s1)⟩
  | @tup a vs ds hs ha =>
    refine .inr (.inl ⟨a, vs, rfl, ok1.sub.rd.t hs, fun hz => k _ ds Hb1 H1 ρ1 ok1 g1 l1 (fun i Hb2 H s1 s2 => ?_) (by rw [← ha.length, ← line_eq]; exact hz) p1⟩)
    have hr : SqT X.K H a vs := s2.rd.t ((same_rd s1).t hs)
    refine ⟨fun hi => ⟨vs, vs[i]'(by rw [ha.length]; exact hi), hr, List.getElem?_eq_getElem _⟩, fun hi => ⟨vs, hr, by rw [ha.length]; exact hi⟩, fun v H' y hi => ?_⟩
    obtain ⟨rfl, y⟩ := y
    obtain ⟨d, e, q⟩ := ha.get (y vs hr)
    exact ⟨d, Hb2, e, s2, Grow.refl _ _ _, q.mono (same_rd s1)⟩
  | str z =>
    have hl : (signsOf z).length = z.cps.size := by simp [signsOf]
    refine .inr (.inr ⟨z, rfl, k _ (signsOf z) Hb1 H1 ρ1 ok1 g1 l1 (fun i Hb2 H s1 s2 => ?_) (by rw [hl]; exact p1.1) p1.2⟩)
    refine ⟨fun hi => by show i < z.cps.size; omega, fun hi => by show z.cps.size ≤ i; omega, fun v H' y hi => ?_⟩
    obtain ⟨rfl, c, e, rfl⟩ := y
    refine ⟨.str ⟨#[c]⟩, Hb2, ?_, s2, Grow.refl _ _ _, .str _⟩
    unfold signsOf
    rw [List.getElem?_map, Array.getElem?_toList, e]
    rfl
  | _ => exact (show False from p1).elim
/-- range(n), range(m, n) -/
def rangeD (lo : Int) (n : Nat) : List PyData := (List.range n).map fun (i : Nat) => PyData.int (lo + (i : Int))
theorem rangeD_length (lo : Int) (n : Nat) : (rangeD lo n).length = n := by simp [rangeD]
theorem rangeD_get {lo : Int} {n i : Nat} (h : i < n) : (rangeD lo n)[i]? = some (.int (lo + (i : Int))) := by
  unfold rangeD
  rw [List.getElem?_map, List.getElem?_range h]
  rfl
theorem jok_range {K : PySem.W.Frag} {lo : Int} {n : Nat} {Hb : Hp} : JOk K (Itr lo n) (rangeD lo n) Hb := fun i Hb1 H s1 s2 => by
  rw [rangeD_length]
  refine ⟨fun hi => hi, fun hi => hi, fun v H' y hi => ?_⟩
  obtain ⟨rfl, rfl⟩ := y
  exact ⟨_, Hb1, rangeD_get hi, s2, Grow.refl _ _ _, .int _⟩
def R1W (ds : List PyData) (P : List PyData → Prop) : Prop := match ds with
  | [.int n] => n ≤ 1000000000 ∧ P (rangeD 0 n.toNat)
  | _ => False
def R2W (ds : List PyData) (P : List PyData → Prop) : Prop := match ds with
  | [.int m, .int n] => (-1000000000 ≤ m ∧ m ≤ 1000000000 ∧ -1000000000 ≤ n ∧ n ≤ 1000000000) ∧ P (rangeD m (n - m).toNat)
  | _ => False
theorem iw_rng1 {a : Expr} {p pos : Pos} {Post : List PyData → DEnv → Prop} (hg : Gl X "range") (hm : X.mg "range" = none) (h : AW X [a] ρ fun ds ρ' => ∃ n : Int, ds = [.int n] ∧ (-1000000000 ≤ n ∧ n ≤ 16000000) ∧ Post (rangeD 0 n.toNat) ρ') (hs : starEach [a] X.env = [(false, eval a X.env)] := by rfl) : IW X tg (.Call (.Name "range" p) [a] [] pos) ρ Post := by
  refine IW.by (pi_range1 hg hm (pa_any [a]) hs) fun σ H R ⟨Hb, ok, k⟩ => ?_
  refine h.go ok (Grow.refl _ _ _) (Like.refl _) fun vs ds Hb1 H1 ρ1 ok1 g1 _ l1 d1 ⟨n, e, ⟨b1, b2⟩, p1⟩ => ?_
  subst e
  cases d1 with
  | cons h1 t =>
    cases t
    cases h1
    exact ⟨n, rfl, by omega, by omega, k _ _ Hb1 H1 ρ1 ok1 g1 l1 jok_range (by rw [rangeD_length]; omega) p1⟩
theorem iw_rng2 {a b : Expr} {p pos : Pos} {Post : List PyData → DEnv → Prop} (hg : Gl X "range") (hm : X.mg "range" = none) (h : AW X [a, b] ρ fun ds ρ' => ∃ m n : Int, ds = [.int m, .int n] ∧ (-1000000000 ≤ m ∧ m ≤ 1000000000 ∧ -1000000000 ≤ n ∧ n ≤ 1000000000 ∧ n - m ≤ 16000000) ∧ Post (rangeD m (n - m).toNat) ρ')
    (hs : starEach [a, b] X.env = [(false, eval a X.env), (false, eval b X.env)] := by rfl) (hs2 : starEach [b] X.env = [(false, eval b X.env)] := by rfl) : IW X tg (.Call (.Name "range" p) [a, b] [] pos) ρ Post := by
  refine IW.by (pi_range2 hg hm (pa_any [a, b]) hs hs2) fun σ H R ⟨Hb, ok, k⟩ => ?_
  refine h.go ok (Grow.refl _ _ _) (Like.refl _) fun vs ds Hb1 H1 ρ1 ok1 g1 _ l1 d1 ⟨m, n, e, ⟨b1, b2, b3, b4, b5⟩, p1⟩ => ?_
  subst e
  cases d1 with
  | cons h1 t =>
    cases t with
    | cons h2 t =>
      cases t
      cases h1
      cases h2
      exact ⟨m, n, rfl, ⟨by omega, by omega, by omega, by omega⟩, k _ _ Hb1 H1 ρ1 ok1 g1 l1 jok_range (by rw [rangeD_length]; omega) p1⟩
/-- enumerate of a list -/
def enumD (xs : List PyData) : List PyData := (List.range xs.length).map fun i => .tuple [.int (i : Nat), xs.getD i .none]
theorem iw_enum {a : Expr} {p pos tpos : Pos} {elts : List Expr} {kk : Nat} {Post : List PyData → DEnv → Prop} (hg : Gl X "enumerate") (hm : X.mg "enumerate" = none) (h : AW X [a] ρ fun ds ρ' => ∃ xs, ds = [.list xs] ∧ xs.length ≤ 16777216 ∧ Post (enumD xs) ρ') (hs : starEach [a] X.env = [(false, eval a X.env)] := by rfl) :
    IW X (.Tuple elts kk tpos) (.Call (.Name "enumerate" p) [a] [] pos) ρ Post := by
  refine IW.by (pi_enum hg hm (pa_any [a]) hs) fun σ H R ⟨Hb, ok, k⟩ => ?_
  refine h.go ok (Grow.refl _ _ _) (Like.refl _) fun vs ds Hb1 H1 ρ1 ok1 g1 _ l1 d1 ⟨xs, e, hz, p1⟩ => ?_
  subst e
  cases d1 with
  | cons h1 t =>
    cases t
    cases h1 with
    | @lst a vs ds hs ha =>
      have hl : (enumD xs).length = xs.length := by simp [enumD]
      refine ⟨a, vs, rfl, (hs.mono ok1.sub.rd).sq, k _ _ Hb1 H1 ρ1 ok1 g1 l1 (fun i Hb2 H s1 s2 => ?_) (by rw [hl]; exact hz) p1⟩
      have hr : SqL X.K H a vs := ((hs.mono (same_rd s1)).mono s2.rd).sq
      rw [hl]
      refine ⟨fun hi => ⟨vs, vs[i]'(by rw [ha.length]; exact hi), hr, List.getElem?_eq_getElem _⟩, fun hi => ⟨vs, hr, by rw [ha.length]; exact hi⟩, fun v H' y hi => ?_⟩
      obtain ⟨T, x, rfl, nT, rfl, y⟩ := y
      obtain ⟨d, e, q⟩ := ha.get (y vs hr)
      refine ⟨.tuple [.int (i : Nat), d], upd Hb2 T (.tup [.int (i : Nat), x]), ?_, s2.new, Grow.new s2 nT, ?_⟩
      · unfold enumD
        rw [List.getElem?_map, List.getElem?_range hi]
        show some (PyData.tuple [.int (i : Nat), xs.getD i .none]) = _
        rw [List.getD_eq_getElem?_getD, e]
        rfl
      · exact .tup (.inl (.inl upd_same)) (.cons (.int _) (.cons ((q.mono (same_rd s1)).mono (same_rd (same_new (s2.no nT)))) .nil))

/-! ### for -/
variable {pr ts : List Nat} {D : DE}
theorem Fin.keepSame {K : PySem.W.Frag} {σ σ1 : L2.St} {ρ1 : DEnv} {Hb H Hb1 H1 : Hp} (f : Fin K pr σ ρ Hb H σ1 ρ1 Hb1 H1) : Same Hb Hb1 := f.gr.per
/-- J: what holds behind i turns -/
theorem sw_for {body : List Stmt} {pos : Pos} (hp : PassesOwn (model X.prog X.w) X.A X.env X.xe) (hc : X.calm = true) (hd : ∀ i ∈ pr, i ∉ ts)
    (h : IW X tg it ρ fun xs ρ1 => ∃ J : Nat → DEnv → Prop, J 0 ρ1 ∧ (∀ i x ρi, xs[i]? = some x → J i ρi → GW X ts tg x ρi fun ρ2 => SsW X pr body ρ2 { D with nx := J (i + 1), ct := J (i + 1), bk := D.nx }) ∧ ∀ ρn, J xs.length ρn → D.nx ρn)
    (hs : ∀ x, foldedSetIterable it X.env x = pure x := by intro _; rfl) : SW X pr (.For tg it body [] pos) ρ D := by
  refine SW.by (ps_for hp hc (pi_any tg it) (pg_any tg) (pss_any body) hs) fun DD σ H ⟨Hb, ok, k1, k2, k3, k4⟩ => ?_
  refine h.go ok (Grow.refl _ _ _) (Like.refl _) fun I xs Hb1 H1 ρ1 ok1 g1 l1 j _ ⟨J, j0, js, jd⟩ => ?_
  refine ⟨fun i m σ' H' => m = xs.length - i ∧ i ≤ xs.length ∧ ∃ ρ' Hb', Fin X.K pr σ ρ Hb H σ' ρ' Hb' H' ∧ Same Hb1 Hb' ∧ J i ρ', ⟨xs.length, by simp, Nat.zero_le _, ρ1, Hb1, Fin.like ok1 g1 l1, Same.refl _, j0⟩, ?_⟩
  rintro i m σ' H' ⟨rfl, hi, ρ', Hb', f, sm, jj⟩
  obtain ⟨a1, a2, a3⟩ := j i Hb' H' sm f.ok.sub
  by_cases hlt : i < xs.length
  · refine .inr ⟨a1 hlt, fun σ2 H2 => ∃ ρ2 Hb2, Fin X.K pr σ ρ Hb H σ2 ρ2 Hb2 H2 ∧ Same Hb1 Hb2 ∧ J (i + 1) ρ2, fun σ2 H2 q => ⟨xs.length - (i + 1), by omega, rfl, hlt, q⟩, fun v H2 y => ?_⟩
    obtain ⟨d, Hb2, e, s2, g2, dv⟩ := a3 v H2 y hlt
    have f2 : Fin X.K pr σ ρ Hb H σ' ρ' Hb2 H2 := ⟨f.ok.grow g2 s2, f.gr.trans0 g2, f.ow, f.st⟩
    refine (js i d ρ' e jj).go f2 hd dv fun σ3 ρ3 Hb3 H3 f3 s3 p3 => ?_
    have sm3 := (sm.trans g2.per).trans s3
    exact SsW.go p3 f3 ⟨fun σ4 ρ4 Hb4 H4 f4 s4 q => ⟨ρ4, Hb4, f4, sm3.trans s4, q⟩, k2, fun σ4 ρ4 Hb4 H4 f4 q => k1 σ4 ρ4 Hb4 H4 f4 q, fun σ4 ρ4 Hb4 H4 f4 s4 q => ⟨ρ4, Hb4, f4, sm3.trans s4, q⟩⟩
  · have ei : i = xs.length := by omega
    subst ei
    exact .inl ⟨a2 (Nat.le_refl _), k1 σ' ρ' Hb' H' f (jd ρ' jj)⟩
/-- while: J m holds, m falls -/
theorem sw_while {c : Expr} {body : List Stmt} {pos : Pos} (hp : PassesOwn (model X.prog X.w) X.A X.env X.xe) (J : Nat → DEnv → Prop) (m0 : Nat) (h0 : J m0 ρ)
    (hs : ∀ m ρ', J m ρ' → TW X c ρ' fun b ρ1 => (b = true → SsW X pr body ρ1 { D with nx := fun ρ2 => ∃ m', m' < m ∧ J m' ρ2, ct := fun ρ2 => ∃ m', m' < m ∧ J m' ρ2, bk := D.nx }) ∧ (b = false → D.nx ρ1)) : SW X pr (.While c body [] pos) ρ D := by
  refine SW.by (ps_while hp (pt_any c) (pss_any body)) fun DD σ H ⟨Hb, ok, k1, k2, k3, k4⟩ => ?_
  refine ⟨fun m σ' H' => ∃ ρ' Hb', Fin X.K pr σ ρ Hb H σ' ρ' Hb' H' ∧ J m ρ', ⟨m0, ρ, Hb, Fin.refl ok, h0⟩, ?_⟩
  rintro m σ' H' ⟨ρ', Hb', f, jj⟩
  refine (hs m ρ' jj).go f.ok (Grow.refl _ _ _) (Like.refl _) fun b Hb1 H1 ρ1 ok1 g1 _ l1 ⟨p1, p2⟩ => ?_
  have f1 := f.trans (Fin.like ok1 g1 l1)
  cases b with
  | true =>
    refine ⟨fun σ2 H2 => ∃ ρ2 Hb2, Fin X.K pr σ ρ Hb H σ2 ρ2 Hb2 H2 ∧ ∃ m', m' < m ∧ J m' ρ2, fun σ2 H2 ⟨ρ2, Hb2, f2, m', hm, q⟩ => ⟨m', hm, ρ2, Hb2, f2, q⟩, ?_⟩
    exact (p1 rfl).go f1 ⟨fun σ4 ρ4 Hb4 H4 f4 _ q => ⟨ρ4, Hb4, f4, q⟩, k2, fun σ4 ρ4 Hb4 H4 f4 q => k1 σ4 ρ4 Hb4 H4 f4 q, fun σ4 ρ4 Hb4 H4 f4 _ q => ⟨ρ4, Hb4, f4, q⟩⟩
  | false => exact k1 σ' ρ1 Hb1 H1 f1 (p2 rfl)
end

/-! ### list comprehensions: the block's own slots vs are unknown ahead, and behind what they were -/
/-- the names of the block known again as they were ahead -/
def backD (ρ0 ρ : DEnv) (vs : List Nat) : DEnv := (List.range ρ.length).map fun i => if i ∈ vs then ρ0.getD i .un else ρ.getD i .un
theorem backD_self (ρ : DEnv) (vs : List Nat) : backD ρ (wipeD ρ vs) vs = ρ := by
  unfold backD
  rw [wipeD_length]
  refine List.ext_getElem? fun i => ?_
  rw [List.getElem?_map]
  by_cases hi : i < ρ.length
  · rw [List.getElem?_range hi, List.getElem?_eq_getElem hi]
    show some (if i ∈ vs then _ else _) = _
    by_cases hv : i ∈ vs
    · rw [if_pos hv, List.getD_eq_getElem?_getD, List.getElem?_eq_getElem hi]
      rfl
    · rw [if_neg hv, List.getD_eq_getElem?_getD, wipeD_get ρ vs i hv, List.getElem?_eq_getElem hi]
      rfl
  · rw [List.getElem?_eq_none (by simpa using hi), List.getElem?_eq_none (by simpa using hi)]
    rfl
section
variable {K : PySem.W.Frag} {σ : L2.St} {Hb H : Hp} {ρ : DEnv} {vs : List Nat}
/-- the slots of the block aren't own objects -/
def NoOw (ρ : DEnv) (vs : List Nat) : Prop := ∀ i ∈ vs, ∀ o, ρ[i]? ≠ some (.ow o)
theorem Ok.wiped (ok : Ok K σ Hb H ρ) : Ok K (wipe σ vs) Hb H (wipeD ρ vs) := by
  have h : ∀ (i : Nat) (s : Sl), (wipeD ρ vs)[i]? = some s → s ≠ .un → i ∉ vs ∧ ρ[i]? = some s ∧ (wipe σ vs)[i]? = σ[i]? := fun i s e n => by
    by_cases hv : i ∈ vs
    · exact absurd (wipeD_in hv e) n
    · rw [wipeD_get ρ vs i hv] at e
      exact ⟨hv, e, wipe_get σ vs i hv⟩
  refine ⟨by rw [wipeD_length, wipe_length]; exact ok.len, ok.sub, fun i s e => ?_, fun i j o o' p ei ej si sj => ?_⟩
  · cases s with
    | un => trivial
    | pd d =>
      obtain ⟨_, e1, e2⟩ := h i _ e (by simp)
      have q := ok.sl i _ e1
      rw [e2]
      exact q
    | ow o =>
      obtain ⟨_, e1, e2⟩ := h i _ e (by simp)
      have q := ok.sl i _ e1
      rw [e2]
      exact q
  · obtain ⟨_, e1, e2⟩ := h i _ ei (by simp)
    obtain ⟨_, e3, e4⟩ := h j _ ej (by simp)
    rw [e2] at si
    rw [e4] at sj
    exact ok.ap i j o o' p e1 e3 si sj
theorem owned_wipe {p : Addr} (h : Owned (wipe σ vs) (wipeD ρ vs) p) : Owned σ ρ p := by
  obtain ⟨i, o, e, s⟩ := h
  by_cases hv : i ∈ vs
  · cases wipeD_in hv e
  · rw [wipeD_get ρ vs i hv] at e
    rw [wipe_get σ vs i hv] at s
    exact ⟨i, o, e, s⟩
end
end DL

/-! The data layer: list comprehensions, own lists, isinstance, f-strings, methods of texts. -/
namespace DL
open PySem PySem.Spec PyProof.Rows L2

/-! ### list comprehensions -/
abbrev Bk (X : Cx) (scope : Scope) (s : Shared) (H : Hp) (C : Addr) (cl : List (Str × Addr)) (fp : List Addr) : Cx := X.blk s H scope (compEnvC scope cl C X.env) fp
def TsW (X : Cx) (ifs : List Expr) (ρ : DEnv) (P : Bool → DEnv → Prop) : Prop := PTs X ifs (tWT X.K ρ P)
/-- in every block -/
def GB (X : Cx) (scope : Scope) (ts : List Nat) (tg : Expr) (d : PyData) (ρ : DEnv) (P : DEnv → Prop) : Prop := ∀ s H C cl fp, GW (Bk X scope s H C cl fp) ts tg d ρ P
def TB (X : Cx) (scope : Scope) (ifs : List Expr) (ρ : DEnv) (P : Bool → DEnv → Prop) : Prop := ∀ s H C cl fp, TsW (Bk X scope s H C cl fp) ifs ρ P
def EB (X : Cx) (scope : Scope) (e : Expr) (ρ : DEnv) (P : PyData → DEnv → Prop) : Prop := ∀ s H C cl fp, EW (Bk X scope s H C cl fp) e ρ P
section
variable {X : Cx} {ρ : DEnv} {scope : Scope}
def tAnyGB (X : Cx) (scope : Scope) (tg : Expr) : TG := fun v σ H Q => ∀ s0 H0 C cl fp pins s u, Inv (Bk X scope s0 H0 C cl fp) pins σ H s → RelV v u →
  wpAny (model X.prog X.w) X.A (assign tg (compEnvC scope cl C X.env) u) (fun _ s' => ∃ σ' H', Inv (Bk X scope s0 H0 C cl fp) pins σ' H' s' ∧ Q σ' H') (fun _ _ => False) s
def tAnyTB (X : Cx) (scope : Scope) (ifs : List Expr) : TT := fun σ H Q => ∀ s0 H0 C cl fp pins s, Inv (Bk X scope s0 H0 C cl fp) pins σ H s →
  wpAny (model X.prog X.w) X.A (forIn ifs true fun c r => if r = true then do let ok ← isTrue c (compEnvC scope cl C X.env) (eval c (compEnvC scope cl C X.env)); pure (ForInStep.yield ok) else pure (ForInStep.yield r)) (TP (Bk X scope s0 H0 C cl fp) pins σ Q) (fun _ _ => False) s
def tAnyEB (X : Cx) (scope : Scope) (e : Expr) : TE := fun σ H Q => ∀ s0 H0 C cl fp pins s, Inv (Bk X scope s0 H0 C cl fp) pins σ H s →
  wpAny (model X.prog X.w) X.A (eval e (compEnvC scope cl C X.env)) (EP (Bk X scope s0 H0 C cl fp) pins σ Q) (fun _ _ => False) s
theorem tsw_nil {P : Bool → DEnv → Prop} (h : P true ρ) : TsW X [] ρ P := ⟨fun pins s σ H Q I ⟨Hb, ok, k⟩ => pts_nil.run pins s σ H Q I (k true Hb H ρ ok (Grow.refl _ _ _) (Like.refl _) h)⟩
theorem tsw_one {c : Expr} {P : Bool → DEnv → Prop} (h : TW X c ρ P) : TsW X [c] ρ P := pts_one h
theorem tb_nil {P : Bool → DEnv → Prop} (h : P true ρ) : TB X scope [] ρ P := fun _ _ _ _ _ => tsw_nil h
theorem tb_one {c : Expr} {P : Bool → DEnv → Prop} (h : ∀ s H C cl fp, TW (Bk X scope s H C cl fp) c ρ P) : TB X scope [c] ρ P := fun s H C cl fp => tsw_one (h s H C cl fp)
/-- what stands within a block, the new list at p: the own objects ahead may hold other things -/
structure BFin (K : PySem.W.Frag) (vs : List Nat) (σ : L2.St) (p : Addr) (ρ1 : DEnv) (Hb1 H1 : Hp) (ρi : DEnv) (Hb H : Hp) : Prop where
  ok : Ok K (wipe σ vs) Hb H ρi
  gr : Grow (fun a => Owned (wipe σ vs) (wipeD ρ1 vs) a ∨ a = p) Hb1 H1 Hb H
  lk : Like (wipeD ρ1 vs) ρi
/-- an object that nobody owns, not told as data, is written -/
theorem Ok.put {K : PySem.W.Frag} {σ : L2.St} {ρ : DEnv} {Hb H : Hp} {p : Addr} {u : HO} (ok : Ok K σ Hb H ρ) (nb : Hb p = none) (no : ¬ Owned σ ρ p) : Ok K σ Hb (upd H p u) ρ := by
  refine ⟨ok.len, fun a x e => ?_, fun i s e => ?_, ok.ap⟩
  · rw [upd_ne (ne_of_none e nb)]
    exact ok.sub a x e
  · have z := ok.sl i s e
    cases s with
    | un => trivial
    | pd d => exact z
    | ow o =>
      obtain ⟨q, x, e1, e2, e3, e4⟩ := z
      refine ⟨q, x, e1, e2, ?_, e4⟩
      rw [upd_ne]
      · exact e3
      · rintro rfl
        exact no ⟨i, o, e, e1⟩
theorem wipe_idem (σ : L2.St) (vs : List Nat) : wipe (wipe σ vs) vs = wipe σ vs := by
  refine List.ext_getElem? fun n => ?_
  by_cases hv : n ∈ vs
  · have c : ∀ (τ : L2.St), n < τ.length → (wipe τ vs)[n]? = some none := by
      intro τ hn
      have hn' : n < (wipe τ vs).length := by rw [wipe_length]; exact hn
      rw [List.getElem?_eq_getElem hn']
      cases q : (wipe τ vs)[n] with
      | none => rfl
      | some x =>
        have z := (wipe_some (i := n) (x := x) (vs := vs) (σ := τ) (by rw [List.getElem?_eq_getElem hn', q])).2
        exact absurd hv z
    by_cases hn : n < σ.length
    · rw [c σ hn, c (wipe σ vs) (by rw [wipe_length]; exact hn)]
    · rw [List.getElem?_eq_none (by rw [wipe_length, wipe_length]; omega), List.getElem?_eq_none (by rw [wipe_length]; omega)]
  · rw [wipe_get _ vs n hv]
theorem backD_like {ρ1 ρi : DEnv} {vs : List Nat} (l : Like (wipeD ρ1 vs) ρi) : Like ρ1 (backD ρ1 ρi vs) := by
  have hl : ρ1.length = ρi.length := by
    have := l.1
    rw [wipeD_length] at this
    exact this
  refine ⟨by unfold backD; rw [List.length_map, List.length_range]; exact hl, fun i => ?_⟩
  by_cases hi : i < ρ1.length
  · have e : (backD ρ1 ρi vs)[i]? = some (if i ∈ vs then ρ1.getD i .un else ρi.getD i .un) := by
      unfold backD
      rw [List.getElem?_map, List.getElem?_range (hl ▸ hi)]
      rfl
    rw [e]
    by_cases hv : i ∈ vs
    · rw [if_pos hv, List.getD_eq_getElem?_getD, List.getElem?_eq_getElem hi]
      exact .inl rfl
    · rw [if_neg hv]
      have q := l.2 i
      rw [wipeD_get ρ1 vs i hv] at q
      have hi' : i < ρi.length := hl ▸ hi
      rw [List.getD_eq_getElem?_getD, List.getElem?_eq_getElem hi']
      rw [List.getElem?_eq_getElem hi'] at q
      exact q
  · rw [List.getElem?_eq_none (by omega), List.getElem?_eq_none (by unfold backD; rw [List.length_map, List.length_range]; omega)]
    exact .inl rfl
theorem backD_get {ρ1 ρi : DEnv} {vs : List Nat} {i : Nat} {s : Sl} (e : (backD ρ1 ρi vs)[i]? = some s) (hl : ρ1.length = ρi.length) : (i ∈ vs ∧ ρ1[i]? = some s) ∨ (i ∉ vs ∧ ρi[i]? = some s) := by
  unfold backD at e
  by_cases hi : i < ρi.length
  · rw [List.getElem?_map, List.getElem?_range hi] at e
    have e : (if i ∈ vs then ρ1.getD i .un else ρi.getD i .un) = s := Option.some.inj e
    by_cases hv : i ∈ vs
    · rw [if_pos hv, List.getD_eq_getElem?_getD, List.getElem?_eq_getElem (hl ▸ hi)] at e
      exact .inl ⟨hv, by rw [List.getElem?_eq_getElem (hl ▸ hi)]; exact congrArg some e⟩
    · rw [if_neg hv, List.getD_eq_getElem?_getD, List.getElem?_eq_getElem hi] at e
      exact .inr ⟨hv, by rw [List.getElem?_eq_getElem hi]; exact congrArg some e⟩
  · rw [List.getElem?_eq_none (by rw [List.length_map, List.length_range]; omega)] at e
    cases e
theorem back_ok {K : PySem.W.Frag} {vs : List Nat} {σ : L2.St} {ρ1 ρi : DEnv} {Hb1 H1 Hb H : Hp} (ok1 : Ok K σ Hb1 H1 ρ1) (hno : NoOw ρ1 vs) {p : Addr} (f : BFin K vs σ p ρ1 Hb1 H1 ρi Hb H) : Ok K σ Hb H (backD ρ1 ρi vs) := by
  have hl : ρ1.length = ρi.length := by
    have := f.lk.1
    rw [wipeD_length] at this
    exact this
  refine ⟨by rw [← (backD_like f.lk).1]; exact ok1.len, f.ok.sub, fun i s e => ?_, fun i j o o' p ei ej si sj => ?_⟩
  · rcases backD_get e hl with ⟨hv, q⟩ | ⟨hv, q⟩
    · have z := ok1.sl i s q
      cases s with
      | un => trivial
      | pd d =>
        obtain ⟨v, e1, e2⟩ := z
        exact ⟨v, e1, e2.mono (same_rd f.gr.per)⟩
      | ow o => exact absurd q (hno i hv o)
    · have z := f.ok.sl i s q
      rw [wipe_get σ vs i hv] at z
      exact z
  · rcases backD_get ei hl with ⟨hv, q⟩ | ⟨hv, q⟩
    · exact absurd q (hno i hv o)
    · rcases backD_get ej hl with ⟨hv', q'⟩ | ⟨hv', q'⟩
      · exact absurd q' (hno j hv' o')
      · exact f.ok.ap i j o o' p q q' (by rw [wipe_get σ vs i hv]; exact si) (by rw [wipe_get σ vs j hv']; exact sj)
/-- the reading of a list comprehension, from what its parts come to -/
theorem lc_read {tg iter elt : Expr} {ifs : List Expr} {vs : List Nat} {P : OD → DEnv → Prop} {σ : L2.St} {H : Hp} {Q : VK}
    (h : IW X tg iter ρ fun xs ρ1 => NoOw ρ1 vs ∧ ∃ J : Nat → List PyData → DEnv → Prop, J 0 [] (wipeD ρ1 vs) ∧
      (∀ i x acc ρi, xs[i]? = some x → J i acc ρi → GB X scope vs tg x ρi fun ρ2 => TB X scope ifs ρ2 fun b ρ3 => (b = true → EB X scope elt ρ3 fun d ρ4 => J (i + 1) (acc ++ [d]) (wipeD ρ4 vs)) ∧ (b = false → J (i + 1) acc (wipeD ρ3 vs))) ∧
      ∀ acc ρn, J xs.length acc ρn → P (.lst acc) (backD ρ1 ρn vs)) (q : tN X.K ρ P σ H Q) : tLc (tAnyI X tg iter) (tAnyGB X scope tg) (tAnyTB X scope ifs) (tAnyEB X scope elt) vs σ H Q := by
  obtain ⟨Hb, ok, k⟩ := q
  refine h.go ok (Grow.refl _ _ _) (Like.refl _) fun I xs Hb1 H1 ρ1 ok1 g1 l1 j hz ⟨hno, J, j0, js, jd⟩ => fun p hp => ?_
  have nb1 : Hb1 p = none := ok1.sub.no hp
  let Hn : Hp := upd H1 p (.lst [])
  -- behind i turns: the list at p, the rest as a block leaves it
  let Pv : Nat → Hp → Prop := fun i H' => ∃ ρi Hb' acc vacc, BFin X.K vs σ p ρ1 Hb1 Hn ρi Hb' H' ∧ Hb' p = none ∧ H' p = some (.lst vacc) ∧ DaAll X.K Hb' vacc acc ∧ acc.length ≤ i ∧ J i acc ρi
  refine ⟨fun i m H' => m = xs.length - i ∧ i ≤ xs.length ∧ Pv i H', ⟨xs.length, by simp, Nat.zero_le _, wipeD ρ1 vs, Hb1, [], [], ⟨?_, Grow.refl _ _ _, Like.refl _⟩, nb1, upd_same, .nil, Nat.le_refl _, j0⟩, ?_⟩
  · exact (ok1.grow (Grow.newH hp) (ok1.sub.newH nb1)).wiped
  have own_p : ∀ {ρi : DEnv}, Like (wipeD ρ1 vs) ρi → ¬ Owned (wipe σ vs) ρi p := fun l z => by
    obtain ⟨i, o, e, s⟩ := owned_wipe (l.owned z)
    obtain ⟨q, u, e1, _, e3, _⟩ := ok1.own e
    rw [s] at e1
    cases e1
    rw [hp] at e3
    cases e3
  rintro i m H' ⟨rfl, hi, ρi, Hb', acc, vacc, f, np, hl, da, hacc, jj⟩
  have sm : Same Hb1 Hb' := f.gr.per
  obtain ⟨a1, a2, a3⟩ := j i Hb' H' sm f.ok.sub
  by_cases hlt : i < xs.length
  · refine .inr ⟨a1 hlt, Pv (i + 1), fun H2 q => ⟨xs.length - (i + 1), by omega, rfl, hlt, q⟩, fun v H2 y => ?_⟩
    obtain ⟨d, Hb2, e, s2, g2, dv⟩ := a3 v H2 y hlt
    have ok2 : Ok X.K (wipe σ vs) Hb2 H2 ρi := f.ok.grow g2 s2
    have np2 : Hb2 p = none := g2.hid p (fun z => z) np (by rw [hl]; simp)
    have hl2 : H2 p = some (.lst vacc) := g2.keep p _ hl fun z => z
    intro s0 H0 C cl fp pins s u I0 ru
    refine (js i d acc ρi e jj s0 H0 C cl fp).run pins s (wipe σ vs) H2 v u _ I0 ru ⟨Hb2, ok2, dv, fun σ3 ρ3 Hb3 H3 f3 p3 => ?_⟩
    have w3 : wipe σ3 vs = wipe σ vs := f3.wp.trans (wipe_idem σ vs)
    refine ⟨w3, fun s0 H0 C cl fp pins s I0 => ?_⟩
    refine (p3 s0 H0 C cl fp).run pins s σ3 H3 _ I0 ⟨Hb3, f3.ok, fun b Hb4 H4 ρ4 ok4 g4 l4 p4 => ?_⟩
    -- all that a block's own slots don't say
    have gall : Grow (fun a => Owned (wipe σ vs) (wipeD ρ1 vs) a ∨ a = p) Hb1 Hn Hb3 H3 := (f.gr.trans0 g2).trans f3.gr fun q z => .inl (.inl (f.lk.owned z))
    have own3 : ∀ q, Owned σ3 ρ3 q → Owned (wipe σ vs) (wipeD ρ1 vs) q ∨ H2 q = none := fun q z => (f3.ow q z).imp (fun z => f.lk.owned z) id
    have np3o : ¬ Owned σ3 ρ3 p := fun z => (own3 p z).elim (own_p (Like.refl _)) fun n => by
      rw [hl2] at n
      cases n
    have np3 : Hb3 p = none := f3.gr.hid p (own_p f.lk) np2 (by rw [hl2]; simp)
    have hl3 : H3 p = some (.lst vacc) := f3.gr.keep p _ hl2 (own_p f.lk)
    have np4 : Hb4 p = none := g4.hid p np3o np3 (by rw [hl3]; simp)
    have hl4 : H4 p = some (.lst vacc) := g4.keep p _ hl3 np3o
    have back : ∀ {q : Addr}, H2 q = none → Hn q = none := fun {q} n => by
      cases z : Hn q with
      | none => rfl
      | some o => exact absurd n ((f.gr.trans0 g2).there q (by rw [z]; simp))
    -- the block's end, own slots forgotten
    have fend : ∀ {ρ5 : DEnv} {Hb5 H5 : Hp}, Ok X.K σ3 Hb5 H5 ρ5 → Grow (Owned σ3 ρ3) Hb3 H3 Hb5 H5 → Like ρ3 ρ5 → BFin X.K vs σ p ρ1 Hb1 Hn (wipeD ρ5 vs) Hb5 H5 := fun {ρ5 Hb5 H5} ok5 g5 l5 => by
      refine ⟨by rw [← w3]; exact ok5.wiped, gall.trans g5 fun q z => (own3 q z).imp .inl back, ?_⟩
      have a := f.lk.wiped vs
      rw [wipeD_idem] at a
      exact (a.trans f3.lw).trans (l5.wiped vs)
    have da4 : DaAll X.K Hb4 vacc acc := da.mono (same_rd (((g2.per).trans f3.gr.per).trans g4.per))
    cases b with
    | false => exact ⟨wipeD ρ4 vs, Hb4, acc, vacc, fend ok4 g4 l4, np4, hl4, da4, by omega, p4.2 rfl⟩
    | true =>
      intro s0 H0 C cl fp pins s I0
      refine (p4.1 rfl s0 H0 C cl fp).run pins s σ3 H4 _ I0 ⟨Hb4, ok4, fun w dw Hb5 H5 ρ5 ok5 g5 l5 dv5 p5 => ?_⟩
      have np4o : ¬ Owned σ3 ρ4 p := fun z => np3o (l4.owned z)
      have np5o : ¬ Owned σ3 ρ5 p := fun z => np4o (l5.owned z)
      have np5 : Hb5 p = none := g5.hid p np4o np4 (by rw [hl4]; simp)
      have hl5 : H5 p = some (.lst vacc) := g5.keep p _ hl4 np4o
      have da5 : DaAll X.K Hb5 (vacc ++ [w]) (acc ++ [dw]) := (da4.mono (same_rd g5.per)).append (.cons dv5 .nil)
      refine ⟨vacc, hl5, by rw [line_eq, da4.length]; omega, ?_⟩
      have g45 : Grow (Owned σ3 ρ3) Hb3 H3 Hb5 H5 := g4.trans g5 fun q z => .inl (l4.owned z)
      have f5 := fend ok5 g45 (l4.trans l5)
      refine ⟨wipeD ρ5 vs, Hb5, acc ++ [dw], vacc ++ [w], ⟨f5.ok.put np5 (own_p f5.lk), f5.gr.trans (O' := fun a => a = p) (Grow.write rfl) fun q z => .inl (.inr z), f5.lk⟩, np5, upd_same, da5, by rw [List.length_append]; simp; omega, p5⟩
  · have ei : i = xs.length := by omega
    subst ei
    refine .inl ⟨a2 (Nat.le_refl _), ?_⟩
    have n0 : H p = none := by
      cases z : H p with
      | none => rfl
      | some x => exact absurd hp (g1.there p (by rw [z]; simp))
    refine k p (.lst vacc) (.lst acc) Hb' H' (backD ρ1 ρi vs) (back_ok (Ok.grow ok1 (Grow.newH hp) (ok1.sub.newH nb1)) hno f) ?_ (l1.trans (backD_like f.lk)) n0 np hl ⟨vacc, rfl, da⟩ (jd acc ρi jj)
    refine (g1.trans0 (Grow.newH hp)).trans f.gr fun q z => ?_
    rcases z with z | z
    · exact .inl (l1.owned (owned_wipe z))
    · exact .inr (z ▸ n0)
theorem blk_pg {tg : Expr} (s : Shared) (H : Hp) (C : Addr) (cl : List (Str × Addr)) (fp : List Addr) : PG (Bk X scope s H C cl fp) tg (tAnyGB X scope tg) := ⟨fun pins s' σ H' v u Q I r h => h s H C cl fp pins s' u I r⟩
theorem blk_pt {ifs : List Expr} (s : Shared) (H : Hp) (C : Addr) (cl : List (Str × Addr)) (fp : List Addr) : PTs (Bk X scope s H C cl fp) ifs (tAnyTB X scope ifs) := ⟨fun pins s' σ H' Q I h => h s H C cl fp pins s' I⟩
theorem blk_pe {e : Expr} (s : Shared) (H : Hp) (C : Addr) (cl : List (Str × Addr)) (fp : List Addr) : PE (Bk X scope s H C cl fp) e (tAnyEB X scope e) := ⟨fun pins s' σ H' Q I h => h s H C cl fp pins s' I⟩
/-- [elt for tg in iter if ..] -/
theorem en_lc {tg iter elt : Expr} {ifs : List Expr} {own : List (Str × Nat)} {pos : Pos} {P : OD → DEnv → Prop} (hc : X.calm = true) (hN : X.N.Nodup) (ok : BlkOk X.N X.env.scope scope own)
    (h : IW X tg iter ρ fun xs ρ1 => NoOw ρ1 (own.map (·.2)) ∧ ∃ J : Nat → List PyData → DEnv → Prop, J 0 [] (wipeD ρ1 (own.map (·.2))) ∧
      (∀ i x acc ρi, xs[i]? = some x → J i acc ρi → GB X scope (own.map (·.2)) tg x ρi fun ρ2 => TB X scope ifs ρ2 fun b ρ3 => (b = true → EB X scope elt ρ3 fun d ρ4 => J (i + 1) (acc ++ [d]) (wipeD ρ4 (own.map (·.2)))) ∧ (b = false → J (i + 1) acc (wipeD ρ3 (own.map (·.2))))) ∧
      ∀ acc ρn, J xs.length acc ρn → P (.lst acc) (backD ρ1 ρn (own.map (·.2)))) (hs : ∀ x, foldedSetIterable iter X.env x = pure x := by intro _; rfl) : EN X (.ListComp elt [⟨tg, iter, ifs, 0⟩] scope pos) ρ P :=
  EN.by (pe_lc hc hN (pi_any tg iter) ok (fun s H C cl fp => blk_pg s H C cl fp) (fun s H C cl fp => blk_pt s H C cl fp) (fun s H C cl fp => blk_pe s H C cl fp) hs) fun σ H Q q => lc_read h q
/-- .. that changes no own object: f tells the items, c which are taken -/
theorem en_lcP {tg iter elt : Expr} {ifs : List Expr} {own : List (Str × Nat)} {pos : Pos} {P : OD → DEnv → Prop} (hc : X.calm = true) (hN : X.N.Nodup) (ok : BlkOk X.N X.env.scope scope own)
    (h : IW X tg iter ρ fun xs ρ1 => NoOw ρ1 (own.map (·.2)) ∧ ∃ (c : PyData → Bool) (f : PyData → PyData), (∀ x, x ∈ xs → GB X scope (own.map (·.2)) tg x (wipeD ρ1 (own.map (·.2))) fun ρ2 => TB X scope ifs ρ2 fun b ρ3 => wipeD ρ3 (own.map (·.2)) = wipeD ρ1 (own.map (·.2)) ∧ b = c x ∧
        (b = true → EB X scope elt ρ3 fun d ρ4 => wipeD ρ4 (own.map (·.2)) = wipeD ρ1 (own.map (·.2)) ∧ d = f x)) ∧ P (.lst ((xs.filter c).map f)) ρ1) (hs : ∀ x, foldedSetIterable iter X.env x = pure x := by intro _; rfl) : EN X (.ListComp elt [⟨tg, iter, ifs, 0⟩] scope pos) ρ P := by
  refine en_lc hc hN ok ?_ hs
  refine IW.by h fun σ H R ⟨Hb, ok, k⟩ => ⟨Hb, ok, fun J xs Hb2 H2 ρ1 ok2 g2 l2 j hz ⟨hno, c, f, hx, hP⟩ => k J xs Hb2 H2 ρ1 ok2 g2 l2 j hz ⟨hno, fun i acc ρi => acc = ((xs.take i).filter c).map f ∧ ρi = wipeD ρ1 (own.map (·.2)), ⟨by simp, rfl⟩, fun i x acc ρi ex ⟨ea, er⟩ => ?_, fun acc ρn ⟨ea, er⟩ => ?_⟩⟩
  · subst ea er
    have step : (xs.take (i + 1)).filter c = (xs.take i).filter c ++ (if c x = true then [x] else []) := by
      rw [List.take_add_one, ex, List.filter_append]
      congr 1
      by_cases q : c x = true <;> simp [q]
    intro s H C cl fp
    refine ⟨fun pins s2 σ2 H2 v u Q I r w => (hx x (List.mem_of_getElem? ex) s H C cl fp).run pins s2 σ2 H2 v u Q I r ?_⟩
    obtain ⟨Hb, ok, dv, k⟩ := w
    refine ⟨Hb, ok, dv, fun σ' ρ' Hb2 H2 f2 p2 => k σ' ρ' Hb2 H2 f2 fun s H C cl fp => ⟨fun pins s2 σ2 H2 Q I w => (p2 s H C cl fp).run pins s2 σ2 H2 Q I ?_⟩⟩
    obtain ⟨Hb, ok, k⟩ := w
    refine ⟨Hb, ok, fun b Hb2 H2 ρ3 ok3 g3 l3 ⟨e1, e2, e3⟩ => k b Hb2 H2 ρ3 ok3 g3 l3 ⟨fun hb s H C cl fp => (e3 hb s H C cl fp).mono fun d ρ4 ⟨z1, z2⟩ => ⟨?_, z1⟩, fun hb => ⟨?_, e1⟩⟩⟩
    · rw [step, if_pos (e2 ▸ hb), z2, List.map_append]
      rfl
    · rw [step, if_neg (by rw [← e2, hb]; exact Bool.false_ne_true), List.append_nil]
  · subst ea er
    rw [backD_self, List.take_length]
    exact hP
end
end DL

/-! The data layer: own lists changed, isinstance, f-strings, methods of texts; a def's promise. -/
namespace DL
open PySem PySem.Spec PyProof.Rows L2
section
variable {X : Cx} {ρ : DEnv} {pr : List Nat} {D : DE} {pos : Pos}

/-! ### y = [..] on one line -/
theorem sw_lc {scope : Scope} {y : Str} {py spos : Pos} {tg iter elt : Expr} {ifs : List Expr} {own : List (Str × Nat)} (i : Nat) (hc : X.calm = true) (hN : X.N.Nodup) (hy : X.N[i]? = some y) (hyl : X.env.scope.names.lookup y = some .local)
    (hsw : swapsWith (.ListComp elt [⟨tg, iter, ifs, 0⟩] scope pos) (some (.Name y py)) spos.line X.env = pure true) (ok : BlkOk X.N X.env.scope scope own) (hi : i ∉ pr) (hil : i < ρ.length) (o1 : Bool)
    (h : IW X tg iter ρ fun xs ρ1 => NoOw ρ1 (own.map (·.2)) ∧ ∃ J : Nat → List PyData → DEnv → Prop, J 0 [] (wipeD ρ1 (own.map (·.2))) ∧
      (∀ i x acc ρi, xs[i]? = some x → J i acc ρi → GB X scope (own.map (·.2)) tg x ρi fun ρ2 => TB X scope ifs ρ2 fun b ρ3 => (b = true → EB X scope elt ρ3 fun d ρ4 => J (i + 1) (acc ++ [d]) (wipeD ρ4 (own.map (·.2)))) ∧ (b = false → J (i + 1) acc (wipeD ρ3 (own.map (·.2))))) ∧
      ∀ acc ρn, J xs.length acc ρn → D.nx ((backD ρ1 ρn (own.map (·.2))).set i (if o1 = true then .ow (.lst acc) else .pd (.list acc)))) (hs : ∀ x, foldedSetIterable iter X.env x = pure x := by intro _; rfl) :
    SW X pr (.Assign [.Name y py] (.ListComp elt [⟨tg, iter, ifs, 0⟩] scope pos) spos) ρ D := by
  refine SW.by (ps_setLc (i := i) hc hN hy hyl hsw (pi_any tg iter) ok (fun s H C cl fp => blk_pg s H C cl fp) (fun s H C cl fp => blk_pt s H C cl fp) (fun s H C cl fp => blk_pe s H C cl fp) hs) fun DD σ H ⟨Hb, ok, k, _⟩ => ?_
  have dis : ∀ j ∈ pr, j ∉ [i] := fun j hj z => hi (by simpa using (List.mem_singleton.mp z) ▸ hj)
  cases o1 with
  | true =>
    refine lc_read (P := fun o ρ' => D.nx (ρ'.set i (.ow o))) (IW.by h fun σ H R w => ?_) ⟨Hb, ok, fun p u o Hb2 H2 ρ' ok' g' l' n nb hu w z => k _ _ Hb2 H2 ((FinG.setN (ts := [i]) ok' g' l' ok n nb hu w List.mem_cons_self (l'.1 ▸ hil)).fin dis) z⟩
    exact w
  | false =>
    refine lc_read (P := fun o ρ' => D.nx (ρ'.set i (.pd o.data))) (IW.by h fun σ H R w => ?_) ⟨Hb, ok, fun p u o Hb2 H2 ρ' ok' g' l' n nb hu w z => ?_⟩
    · exact w
    · have no : ¬ Owned σ ρ' p := fun q => by
        obtain ⟨j, o', e1, e2⟩ := l'.owned q
        obtain ⟨p', u', s1, _, s3, _⟩ := ok.own e1
        rw [e2] at s1
        cases s1
        rw [n] at s3
        cases s3
      have okf := ok'.freeze hu no nb
      have gf : Grow (Owned σ ρ) Hb H (upd Hb2 p u) H2 := ⟨g'.per.trans (same_new nb), g'.keep, fun a na e k => by
        have z : a ≠ p := fun z => k (z ▸ n)
        rw [upd_ne z]
        exact g'.hid a na e k, g'.there⟩
      exact k _ _ _ H2 ((Fin.like okf gf l').trans ((FinG.set (ts := [i]) okf (w.da nb) List.mem_cons_self).fin dis)) z

/-! ### own lists -/
theorem owSet {K : PySem.W.Frag} {σ : L2.St} {H0 Hb0 Hb H : Hp} {ρ0 ρ1 : DEnv} {i : Nat} {o o' : OD} {p : Addr} {u : HO} (ok : Ok K σ Hb H ρ1) (g : Grow (Owned σ ρ0) Hb0 H0 Hb H) (l : Like ρ0 ρ1) (e : ρ1[i]? = some (.ow o)) (es : σ[i]? = some (some (.ref p))) (q : OwOk K Hb o' u) :
    Ok K σ Hb (upd H p u) (ρ1.set i (.ow o')) ∧ Grow (Owned σ ρ0) Hb0 H0 Hb (upd H p u) ∧ Like ρ0 (ρ1.set i (.ow o')) :=
  ⟨ok.write e es q, g.trans (O' := Owned σ ρ1) (Grow.write ⟨i, o, e, es⟩) fun q z => .inl (l.owned z), l.trans (Like.set e)⟩
/-- xs.append(e); hc: pe_bm of it -/
theorem sw_append {x : Str} {px apos cpos : Pos} {e : Expr} (i : Nat) {o : OD} (hc : PE X (.Call (.Attribute (.Name x px) "append" apos) [e] [] cpos) (tBM X.K "list" rAppend (tVar i) (tCons (tAny X e) tNil))) (e0 : ρ[i]? = some (.ow o))
    (h : EW X e ρ fun d ρ' => ∃ ds, ρ'[i]? = some (.ow (.lst ds)) ∧ ds.length < 16777216 ∧ D.nx (ρ'.set i (.ow (.lst (ds ++ [d])))))
    (h0 : ∃ ds, o = .lst ds := by exact ⟨_, rfl⟩) (hsw : swapsWith (.Call (.Attribute (.Name x px) "append" apos) [e] [] cpos) none pos.line X.env = pure false := by rfl) : SW X pr (.Expr (.Call (.Attribute (.Name x px) "append" apos) [e] [] cpos) pos) ρ D := by
  refine SW.by (ps_expr hc hsw) fun DD σ H ⟨Hb, ok, k, _⟩ => ?_
  obtain ⟨ds0, rfl⟩ := h0
  obtain ⟨p, u, e1, e2, e3, vs0, e4, e5⟩ := ok.own e0
  subst e4
  refine ⟨.ref p, e1, .inl ⟨rfl, _, .inl (.inl e3)⟩, h.go ok (Grow.refl _ _ _) (Like.refl _) fun w dw Hb2 H2 ρ2 ok2 g2 s2 l2 d2 ⟨ds, r1, r2, r3⟩ => ?_⟩
  obtain ⟨p', u', f1, f2, f3, vs, f4, f5⟩ := ok2.own r1
  rw [e1] at f1
  cases f1
  subst f4
  obtain ⟨a, b, c⟩ := owSet (o' := .lst (ds ++ [dw])) (u := .lst (vs ++ [w])) ok2 g2 l2 r1 e1 ⟨_, rfl, f5.append (.cons d2 .nil)⟩
  exact ⟨p, vs, w, rfl, rfl, f3, by rw [line_eq, f5.length]; exact r2, k σ _ Hb2 _ (Fin.like a b c) r3⟩
/-- xs[j] = e -/
theorem sw_setIx {x : Str} {px tpos : Pos} {j e : Expr} (i : Nat) {o : OD} (hp : PE X (.Name x px) (tVar i)) (e0 : ρ[i]? = some (.ow o))
    (h : EW X e ρ fun d ρ1 => EW X j ρ1 fun y ρ2 => ∃ ds n m, ρ2[i]? = some (.ow (.lst ds)) ∧ y = .int n ∧ ixN ds.length n = some m ∧ D.nx (ρ2.set i (.ow (.lst (ds.set m d)))))
    (ha : ∀ v, assign (.Subscript (.Name x px) j tpos) X.env v = (do
      let ov ← holding [v] (eval (.Name x px) X.env)
      let iv ← holding [v, ov] (eval j X.env)
      standAt tpos
      holding [v, ov, iv] (setItem ov iv v)
      release [v, ov, iv] []) := by intro _; rfl)
    (hs : swapsWithSole [.Subscript (.Name x px) j tpos] e pos.line X.env = pure false := by rfl) (hw : swappedStores [.Subscript (.Name x px) j tpos] e X.env = pure none := by rfl)
    (h1 : (assignEach [.Subscript (.Name x px) j tpos] X.env).map (·.2) = [assign (.Subscript (.Name x px) j tpos) X.env] := by rfl) : SW X pr (.Assign [.Subscript (.Name x px) j tpos] e pos) ρ D := by
  refine SW.by (ps_asg (pe_any e) (pg_sub hp (pe_any j) set_list ha) hs hw h1) fun DD σ H ⟨Hb, ok, k, _⟩ => ?_
  obtain ⟨p, u, e1, _⟩ := ok.own e0
  refine h.go ok (Grow.refl _ _ _) (Like.refl _) fun w dw Hb1 H1 ρ1 ok1 g1 s1 l1 d1 p1 => ?_
  refine ⟨.ref p, e1, p1.go ok1 g1 l1 fun y dy Hb2 H2 ρ2 ok2 g2 s2 l2 d2 ⟨ds, n, m, r1, r2, r3, r4⟩ => ?_⟩
  subst r2
  cases d2
  obtain ⟨p', u', f1, f2, f3, vs, f4, f5⟩ := ok2.own r1
  rw [e1] at f1
  cases f1
  subst f4
  obtain ⟨a, b, c⟩ := owSet (o' := .lst (ds.set m dw)) (u := .lst (vs.set m w)) ok2 g2 l2 r1 e1 ⟨_, rfl, f5.set (d1.mono (same_rd s2)) m⟩
  exact ⟨p, vs, n, m, rfl, rfl, f3, by rw [f5.length]; exact r3, k σ _ Hb2 _ (Fin.like a b c) r4⟩
/-- len of an own list -/
theorem ew_lenO {x l : Str} {px p2 : Pos} {Post : PyData → DEnv → Prop} (i : Nat) {ds : List PyData} (hp : PE X (.Name x px) (tVar i)) (e0 : ρ[i]? = some (.ow (.lst ds))) (hg : Gl X "len") (hm : X.mg "len" = none) (h : Post (.int ds.length) ρ)
    (he : starEach [.Name x px] X.env = (false, eval (.Name x px) X.env) :: starEach [] X.env := by rfl) (hpl : (backTo pos (starEach [] X.env)).any (·.1) = false := by rfl) : EW X (.Call (.Name "len" p2) [.Name x px] [] pos) ρ Post := by
  refine EW.by (pe_callB call_len hg hm PySem.boot_len (pa_cons hp pa_nil he) (by decide) (by decide) he hpl) fun σ H Q ⟨Hb, ok, k⟩ => ?_
  obtain ⟨p, u, e1, e2, e3, vs0, e4, e5⟩ := ok.own e0
  subst e4
  exact ⟨.ref p, e1, _, _, rfl, .inl ⟨_, .inl (.inl e3), rfl⟩, by rw [e5.length]; exact k _ _ Hb H ρ ok (Grow.refl _ _ _) (Like.refl _) (.int _) h⟩

/-! ### isinstance -/
def tyD : PyData → String
  | .none => "NoneType"
  | .bool _ => "bool"
  | .int _ => "int"
  | .str _ => "str"
  | .list _ => "list"
  | .tuple _ => "tuple"
  | .dict _ => "dict"
theorem tyX_da {K : PySem.W.Frag} {Hb H : Hp} {v : V} {d : PyData} (h : Da K Hb v d) (s : Sub Hb H) : TyX K H v (.type (tyD d)) := by
  cases h with
  | non => exact .base .non
  | bl b => exact .base (.bl b)
  | int i => exact .base (.int i)
  | str x => exact .base (.str x)
  | lst hs _ =>
    rcases hs.mono s.rd with (q | ⟨o, q⟩) | ⟨its, q, _⟩
    · exact .base (.lst q)
    · exact .base (.frz q)
    · exact .kList q rfl
  | tup hs _ =>
    rcases s.rd.t hs with (q | ⟨o, q⟩) | ⟨o, its, n, q1, q2, _⟩
    · exact .base (.tup q)
    · exact .fTuple q
    · exact .kTuple q1 q2
  | dic hs _ =>
    rcases s.rd _ _ hs with q | ⟨o, q⟩
    · exact .base (.dK q)
    · exact .fDict q
/-- which type is an instance of which -/
def isT (a T : String) : Bool := a == T || (a == "bool" && T == "int")
theorem ew_isi {e : Expr} {T : String} {tn : Str} {p q : Pos} {Post : PyData → DEnv → Prop} (hg : Gl X "isinstance") (hm : X.mg "isinstance" = none) (hgT : Gl X tn) (hmT : X.mg tn = none) (hv : bootBuiltins tn = some (.type T)) (hk : ["NoneType", "bool", "int", "str", "list", "tuple", "dict"].all (fun a => kitB a T == some (isT a T)) = true)
    (h : EW X e ρ fun d ρ' => Post (.bool (isT (tyD d) T)) ρ') (hn : tn ≠ "__name__" := by decide) (hdb : (tn == ("__debug__" : Str)) = false := by decide)
    (he : starEach [e, .Name tn q] X.env = (false, eval e X.env) :: starEach [.Name tn q] X.env := by rfl) (he2 : starEach [.Name tn q] X.env = (false, eval (.Name tn q) X.env) :: starEach [] X.env := by rfl) (hpl : (backTo pos (starEach [.Name tn q] X.env)).any (·.1) = false := by rfl) : EW X (.Call (.Name "isinstance" p) [e, .Name tn q] [] pos) ρ Post := by
  refine EW.by (pe_callB call_isi hg hm (by decide +kernel) (pa_cons (pe_any e) (pa_cons (pe_bltn (v := .ty T) hgT hmT hv rfl hn hdb) pa_nil he2) he) (by decide) (by decide) he hpl) fun σ H Q ⟨Hb, ok, k⟩ => ?_
  refine h.go ok (Grow.refl _ _ _) (Like.refl _) fun v d Hb1 H1 ρ1 ok1 g1 _ l1 d1 p1 => ?_
  refine ⟨v, .ty T, .type (tyD d), .type T, isT (tyD d) T, rfl, .ty T, tyX_da d1 ok1.sub, kit_ty ?_, (fin0 k ok1 g1 l1).val ok1.sub (.bl _) p1⟩
  have a := List.all_eq_true.mp hk (tyD d) (by cases d <;> simp [tyD])
  simpa using a

/-! ### f-strings: texts and ints -/
def FmtW (d : PyData) (P : PyData → Prop) : Prop := match d with
  | .str y => y.length ≤ 16777216 ∧ P (.str y)
  | .int i => i.natAbs.log2 < 1920 ∧ P (.str (toString i))
  | _ => False
theorem ew_fmt {e : Expr} {Post : PyData → DEnv → Prop} (h : EW X e ρ fun d ρ' => FmtW d fun r => Post r ρ') : EW X (.FormattedValue e (-1) none pos) ρ Post := by
  refine EW.by (pe_fmt (pe_any e)) fun σ H Q ⟨Hb, ok, k⟩ => ?_
  refine h.go ok (Grow.refl _ _ _) (Like.refl _) fun v d Hb1 H1 ρ1 ok1 g1 _ l1 d1 p1 => ?_
  have r := fin0 k ok1 g1 l1
  cases d1 with
  | str y => exact .inl ⟨y, rfl, by rw [line_eq]; exact p1.1, r.val ok1.sub (.str _) p1.2⟩
  | int i => exact .inr ⟨i, rfl, p1.1, r.val ok1.sub (.str _) p1.2⟩
  | _ => exact (show False from p1).elim
/-- the parts one behind the other -/
def JW (X : Cx) : List Expr → Str → DEnv → (Str → DEnv → Prop) → Prop
  | [], acc, ρ, P => P acc ρ
  | e :: es, acc, ρ, P => EW X e ρ fun d ρ' => ∃ y : Str, d = .str y ∧ (acc ++ y).length ≤ 16777216 ∧ JW X es (acc ++ y) ρ' P
theorem pj_any : ∀ es : List Expr, PJ X es (es.map (tAny X))
  | [] => .nil
  | e :: es => .cons (pe_any e) (pj_any es)
theorem jw_go : ∀ (es : List Expr) (acc : Str) {P : Str → DEnv → Prop} {σ : L2.St} {H : Hp} {Q : Str → Hp → Prop} {ρ0 ρ : DEnv} {Hb0 H0 Hb : Hp}, JW X es acc ρ P → Ok X.K σ Hb H ρ → Grow (Owned σ ρ0) Hb0 H0 Hb H → Like ρ0 ρ →
    (∀ z Hb2 H2 ρ', Ok X.K σ Hb2 H2 ρ' → Grow (Owned σ ρ0) Hb0 H0 Hb2 H2 → Like ρ0 ρ' → P z ρ' → Q z H2) → tJs (es.map (tAny X)) acc σ H Q
  | [], acc, P, σ, H, Q, ρ0, ρ, Hb0, H0, Hb, h, ok, g, l, k => k acc Hb H ρ ok g l h
  | e :: es, acc, P, σ, H, Q, ρ0, ρ, Hb0, H0, Hb, h, ok, g, l, k => by
    have h : EW X e ρ fun d ρ' => ∃ y : Str, d = .str y ∧ (acc ++ y).length ≤ 16777216 ∧ JW X es (acc ++ y) ρ' P := h
    refine h.go ok g l fun v d Hb1 H1 ρ1 ok1 g1 _ l1 d1 ⟨y, ey, hz, p1⟩ => ?_
    subst ey
    cases d1
    exact ⟨y, rfl, by rw [line_eq]; exact hz, jw_go es (acc ++ y) p1 ok1 g1 l1 k⟩
theorem ew_joined {v1 v2 : Expr} {rest : List Expr} {Post : PyData → DEnv → Prop} (h : JW X (v1 :: v2 :: rest) Str.empty ρ fun z ρ' => Post (.str z) ρ') : EW X (.JoinedStr (v1 :: v2 :: rest) pos) ρ Post :=
  EW.by (pe_joined (pj_any _)) fun σ H Q ⟨Hb, ok, k⟩ => jw_go _ _ h ok (Grow.refl _ _ _) (Like.refl _) fun z Hb2 H2 ρ' ok2 g2 l2 p => k _ _ Hb2 H2 ρ' ok2 g2 l2 (.str z) p
theorem ew_joined1 {e : Expr} {Post : PyData → DEnv → Prop} (h : EW X e ρ Post) : EW X (.JoinedStr [e] pos) ρ Post := EW.by (pe_joined1 h) fun _ _ _ q => q

/-! ### methods of texts -/
def MetD (X : Cx) (id : String) (g : PyData → GA) : Prop := ∃ r : V → List V → Hp → VK → Prop, MtR X id r ∧ ∀ Hb H x xs d ds (P : PyData → Prop) (Q : VK), Da X.K Hb x d → DaAll X.K Hb xs ds → Sub Hb H → g d ds P → Ret X.K Hb H P Q → r x xs H Q
theorem ew_m1 {id : String} {name : Str} {o e : Expr} {apos : Pos} {g : PyData → GA} {Post : PyData → DEnv → Prop} (slot : Slot "str" name id) (ty : typeOf (.builtin id) = pure (.type "method_descriptor")) (hm : MetD X id g) (h : EW X o ρ fun d ρ1 => (∃ s, d = .str s) ∧ EW X e ρ1 fun y ρ2 => g d [y] fun r => Post r ρ2)
    (hs : starEach [e] X.env = [(false, eval e X.env)] := by rfl) (hbase : attributeBase o name X.env (eval o X.env) = eval o X.env := by rfl) (hline : (apos.endLine == pos.line) = true := by rfl) : EW X (.Call (.Attribute o name apos) [e] [] pos) ρ Post := by
  obtain ⟨r, rule, q⟩ := hm
  refine EW.by (pe_m1 slot ty rule (pe_any o) (pe_any e) hs hbase hline) fun σ H Q ⟨Hb, ok, k⟩ => ?_
  refine h.go ok (Grow.refl _ _ _) (Like.refl _) fun v d Hb1 H1 ρ1 ok1 g1 _ l1 d1 ⟨⟨s, e1⟩, p1⟩ => ?_
  subst e1
  cases d1
  refine ⟨⟨s, rfl⟩, p1.go ok1 g1 l1 fun w dw Hb2 H2 ρ2 ok2 g2 s2 l2 d2 p2 => ?_⟩
  exact q Hb2 H2 _ _ _ _ _ Q (.str s) (.cons d2 .nil) ok2.sub p2 (fin0 k ok2 g2 l2)
theorem da_strs {K : PySem.W.Frag} {Hb : Hp} : ∀ {ys : List Str} {vs : List V}, DaAll K Hb vs (ys.map .str) → vs = ys.map V.str
  | [], _, h => by
    cases h
    rfl
  | b :: bs, _, h => by
    cases h with
    | cons h1 t =>
      cases h1
      rw [da_strs t]
      rfl
theorem da_ofStrs {K : PySem.W.Frag} {Hb : Hp} : ∀ (ys : List Str), DaAll K Hb (ys.map V.str) (ys.map .str)
  | [] => .nil
  | _ :: ys => .cons (.str _) (da_ofStrs ys)
def JoinW : PyData → GA
  | .str a, [.list xs], P => ∃ ys : List Str, xs = ys.map .str ∧ (ys.map (·.length)).sum + ys.length * a.length ≤ 16777216 ∧ P (.str (Txt.join a ys))
  | .str a, [.tuple xs], P => ∃ ys : List Str, xs = ys.map .str ∧ (ys.map (·.length)).sum + ys.length * a.length ≤ 16777216 ∧ P (.str (Txt.join a ys))
  | _, _, _ => False
theorem md_join : MetD X "str.join" JoinW := by
  refine ⟨_, mt_join, fun Hb H x xs d ds P Q a b s g k => ?_⟩
  cases a with
  | str z =>
    cases b with
    | nil => exact (show False from g).elim
    | cons h1 t =>
      cases t with
      | cons h2 t => cases h1 <;> exact (show False from g).elim
      | nil =>
        cases h1 with
        | lst hs ha =>
          obtain ⟨ys, e, hz, p⟩ := g
          subst e
          have e2 := da_strs ha
          subst e2
          exact ⟨z, _, ys, rfl, rfl, .inl ((hs.mono s.rd).sq), hz, k.val s (.str _) p⟩
        | tup hs ha =>
          obtain ⟨ys, e, hz, p⟩ := g
          subst e
          have e2 := da_strs ha
          subst e2
          exact ⟨z, _, ys, rfl, rfl, .inr (s.rd.t hs), hz, k.val s (.str _) p⟩
        | _ => exact (show False from g).elim
  | _ => cases b <;> exact (show False from g).elim
def SplitW : PyData → GA
  | .str a, [.str b], P => (b.length == 0) = false ∧ a.length + 2 ≤ 16777216 ∧ P (.list ((Txt.split a b).map .str))
  | _, _, _ => False
theorem md_split : MetD X "str.split" SplitW := by
  refine ⟨_, mt_split, fun Hb H x xs d ds P Q a b s g k => ?_⟩
  cases a with
  | str z =>
    cases b with
    | nil => exact (show False from g).elim
    | cons h1 t =>
      cases t with
      | cons h2 t => cases h1 <;> exact (show False from g).elim
      | nil =>
        cases h1 with
        | str y => exact ⟨z, y, rfl, rfl, g.1, by rw [line_eq]; exact g.2.1, fun p hp => k.lst s hp (da_ofStrs _) g.2.2⟩
        | _ => exact (show False from g).elim
  | _ => cases b <;> exact (show False from g).elim
end

/-! ### a def's promise -/
/-- all arguments data: W ds post tells that the call with ds comes to data of which post holds -/
def SpP (K : PySem.W.Frag) (W : GA) : Sp := fun vs H Q _ => ∃ Hb ds P, Sub Hb H ∧ DaAll K Hb vs ds ∧ W ds P ∧ Ret K Hb H P Q
/-- the first argument a list that the def may change, bs what it holds -/
abbrev GAB := List PyData → List PyData → (PyData → List PyData → Prop) → Prop
def SpB (K : PySem.W.Frag) (W : GAB) : Sp := fun vs H Q _ => ∃ Hb p us ws bs ds P, vs = .ref p :: ws ∧ Sub Hb H ∧ Hb p = none ∧ H p = some (.lst us) ∧ DaAll K Hb us bs ∧ DaAll K Hb ws ds ∧ W bs ds P ∧
  ∀ v d us' bs' Hb2 H2, Sub Hb2 H2 → Grow (fun a => a = p) Hb H Hb2 H2 → Hb2 p = none → H2 p = some (.lst us') → DaAll K Hb2 us' bs' → Da K Hb2 v d → P d bs' → Q v H2
/-- the slots at a def's entry -/
def uns (n : Nat) : DEnv := List.replicate n .un
theorem ok_start {K : PySem.W.Frag} {N : List Str} {vs : List V} {ds : List PyData} {Hb H : Hp} (s : Sub Hb H) (h : DaAll K Hb vs ds) (hl : vs.length ≤ N.length) : Ok K (L2.start N vs) Hb H (ds.map .pd ++ uns (N.length - ds.length)) := by
  have el := h.length
  have no : ∀ (i : Nat) (o : OD), (ds.map Sl.pd ++ uns (N.length - ds.length))[i]? ≠ some (.ow o) := fun i o e => by
    have m := List.mem_of_getElem? e
    rcases List.mem_append.mp m with m | m
    · obtain ⟨d, _, q⟩ := List.mem_map.mp m
      cases q
    · cases (List.mem_replicate.mp m).2
  refine ⟨by simp [L2.start, uns]; omega, s, fun i x e => ?_, fun i j o o' p ei => absurd ei (no i o)⟩
  cases x with
  | un => trivial
  | ow o => exact absurd e (no i o)
  | pd d =>
    have hi : i < ds.length := by
      by_cases hi : i < ds.length
      · exact hi
      · rw [List.getElem?_append_right (by simpa using hi)] at e
        have m := List.mem_of_getElem? e
        cases (List.mem_replicate.mp m).2
    rw [List.getElem?_append_left (by simpa using hi), List.getElem?_map] at e
    cases q : ds[i]? with
    | none =>
      rw [q] at e
      cases e
    | some d' =>
      rw [q] at e
      cases e
      obtain ⟨v, e1, e2⟩ := h.getD q
      refine ⟨v, ?_, e2⟩
      unfold L2.start
      rw [List.getElem?_append_left (by simpa [el] using hi), List.getElem?_map, e1]
      rfl
section
variable {P : Program} {w : World} {K : PySem.W.Frag} {mg : Str → Option Value} {base : Heap}
abbrev DCx (P : Program) (w : World) (K : PySem.W.Frag) (mg : Str → Option Value) (base : Heap) (N : List Str) (qual : Str) (sc : Scope) (f : Addr) (cdv : Value) (A : Around) (outer : List Env) (s : Shared) (H : Hp) (E : XK) : Cx := (cxOf CX0 P w K mg base N qual sc f cdv A outer s H E).nox
/-- behind a call that was given the own list of slot i -/
theorem own_call {K : PySem.W.Frag} {σ : L2.St} {ρ1 : DEnv} {Hb1 H1 Hb2 H2 : Hp} {i : Nat} {o : OD} {q : Addr} {us' : List V} {bs' : List PyData} (ok1 : Ok K σ Hb1 H1 ρ1) (e2 : ρ1[i]? = some (.ow o)) (e1 : σ[i]? = some (some (.ref q))) (s2 : Sub Hb2 H2) (g2 : Grow (fun a => a = q) Hb1 H1 Hb2 H2) (n2 : Hb2 q = none) (h2 : H2 q = some (.lst us')) (da : DaAll K Hb2 us' bs') :
    Ok K σ Hb2 H2 (ρ1.set i (.ow (.lst bs'))) ∧ Owned σ ρ1 q := by
  have hl := (List.getElem?_eq_some_iff.mp e2).1
  have own1 : ∀ (j : Nat) (o' : OD), ρ1[j]? = some (.ow o') → σ[j]? = some (some (.ref q)) → j = i := fun j o' a b => ok1.ap j i o' _ q a e2 b e1
  refine ⟨⟨by rw [List.length_set]; exact ok1.len, s2, fun j s e => ?_, fun j m o1 o2 r ej em sj sm => ?_⟩, i, o, e2, e1⟩
  · by_cases n : i = j
    · subst n
      rw [List.getElem?_set_self hl] at e
      cases e
      exact ⟨q, _, e1, n2, h2, us', rfl, da⟩
    · rw [List.getElem?_set_ne n] at e
      have w := ok1.sl j s e
      cases s with
      | un => trivial
      | pd d =>
        obtain ⟨v, a, b⟩ := w
        exact ⟨v, a, b.mono (same_rd g2.per)⟩
      | ow o' =>
        obtain ⟨r, x, a, b, c, d⟩ := w
        have nr : r ≠ q := fun z => n (own1 j o' e (z ▸ a)).symm
        exact ⟨r, x, a, g2.hid r nr b (by rw [c]; simp), g2.keep r x c nr, d.mono (same_rd g2.per)⟩
  · have back : ∀ (m : Nat) (o3 : OD), (ρ1.set i (.ow (.lst bs')))[m]? = some (.ow o3) → ∃ o4, ρ1[m]? = some (.ow o4) := fun m o3 em => (Like.set (o' := .lst bs') e2).ow em
    obtain ⟨_, a⟩ := back j o1 ej
    obtain ⟨_, b⟩ := back m o2 em
    exact ok1.ap j m _ _ r a b sj sm
end
end DL

/-! The data layer: promises that may lean on it that no repr is under way (so repr of lists and tuples within is what it is). -/
namespace DL
open PySem PySem.Spec PyProof.Rows L2
section
variable (P : Program) (w : World) (K : PySem.W.Frag) (mg : Str → Option Value) (base : Heap)
/-- a def keeps sp wherever no repr is under way -/
structure FnG (k : Nat) (f : Addr) (fd : FuncData) (ps : List Str) (sp : Sp) : Prop where
  long : ∀ vs H Q E, sp vs H Q E → vs.length = ps.length
  runs : ∀ A outer s H args us vs Q E, Room k A → A.guards = some [] → Env0 P w K mg base A outer s H → BindsTo s fd args (ps.zip us) → Vals vs us →
    sp vs H Q E → codeAny (model P w) A (.call (.ref f) args) (CR CX0 outer P w H s Q E) s
end
section
variable {P : Program} {w : World} {K : PySem.W.Frag} {mg : Str → Option Value} {base : Heap} {j k : Nat} {f : Addr} {fd : FuncData} {ps : List Str} {sp : Sp}
theorem FnG.mono (F : FnG P w K mg base j f fd ps sp) (h : j ≤ k) : FnG P w K mg base k f fd ps sp :=
  ⟨F.long, fun A o s H a us vs Q E r => F.runs A o s H a us vs Q E (r.mono h)⟩
theorem guards_deeper {A : Around} {env : Env} (h : A.guards = some []) : (A.deeper env).guards = some [] := h
/-- a def by its body, as L2.fn_of; what a repr under way would change is known away -/
theorem fnG_of {x qual : Str} {st : Stmt} {N : List Str} (F : Fun K x qual st f fd) (S : FnScope N ps (defScope st)) (long : ∀ vs H Q E, sp vs H Q E → vs.length = ps.length)
    (hb : ∀ (cdv : Value) (A : Around) (outer : List Env) (s : Shared) (H : Hp) (vs : List V) (Q : VK) (E : XK), Room k (A.deeper (envOfC qual (defScope st) s.heap.objs.size f cdv)) → (A.deeper (envOfC qual (defScope st) s.heap.objs.size f cdv)).guards = some [] → sp vs H Q E →
      ∃ t, PSs (DCx P w K mg base N qual (defScope st) f cdv A outer s H E) (defBody st) t ∧ t { nx := fun _ H' => Q .non H', rt := Q } (L2.start N vs) H) : FnG P w K mg base (k + 1) f fd ps sp where
  long := long
  runs A outer s H args us vs Q E hr hg e0 bt rv q := by
    obtain ⟨oc, od, kV, doc, pm, an, cdv, ct, osl, efd, lk, hcd⟩ := F.ex
    rw [efd] at lk bt
    have kp : ∀ b o, base.get? b = some o → s.heap.get? b = some o := fun b o e => (e0.bs b o e).1
    have cells : ∀ y ∈ ps.zip us, (defScope st).names.lookup y.1 = some .local ∨ ((defScope st).names.lookup y.1 = some .cell ∧ ((cellsFrom (s.heap.objs.size + 1) (defScope st).names []).lookup y.1).isSome = true) := fun y hy =>
      (S.par y.1 (List.of_mem_zip (show (y.1, y.2) ∈ ps.zip us from hy)).1).imp (fun z => z) fun z => ⟨z, PySem.W.cellsFrom_some _ _ _ (.inl z)⟩
    have KX := e0.mod.kin.keeps kp
    refine codeAny_call_function hr.depth (KX f _ lk) rfl S.co S.gen rfl (PySem.W.codeRec_of KX hcd) (bt _ _ _ _ (wpAny_newFunctionEnv_cells S.kind cells fun env he s1 x => ?_))
    subst he
    refine ⟨(e0.mod.nolimit.keeps kp).keeps x.toInCall.keep, codeAny_func ?_⟩
    obtain ⟨t, ht, hq⟩ := hb cdv A outer s H vs Q E (hr.deeper _) (guards_deeper hg) q
    have I := inv_start (CX := CX0) (f := f) (cd := cdv) (E := E) (qual := qual) S hr.hd e0 (long vs H Q E q) rv x
    have out : ∀ {σ' : L2.St} {H' : Hp} {v : V} {u : Value} {s' : Shared}, Inv (cxOf CX0 P w K mg base N qual (defScope st) f cdv A outer s H E) [] σ' H' s' → RelV v u → Q v H' → CE outer P w H s Q u s' :=
      fun J ru z => ⟨_, _, J.os, J.bare, J.base, J.hok, ru, z⟩
    refine wpAny_mono (ht.nox.run [] s1 (L2.start N vs) H _ I hq) (fun fl s' hs => ?_) fun _ _ z => z
    cases fl with
    | next => obtain ⟨_, _, J, z⟩ := hs; exact out (v := .non) (u := .none) J rfl z
    | ret u => obtain ⟨_, _, _, J, ru, z⟩ := hs; exact out J ru z
    | brk => obtain ⟨_, _, _, z⟩ := hs; exact (show False from z).elim
    | cont => obtain ⟨_, _, _, z⟩ := hs; exact (show False from z).elim
end
section
variable {X : Cx} {k : Nat} {f : Addr} {fd : FuncData} {ps : List Str} {sp : Sp} {x : Str} {p pos : Pos} {e : Expr} {es : List Expr} {ta : TA}
/-- a call of such a def -/
theorem pe_callG (F : FnG X.prog X.w X.K X.mg X.base k f fd ps sp) (hr : Room k X.A) (hgd : X.A.guards = some []) (hg : Gl X x) (hm : X.mg x = some (.ref f)) (hk : PySem.W.keepIn X.K (.ref f) = true) (hb : Binds X.K fd ps [])
    (ha : PA X (e :: es) ta) (hdb : (x == ("__debug__" : Str)) = false) (he : starEach (e :: es) X.env = (false, eval e X.env) :: starEach es X.env) (hpl : (backTo pos (starEach es X.env)).any (·.1) = false) : PE X (.Call (.Name x p) (e :: es) [] pos) (tCall sp [] E0 ta) := by
  constructor
  intro pins s σ H Q I h
  refine wpAny_Call_Name_kw (ld_glob I hg hm (PySem.W.callWith_K (h₀ := X.base) I.ok.mod.kin hk (thn (ha.run pos pins s σ H _ I h) fun us s1 z => ?_) he hpl) hdb)
  obtain ⟨vs, H1, I1, r, q⟩ := z
  rw [List.append_nil] at q
  have el : us.length = ps.length := by rw [← r.length, F.long _ _ _ _ q]
  have bt := hb s1 us I1.kIn (by rw [List.append_nil]; exact el)
  rw [List.append_nil] at bt
  refine ⟨I1.kIn, wpAny_call (codeAny_mono (F.runs X.A X.stack s1 H1 ⟨us, []⟩ us vs Q E0 hr hgd I1.env0 bt r q) fun rs s' c => ?_)⟩
  match rs, c with
  | .ok (.ret u), c => exact I1.after c
  | .ok .next, c => exact (show False from c).elim
  | .ok .brk, c => exact (show False from c).elim
  | .ok .cont, c => exact (show False from c).elim
  | .error e, c => exact (show False from c).elim
end
/-! ### the law's own call -/
section
variable {P : Program} {w : World} {K : PySem.W.Frag} {mg mb : Str → Option Value} {k : Nat} {fa a : Addr} {fd : FuncData} {x : Str} {sp : Sp} {s1 : Shared} {vs : List Value} {ns : List Int}
/-- the law's call over an abstract heap in which the script alone may stand, locked -/
theorem lawG_core {H : Hp} (KX : K.In s1.heap) (hns : s1.heap.Ns mainGlobals mg) (hbn : s1.heap.Ns builtinsNs mb) (hbb : ∀ y : Str, y ≠ "__name__" → mb y = bootBuiltins y) (hlim : s1.heap.NoLimit) (hgn : s1.gens = #[]) (hr : Room k callerA)
    (F : ∀ base : Heap, K.In base → base.Ns mainGlobals mg → FnG P w K mg base k fa fd [x] sp) (hbind : ∀ (s : Shared) (u : Value), BindsTo s fd ⟨[u], []⟩ [(x, u)])
    (hq : sp [.ref a] H (fun v _ => v = .bl true) fun _ _ _ => False) (hO : Only H) (hok : HOk P w H s1.heap) (free : ∀ b o, s1.heap.get? b = some o → ((∃ es ep, o.data = .dict es ep) ∨ K.lookup b = some o) → H b = none) :
    codeAny (model P w) callerA (.call (.ref fa) ⟨[.ref a], []⟩) (fun r s' => r = .ok (.ret (.bool true)) ∧ OldK s1.heap s'.heap ∧ s'.os = s1.os ∧ AllBare s'.gens) s1 := by
  have ns2 : ∀ {b : Addr} {m : Str → Option Value}, s1.heap.Ns b m → (hidT s1.heap H).Ns b m := fun z => by
    obtain ⟨o, es, ep, e, d, r⟩ := z
    exact ⟨o, es, ep, hidT_get e (free _ o e (.inl ⟨es, ep, d⟩)), d, r⟩
  have K2 : K.In (hidT s1.heap H) := fun b o e => hidT_get (KX b o e) (free b o (KX b o e) (.inr e))
  have M2 : Mod K mg (hidT s1.heap H) := by
    obtain ⟨mc, h1, h2⟩ := hlim
    exact ⟨K2, ns2 hns, ⟨mb, ns2 hbn, hbb⟩, mc, ns2 h1, h2⟩
  have e0 : Env0 P w K mg (hidT s1.heap H) callerA [] s1 H := by
    refine ⟨rfl, M2, fun b o e => of_hidT e, Nat.le_of_eq (hidT_size _ _), trivial, fun b z => ?_, hok, .of_eq hgn⟩
    cases (show b ∈ ([] : List Addr) from z)
  refine codeAny_mono ((F _ K2 (ns2 hns)).runs callerA [] s1 H ⟨[.ref a], []⟩ [.ref a] [.ref a] _ _ hr rfl e0 (hbind s1 (.ref a)) (.cons rfl .nil) hq) fun r s' c => ?_
  match r, c with
  | .ok .next, c => exact (show False from c).elim
  | .ok .brk, c => exact (show False from c).elim
  | .ok .cont, c => exact (show False from c).elim
  | .error e, c => exact (show False from c).elim
  | .ok (.ret u), c =>
    obtain ⟨v, H2, os, bare, un, ok2, ru, ev⟩ := c
    have ev : v = .bl true := ev
    rw [ev] at ru
    have eu : u = .bool true := ru
    refine ⟨by rw [eu], OldK.of_keep fun b o e => ?_, os, bare⟩
    rcases hO b with z | ⟨ob, xs, z⟩
    · refine un.keep b o e z (fun m => ?_) (fun m => ?_)
      · cases (show b ∈ ([] : List Addr) from m)
      · cases m
    · have f1 := (hok b _ z).1
      rw [f1] at e
      cases e
      exact (ok2 b _ (un.frzs b _ _ z)).1
theorem lawG (KX : K.In s1.heap) (hns : s1.heap.Ns mainGlobals mg) (hbn : s1.heap.Ns builtinsNs mb) (hbb : ∀ y : Str, y ≠ "__name__" → mb y = bootBuiltins y) (hlim : s1.heap.NoLimit) (hgn : s1.gens = #[])
    (ha : s1.heap.get? a = some { cls := .type "list", data := .seq vs.toArray }) (hi : IntsAre vs ns) (hl : ns.length ≤ sizeLine) (hr : Room k callerA)
    (F : ∀ base : Heap, K.In base → base.Ns mainGlobals mg → FnG P w K mg base k fa fd [x] sp) (hbind : ∀ (s : Shared) (u : Value), BindsTo s fd ⟨[u], []⟩ [(x, u)])
    (hsp : ∀ H : Hp, Only H → RlK K H a (ns.map V.int) → sp [.ref a] H (fun v _ => v = .bl true) fun _ _ _ => False) :
    codeAny (model P w) callerA (.call (.ref fa) ⟨[.ref a], []⟩) (fun r s' => r = .ok (.ret (.bool true)) ∧ OldK s1.heap s'.heap ∧ s'.os = s1.os ∧ AllBare s'.gens) s1 := by
  have long : (ns.map V.int).length ≤ sizeLine := by
    rw [List.length_map]
    exact hl
  let ob : Obj := { cls := .type "list", data := .seq vs.toArray }
  cases hk : K.lookup a with
  | some o =>
    have eo := KX a o hk
    rw [ha] at eo
    cases eo
    let H : Hp := fun _ => none
    refine lawG_core (H := H) KX hns hbn hbb hlim hgn hr F hbind (hsp H (fun _ => .inl rfl) (.inr ⟨vs, hk, long, vals_ints hi⟩)) (fun _ => .inl rfl) (fun b u z => ?_) fun _ _ _ _ => rfl
    cases z
  | none =>
    let H : Hp := fun b => if b = a then some (.frz ob (.lst (ns.map V.int))) else none
    have at_a : H a = some (.frz ob (.lst (ns.map V.int))) := if_pos rfl
    have off : ∀ b, b ≠ a → H b = none := fun b n => if_neg n
    have only : Only H := fun b => by
      by_cases n : b = a
      · exact .inr ⟨ob, _, by rw [n]; exact at_a⟩
      · exact .inl (off b n)
    refine lawG_core (H := H) KX hns hbn hbb hlim hgn hr F hbind (hsp H only (.inl (.inr ⟨ob, at_a⟩))) only (fun b u z => ?_) fun b o e z => ?_
    · by_cases n : b = a
      · rw [n, at_a] at z
        cases z
        rw [n]
        exact ⟨ha, long, vs, 0, vals_ints hi, ha⟩
      · rw [off b n] at z
        cases z
    · refine off b fun n => ?_
      rw [n] at e z
      rw [ha] at e
      rcases z with ⟨es, ep, d⟩ | z
      · cases e
        cases d
      · rw [hk] at z
        cases z
end
/-- the goal that the head leaves -/
theorem walkG {l : PySem.W.OpenLaw} {n k : Nat} {q : Program} {loose : List Str} {XP : (Str → Option Value) → Heap → Prop} {YP : World → Heap → Prop} {d : DefRec} {K : Params → PySem.W.Frag} {sp : World → Sp} {x : Str}
    (hn : l.most = some n) (hn2 : n ≤ sizeLine) (hdf : d.params.defaults = []) (hr : Room k callerA) (hY : ∀ (w : World) (h : Heap), YP w h → (K w.params).In h)
    (F : ∀ (w : World) (mg : Str → Option Value) (fa : Addr) (h : Heap), (K w.params).In h → h.Ns mainGlobals mg → mg d.name = some (.ref fa) → ∃ fd : FuncData, (∀ (s : Shared) (u : Value), BindsTo s fd ⟨[u], []⟩ [(x, u)]) ∧
      ∀ base : Heap, (K w.params).In base → base.Ns mainGlobals mg → FnG l.prog w (K w.params) mg base k fa fd [x] (sp w))
    (hsp : ∀ (w : World) (H : Hp) (a : Addr) (ns : List Int), ns.length ≤ n → Only H → RlK (K w.params) H a (ns.map V.int) → sp w [.ref a] H (fun v _ => v = .bl true) fun _ _ _ => False) :
    PySem.W.WalkO q loose XP YP l.row.toRowW d [] (fun f vs => PySem.call f vs) := by
  refine Att.attach_call hn hdf fun w s₀ s₁ mg mb fa o pm cd doc a vs ns G Y ho hd hcd hmg hobj hints hlen hg => ?_
  have KX := hY w _ Y
  obtain ⟨fd, hb, hF⟩ := F w mg fa _ KX G.T.g hmg
  exact lawG KX G.T.g G.T.b G.T.builtins G.T.nolimit hg hobj hints (Nat.le_trans hlen hn2) hr hF hb fun H hO hS => hsp w H a ns hlen hO hS

/-! ### promises by data, over FnG -/
section
variable {P : Program} {w : World} {K : PySem.W.Frag} {mg : Str → Option Value} {base : Heap}
theorem list_ne_ow {ds : List PyData} {n : Nat} (i : Nat) (o : OD) : (ds.map Sl.pd ++ uns n)[i]? ≠ some (.ow o) := fun e => by
  rcases List.mem_append.mp (List.mem_of_getElem? e) with m | m
  · obtain ⟨d, _, q⟩ := List.mem_map.mp m
    cases q
  · cases (List.mem_replicate.mp m).2
/-- a def that changes nothing of its caller's -/
theorem fg_pure {x qual : Str} {st : Stmt} {f : Addr} {fd : FuncData} {N ps : List Str} {k : Nat} {W : GA} (F : Fun K x qual st f fd) (S : FnScope N ps (defScope st)) (len : ∀ ds post, W ds post → ds.length = ps.length)
    (hbody : ∀ (cdv : Value) (A : Around) (outer : List Env) (s : Shared) (H : Hp) (E : XK) (ds : List PyData) (post : PyData → Prop), Room k (A.deeper (envOfC qual (defScope st) s.heap.objs.size f cdv)) → (A.deeper (envOfC qual (defScope st) s.heap.objs.size f cdv)).guards = some [] → W ds post →
      SsW (DCx P w K mg base N qual (defScope st) f cdv A outer s H E) [] (defBody st) (ds.map .pd ++ uns (N.length - ds.length)) { nx := fun _ => post .none, rt := fun d _ => post d }) : FnG P w K mg base (k + 1) f fd ps (SpP K W) := by
  refine fnG_of F S (fun vs H Q E z => ?_) fun cdv A outer s H vs Q E hr hg z => ?_
  · obtain ⟨Hb, ds, R, _, h, q, _⟩ := z
    exact h.length.trans (len ds _ q)
  · obtain ⟨Hb, ds, R, sb, h, q, r⟩ := z
    refine ⟨_, hbody cdv A outer s H E ds R hr hg q, ?_⟩
    have hpl : ps.length ≤ N.length := by
      have := congrArg List.length S.pre
      rw [List.length_take] at this
      omega
    have no : ∀ p, ¬ Owned (L2.start N vs) (ds.map Sl.pd ++ uns (N.length - ds.length)) p := fun p ⟨i, o, e, _⟩ => list_ne_ow i o e
    refine ⟨Hb, ok_start sb h (by rw [h.length, len ds _ q]; exact hpl), fun σ' ρ' Hb2 H2 f z => ?_, fun v r' σ' ρ' Hb2 H2 f dv z => ?_, fun _ _ _ _ _ z => z, fun _ _ _ _ _ z => z⟩
    · exact r .non .none Hb2 H2 f.ok.sub (f.gr.wide no) .non z
    · cases r' with
      | d d => exact r v d Hb2 H2 f.ok.sub (f.gr.wide no) dv z
      | o o => exact (show False from z).elim
/-- a def that returns a new own object -/
abbrev GN := List PyData → (OD → Prop) → Prop
def SpN (K : PySem.W.Frag) (W : GN) : Sp := fun vs H Q _ => ∃ Hb ds P, Sub Hb H ∧ DaAll K Hb vs ds ∧ W ds P ∧
  ∀ p u o Hb2 H2, Sub Hb2 H2 → Grow N0 Hb H Hb2 H2 → H p = none → Hb2 p = none → H2 p = some u → OwOk K Hb2 o u → P o → Q (.ref p) H2
theorem fg_new {x qual : Str} {st : Stmt} {f : Addr} {fd : FuncData} {N ps : List Str} {k : Nat} {W : GN} (F : Fun K x qual st f fd) (S : FnScope N ps (defScope st)) (len : ∀ ds post, W ds post → ds.length = ps.length)
    (hbody : ∀ (cdv : Value) (A : Around) (outer : List Env) (s : Shared) (H : Hp) (E : XK) (ds : List PyData) (post : OD → Prop), Room k (A.deeper (envOfC qual (defScope st) s.heap.objs.size f cdv)) → (A.deeper (envOfC qual (defScope st) s.heap.objs.size f cdv)).guards = some [] → W ds post →
      SsW (DCx P w K mg base N qual (defScope st) f cdv A outer s H E) [] (defBody st) (ds.map .pd ++ uns (N.length - ds.length)) { nx := fun _ => False, rt := fun _ _ => False, ro := fun o _ => post o }) : FnG P w K mg base (k + 1) f fd ps (SpN K W) := by
  refine fnG_of F S (fun vs H Q E z => ?_) fun cdv A outer s H vs Q E hr hg z => ?_
  · obtain ⟨Hb, ds, R, _, h, q, _⟩ := z
    exact h.length.trans (len ds _ q)
  · obtain ⟨Hb, ds, R, sb, h, q, r⟩ := z
    refine ⟨_, hbody cdv A outer s H E ds R hr hg q, ?_⟩
    have hpl : ps.length ≤ N.length := by
      have := congrArg List.length S.pre
      rw [List.length_take] at this
      omega
    have no : ∀ p, ¬ Owned (L2.start N vs) (ds.map Sl.pd ++ uns (N.length - ds.length)) p := fun p ⟨i, o, e, _⟩ => list_ne_ow i o e
    refine ⟨Hb, ok_start sb h (by rw [h.length, len ds _ q]; exact hpl), fun _ _ _ _ _ z => (show False from z).elim, fun v r' σ' ρ' Hb2 H2 f dv z => ?_, fun _ _ _ _ _ z => z, fun _ _ _ _ _ z => z⟩
    cases r' with
    | d d => exact (show False from z).elim
    | o o =>
      obtain ⟨p, u, e, w, a, b, c⟩ := dv
      subst e
      exact r p u o Hb2 H2 f.ok.sub (f.gr.wide no) (w.elim (fun w => (f.ow p w).elim (fun w => absurd w (no p)) id) id) a b c z
/-- a def whose first parameter is a list that it may change -/
theorem fg_box {x qual n0 : Str} {st : Stmt} {f : Addr} {fd : FuncData} {N ps : List Str} {k : Nat} {W : GAB} (F : Fun K x qual st f fd) (S : FnScope (n0 :: N) ps (defScope st)) (len : ∀ bs ds post, W bs ds post → ds.length + 1 = ps.length)
    (hbody : ∀ (cdv : Value) (A : Around) (outer : List Env) (s : Shared) (H : Hp) (E : XK) (bs ds : List PyData) (post : PyData → List PyData → Prop), Room k (A.deeper (envOfC qual (defScope st) s.heap.objs.size f cdv)) → (A.deeper (envOfC qual (defScope st) s.heap.objs.size f cdv)).guards = some [] → W bs ds post →
      SsW (DCx P w K mg base (n0 :: N) qual (defScope st) f cdv A outer s H E) [0] (defBody st) (.ow (.lst bs) :: (ds.map .pd ++ uns (N.length - ds.length))) { nx := fun ρ' => ∃ bs', ρ'[0]? = some (.ow (.lst bs')) ∧ post .none bs', rt := fun d ρ' => ∃ bs', ρ'[0]? = some (.ow (.lst bs')) ∧ post d bs' }) : FnG P w K mg base (k + 1) f fd ps (SpB K W) := by
  refine fnG_of F S (fun vs H Q E z => ?_) fun cdv A outer s H vs Q E hr hg z => ?_
  · obtain ⟨Hb, p, us, ws, bs, ds, R, e, _, _, _, _, h, q, _⟩ := z
    rw [e, List.length_cons, h.length]
    exact len bs ds _ q
  · obtain ⟨Hb, p, us, ws, bs, ds, R, e, sb, np, hp, hu, h, q, r⟩ := z
    subst e
    refine ⟨_, hbody cdv A outer s H E bs ds R hr hg q, ?_⟩
    have hpl : ps.length ≤ N.length + 1 := by
      have := congrArg List.length S.pre
      rw [List.length_take, List.length_cons] at this
      omega
    have hlen := len bs ds _ q
    have hst : L2.start (n0 :: N) (.ref p :: ws) = some (.ref p) :: L2.start N ws := by
      unfold L2.start
      simp
    have ok0 := ok_start (N := N) sb h (by rw [h.length]; omega)
    rw [hst]
    have ok : Ok K (some (.ref p) :: L2.start N ws) Hb H (.ow (.lst bs) :: (ds.map .pd ++ uns (N.length - ds.length))) := by
      refine ⟨by simpa using ok0.len, sb, fun i x e => ?_, fun i j o o' r ei ej _ _ => ?_⟩
      · cases i with
        | zero =>
          have e : x = .ow (.lst bs) := (Option.some.inj e).symm
          subst e
          exact ⟨p, _, rfl, np, hp, us, rfl, hu⟩
        | succ i => exact ok0.sl i x e
      · match i, j, ei, ej with
        | 0, 0, _, _ => rfl
        | 0, j + 1, _, ej => exact absurd ej (list_ne_ow j o')
        | i + 1, _, ei, _ => exact absurd ei (list_ne_ow i o)
    have own : ∀ a, Owned (some (.ref p) :: L2.start N ws) (.ow (.lst bs) :: (ds.map .pd ++ uns (N.length - ds.length))) a → a = p := fun a ⟨i, o, e, s⟩ => by
      cases i with
      | zero =>
        have s : some (some (V.ref p)) = some (some (.ref a)) := s
        cases s
        rfl
      | succ i => exact absurd e (list_ne_ow i o)
    have fin : ∀ {σ' : L2.St} {ρ' : DEnv} {Hb2 H2 : Hp} {v : V} {d : PyData}, Fin K [0] (some (.ref p) :: L2.start N ws) (.ow (.lst bs) :: (ds.map .pd ++ uns (N.length - ds.length))) Hb H σ' ρ' Hb2 H2 → Da K Hb2 v d →
        (∃ bs', ρ'[0]? = some (.ow (.lst bs')) ∧ R d bs') → Q v H2 := fun {σ' ρ' Hb2 H2 v d} f dv ⟨bs', e, z⟩ => by
      obtain ⟨p', u, e1, e2, e3, us', e4, e5⟩ := f.ok.own e
      rw [f.st 0 List.mem_cons_self] at e1
      have e1 : some (some (V.ref p)) = some (some (.ref p')) := e1
      cases e1
      subst e4
      exact r v d us' bs' Hb2 H2 f.ok.sub (f.gr.wide own) e2 e3 e5 dv z
    exact ⟨Hb, ok, fun σ' ρ' Hb2 H2 f r => fin f .non r, fun v r' σ' ρ' Hb2 H2 f dv r => (match r', dv, r with | .d d, dv, r => fin f dv r | .o _, _, r => (show False from r).elim), fun _ _ _ _ _ z => z, fun _ _ _ _ _ z => z⟩
end
section
variable {X : Cx} {ρ : DEnv} {k : Nat} {f : Addr} {fd : FuncData} {ps : List Str} {x : Str} {p pos : Pos} {e : Expr} {es : List Expr} {Post : PyData → DEnv → Prop}
theorem ew_callG {W : GA} (F : FnG X.prog X.w X.K X.mg X.base k f fd ps (SpP X.K W)) (hr : Room k X.A) (hgd : X.A.guards = some []) (hg : Gl X x) (hm : X.mg x = some (.ref f)) (hk : PySem.W.keepIn X.K (.ref f) = true) (hb : Binds X.K fd ps [])
    (h : AW X (e :: es) ρ fun ds ρ' => W ds fun d => Post d ρ') (hdb : (x == ("__debug__" : Str)) = false) (he : starEach (e :: es) X.env = (false, eval e X.env) :: starEach es X.env) (hpl : (backTo pos (starEach es X.env)).any (·.1) = false) : EW X (.Call (.Name x p) (e :: es) [] pos) ρ Post := by
  refine EW.by (pe_callG F hr hgd hg hm hk hb (pa_any (e :: es)) hdb he hpl) fun σ H Q ⟨Hb, ok, k⟩ => ?_
  refine h.go ok (Grow.refl _ _ _) (Like.refl _) fun vs ds Hb1 H1 ρ1 ok1 g1 _ l1 d1 p1 => ?_
  rw [List.append_nil]
  exact ⟨Hb1, ds, _, ok1.sub, d1, p1, fin0 k ok1 g1 l1⟩
theorem en_callG {W : GN} {PostN : OD → DEnv → Prop} (F : FnG X.prog X.w X.K X.mg X.base k f fd ps (SpN X.K W)) (hr : Room k X.A) (hgd : X.A.guards = some []) (hg : Gl X x) (hm : X.mg x = some (.ref f)) (hk : PySem.W.keepIn X.K (.ref f) = true) (hb : Binds X.K fd ps [])
    (h : AW X (e :: es) ρ fun ds ρ' => W ds fun d => PostN d ρ') (hdb : (x == ("__debug__" : Str)) = false) (he : starEach (e :: es) X.env = (false, eval e X.env) :: starEach es X.env) (hpl : (backTo pos (starEach es X.env)).any (·.1) = false) : EN X (.Call (.Name x p) (e :: es) [] pos) ρ PostN := by
  refine EN.by (pe_callG F hr hgd hg hm hk hb (pa_any (e :: es)) hdb he hpl) fun σ H Q ⟨Hb, ok, k⟩ => ?_
  refine h.go ok (Grow.refl _ _ _) (Like.refl _) fun vs ds Hb1 H1 ρ1 ok1 g1 _ l1 d1 p1 => ?_
  rw [List.append_nil]
  refine ⟨Hb1, ds, _, ok1.sub, d1, p1, fun p u o Hb2 H2 s2 g2 n nb hp w z => k p u o Hb2 H2 ρ1 (ok1.grow g2 s2) (g1.trans0 g2) l1 ?_ nb hp w z⟩
  cases e : H p with
  | none => rfl
  | some o => exact absurd n (g1.there p (by rw [e]; simp))
theorem ew_callOG {W : GAB} {xn : Str} {px : Pos} (i : Nat) {o : OD} (F : FnG X.prog X.w X.K X.mg X.base k f fd ps (SpB X.K W)) (hr : Room k X.A) (hgd : X.A.guards = some []) (hg : Gl X x) (hm : X.mg x = some (.ref f)) (hk : PySem.W.keepIn X.K (.ref f) = true) (hb : Binds X.K fd ps []) (hp : PE X (.Name xn px) (tVar i)) (e0 : ρ[i]? = some (.ow o))
    (h : AW X es ρ fun ds ρ' => ∃ bs, ρ'[i]? = some (.ow (.lst bs)) ∧ W bs ds fun d bs' => Post d (ρ'.set i (.ow (.lst bs')))) (hdb : (x == ("__debug__" : Str)) = false) (he : starEach (.Name xn px :: es) X.env = (false, eval (.Name xn px) X.env) :: starEach es X.env) (hpl : (backTo pos (starEach es X.env)).any (·.1) = false) : EW X (.Call (.Name x p) (.Name xn px :: es) [] pos) ρ Post := by
  refine EW.by (pe_callG F hr hgd hg hm hk hb (pa_cons hp (pa_any es) he) hdb he hpl) fun σ H Q ⟨Hb, ok, k⟩ => ?_
  obtain ⟨q, u, e1, _⟩ := ok.own e0
  refine ⟨.ref q, e1, h.go ok (Grow.refl _ _ _) (Like.refl _) fun vs ds Hb1 H1 ρ1 ok1 g1 _ l1 d1 ⟨bs, e2, p1⟩ => ?_⟩
  obtain ⟨q', u', f1, f2, f3, us, f4, f5⟩ := ok1.own e2
  rw [e1] at f1
  cases f1
  subst f4
  rw [List.append_nil]
  refine ⟨Hb1, q, us, vs, bs, ds, _, rfl, ok1.sub, f2, f3, f5, d1, p1, fun v d us' bs' Hb2 H2 s2 g2 n2 h2 da dv z => ?_⟩
  obtain ⟨ok2, own1⟩ := own_call ok1 e2 e1 s2 g2 n2 h2 da
  exact k v d Hb2 H2 _ ok2 (g1.trans g2 fun a z => .inl (z ▸ l1.owned own1)) (l1.trans (Like.set e2)) dv z
end
end DL

/-! The data layer: what a def needs of its callees; the walk's rows. -/
namespace DL
open PySem PySem.Spec PyProof.Rows L2
section
variable (P : Program) (w : World) (K : PySem.W.Frag) (mg : Str → Option Value) (base : Heap)
/-- the def called x keeps W -/
structure CalP (k : Nat) (x : Str) (W : GA) : Prop where
  ex : ∃ f fd ps, FnG P w K mg base k f fd ps (SpP K W) ∧ mg x = some (.ref f) ∧ PySem.W.keepIn K (.ref f) = true ∧ Binds K fd ps []
structure CalB (k : Nat) (x : Str) (W : GAB) : Prop where
  ex : ∃ f fd ps, FnG P w K mg base k f fd ps (SpB K W) ∧ mg x = some (.ref f) ∧ PySem.W.keepIn K (.ref f) = true ∧ Binds K fd ps []
end
section
variable {P : Program} {w : World} {K : PySem.W.Frag} {mg : Str → Option Value} {base : Heap} {k j : Nat} {x : Str}
theorem CalP.mono {W : GA} (c : CalP P w K mg base j x W) (h : j ≤ k) : CalP P w K mg base k x W := by
  obtain ⟨f, fd, ps, F, r⟩ := c.ex
  exact ⟨f, fd, ps, F.mono h, r⟩
theorem CalB.mono {W : GAB} (c : CalB P w K mg base j x W) (h : j ≤ k) : CalB P w K mg base k x W := by
  obtain ⟨f, fd, ps, F, r⟩ := c.ex
  exact ⟨f, fd, ps, F.mono h, r⟩
end
section
variable {X : Cx} {ρ : DEnv} {k : Nat} {x : Str} {p pos : Pos} {e : Expr} {es : List Expr} {Post : PyData → DEnv → Prop}
theorem ew_cal {W : GA} (c : CalP X.prog X.w X.K X.mg X.base k x W) (hr : Room k X.A) (hgd : X.A.guards = some []) (hg : Gl X x) (h : AW X (e :: es) ρ fun ds ρ' => W ds fun d => Post d ρ') (hdb : (x == ("__debug__" : Str)) = false := by decide)
    (he : starEach (e :: es) X.env = (false, eval e X.env) :: starEach es X.env := by rfl) (hpl : (backTo pos (starEach es X.env)).any (·.1) = false := by rfl) : EW X (.Call (.Name x p) (e :: es) [] pos) ρ Post := by
  obtain ⟨f, fd, ps, F, hm, hk, hb⟩ := c.ex
  exact ew_callG F hr hgd hg hm hk hb h hdb he hpl
theorem ew_calO {W : GAB} {xn : Str} {px : Pos} (i : Nat) {o : OD} (c : CalB X.prog X.w X.K X.mg X.base k x W) (hr : Room k X.A) (hgd : X.A.guards = some []) (hg : Gl X x) (hp : PE X (.Name xn px) (tVar i)) (e0 : ρ[i]? = some (.ow o))
    (h : AW X es ρ fun ds ρ' => ∃ bs, ρ'[i]? = some (.ow (.lst bs)) ∧ W bs ds fun d bs' => Post d (ρ'.set i (.ow (.lst bs')))) (hdb : (x == ("__debug__" : Str)) = false := by decide) (he : starEach (.Name xn px :: es) X.env = (false, eval (.Name xn px) X.env) :: starEach es X.env := by rfl) (hpl : (backTo pos (starEach es X.env)).any (·.1) = false := by rfl) : EW X (.Call (.Name x p) (.Name xn px :: es) [] pos) ρ Post := by
  obtain ⟨f, fd, ps, F, hm, hk, hb⟩ := c.ex
  exact ew_callOG i F hr hgd hg hm hk hb hp e0 h hdb he hpl
theorem hu_room {A : Around} (r : Room k A) : A.units + 65 < cLine := by
  have := r.un
  omega
theorem isB_i {b : Bool} {P : Bool → Prop} (h : P b) : IsB (.bool b) P := ⟨b, rfl, h⟩
theorem isI_i {b : Int} {P : Int → Prop} (h : P b) : IsI (.int b) P := ⟨b, rfl, h⟩
theorem sp_t {b : Bool} {p q : Prop} (e : b = true) (h : p) : (b = true → p) ∧ (b = false → q) := ⟨fun _ => h, fun z => Bool.noConfusion (e.symm.trans z)⟩
theorem sp_f {b : Bool} {p q : Prop} (e : b = false) (h : q) : (b = true → p) ∧ (b = false → q) := ⟨fun z => Bool.noConfusion (z.symm.trans e), fun _ => h⟩
theorem split_b {b : Bool} {p q : Prop} (h1 : b = true → p) (h2 : b = false → q) : (b = true → p) ∧ (b = false → q) := ⟨h1, h2⟩
end
end DL
namespace DL
open PySem PySem.Spec PyProof.Rows L2
/-- slot i is to hold own objects -/
def Ow (_ : Nat) : Prop := True
section
variable {X : Cx} {ρ : DEnv}
def NegW : G1
  | .int i, P => P (.int (-i))
  | _, _ => False
theorem ud_neg : UnD X (unaryOp .USub) NegW := by
  refine ⟨_, un_neg, fun Hb H x dx P Q a s g k => ?_⟩
  cases a with
  | int i => exact ⟨i, rfl, k.val s (.int _) g⟩
  | _ => exact (show False from g).elim
theorem ew_glob {x : Str} {pos : Pos} {v : V} {u : Value} {d : PyData} {Post : PyData → DEnv → Prop} (hg : Gl X x) (hm : X.mg x = some u) (r : RelV v u) (hd : ∀ Hb, Da X.K Hb v d) (h : Post d ρ) (hdb : (x == ("__debug__" : Str)) = false := by decide) : EW X (.Name x pos) ρ Post := ew_const (pe_glob hg hm r hdb) hd h
end
end DL
namespace DL
open PySem PySem.Spec PyProof.Rows L2
section
variable {X : Cx} {ρ : DEnv} {pr : List Nat} {D D' : DE}
structure DE.le (D D' : DE) : Prop where
  nx : ∀ ρ, D.nx ρ → D'.nx ρ
  rt : ∀ d ρ, D.rt d ρ → D'.rt d ρ
  bk : ∀ ρ, D.bk ρ → D'.bk ρ
  ct : ∀ ρ, D.ct ρ → D'.ct ρ
  ro : ∀ o ρ, D.ro o ρ → D'.ro o ρ
theorem DE.le.rv (l : D.le D') : ∀ r ρ, D.rv r ρ → D'.rv r ρ
  | .d x, ρ, h => l.rt x ρ h
  | .o x, ρ, h => l.ro x ρ h
theorem SW.mono {st : Stmt} (h : SW X pr st ρ D) (l : D.le D') : SW X pr st ρ D' :=
  SW.by h fun DD σ H ⟨Hb, ok, k1, k2, k3, k4⟩ => ⟨Hb, ok, fun σ' ρ' Hb2 H2 f q => k1 σ' ρ' Hb2 H2 f (l.nx _ q), fun v d σ' ρ' Hb2 H2 f dv q => k2 v d σ' ρ' Hb2 H2 f dv (l.rv _ _ q), fun σ' ρ' Hb2 H2 f q => k3 σ' ρ' Hb2 H2 f (l.bk _ q), fun σ' ρ' Hb2 H2 f q => k4 σ' ρ' Hb2 H2 f (l.ct _ q)⟩
theorem SsW.mono {st : List Stmt} (h : SsW X pr st ρ D) (l : D.le D') : SsW X pr st ρ D' :=
  SsW.by h fun DD σ H ⟨Hb, ok, k1, k2, k3, k4⟩ => ⟨Hb, ok, fun σ' ρ' Hb2 H2 f q => k1 σ' ρ' Hb2 H2 f (l.nx _ q), fun v d σ' ρ' Hb2 H2 f dv q => k2 v d σ' ρ' Hb2 H2 f dv (l.rv _ _ q), fun σ' ρ' Hb2 H2 f q => k3 σ' ρ' Hb2 H2 f (l.bk _ q), fun σ' ρ' Hb2 H2 f q => k4 σ' ρ' Hb2 H2 f (l.ct _ q)⟩
/-- what follows a statement, shown once: Mid stands between -/
theorem ssw_cut {st : Stmt} {rest : List Stmt} (Mid : DEnv → Prop) (h : SW X pr st ρ { D with nx := Mid }) (k : ∀ ρ', Mid ρ' → SsW X pr rest ρ' D) : SsW X pr (st :: rest) ρ D :=
  ssw_cons (h.mono ⟨k, fun _ _ q => q, fun _ q => q, fun _ q => q, fun _ _ q => q⟩)
theorem if_join {b : Bool} {body els : List Stmt} {nx bk ct : DEnv → Prop} {rt : PyData → DEnv → Prop} {ro : OD → DEnv → Prop} (Mid : DEnv → Prop) (h1 : b = true → SsW X pr body ρ ⟨Mid, rt, bk, ct, ro⟩) (h2 : b = false → SsW X pr els ρ ⟨Mid, rt, bk, ct, ro⟩) (k : ∀ ρ', Mid ρ' → nx ρ') :
    (b = true → SsW X pr body ρ ⟨nx, rt, bk, ct, ro⟩) ∧ (b = false → SsW X pr els ρ ⟨nx, rt, bk, ct, ro⟩) :=
  ⟨fun e => (h1 e).mono ⟨k, fun _ _ q => q, fun _ q => q, fun _ q => q, fun _ _ q => q⟩, fun e => (h2 e).mono ⟨k, fun _ _ q => q, fun _ q => q, fun _ q => q, fun _ _ q => q⟩⟩
end
end DL

/-! The data layer: repr of nested lists and tuples. -/
namespace DL
open PySem PySem.Spec PyProof.Rows L2
theorem eqv_int (a b : Int) : PyData.eqv (.int a) (.int b) = decide (a = b) := by simp only [PyData.eqv]; rfl
theorem eqv_str (a b : Str) : PyData.eqv (.str a) (.str b) = decide (a = b) := by simp only [PyData.eqv]; rfl
section
variable {X : Cx}
def isDisp : PyData → Bool
  | .list _ | .tuple _ => true
  | _ => false
theorem disp_ref {h : Heap} {v : Value} {d : PyData} {as : List Addr} (r : Reads h v d as) (hd : isDisp d = true) : ∃ a, v = .ref a := by
  cases r with
  | list _ _ _ _ => exact ⟨_, rfl⟩
  | tuple _ _ _ _ => exact ⟨_, rfl⟩
  | _ => cases hd
theorem call_repr_dp (hu : X.A.units + 65 < cLine) (hg : X.A.guards = some []) : CallR X (.builtin "repr") (fun xs H Q => ∃ x d, xs = [x] ∧ Dp X.K H x d ∧ d.canLay0 = true ∧ d.showable = true ∧ isDisp d = true ∧ d.depth ≤ 63 ∧ d.shown.length ≤ sizeLine ∧ Q (.str d.shown) H) := by
  intro pins s σ H xs us Q I r h
  obtain ⟨x, d, rfl, hd, c, sh, di, dp, sz, q⟩ := h
  obtain ⟨u, rfl, rv⟩ := vals1 r
  obtain ⟨as, r1⟩ := Dp.reads I d x u hd rv
  obtain ⟨a, rfl⟩ := disp_ref r1 di
  exact repr_of_reads' r1 sh (PyData.noDict_hsm (PyData.hasDict_of_canLay d c)) hg (by omega) (fun _ _ e => e) (fun h' t tk hk => ⟨.str _, H, I.kept hk, ⟨_, rfl⟩, q⟩) sz
def ReprDW : GA
  | [d], P => (d.canLay0 = true ∧ d.showable = true ∧ isDisp d = true ∧ d.depth ≤ 63 ∧ d.shown.length ≤ 16777216) ∧ P (.str d.shown)
  | _, _ => False
theorem cd_reprD (hu : X.A.units + 65 < cLine) (hg : X.A.guards = some []) : CallD X (.builtin "repr") ReprDW := by
  refine ⟨_, call_repr_dp hu hg, fun Hb H xs ds P Q a s g k => ?_⟩
  cases a with
  | nil => exact (show False from g).elim
  | cons h1 t =>
    cases t with
    | cons h2 t => exact (show False from g).elim
    | nil =>
      obtain ⟨⟨c, sh, di, dp, sz⟩, p⟩ := g
      exact ⟨_, _, rfl, (h1.mono s.rd).dp _ _ c, c, sh, di, dp, by rw [line_eq]; exact sz, k.val s (.str _) p⟩
/-- what a display's repr needs -/
def RpOk (d : PyData) : Prop := d.canLay0 = true ∧ d.showable = true ∧ isDisp d = true ∧ d.depth ≤ 63 ∧ d.shown.length ≤ 16777216
def ReprAW : GA
  | [.int i], P => i.natAbs.log2 < 1920 ∧ P (.str (toString i))
  | [.str s], P => (reprText s).length ≤ 16777216 ∧ P (.str (reprText s))
  | [.list xs], P => RpOk (.list xs) ∧ P (.str (PyData.list xs).shown)
  | [.tuple xs], P => RpOk (.tuple xs) ∧ P (.str (PyData.tuple xs).shown)
  | _, _ => False
theorem cd_reprA (hu : X.A.units + 65 < cLine) (hg : X.A.guards = some []) : CallD X (.builtin "repr") ReprAW := by
  refine ⟨_, (SkE.call_repr_int.or call_repr_strZ).or (call_repr_dp hu hg), fun Hb H xs ds P Q a s g k => ?_⟩
  cases a with
  | nil => exact (show False from g).elim
  | @cons v vs d t h1 t' =>
    cases t' with
    | cons h2 t => cases h1 <;> exact (show False from g).elim
    | nil =>
      have go : ∀ dd : PyData, d = dd → RpOk dd ∧ P (.str dd.shown) → ∃ x e, [v] = [x] ∧ Dp X.K H x e ∧ e.canLay0 = true ∧ e.showable = true ∧ isDisp e = true ∧ e.depth ≤ 63 ∧ e.shown.length ≤ sizeLine ∧ Q (.str e.shown) H := fun dd e ⟨⟨c, sh, di, dp, sz⟩, p⟩ => by
        subst e
        exact ⟨_, _, rfl, (h1.mono s.rd).dp _ _ c, c, sh, di, dp, by rw [line_eq]; exact sz, k.val s (.str _) p⟩
      cases d with
      | int i =>
        cases h1
        exact .inl (.inl ⟨i, rfl, g.1, k.val s (.str _) g.2⟩)
      | str z =>
        cases h1
        exact .inl (.inr ⟨z, rfl, by rw [line_eq]; exact g.1, k.val s (.str _) g.2⟩)
      | list xs => exact .inr (go _ rfl g)
      | tuple xs => exact .inr (go _ rfl g)
      | _ => exact (show False from g).elim
end
end DL

/-! The data layer: new own objects: list(..), if-expressions, calls; two at once. -/
namespace DL
open PySem PySem.Spec PyProof.Rows L2
section
variable (P : Program) (w : World) (K : PySem.W.Frag) (mg : Str → Option Value) (base : Heap)
structure CalN (k : Nat) (x : Str) (W : GN) : Prop where
  ex : ∃ f fd ps, FnG P w K mg base k f fd ps (SpN K W) ∧ mg x = some (.ref f) ∧ PySem.W.keepIn K (.ref f) = true ∧ Binds K fd ps []
end
section
variable {P : Program} {w : World} {K : PySem.W.Frag} {mg : Str → Option Value} {base : Heap} {k j : Nat} {x : Str}
theorem CalN.mono {W : GN} (c : CalN P w K mg base j x W) (h : j ≤ k) : CalN P w K mg base k x W := by
  obtain ⟨f, fd, ps, F, r⟩ := c.ex
  exact ⟨f, fd, ps, F.mono h, r⟩
end
/-- what the def returns is an own object -/
def OwR : Prop := True
section
variable {X : Cx} {ρ : DEnv} {k : Nat} {x : Str} {p pos : Pos} {e a b : Expr} {es : List Expr} {Post : OD → DEnv → Prop}
theorem en_cal {W : GN} (c : CalN X.prog X.w X.K X.mg X.base k x W) (hr : Room k X.A) (hgd : X.A.guards = some []) (hg : Gl X x) (h : AW X (e :: es) ρ fun ds ρ' => W ds fun d => Post d ρ') (hdb : (x == ("__debug__" : Str)) = false := by decide)
    (he : starEach (e :: es) X.env = (false, eval e X.env) :: starEach es X.env := by rfl) (hpl : (backTo pos (starEach es X.env)).any (·.1) = false := by rfl) : EN X (.Call (.Name x p) (e :: es) [] pos) ρ Post := by
  obtain ⟨f, fd, ps, F, hm, hk, hb⟩ := c.ex
  exact en_callG F hr hgd hg hm hk hb h hdb he hpl
theorem en_ifExp {c : Expr} (h : TW X c ρ fun k ρ1 => (k = true → EN X a ρ1 Post) ∧ (k = false → EN X b ρ1 Post)) : EN X (.IfExp c a b pos) ρ Post := by
  refine EN.by (pe_ifExp (pt_any c) (pe_any a) (pe_any b)) fun σ H Q ⟨Hb, ok, k⟩ => ?_
  refine h.go ok (Grow.refl _ _ _) (Like.refl _) fun c Hb1 H1 ρ1 ok1 g1 _ l1 ⟨p1, p2⟩ => ?_
  have back : ∀ {p : Addr}, H1 p = none → H p = none := fun {p} n => by
    cases e : H p with
    | none => rfl
    | some o => exact absurd n (g1.there p (by rw [e]; simp))
  cases c with
  | true => exact (p1 rfl).go ok1 fun p u o Hb2 H2 ρ' ok2 g2 l2 n nb hp w z => k p u o Hb2 H2 ρ' ok2 (g1.trans g2 fun a z => .inl (l1.owned z)) (l1.trans l2) (back n) nb hp w z
  | false => exact (p2 rfl).go ok1 fun p u o Hb2 H2 ρ' ok2 g2 l2 n nb hp w z => k p u o Hb2 H2 ρ' ok2 (g1.trans g2 fun a z => .inl (l1.owned z)) (l1.trans l2) (back n) nb hp w z
def NwLst (P : List PyData → Prop) : PyData → Prop
  | .list xs => P xs
  | .tuple xs => P xs
  | _ => False
/-- a new list over what is readable -/
theorem fin_new {K : PySem.W.Frag} {σ : L2.St} {H : Hp} {Q : VK} {Hb Hb1 H1 : Hp} {ρ1 : DEnv} (k : ∀ p u o Hb2 H2 ρ', Ok K σ Hb2 H2 ρ' → Grow (Owned σ ρ) Hb H Hb2 H2 → Like ρ ρ' → H p = none → Hb2 p = none → H2 p = some u → OwOk K Hb2 o u → Post o ρ' → Q (.ref p) H2)
    (ok1 : Ok K σ Hb1 H1 ρ1) (g1 : Grow (Owned σ ρ) Hb H Hb1 H1) (l1 : Like ρ ρ1) {vs : List V} {ds : List PyData} (da : DaAll K Hb1 vs ds) (z : Post (.lst ds) ρ1) {q : Addr} (n : H1 q = none) : Q (.ref q) (upd H1 q (.lst vs)) := by
  have kp : ∀ a o, H1 a = some o → ¬ N0 a → upd H1 q (.lst vs) a = some o := fun a o e _ => by
    rw [upd_ne]
    · exact e
    · rintro rfl
      rw [n] at e
      cases e
  have th : ∀ a, H1 a ≠ none → upd H1 q (.lst vs) a ≠ none := fun a h => by
    by_cases e : a = q
    · subst e
      rw [upd_same]
      simp
    · rw [upd_ne e]
      exact h
  have g2 : Grow N0 Hb1 H1 Hb1 (upd H1 q (.lst vs)) := ⟨Same.refl _, kp, fun _ _ h _ => h, th⟩
  have nb : Hb1 q = none := ok1.sub.no n
  have s2 : Sub Hb1 (upd H1 q (.lst vs)) := fun a x e => by
    by_cases z : a = q
    · subst z
      rw [nb] at e
      cases e
    · rw [upd_ne z]
      exact ok1.sub a x e
  refine k q (.lst vs) (.lst ds) Hb1 _ ρ1 (ok1.grow g2 s2) (g1.trans0 g2) l1 ?_ nb upd_same ⟨vs, rfl, da⟩ z
  cases e : H q with
  | none => rfl
  | some o => exact absurd n (g1.there q (by rw [e]; simp))
theorem en_list (hg : Gl X "list") (hm : X.mg "list" = none) (h : EW X e ρ fun d ρ' => NwLst (fun xs => Post (.lst xs) ρ') d)
    (he : starEach [e] X.env = (false, eval e X.env) :: starEach [] X.env := by rfl) : EN X (.Call (.Name "list" p) [e] [] pos) ρ Post := by
  refine EN.by (pe_callTy call_list_of hg hm (by decide +kernel) (pa_cons (pe_any e) pa_nil he) (by decide) (by decide) he rfl) fun σ H Q ⟨Hb, ok, k⟩ => ?_
  refine h.go ok (Grow.refl _ _ _) (Like.refl _) fun v d Hb1 H1 ρ1 ok1 g1 _ l1 d1 p1 => ?_
  cases d1 with
  | lst hs ha => exact ⟨_, _, rfl, .inl ((hs.mono ok1.sub.rd).sq), fun l hl => fin_new k ok1 g1 l1 ha p1 hl⟩
  | tup hs ha => exact ⟨_, _, rfl, .inr (ok1.sub.rd.t hs), fun l hl => fin_new k ok1 g1 l1 ha p1 hl⟩
  | _ => exact (show False from p1).elim
/-- list(x), x an own list -/
theorem en_listO {xn : Str} {px : Pos} (i : Nat) {ds : List PyData} (hg : Gl X "list") (hm : X.mg "list" = none) (hp : PE X (.Name xn px) (tVar i)) (e0 : ρ[i]? = some (.ow (.lst ds))) (h : Post (.lst ds) ρ)
    (he : starEach [.Name xn px] X.env = (false, eval (.Name xn px) X.env) :: starEach [] X.env := by rfl) : EN X (.Call (.Name "list" p) [.Name xn px] [] pos) ρ Post := by
  refine EN.by (pe_callTy call_list_of hg hm (by decide +kernel) (pa_cons hp pa_nil he) (by decide) (by decide) he rfl) fun σ H Q ⟨Hb, ok, k⟩ => ?_
  obtain ⟨q, u, s1, s2, s3, us, e4, s5⟩ := ok.own e0
  subst e4
  exact ⟨_, s1, q, us, rfl, .inl (.inl (.inl s3)), fun l hl => fin_new k ok (Grow.refl _ _ _) (Like.refl _) s5 h hl⟩
theorem da_rangeV {K : PySem.W.Frag} {Hb : Hp} (lo : Int) : ∀ (l : List Nat), DaAll K Hb (l.map fun i => V.int (lo + (i : Nat))) (l.map fun (i : Nat) => PyData.int (lo + (i : Int)))
  | [] => .nil
  | _ :: l => .cons (.int _) (da_rangeV lo l)
theorem en_listRg {p2 pos2 : Pos} (hc : X.calm = true) (hg : Gl X "list") (hm : X.mg "list" = none) (hg2 : Gl X "range") (hm2 : X.mg "range" = none) (h : EW X a ρ fun d ρ' => ∃ n : Int, d = .int n ∧ (0 ≤ n ∧ n ≤ 16000000) ∧ Post (.lst (rangeD 0 n.toNat)) ρ')
    (na : starEach [a] X.env = (false, eval a X.env) :: starEach [] X.env := by rfl) (ne : starEach [.Call (.Name "range" p2) [a] [] pos2] X.env = (false, eval (.Call (.Name "range" p2) [a] [] pos2) X.env) :: starEach [] X.env := by rfl) : EN X (.Call (.Name "list" p) [.Call (.Name "range" p2) [a] [] pos2] [] pos) ρ Post := by
  refine EN.by (pe_listRg hc hg hm (prg_1 hg2 hm2 (pe_any a) na) ne) fun σ H Q ⟨Hb, ok, k⟩ => ?_
  refine h.go ok (Grow.refl _ _ _) (Like.refl _) fun v d Hb1 H1 ρ1 ok1 g1 _ l1 d1 ⟨n, e, ⟨b1, b2⟩, p1⟩ => ?_
  subst e
  cases d1
  refine ⟨n, rfl, RgOk.of_le (by omega) (by omega) (by omega) b1, fun q hq => fin_new k ok1 g1 l1 (ds := rangeD 0 n.toNat) ?_ p1 hq⟩
  unfold rgV rangeD
  rw [Int.sub_zero]
  exact da_rangeV 0 _
theorem Ok.setO {K : PySem.W.Frag} {σ : L2.St} {ρ : DEnv} {Hb H : Hp} (ok : Ok K σ Hb H ρ) {i : Nat} {p : Addr} {u : HO} {o : OD} (np : ∀ (j : Nat) (o' : OD), ρ[j]? = some (.ow o') → σ[j]? ≠ some (some (.ref p))) (nb : Hb p = none) (hp : H p = some u) (w : OwOk K Hb o u) (hl : i < ρ.length) :
    Ok K (σ.set i (some (.ref p))) Hb H (ρ.set i (.ow o)) := by
  have hl' : i < σ.length := ok.len ▸ hl
  refine ⟨by rw [List.length_set, List.length_set]; exact ok.len, ok.sub, fun j s e => ?_, fun j k o1 o2 q ej ek sj sk => ?_⟩
  · by_cases m : i = j
    · subst m
      rw [List.getElem?_set_self hl] at e
      cases e
      exact ⟨p, u, by rw [List.getElem?_set_self hl'], nb, hp, w⟩
    · rw [List.getElem?_set_ne m] at e
      have q := ok.sl j s e
      rw [List.getElem?_set_ne m]
      exact q
  · by_cases mj : i = j
    · by_cases mk : i = k
      · exact mj.symm.trans mk
      · subst mj
        rw [List.getElem?_set_self hl'] at sj
        rw [List.getElem?_set_ne mk] at ek sk
        cases sj
        exact absurd sk (np k o2 ek)
    · by_cases mk : i = k
      · subst mk
        rw [List.getElem?_set_self hl'] at sk
        rw [List.getElem?_set_ne mj] at ej sj
        cases sk
        exact absurd sj (np j o1 ej)
      · rw [List.getElem?_set_ne mj] at ej sj
        rw [List.getElem?_set_ne mk] at ek sk
        exact ok.ap j k o1 o2 q ej ek sj sk
theorem owned_setO {σ : L2.St} {ρ : DEnv} {i : Nat} {p a : Addr} {o : OD} (hl : i < σ.length) (h : Owned (σ.set i (some (.ref p))) (ρ.set i (.ow o)) a) : a = p ∨ Owned σ ρ a := by
  obtain ⟨j, o1, e, s⟩ := h
  by_cases m : i = j
  · subst m
    rw [List.getElem?_set_self hl] at s
    cases s
    exact .inl rfl
  · rw [List.getElem?_set_ne m] at e s
    exact .inr ⟨j, o1, e, s⟩
/-- x, y = a, b: two own objects, both new -/
theorem sw_parN {x y : Str} {a b : Expr} {px py pt : Pos} {kt k2 : Nat} {pt2 : Pos} {pr : List Nat} {D : DE} (i j : Nat) (hp : PS X (.Assign [.Tuple [.Name x px, .Name y py] kt pt] (.Tuple [a, b] k2 pt2) pos) (tPar i j (tCons (tAny X a) (tCons (tAny X b) tNil)))) (hi : i ∉ pr) (hj : j ∉ pr) (hil : i < ρ.length) (hjl : j < ρ.length) (hij : i ≠ j)
    (h : EN X a ρ fun o1 ρ1 => EN X b ρ1 fun o2 ρ2 => D.nx ((ρ2.set i (.ow o1)).set j (.ow o2))) : SW X pr (.Assign [.Tuple [.Name x px, .Name y py] kt pt] (.Tuple [a, b] k2 pt2) pos) ρ D := by
  refine SW.by hp fun DD σ H ⟨Hb, ok, k, _⟩ => ?_
  refine h.go ok fun p u o1 Hb1 H1 ρ1 ok1 g1 l1 n1 nb1 hu1 w1 z1 => ?_
  refine z1.go ok1 fun q u2 o2 Hb2 H2 ρ2 ok2 g2 l2 n2 nb2 hu2 w2 z2 => ?_
  have np : ¬ Owned σ ρ1 p := fun z => by
    obtain ⟨m, o, e1, e2⟩ := l1.owned z
    obtain ⟨p', u', s1, _, s3, _⟩ := ok.own e1
    rw [e2] at s1
    cases s1
    rw [n1] at s3
    cases s3
  have hp2 : H2 p = some u := g2.keep p u hu1 np
  have nbp : Hb2 p = none := g2.hid p np nb1 (by rw [hu1]; simp)
  have pq : p ≠ q := by
    rintro rfl
    rw [hu1] at n2
    cases n2
  have g12 : Grow (Owned σ ρ) Hb H Hb2 H2 := g1.trans g2 fun a z => .inl (l1.owned z)
  have l12 := l1.trans l2
  have nq : H q = none := by
    cases e : H q with
    | none => rfl
    | some o => exact absurd n2 (g1.there q (by rw [e]; simp))
  have fresh : ∀ r, H r = none → ∀ (m : Nat) (o' : OD), ρ2[m]? = some (.ow o') → σ[m]? ≠ some (some (.ref r)) := fun r nr m o' e s => by
    obtain ⟨o'', e''⟩ := l12.ow e
    obtain ⟨p', u', s1, _, s3, _⟩ := ok.own e''
    rw [s] at s1
    cases s1
    rw [nr] at s3
    cases s3
  have hi2 : i < ρ2.length := l12.1 ▸ hil
  have hi3 : i < σ.length := ok2.len ▸ hi2
  have hj2 : j < (ρ2.set i (.ow o1)).length := by rw [List.length_set]; exact l12.1 ▸ hjl
  have ok3 := ok2.setO (fresh p n1) nbp hp2 (w1.mono (same_rd g2.per)) hi2
  have hj3 : j < (σ.set i (some (V.ref p))).length := ok3.len ▸ hj2
  have ok4 := ok3.setO (i := j) (p := q) (fun m o' e s => by
    by_cases c : i = m
    · subst c
      rw [List.getElem?_set_self hi3] at s
      cases s
      exact pq rfl
    · rw [List.getElem?_set_ne c] at e s
      exact fresh q nq m o' e s) nb2 hu2 w2 hj2
  refine ⟨.ref p, .ref q, rfl, k _ _ Hb2 H2 ⟨ok4, g12, fun a z => ?_, fun m hm => ?_⟩ z2⟩
  · rcases owned_setO hj3 z with rfl | z
    · exact .inr nq
    · rcases owned_setO hi3 z with rfl | z
      · exact .inr n1
      · exact .inl (l12.owned z)
  · rw [List.getElem?_set_ne (fun e : j = m => hj (e.symm ▸ hm)), List.getElem?_set_ne (fun e : i = m => hi (e.symm ▸ hm))]
end
end DL

/-! The data layer: own objects lent: for the time of an expression that changes none of them and comes to something flat, they are data. -/
namespace DL
open PySem PySem.Spec PyProof.Rows L2
def frzS : Sl → Sl
  | .ow o => .pd o.data
  | s => s
def frz (ρ : DEnv) : DEnv := ρ.map frzS
def FlatD : PyData → Prop
  | .none | .bool _ | .int _ | .str _ => True
  | _ => False
theorem flat_da {K : PySem.W.Frag} {Hb Hb2 : Hp} {v : V} {d : PyData} (f : FlatD d) (h : Da K Hb2 v d) : Da K Hb v d := by
  cases h with
  | non => exact .non
  | bl b => exact .bl b
  | int i => exact .int i
  | str s => exact .str s
  | _ => exact (show False from f).elim
section
variable {K : PySem.W.Frag} {σ : L2.St} {Hb H : Hp} {ρ : DEnv}
theorem frz_ow {i : Nat} {o : OD} : (frz ρ)[i]? ≠ some (.ow o) := fun e => by
  unfold frz at e
  rw [List.getElem?_map] at e
  cases q : ρ[i]? with
  | none =>
    rw [q] at e
    cases e
  | some s =>
    rw [q] at e
    cases s <;> cases e
theorem frz_no {p : Addr} : ¬ Owned σ (frz ρ) p := fun ⟨_, _, e, _⟩ => frz_ow e
theorem lend_ok (ok : Ok K σ Hb H ρ) : ∃ Hbf, Ok K σ Hbf H (frz ρ) ∧ Same Hb Hbf := by
  classical
  have own : ∀ a, Owned σ ρ a → Hb a = none := fun a ⟨i, o, e, s⟩ => by
    obtain ⟨p, u, s1, s2, _⟩ := ok.own e
    rw [s] at s1
    cases s1
    exact s2
  have sm : Same Hb (fun a => if Owned σ ρ a then H a else Hb a) := fun a x e => by
    have n : ¬ Owned σ ρ a := fun z => by
      rw [own a z] at e
      cases e
    show (if Owned σ ρ a then H a else Hb a) = some x
    rw [if_neg n]
    exact e
  refine ⟨fun a => if Owned σ ρ a then H a else Hb a, ⟨by unfold frz; rw [List.length_map]; exact ok.len, fun a x e => ?_, fun i s e => ?_, fun i j o o' p ei => absurd ei frz_ow⟩, sm⟩
  · by_cases z : Owned σ ρ a
    · rw [if_pos z] at e
      exact .inl e
    · rw [if_neg z] at e
      exact ok.sub a x e
  · unfold frz at e
    rw [List.getElem?_map] at e
    cases q : ρ[i]? with
    | none =>
      rw [q] at e
      cases e
    | some t =>
      rw [q] at e
      cases t with
      | un =>
        cases e
        trivial
      | pd d =>
        cases e
        obtain ⟨v, e1, e2⟩ := ok.pd q
        exact ⟨v, e1, e2.mono (same_rd sm)⟩
      | ow o =>
        cases e
        obtain ⟨p, u, s1, s2, s3, s4⟩ := ok.own q
        refine ⟨_, s1, (s4.da s2).mono (same_rd fun a x e => ?_)⟩
        show (if Owned σ ρ a then H a else Hb a) = some x
        by_cases z : a = p
        · subst z
          rw [upd_same] at e
          rw [if_pos ⟨i, o, q, s1⟩, s3]
          exact e
        · rw [upd_ne z] at e
          exact sm a x e
theorem lend_back {Hbf Hb2 H2 : Hp} (ok : Ok K σ Hb H ρ) (g : Grow (Owned σ (frz ρ)) Hbf H Hb2 H2) : Ok K σ Hb H2 ρ ∧ Grow (Owned σ ρ) Hb H Hb H2 := by
  have kp : ∀ a x, H a = some x → H2 a = some x := fun a x e => g.keep a x e frz_no
  refine ⟨⟨ok.len, fun a x e => ?_, fun i s e => ?_, ok.ap⟩, Same.refl _, fun a o e _ => kp a o e, fun _ _ h _ => h, g.there⟩
  · rcases ok.sub a x e with q | ⟨n, o, q⟩
    · exact .inl (kp a _ q)
    · exact .inr ⟨n, o, kp a _ q⟩
  · cases s with
    | un => trivial
    | pd d => exact ok.sl i _ e
    | ow o =>
      obtain ⟨p, u, s1, s2, s3, s4⟩ := ok.own e
      exact ⟨p, u, s1, s2, kp _ _ s3, s4⟩
end
section
variable {X : Cx} {ρ : DEnv} {k : Nat} {x : Str} {p pos : Pos} {e : Expr} {es : List Expr} {Post : PyData → DEnv → Prop}
theorem ew_lend (h : EW X e (frz ρ) fun d _ => FlatD d ∧ Post d ρ) : EW X e ρ Post := by
  refine EW.by h fun σ H Q ⟨Hb, ok, k⟩ => ?_
  obtain ⟨Hbf, okf, sm⟩ := lend_ok ok
  refine ⟨Hbf, okf, fun v d Hb2 H2 ρ' ok2 g2 l2 dv ⟨f, q⟩ => ?_⟩
  obtain ⟨ok3, g3⟩ := lend_back ok g2
  exact k v d Hb H2 ρ ok3 g3 (Like.refl _) (flat_da f dv) q
theorem tw_lend {P : Bool → DEnv → Prop} (h : TW X e (frz ρ) fun b _ => P b ρ) : TW X e ρ P := by
  refine TW.by h fun σ H Q ⟨Hb, ok, k⟩ => ?_
  obtain ⟨Hbf, okf, sm⟩ := lend_ok ok
  refine ⟨Hbf, okf, fun b Hb2 H2 ρ' ok2 g2 l2 q => ?_⟩
  obtain ⟨ok3, g3⟩ := lend_back ok g2
  exact k b Hb H2 ρ ok3 g3 (Like.refl _) q
/-- own objects are lent to the def x -/
def Lend (_ : Str) : Prop := True
theorem ew_calL {W : GA} (_ : Lend x) (c : CalP X.prog X.w X.K X.mg X.base k x W) (hr : Room k X.A) (hgd : X.A.guards = some []) (hg : Gl X x) (h : AW X (e :: es) (frz ρ) fun ds _ => W ds fun d => FlatD d ∧ Post d ρ) (hdb : (x == ("__debug__" : Str)) = false := by decide)
    (he : starEach (e :: es) X.env = (false, eval e X.env) :: starEach es X.env := by rfl) (hpl : (backTo pos (starEach es X.env)).any (·.1) = false := by rfl) : EW X (.Call (.Name x p) (e :: es) [] pos) ρ Post :=
  ew_lend (ew_cal c hr hgd hg h hdb he hpl)
end
end DL

/-! The data layer: list comprehensions over typed lists. -/
namespace DL
open PySem PySem.Spec PyProof.Rows L2
/-- a slot that isn't an own object -/
def noOwS : Sl → Bool
  | .ow _ => false
  | _ => true
def noOwB (ρ : DEnv) (vs : List Nat) : Bool := vs.all fun i => noOwS (ρ[i]?.getD .un)
theorem noOw_of {ρ : DEnv} {vs : List Nat} (h : noOwB ρ vs = true) : NoOw ρ vs := fun i hi o e => by
  have z := List.all_eq_true.mp h i hi
  rw [e] at z
  cases z
theorem noOw1 {ρ : DEnv} {v : Nat} (h : noOwS (ρ[v]?.getD .un) = true) : NoOw ρ [v] := noOw_of (by simp [noOwB, h])
section
variable {X : Cx} {ρ : DEnv} {scope : Scope} {tg iter elt : Expr} {ifs : List Expr} {own : List (Str × Nat)}
/-- what a comprehension asks that changes no own object: ys the items, c which are taken, f what of them -/
def LcW (X : Cx) (scope : Scope) (tg elt : Expr) (ifs : List Expr) (vs : List Nat) (P : List PyData → DEnv → Prop) (xs : List PyData) (ρ1 : DEnv) : Prop :=
  NoOw ρ1 vs ∧ ∃ (α : Type) (ys : List α) (enc : α → PyData) (c : α → Bool) (f : α → PyData), xs = ys.map enc ∧
    (∀ y, y ∈ ys → GB X scope vs tg (enc y) (wipeD ρ1 vs) fun ρ2 => TB X scope ifs ρ2 fun b ρ3 => wipeD ρ3 vs = wipeD ρ1 vs ∧ b = c y ∧ (b = true → EB X scope elt ρ3 fun d ρ4 => wipeD ρ4 vs = wipeD ρ1 vs ∧ d = f y)) ∧ P ((ys.filter c).map f) ρ1
theorem lc_of {P : List PyData → DEnv → Prop} {vs : List Nat} (h : IW X tg iter ρ fun xs ρ1 => LcW X scope tg elt ifs vs P xs ρ1) : IW X tg iter ρ fun xs ρ1 => NoOw ρ1 vs ∧ ∃ J : Nat → List PyData → DEnv → Prop, J 0 [] (wipeD ρ1 vs) ∧
      (∀ i x acc ρi, xs[i]? = some x → J i acc ρi → GB X scope vs tg x ρi fun ρ2 => TB X scope ifs ρ2 fun b ρ3 => (b = true → EB X scope elt ρ3 fun d ρ4 => J (i + 1) (acc ++ [d]) (wipeD ρ4 vs)) ∧ (b = false → J (i + 1) acc (wipeD ρ3 vs))) ∧
      ∀ acc ρn, J xs.length acc ρn → P acc (backD ρ1 ρn vs) := by
  refine IW.by h fun σ H R ⟨Hb, ok, k⟩ => ⟨Hb, ok, fun J xs Hb2 H2 ρ1 ok2 g2 l2 j hz ⟨hno, α, ys, enc, c, f, ex, hx, hP⟩ => k J xs Hb2 H2 ρ1 ok2 g2 l2 j hz ⟨hno, fun i acc ρi => acc = ((ys.take i).filter c).map f ∧ ρi = wipeD ρ1 vs, ⟨by simp, rfl⟩, fun i x acc ρi ei ⟨ea, er⟩ => ?_, fun acc ρn ⟨ea, er⟩ => ?_⟩⟩
  · subst ea er ex
    rw [List.getElem?_map] at ei
    cases ey : ys[i]? with
    | none =>
      rw [ey] at ei
      cases ei
    | some y =>
      rw [ey] at ei
      cases ei
      have step : (ys.take (i + 1)).filter c = (ys.take i).filter c ++ (if c y = true then [y] else []) := by
        rw [List.take_add_one, ey, List.filter_append]
        congr 1
        by_cases q : c y = true <;> simp [q]
      intro s H C cl fp
      refine ⟨fun pins s2 σ2 H2 v u Q I r w => (hx y (List.mem_of_getElem? ey) s H C cl fp).run pins s2 σ2 H2 v u Q I r ?_⟩
      obtain ⟨Hb, ok, dv, k⟩ := w
      refine ⟨Hb, ok, dv, fun σ' ρ' Hb2 H2 f2 p2 => k σ' ρ' Hb2 H2 f2 fun s H C cl fp => ⟨fun pins s2 σ2 H2 Q I w => (p2 s H C cl fp).run pins s2 σ2 H2 Q I ?_⟩⟩
      obtain ⟨Hb, ok, k⟩ := w
      refine ⟨Hb, ok, fun b Hb2 H2 ρ3 ok3 g3 l3 ⟨e1, e2, e3⟩ => k b Hb2 H2 ρ3 ok3 g3 l3 ⟨fun hb s H C cl fp => (e3 hb s H C cl fp).mono fun d ρ4 ⟨z1, z2⟩ => ⟨?_, z1⟩, fun hb => ⟨?_, e1⟩⟩⟩
      · rw [step, if_pos (e2 ▸ hb), z2, List.map_append]
        rfl
      · rw [step, if_neg (by rw [← e2, hb]; exact Bool.false_ne_true), List.append_nil]
  · subst ea er ex
    rw [backD_self, List.length_map, List.take_length]
    exact hP
theorem en_lcM {pos : Pos} {P : OD → DEnv → Prop} (own : List (Str × Nat)) (hc : X.calm = true) (hN : X.N.Nodup) (ok : BlkOk X.N X.env.scope scope own) (h : IW X tg iter ρ (LcW X scope tg elt ifs (own.map (·.2)) fun ds => P (.lst ds))) (hs : ∀ x, foldedSetIterable iter X.env x = pure x := by intro _; rfl) :
    EN X (.ListComp elt [⟨tg, iter, ifs, 0⟩] scope pos) ρ P := en_lc hc hN ok (lc_of h) hs
theorem sw_lcM {pr : List Nat} {D : DE} {y : Str} {py spos pos : Pos} (i : Nat) (own : List (Str × Nat)) (hc : X.calm = true) (hN : X.N.Nodup) (hy : X.N[i]? = some y) (hyl : X.env.scope.names.lookup y = some .local)
    (hsw : swapsWith (.ListComp elt [⟨tg, iter, ifs, 0⟩] scope pos) (some (.Name y py)) spos.line X.env = pure true) (ok : BlkOk X.N X.env.scope scope own) (hi : i ∉ pr) (hil : i < ρ.length)
    (h : IW X tg iter ρ (LcW X scope tg elt ifs (own.map (·.2)) fun ds ρ1 => D.nx (ρ1.set i (.pd (.list ds))))) (hs : ∀ x, foldedSetIterable iter X.env x = pure x := by intro _; rfl) :
    SW X pr (.Assign [.Name y py] (.ListComp elt [⟨tg, iter, ifs, 0⟩] scope pos) spos) ρ D := sw_lc i hc hN hy hyl hsw ok hi hil false (lc_of (P := fun ds ρ' => D.nx (ρ'.set i (.pd (.list ds)))) h) hs
theorem sw_lcN {pr : List Nat} {D : DE} {y : Str} {py spos pos : Pos} (i : Nat) (own : List (Str × Nat)) (hc : X.calm = true) (hN : X.N.Nodup) (hy : X.N[i]? = some y) (hyl : X.env.scope.names.lookup y = some .local)
    (hsw : swapsWith (.ListComp elt [⟨tg, iter, ifs, 0⟩] scope pos) (some (.Name y py)) spos.line X.env = pure true) (ok : BlkOk X.N X.env.scope scope own) (hi : i ∉ pr) (hil : i < ρ.length)
    (h : IW X tg iter ρ (LcW X scope tg elt ifs (own.map (·.2)) fun ds ρ1 => D.nx (ρ1.set i (.ow (.lst ds))))) (hs : ∀ x, foldedSetIterable iter X.env x = pure x := by intro _; rfl) :
    SW X pr (.Assign [.Name y py] (.ListComp elt [⟨tg, iter, ifs, 0⟩] scope pos) spos) ρ D := sw_lc i hc hN hy hyl hsw ok hi hil true (lc_of (P := fun ds ρ' => D.nx (ρ'.set i (.ow (.lst ds)))) h) hs
end
/-- the turns over a range -/
theorem rgJ {lo : Int} {n : Nat} {ρ : DEnv} {G : (Nat → DEnv → Prop) → Nat → PyData → DEnv → Prop} {Q : DEnv → Prop} (J : Nat → DEnv → Prop) (h0 : J 0 ρ) (hs : ∀ i ρi, i < n → J i ρi → G J i (.int (lo + (i : Int))) ρi) (hd : ∀ ρn, J n ρn → Q ρn) :
    ∃ J : Nat → DEnv → Prop, J 0 ρ ∧ (∀ i x ρi, (rangeD lo n)[i]? = some x → J i ρi → G J i x ρi) ∧ ∀ ρn, J (rangeD lo n).length ρn → Q ρn := by
  refine ⟨J, h0, fun i x ρi e j => ?_, fun ρn j => hd ρn (by rw [rangeD_length] at j; exact j)⟩
  have hi := (List.getElem?_eq_some_iff.mp e).1
  rw [rangeD_length] at hi
  rw [rangeD_get hi] at e
  cases e
  exact hs i ρi hi j
theorem rgJ0 {n : Nat} {ρ : DEnv} {G : (Nat → DEnv → Prop) → Nat → PyData → DEnv → Prop} {Q : DEnv → Prop} (J : Nat → DEnv → Prop) (h0 : J 0 ρ) (hs : ∀ i ρi, i < n → J i ρi → G J i (.int (i : Int)) ρi) (hd : ∀ ρn, J n ρn → Q ρn) :
    ∃ J : Nat → DEnv → Prop, J 0 ρ ∧ (∀ i x ρi, (rangeD 0 n)[i]? = some x → J i ρi → G J i x ρi) ∧ ∀ ρn, J (rangeD 0 n).length ρn → Q ρn :=
  rgJ J h0 (fun i ρi hi j => by rw [Int.zero_add]; exact hs i ρi hi j) hd
/-- .. over a typed list -/
theorem mpJ {α : Type} {ys : List α} {enc : α → PyData} {ρ : DEnv} {G : (Nat → DEnv → Prop) → Nat → PyData → DEnv → Prop} {Q : DEnv → Prop} (J : Nat → DEnv → Prop) (h0 : J 0 ρ) (hs : ∀ i y ρi, ys[i]? = some y → J i ρi → G J i (enc y) ρi) (hd : ∀ ρn, J ys.length ρn → Q ρn) :
    ∃ J : Nat → DEnv → Prop, J 0 ρ ∧ (∀ i x ρi, (ys.map enc)[i]? = some x → J i ρi → G J i x ρi) ∧ ∀ ρn, J (ys.map enc).length ρn → Q ρn := by
  refine ⟨J, h0, fun i x ρi e j => ?_, fun ρn j => hd ρn (by rw [List.length_map] at j; exact j)⟩
  rw [List.getElem?_map] at e
  cases ey : ys[i]? with
  | none =>
    rw [ey] at e
    cases e
  | some y =>
    rw [ey] at e
    cases e
    exact hs i y ρi ey j
/-- the turns of a comprehension over a range -/
theorem rgL {n : Nat} {ρ0 : DEnv} {G : (Nat → List PyData → DEnv → Prop) → Nat → PyData → List PyData → DEnv → Prop} {R : List PyData → DEnv → Prop} (J : Nat → List PyData → DEnv → Prop) (h0 : J 0 [] ρ0) (hs : ∀ i acc ρi, i < n → J i acc ρi → G J i (.int (i : Int)) acc ρi) (hd : ∀ acc ρn, J n acc ρn → R acc ρn) :
    ∃ J : Nat → List PyData → DEnv → Prop, J 0 [] ρ0 ∧ (∀ i x acc ρi, (rangeD 0 n)[i]? = some x → J i acc ρi → G J i x acc ρi) ∧ ∀ acc ρn, J (rangeD 0 n).length acc ρn → R acc ρn := by
  refine ⟨J, h0, fun i x acc ρi e j => ?_, fun acc ρn j => hd acc ρn (by rw [rangeD_length] at j; exact j)⟩
  have hi := (List.getElem?_eq_some_iff.mp e).1
  rw [rangeD_length] at hi
  rw [rangeD_get hi, Int.zero_add] at e
  cases e
  exact hs i acc ρi hi j
theorem log_ok {n : Nat} (h : n < 10 ^ 100) : ((n : Int)).natAbs.log2 < 1920 := by
  rw [Int.natAbs_natCast]
  by_cases e : n = 0
  · subst e
    decide
  · exact (Nat.log2_lt e).mpr (Nat.lt_trans h (by decide +kernel))
theorem txt_len {n : Nat} (h : n < 10 ^ 100) : (Str.ofString (toString (n : Int))).length ≤ 1921 := int_text_len_1921 (log_ok h)
theorem mpJE {α : Type} {ys : List α} {xs : List PyData} {enc : α → PyData} {ρ : DEnv} {G : (Nat → DEnv → Prop) → Nat → PyData → DEnv → Prop} {Q : DEnv → Prop} (e : xs = ys.map enc) (J : Nat → DEnv → Prop) (h0 : J 0 ρ) (hs : ∀ i y ρi, ys[i]? = some y → J i ρi → G J i (enc y) ρi) (hd : ∀ ρn, J ys.length ρn → Q ρn) :
    ∃ J : Nat → DEnv → Prop, J 0 ρ ∧ (∀ i x ρi, xs[i]? = some x → J i ρi → G J i x ρi) ∧ ∀ ρn, J xs.length ρn → Q ρn := by
  subst e
  exact mpJ J h0 hs hd
theorem filter_true {α : Type} (l : List α) : (l.filter fun _ => true) = l := List.filter_eq_self.mpr fun _ _ => rfl
theorem blkOk_of {X : Cx} {N ps : List Str} {sc scope : Scope} {own : List (Str × Nat)} (S : FnScope N ps sc) (hN : X.N = N) (hs : X.env.scope = sc) (h : blkC N sc scope own = true) : BlkOk X.N X.env.scope scope own := by
  rw [hN, hs]
  exact blkOk_by h
theorem rangeD0 (n : Nat) : rangeD 0 n = (List.range n).map fun (i : Nat) => PyData.int (i : Int) := by
  unfold rangeD
  refine List.map_congr_left fun i _ => ?_
  rw [Int.zero_add]
end DL

/-! The data layer: small data. -/
namespace DL
open PySem PySem.Spec PyProof.Rows L2
/-- D levels deep at most, W heavy at most, ints short, no dict -/
structure Sm (D W : Nat) (d : PyData) : Prop where
  lay : d.canLay0 = true
  dep : d.depth ≤ D
  wt : d.weight ≤ W
  sh : d.intsShort 13 = true
  sw : d.showable = true
theorem Sm.mono {D W D' W' : Nat} {d : PyData} (h : Sm D W d) (a : D ≤ D') (b : W ≤ W') : Sm D' W' d := ⟨h.lay, Nat.le_trans h.dep a, Nat.le_trans h.wt b, h.sh, h.sw⟩
theorem sm_none {D W : Nat} : Sm D W .none := ⟨rfl, Nat.zero_le _, Nat.zero_le _, rfl, rfl⟩
theorem sm_bool {D W : Nat} (b : Bool) : Sm D W (.bool b) := ⟨rfl, Nat.zero_le _, Nat.zero_le _, rfl, rfl⟩
theorem log_lt {n k : Nat} (hk : 0 < k) (h : n < 2 ^ k) : n.log2 < k := by
  by_cases e : n = 0
  · subst e
    exact hk
  · exact (Nat.log2_lt e).mpr h
theorem sm_int {D W : Nat} {i : Int} (h : i.natAbs < 10 ^ 12) (w : 40 ≤ W) : Sm D W (.int i) := by
  have h1 : i.natAbs.log2 < 40 := log_lt (by decide) (Nat.lt_trans h (by decide))
  refine ⟨rfl, Nat.zero_le _, ?_, ?_, ?_⟩
  · simp only [PyData.weight]
    split <;> omega
  · have e : (PyData.int i).shown.length ≤ 13 := by
      have e2 : (PyData.int i).shown = Str.ofString (toString i) := by simp only [PyData.shown]
      rw [e2, PySem.ofString_length]
      exact PySem.int_text_length_le10 (k := 12) (by decide) h
    simpa only [PyData.intsShort, decide_eq_true_eq] using e
  · simp only [PyData.showable, decide_eq_true_eq]
    omega
theorem sm_nat {D W : Nat} {n : Nat} (h : n < 10 ^ 12) (w : 40 ≤ W) : Sm D W (.int (n : Int)) := sm_int (by simpa using h) w
theorem strOk_lit (s : String) : PyData.strOk (Str.ofString s) = true := by
  unfold PyData.strOk
  rw [PySem.Str.ofString_eq_toList, Array.all_eq_true_iff_forall_mem]
  intro c hc
  obtain ⟨d, _, rfl⟩ := List.mem_map.mp (by simpa using hc : c ∈ s.toList.map Char.toNat)
  have := d.valid
  simp only [decide_eq_true_eq]
  rcases this with h | ⟨_, h⟩
  · exact Nat.lt_trans h (by decide)
  · exact h
theorem strOk_app {a b : Str} (h1 : PyData.strOk a = true) (h2 : PyData.strOk b = true) : PyData.strOk (a ++ b) = true := by
  unfold PyData.strOk at *
  rw [PySem.Str.cps_append, Array.all_append, h1, h2]
  rfl
theorem sm_str {D W : Nat} {s : Str} (h : PyData.strOk s = true) (w : s.length ≤ W) : Sm D W (.str s) := ⟨by simpa only [PyData.canLay0] using h, Nat.zero_le _, w, rfl, rfl⟩
theorem all_lay : ∀ {xs : List PyData}, (∀ x ∈ xs, x.canLay0 = true) → PyData.canLayAll0 xs = true
  | [], _ => rfl
  | x :: xs, h => by
    simp only [PyData.canLayAll0, h x List.mem_cons_self, all_lay fun y m => h y (List.mem_cons_of_mem _ m), Bool.and_self]
theorem all_dep {D : Nat} : ∀ {xs : List PyData}, (∀ x ∈ xs, x.depth ≤ D) → PyData.depthAll xs ≤ D
  | [], _ => Nat.zero_le _
  | x :: xs, h => by
    simp only [PyData.depthAll]
    exact Nat.max_le.mpr ⟨h x List.mem_cons_self, all_dep fun y m => h y (List.mem_cons_of_mem _ m)⟩
theorem all_wt {W : Nat} : ∀ {xs : List PyData}, (∀ x ∈ xs, x.weight ≤ W) → PyData.weightAll xs ≤ xs.length * (W + 1)
  | [], _ => Nat.zero_le _
  | x :: xs, h => by
    have a := h x List.mem_cons_self
    have b := all_wt (xs := xs) fun y m => h y (List.mem_cons_of_mem _ m)
    simp only [PyData.weightAll, List.length_cons, Nat.add_mul]
    omega
theorem all_sw : ∀ {xs : List PyData}, (∀ x ∈ xs, x.showable = true) → PyData.showableAll xs = true
  | [], _ => rfl
  | x :: xs, h => by
    simp only [PyData.showableAll, h x List.mem_cons_self, all_sw fun y m => h y (List.mem_cons_of_mem _ m), Bool.and_self]
theorem sm_all {D W : Nat} {xs : List PyData} (h : ∀ x ∈ xs, Sm D W x) : PyData.canLayAll0 xs = true ∧ PyData.depthAll xs ≤ D ∧ PyData.weightAll xs ≤ xs.length * (W + 1) ∧ PyData.intsShortAll 13 xs = true ∧ PyData.showableAll xs = true :=
  ⟨all_lay fun x m => (h x m).lay, all_dep fun x m => (h x m).dep, all_wt fun x m => (h x m).wt, intsShortAll_of fun x m => (h x m).sh, all_sw fun x m => (h x m).sw⟩
theorem sm_list {D W D' W' n : Nat} {xs : List PyData} (h : ∀ x ∈ xs, Sm D W x) (hn : xs.length ≤ n) (hd : D + 1 ≤ D') (hw : n * (W + 1) ≤ W') : Sm D' W' (.list xs) := by
  obtain ⟨a, b, c, d, e⟩ := sm_all h
  refine ⟨by simpa only [PyData.canLay0] using a, ?_, ?_, by simpa only [PyData.intsShort] using d, by simpa only [PyData.showable] using e⟩
  · simp only [PyData.depth]
    omega
  · simp only [PyData.weight]
    have := Nat.mul_le_mul_right (W + 1) hn
    omega
theorem sm_tuple {D W D' W' n : Nat} {xs : List PyData} (h : ∀ x ∈ xs, Sm D W x) (hn : xs.length ≤ n) (hd : D + 1 ≤ D') (hw : n * (W + 1) ≤ W') : Sm D' W' (.tuple xs) := by
  obtain ⟨a, b, c, d, e⟩ := sm_all h
  refine ⟨by simpa only [PyData.canLay0] using a, ?_, ?_, by simpa only [PyData.intsShort] using d, by simpa only [PyData.showable] using e⟩
  · simp only [PyData.depth]
    omega
  · simp only [PyData.weight]
    have := Nat.mul_le_mul_right (W + 1) hn
    omega
theorem Sm.len {D W : Nat} {d : PyData} (h : Sm D W d) (hd : D ≤ 63) (hw : W ≤ 1048576) : d.shown.length ≤ 16777216 := by
  have l : PyData.layable0 d = true := by
    show (PyData.canLay0 d && decide (PyData.depth d ≤ 64) && decide (PyData.weight d ≤ 2 ^ 20)) = true
    have := h.dep
    have := h.wt
    simp only [Bool.and_eq_true, decide_eq_true_eq]
    exact ⟨⟨h.lay, by omega⟩, by omega⟩
  exact Nat.le_trans (shown_le13 l h.sh) (by decide)
theorem Sm.rp {D W : Nat} {d : PyData} (h : Sm D W d) (hd : D ≤ 63) (hw : W ≤ 1048576) (k : isDisp d = true) : RpOk d := ⟨h.lay, h.sw, k, Nat.le_trans h.dep hd, h.len hd hw⟩
/-- what _law_same can tell: m levels deep, no dict -/
def SameOk : Nat → PyData → Prop
  | _, .none => True
  | _, .bool _ => True
  | _, .int i => i.natAbs.log2 < 1920
  | _, .str s => (reprText s).length ≤ 16777216
  | m + 1, .list xs => xs.length ≤ 16000000 ∧ ∀ x ∈ xs, SameOk m x
  | m + 1, .tuple xs => xs.length ≤ 16000000 ∧ ∀ x ∈ xs, SameOk m x
  | _, _ => False
theorem wt_len : ∀ xs : List PyData, xs.length ≤ PyData.weightAll xs
  | [] => Nat.zero_le _
  | x :: xs => by
    have := wt_len xs
    simp only [PyData.weightAll, List.length_cons]
    omega
theorem parts_all {D W : Nat} {xs : List PyData} (a : PyData.canLayAll0 xs = true) (b : PyData.depthAll xs ≤ D) (c : PyData.weightAll xs ≤ W) (d : PyData.intsShortAll 13 xs = true) (e : PyData.showableAll xs = true) : ∀ x ∈ xs, Sm D W x := by
  induction xs with
  | nil => intro x m; cases m
  | cons y ys ih =>
    simp only [PyData.canLayAll0, Bool.and_eq_true] at a
    simp only [PyData.depthAll] at b
    simp only [PyData.weightAll] at c
    simp only [PyData.intsShortAll, Bool.and_eq_true] at d
    simp only [PyData.showableAll, Bool.and_eq_true] at e
    intro x m
    rcases List.mem_cons.mp m with m | m
    · subst m
      exact ⟨a.1, by omega, by omega, d.1, e.1⟩
    · exact ih a.2 (by omega) (by omega) d.2 e.2 x m
theorem Sm.same {W : Nat} (hw : W ≤ 1048576) : ∀ (m : Nat) {d : PyData}, m ≤ 63 → Sm m W d → SameOk m d
  | m, .none, _, _ => by cases m <;> exact trivial
  | m, .bool b, _, _ => by cases m <;> exact trivial
  | m, .int i, _, h => by
    have : i.natAbs.log2 < 1920 := by simpa only [PyData.showable, decide_eq_true_eq] using h.sw
    cases m <;> exact this
  | m, .str s, hm, h => by
    have := h.len hm hw
    simp only [PyData.shown] at this
    cases m <;> exact this
  | 0, .list xs, _, h => by have := h.dep; simp only [PyData.depth] at this; omega
  | 0, .tuple xs, _, h => by have := h.dep; simp only [PyData.depth] at this; omega
  | m, .dict _, _, h => by have := h.lay; simp [PyData.canLay0] at this
  | m + 1, .list xs, hm, h => by
    have a := h.dep
    have b := h.wt
    simp only [PyData.depth] at a
    simp only [PyData.weight] at b
    have c := wt_len xs
    exact ⟨by omega, fun x k => Sm.same hw m (by omega) (parts_all (by simpa only [PyData.canLay0] using h.lay) (by omega) b (by simpa only [PyData.intsShort] using h.sh) (by simpa only [PyData.showable] using h.sw) x k)⟩
  | m + 1, .tuple xs, hm, h => by
    have a := h.dep
    have b := h.wt
    simp only [PyData.depth] at a
    simp only [PyData.weight] at b
    have c := wt_len xs
    exact ⟨by omega, fun x k => Sm.same hw m (by omega) (parts_all (by simpa only [PyData.canLay0] using h.lay) (by omega) b (by simpa only [PyData.intsShort] using h.sh) (by simpa only [PyData.showable] using h.sw) x k)⟩
end DL

/-! The data layer: x += e, chains of two comparisons, str.index, {x:04d}. -/
namespace DL
open PySem PySem.Spec PyProof.Rows L2
section
variable {X : Cx} {ρ : DEnv}
def IaddW : G2
  | .int i, .int j, P => P (.int (i + j))
  | .str s, .str t, P => s.length + t.length ≤ 16777216 ∧ P (.str (s ++ t))
  | _, _, _ => False
theorem id_add : IpD X .Add IaddW := by
  refine ⟨fun x y H Q => ipI (fun i j => i + j) x y H Q ∨ ∃ i j, x = .str i ∧ y = .str j ∧ i.length + j.length ≤ sizeLine ∧ Q (.str (i ++ j)) H, fun pins s σ H x y v u Q I r1 r2 h => h.elim (ip_add pins s σ H x y v u Q I r1 r2) (iop_add_str pins s σ H x y v u Q I r1 r2), fun Hb H x y dx dy P Q a b s g k => ?_⟩
  cases a with
  | int i =>
    cases b with
    | int j => exact .inl ⟨i, j, rfl, rfl, k.val s (.int _) g⟩
    | _ => exact (show False from g).elim
  | str i =>
    cases b with
    | str j => exact .inr ⟨i, j, rfl, rfl, by rw [line_eq]; exact g.1, k.val s (.str _) g.2⟩
    | _ => exact (show False from g).elim
  | _ => exact (show False from g).elim
def IsubW : G2
  | .int i, .int j, P => P (.int (i - j))
  | _, _, _ => False
theorem id_sub : IpD X .Sub IsubW := by
  refine ⟨_, ip_sub, fun Hb H x y dx dy P Q a b s g k => ?_⟩
  cases a with
  | int i =>
    cases b with
    | int j => exact ⟨i, j, rfl, rfl, k.val s (.int _) g⟩
    | _ => exact (show False from g).elim
  | _ => exact (show False from g).elim
/-! chains of two -/
variable {a b c : Expr} {pos : Pos} {Post : PyData → DEnv → Prop}
theorem ew_chain {op op' : CmpOp} {g g' : G2} (ho : OpD X (compareOp op) g) (ho' : OpD X (compareOp op') g') (hm : lastMarks [op, op'] [b, c] = false)
    (h : EW X a ρ fun x ρ1 => EW X b ρ1 fun y ρ2 => g x y fun d => IsB d fun k => (k = true → EW X c ρ2 fun z ρ3 => g' y z fun d => Post d ρ3) ∧ (k = false → Post (.bool false) ρ2)) : EW X (.Compare a [op, op'] [b, c] pos) ρ Post := by
  obtain ⟨r, o, q⟩ := ho
  obtain ⟨r', o', q'⟩ := ho'
  refine EW.by (pe_chain o o' (pe_any a) (pe_any b) (pe_any c) hm) fun σ H Q ⟨Hb, ok, k⟩ => ?_
  refine h.go ok (Grow.refl _ _ _) (Like.refl _) fun v dv Hb1 H1 ρ1 ok1 g1 _ l1 d1 p1 => ?_
  refine p1.go ok1 g1 l1 fun w dw Hb2 H2 ρ2 ok2 g2 s2 l2 d2 p2 => ?_
  refine q Hb2 H2 v w dv dw _ _ (d1.mono (same_rd s2)) d2 ok2.sub p2 fun z dz Hb3 H3 s3 g3 d3 ⟨bz, e, p3, p4⟩ => ?_
  subst e
  cases d3
  have ok3 := ok2.grow g3 s3
  refine ⟨bz, rfl, ?_⟩
  cases bz with
  | false => exact k _ _ Hb3 H3 ρ2 ok3 (g2.trans0 g3) l2 (.bl false) (p4 rfl)
  | true =>
    rw [if_pos rfl]
    refine (p3 rfl).go ok3 (g2.trans0 g3) l2 fun u du Hb4 H4 ρ4 ok4 g4 s4 l4 d4 p4 => ?_
    exact q' Hb4 H4 w u dw du _ Q (d2.mono (same_rd (g3.per.trans s4))) d4 ok4.sub p4 (fin0 k ok4 g4 l4)
theorem tw_chain {op op' : CmpOp} {g g' : G2} {P : Bool → DEnv → Prop} (ho : OpD X (compareOp op) g) (ho' : OpD X (compareOp op') g') (hm : lastMarks [op, op'] [b, c] = false)
    (h : EW X a ρ fun x ρ1 => EW X b ρ1 fun y ρ2 => g x y fun d => IsB d fun k => (k = true → EW X c ρ2 fun z ρ3 => g' y z fun d => IsB d fun k => P k ρ3) ∧ (k = false → P false ρ2)) : TW X (.Compare a [op, op'] [b, c] pos) ρ P := by
  obtain ⟨r, o, q⟩ := ho
  obtain ⟨r', o', q'⟩ := ho'
  refine TW.by (pt_chain o o' (pe_any a) (pe_any b) (pe_any c) hm) fun σ H Q ⟨Hb, ok, k⟩ => ?_
  refine h.go ok (Grow.refl _ _ _) (Like.refl _) fun v dv Hb1 H1 ρ1 ok1 g1 _ l1 d1 p1 => ?_
  refine p1.go ok1 g1 l1 fun w dw Hb2 H2 ρ2 ok2 g2 s2 l2 d2 p2 => ?_
  refine q Hb2 H2 v w dv dw _ _ (d1.mono (same_rd s2)) d2 ok2.sub p2 fun z dz Hb3 H3 s3 g3 d3 ⟨bz, e, p3, p4⟩ => ?_
  subst e
  cases d3
  have ok3 := ok2.grow g3 s3
  refine ⟨bz, rfl, ?_⟩
  cases bz with
  | false => exact ⟨false, rfl, k false Hb3 H3 ρ2 ok3 (g2.trans0 g3) l2 (p4 rfl)⟩
  | true =>
    rw [if_pos rfl]
    refine (p3 rfl).go ok3 (g2.trans0 g3) l2 fun u du Hb4 H4 ρ4 ok4 g4 s4 l4 d4 p4 => ?_
    refine q' Hb4 H4 w u dw du _ _ (d2.mono (same_rd (g3.per.trans s4))) d4 ok4.sub p4 fun z dz Hb5 H5 s5 g5 d5 ⟨bz, e, pz⟩ => ?_
    subst e
    cases d5
    exact ⟨bz, rfl, k bz Hb5 H5 ρ4 (ok4.grow g5 s5) (g4.trans0 g5) l4 pz⟩
/-! str.index -/
def SindexW : PyData → GA
  | .str a, [.str b], P => ∃ i rest, Builtin.Str.occurrences a b 0 a.length 1 = i :: rest ∧ P (.int (i : Nat))
  | _, _, _ => False
theorem md_sindex : MetD X "str.index" SindexW := by
  refine ⟨_, mt_sindex, fun Hb H x xs d ds P Q a as s g k => ?_⟩
  cases a with
  | str a =>
    cases as with
    | nil => exact (show False from g).elim
    | cons h t =>
      cases t with
      | nil =>
        cases h with
        | str b =>
          obtain ⟨i, rest, e, p⟩ := g
          exact ⟨a, b, i, rest, rfl, rfl, e, k.val s (.int _) p⟩
        | _ => exact (show False from g).elim
      | cons _ _ => cases h <;> exact (show False from g).elim
  | _ => exact (show False from g).elim
end
end DL

/-! Texts as lists of signs: S l, and what the operators of texts do with it. -/
namespace DL
open PySem PySem.Spec PyProof.Rows L2
abbrev S (signs : List Nat) : Str := ⟨signs.toArray⟩
theorem S_len (l : List Nat) : (S l).length = l.length := by simp [S, Str.length]
theorem S_app (a b : List Nat) : S a ++ S b = S (a ++ b) := by
  show Str.append (S a) (S b) = S (a ++ b)
  simp [S, Str.append]
theorem S_inj {a b : List Nat} (h : S a = S b) : a = b := by simpa [S] using h
theorem S_dec (a b : List Nat) : decide (S a = S b) = decide (a = b) := by
  by_cases h : a = b
  · rw [h]; simp
  · rw [decide_eq_false h, decide_eq_false fun e => h (S_inj e)]
theorem S_eta (x : Str) : x = S x.cps.toList := by
  cases x
  simp [S]
theorem S_lit (s : String) : Str.ofString s = S (s.toList.map Char.toNat) := Str.ofString_eq_toList s
theorem S_sgn (l : List Nat) : signsOf (S l) = l.map fun c => .str (S [c]) := by simp [signsOf, S]
theorem S_join0 (xs : List (List Nat)) : Str.join Str.empty (xs.map S) = S xs.flatten := by
  induction xs with
  | nil => rfl
  | cons x r ih =>
    cases r with
    | nil =>
      show S x = S ([x].flatten)
      simp
    | cons y r =>
      show S x ++ Str.empty ++ Str.join Str.empty ((y :: r).map S) = _
      rw [ih, show (Str.empty : Str) = S [] from rfl, S_app, S_app]
      simp
/-! slices -/
theorem S_cut (l : List Nat) (lo hi : Option Int) : cutS (S l) lo hi = S ((l.drop (HT.sIx l.length 0 lo)).take (HT.sIx l.length l.length hi - HT.sIx l.length 0 lo)) := by
  unfold cutS
  rw [S_len]
theorem S_cutN (l : List Nat) (i j : Nat) : cutS (S l) (some (i : Int)) (some (j : Int)) = S ((l.drop i).take (j - i)) := by
  rw [S_cut, HT.sIx_nat, HT.sIx_nat]
  by_cases hi : i ≤ l.length
  · rw [Nat.min_eq_left hi]
    by_cases hj : j ≤ l.length
    · rw [Nat.min_eq_left hj]
    · rw [Nat.min_eq_right (by omega), List.take_of_length_le (by rw [List.length_drop]; omega), List.take_of_length_le (by rw [List.length_drop]; omega)]
  · rw [Nat.min_eq_right (show l.length ≤ i by omega), List.drop_length, List.drop_of_length_le (show l.length ≤ i by omega)]
    simp
theorem S_cutD (l : List Nat) (i : Nat) : cutS (S l) (some (i : Int)) none = S (l.drop i) := by
  rw [S_cut, HT.sIx_nat, HT.sIx_none]
  by_cases hi : i ≤ l.length
  · rw [Nat.min_eq_left hi, List.take_of_length_le (by rw [List.length_drop]; omega)]
  · rw [Nat.min_eq_right (show l.length ≤ i by omega), List.drop_length, List.drop_of_length_le (show l.length ≤ i by omega)]
    simp
theorem S_cutT (l : List Nat) (j : Nat) : cutS (S l) none (some (j : Int)) = S (l.take j) := by
  rw [S_cut, HT.sIx_nat, HT.sIx_none, List.drop_zero, Nat.sub_zero]
  by_cases hj : j ≤ l.length
  · rw [Nat.min_eq_left hj]
  · rw [Nat.min_eq_right (show l.length ≤ j by omega), List.take_of_length_le (Nat.le_refl _), List.take_of_length_le (show l.length ≤ j by omega)]
/-- the last k -/
theorem S_cutL (l : List Nat) (k : Nat) (hk : 0 < k) (h : k ≤ l.length) : cutS (S l) (some (-(k : Int))) none = S (l.drop (l.length - k)) := by
  rw [S_cut, HT.sIx_none]
  have e : HT.sIx l.length 0 (some (-(k : Int))) = l.length - k := by
    show (if (-(k : Int)) < 0 then ((-(k : Int)) + (l.length : Int)).toNat else min (-(k : Int)).toNat l.length) = _
    rw [if_pos (by omega)]
    omega
  rw [e, List.take_of_length_le (by rw [List.length_drop]; omega)]
theorem S_at {l : List Nat} {i : Nat} {c : Nat} (h : l[i]? = some c) : atI (S l).cps.toList (i : Int) = some c := by
  have e : (S l).cps.toList = l := by simp [S]
  rw [e]
  exact atI_nat h
/-! a sign in a text -/
theorem S_in (l : List Nat) (c : Nat) : (!(Builtin.Str.occurrences (S l) (S [c]) 0 (S l).length 1).isEmpty) = decide (c ∈ l) := by
  have h := StrLaws.found_one (S l) c
  have e : (S l).cps.toList = l := by simp [S]
  rw [e] at h
  exact h
theorem S_index {l : List Nat} {c : Nat} (h : c ∈ l) : ∃ i rest, Builtin.Str.occurrences (S l) (S [c]) 0 (S l).length 1 = i :: rest ∧ l[i]? = some c ∧ ∀ k, k < i → l[k]? ≠ some c := by
  have e : (S l).cps.toList = l := by simp [S]
  rcases StrLaws.occ_head (S l) (S [c]) 1 (Nat.le_refl _) with ⟨_, hn⟩ | ⟨i, r, h0, ha, hn⟩
  · obtain ⟨i, hi⟩ := List.mem_iff_getElem?.mp h
    refine absurd ((StrLaws.subAt_one (S l) c i).mpr ?_) (hn i)
    rw [e]
    exact hi
  · refine ⟨i, r, h0, ?_, fun k hk q => hn k hk ((StrLaws.subAt_one (S l) c k).mpr ?_)⟩
    · have z := (StrLaws.subAt_one (S l) c i).mp ha
      rw [e] at z
      exact z
    · rw [e]
      exact q
/-! one sign put as a text -/
def subst1 (c : Nat) (z l : List Nat) : List Nat := l.flatMap fun k => if k = c then z else [k]
theorem subst1_app (c : Nat) (z a b : List Nat) : subst1 c z (a ++ b) = subst1 c z a ++ subst1 c z b := by simp [subst1]
theorem subst1_free {c : Nat} {z : List Nat} : ∀ {l : List Nat}, c ∉ l → subst1 c z l = l
  | [], _ => rfl
  | a :: l, h => by
    have h1 : a ≠ c := fun e => h (e ▸ List.mem_cons_self)
    have ih := subst1_free (c := c) (z := z) (l := l) fun m => h (List.mem_cons_of_mem _ m)
    unfold subst1 at ih ⊢
    rw [List.flatMap_cons, if_neg h1, ih]
    rfl
theorem subst1_join (c : Nat) (z : List Nat) : ∀ (xs : List Str), (∀ p ∈ xs, c ∉ p.cps.toList) → subst1 c z (Str.join (S [c]) xs).cps.toList = (Str.join (S z) xs).cps.toList
  | [], _ => rfl
  | [x], h => subst1_free (h x List.mem_cons_self)
  | x :: y :: r, h => by
    have ih := subst1_join c z (y :: r) fun p m => h p (List.mem_cons_of_mem _ m)
    show subst1 c z (x ++ S [c] ++ Str.join (S [c]) (y :: r)).cps.toList = (x ++ S z ++ Str.join (S z) (y :: r)).cps.toList
    have ca : ∀ a b : Str, (a ++ b).cps.toList = a.cps.toList ++ b.cps.toList := fun a b => by
      show (a.cps ++ b.cps).toList = _
      simp
    rw [ca, ca, ca, ca, subst1_app, subst1_app, ih, subst1_free (h x List.mem_cons_self)]
    have e1 : subst1 c z (S [c]).cps.toList = z := by simp [subst1, S]
    rw [e1]
theorem S_replace (l z : List Nat) (c : Nat) : Txt.replace (S l) (S [c]) (S z) = S (subst1 c z l) := by
  have h1 := StrLaws.replace_one (S l) (S z) c
  have h2 := subst1_join c z (Txt.split (S l) (S [c])) (StrLaws.split_free (S l) c)
  rw [StrLaws.join_split] at h2
  have e : (S l).cps.toList = l := by simp [S]
  rw [e] at h2
  rw [h1, S_eta (Str.join (S z) _)]
  exact congrArg S h2.symm
/-! numbers as texts -/
def dig (n : Nat) : List Nat := (Nat.toDigits 10 n).map Char.toNat
theorem dig_str (n : Nat) : Str.ofString (toString (n : Int)) = S (dig n) := text_ofNat n
theorem dig_len (n : Nat) : (dig n).length = (Nat.toDigits 10 n).length := by unfold dig; rw [List.length_map]
theorem dig_pos (n : Nat) : 1 ≤ (dig n).length := by rw [dig_len]; exact (digitsFacts10 n).ge1
theorem dig_le {n : Nat} (h : n < 10000) : (dig n).length ≤ 4 := by rw [dig_len]; exact (digitsFacts10 n).lt10000 h
theorem dig_fig (n : Nat) : ∀ c ∈ dig n, 48 ≤ c ∧ c ≤ 57 := fun c m => by
  obtain ⟨d, hd, e⟩ := List.mem_map.mp m
  rw [← e]
  have h := Nat.isDigit_of_mem_toDigits (by decide) (by decide) hd
  simp only [Char.isDigit, decide_eq_true_eq, Bool.and_eq_true] at h
  obtain ⟨h1, h2⟩ := h
  have h1 : (48 : UInt32).toNat ≤ d.val.toNat := h1
  have h2 : d.val.toNat ≤ (57 : UInt32).toNat := h2
  exact ⟨h1, h2⟩
/-- four figures -/
def chk4 (n : Nat) : List Nat := List.replicate (4 - (dig n).length) 48 ++ dig n
theorem chk4_len {n : Nat} (h : n < 10000) : (chk4 n).length = 4 := by
  unfold chk4
  have := dig_le h
  simp only [List.length_append, List.length_replicate]
  omega
theorem chk4_fig {n : Nat} : ∀ c ∈ chk4 n, 48 ≤ c ∧ c ≤ 57 := fun c m => by
  rcases List.mem_append.mp m with m | m
  · rw [(List.mem_replicate.mp m).2]
    omega
  · exact dig_fig n c m
theorem chk4_cut {n : Nat} (h : n < 10000) : ((List.replicate 3 48 ++ dig n).drop ((List.replicate 3 48 ++ dig n).length - 4)) = chk4 n := by
  have h1 := dig_le h
  have h2 := dig_pos n
  rw [List.length_append, List.length_replicate, List.drop_append, List.drop_replicate, List.length_replicate]
  unfold chk4
  rw [show 3 - (3 + (dig n).length - 4) = 4 - (dig n).length by omega, show 3 + (dig n).length - 4 - 3 = 0 by omega, List.drop_zero]
end DL

/-! {x:04d} -/
namespace DL
open PySem PySem.Spec PySem.Builtin PySem.Builtin.Float PyProof.Rows L2
def f04 : FormatSpec := { fill := 48, align := 61, width := some 4, type := some 100 }
theorem f04_of : parseFormatSpec (Str.ofString "04d").cps.toList "int" 62 = .ok f04 := by rfl
theorem small_log {a : Int} (h0 : 0 ≤ a) (h1 : a < 10000) : a.natAbs.log2 < 1920 := by
  have h : a.natAbs < 10000 := by omega
  by_cases z : a.natAbs = 0
  · rw [z]; decide
  · exact (Nat.log2_lt z).mpr (Nat.lt_of_lt_of_le h (Nat.le_trans (by decide : 10000 ≤ 2 ^ 14) (Nat.pow_le_pow_right (n := 2) (by decide) (Nat.le_of_ble_eq_true rfl))))
section
variable {prog : Program} {w : World} {A : Around} {s : Shared} {E : Value → Shared → Prop}
theorem fmt04 {a : Int} {t : Tok} {Q : Value → Shared → Prop} (h0 : 0 ≤ a) (h1 : a < 10000)
    (h : Q (.str (intSpecText f04 a) (s.toks + 1)) { s with toks := s.toks + 1 + 1 }) : wpAny (model prog w) A (formatField (.int a t) (Str.ofString "04d")) Q E s := by
  have hf := f04_of
  have hlen : (intSpecText f04 a).length ≤ sizeLine := by
    rw [intSpecText_length a rfl rfl, sizeLine_eq]
    have := (digitsFacts10 a.natAbs).lt10000 (by omega)
    have e : f04.width.getD 0 = 4 := rfl
    rw [e]
    split <;> omega
  show wpAny _ _ (holding [.int a t] (pyFormat (.int a t) (Str.ofString "04d"))) Q E s
  refine wpAny_holding ?_
  unfold pyFormat
  refine wpAny_bind (wpAny_mkStr ?_ (show (Str.ofString "04d").length ≤ sizeLine by decide))
  have T : ∀ s' : Shared, s'.TypeIs (.int a t) "int" := fun s' => typeIs_int s' a t
  refine wpAny_bind (m := callSpecial? (.int a t) (Str.ofString "__format__") [.str _ _]) (wpAny_callSpecial?_slot (name := Str.ofString "__format__") (T _) F.slot_int_format ?_)
  refine wpAny_call (codeAny_call_builtin F.slot_int_format.plain F.entry_int_format (F.slot_int_format.check _ _ _ _ _ _ _ _ (T _) (F.args_int_format_2 _ _) ?_))
  delta Builtin.«int.__format__»
  simp only [selfAndOne, noKeywords, Int.intOfSelf, asInt?, asStr?, List.isEmpty_nil, if_true, pure_bind, bind_pure, bind_assoc, show (Value.str (Str.ofString "04d") s.toks == Value.none) = false from rfl, Bool.false_eq_true, if_false]
  refine wpAny_bind (m := typeNameOf _) (wpAny_typeNameOf (typeIs_str _ _ _) (T := "str") (by decide) fun _ => ?_)
  rw [if_neg (show ¬ ((Str.ofString "04d").length == 0) = true by decide)]
  refine iteInduction (motive := fun m => wpAny _ _ m _ _ _) (fun z => absurd z (by decide +kernel)) fun _ => ?_
  first | refine wpAny_bind (m := typeNameOfCut _ _) (wpAny_typeNameOfCut_int ?_) | refine wpAny_bind (m := typeNameOfCut _ _) (wpAny_typeNameOf_int ?_)
  rw [hf]
  refine iteInduction (motive := fun m => wpAny _ _ m _ _ _) (fun _ => ?_) fun z => absurd (show _ = true by decide +kernel) z
  show wpAny _ _ (do let over ← Builtin.overDigitLimit? a; _) _ _ _
  rw [PySem.overDigitLimit_small (small_log h0 h1)]
  refine wpAny_bind (m := pure none) (wpAny_pure ?_)
  show wpAny _ _ (retStr (_ : Str)) _ _ _
  refine (fun (z : Str) (e : z = intSpecText f04 a) => (?_ : wpAny _ _ (retStr z) _ _ _)) _ ?eq
  case eq =>
    unfold intSpecText
    rw [decide_eq_false (show ¬ a < 0 by omega)]
    generalize (Nat.toDigits 10 a.natAbs) = l
    rfl
  subst e
  unfold retStr
  exact wpAny_bind (wpAny_mkStr (wpAny_pure (wpAny_bind (wpAny_isInstance (typeIs_str _ _ _) isSubtype_str_str (wpAny_pure h)))) hlen)
end
end DL

/-! f"{x:04d}" by data; a def whose body wants a token. -/
namespace DL
open PySem PySem.Spec PyProof.Rows L2
theorem text04 {n : Nat} : intSpecText f04 (n : Int) = S (chk4 n) := by
  rw [intSpecText_zero rfl rfl rfl rfl (by omega), dig_str]
  show S (List.replicate (4 - (Nat.toDigits 10 (n : Int).natAbs).length) 48) ++ S (dig n) = _
  rw [S_app, Int.natAbs_natCast, ← dig_len]
  rfl
section
variable {X : Cx} {ρ : DEnv}
theorem pe_f04 {e : Expr} {te : TE} {j : Nat} {p1 p2 pos : Pos} (he : PE X e te) : PE X (.FormattedValue e (-1) (some (.JoinedStr [.Constant (.str "04d") j p1] p2)) pos) (fun σ H Q => te σ H fun v H' => ∃ n : Nat, v = .int n ∧ n < 10000 ∧ Q (.str (S (chk4 n))) H') := by
  constructor
  intro pins s σ H Q I h
  refine wpAny_FormattedValue_spec (thn (he.run pins s σ H _ I h) fun v s1 ⟨x, H1, I1, r1, n, e1, hn, q⟩ => ?_)
  subst e1
  obtain ⟨t, rfl⟩ := r1
  refine wpAny_JoinedStr_one (Calls.Constant_str ⟨_, _, rfl, fmt04 (by omega) (by omega) ?_⟩)
  rw [text04]
  exact ⟨.str _, H1, I1.tok _, ⟨_, rfl⟩, q⟩
theorem ew_f04 {e : Expr} {j : Nat} {p1 p2 pos : Pos} {Post : PyData → DEnv → Prop} (h : EW X e ρ fun d ρ' => ∃ n : Nat, d = .int n ∧ n < 10000 ∧ Post (.str (S (chk4 n))) ρ') :
    EW X (.FormattedValue e (-1) (some (.JoinedStr [.Constant (.str "04d") j p1] p2)) pos) ρ Post := by
  refine EW.by (pe_f04 (pe_any e)) fun σ H Q ⟨Hb, ok, k⟩ => ?_
  refine h.go ok (Grow.refl _ _ _) (Like.refl _) fun v d Hb1 H1 ρ1 ok1 g1 _ l1 d1 ⟨n, e, hn, p1⟩ => ?_
  subst e
  cases d1
  exact ⟨n, rfl, hn, (fin0 k ok1 g1 l1).val ok1.sub (.str _) p1⟩
end
section
variable {P : Program} {w : World} {K : PySem.W.Frag} {mg : Str → Option Value} {base : Heap}
/-- a def with a parameter: a token is out when its body begins -/
theorem fg_tok {x qual : Str} {st : Stmt} {f : Addr} {fd : FuncData} {N ps : List Str} {k : Nat} {W : GA} (F : Fun K x qual st f fd) (S : FnScope N ps (defScope st)) (nc : ∀ y ∈ (defScope st).names, y.2 ≠ .cell) (hps : 1 ≤ ps.length) (len : ∀ ds post, W ds post → ds.length = ps.length)
    (hbody : ∀ (cdv : Value) (A : Around) (outer : List Env) (s : Shared) (H Hb : Hp) (E : XK) (vs : List V) (ds : List PyData) (post : PyData → Prop) (Q : VK), Room k (A.deeper (envOfC qual (defScope st) s.heap.objs.size f cdv)) → Sub Hb H → DaAll K Hb vs ds → W ds post → Ret K Hb H post Q →
      ∃ t, PSsT (cxOf CX0 P w K mg base N qual (defScope st) f cdv A outer s H E) (defBody st) t ∧ t { nx := fun _ H' => Q .non H', rt := Q } (L2.start N vs) H) : FnG P w K mg base (k + 1) f fd ps (SpP K W) := by
  obtain ⟨oc, od, kV, doc, pm, an, cdv, ct, osl, efd, lk, hcd⟩ := F.ex
  subst efd
  have G : FnOk P w K mg base CX0 (k + 1) f _ ps (SpP K W) := fn_ofT lk hcd S nc hps (fun vs H Q E ⟨Hb, ds, R, _, h, q, _⟩ => h.length.trans (len ds _ q)) fun A outer s H vs Q E hr ⟨Hb, ds, R, sb, h, q, r⟩ => hbody cdv A outer s H Hb E vs ds R Q hr sb h q r
  exact ⟨G.len, fun A o s H a us vs Q E r _ => G.run A o s H a us vs Q E r⟩
end
end DL

/-! Escapes, checks, records as lists of signs. -/
namespace DL
open PySem PySem.Spec PyProof.Rows L2
/-! escapes -/
def esc1 (c : Nat) : List Nat := if c = 92 then [92, 92] else if c = 10 then [92, 110] else [c]
def esc (l : List Nat) : List Nat := l.flatMap esc1
theorem esc_cons (c : Nat) (l : List Nat) : esc (c :: l) = esc1 c ++ esc l := List.flatMap_cons
theorem esc_snoc (l : List Nat) (c : Nat) : esc (l ++ [c]) = esc l ++ esc1 c := by simp [esc]
theorem esc_subst (l : List Nat) : subst1 10 [92, 110] (subst1 92 [92, 92] l) = esc l := by
  induction l with
  | nil => rfl
  | cons c l ih =>
    have e : subst1 92 [92, 92] (c :: l) = (if c = 92 then [92, 92] else [c]) ++ subst1 92 [92, 92] l := List.flatMap_cons
    rw [e, subst1_app, ih, esc_cons]
    refine congrArg (· ++ esc l) ?_
    unfold esc1
    by_cases h : c = 92
    · rw [if_pos h, if_pos h]
      rfl
    · rw [if_neg h, if_neg h]
      by_cases k : c = 10
      · subst k
        rfl
      · rw [if_neg k]
        simp [subst1, k]
theorem esc1_len (c : Nat) : 1 ≤ (esc1 c).length ∧ (esc1 c).length ≤ 2 := by
  unfold esc1
  split
  · exact ⟨by decide, by decide⟩
  · split
    · exact ⟨by decide, by decide⟩
    · simp
theorem esc_len (l : List Nat) : (esc l).length ≤ 2 * l.length := by
  induction l with
  | nil => exact Nat.le_refl _
  | cons c l ih =>
    rw [esc_cons, List.length_append, List.length_cons]
    have := (esc1_len c).2
    omega
theorem subst_len (c : Nat) (z : List Nat) (k : Nat) (hz : z.length ≤ k + 1) (l : List Nat) : (subst1 c z l).length ≤ (k + 1) * l.length := by
  induction l with
  | nil => exact Nat.zero_le _
  | cons a l ih =>
    have e : subst1 c z (a :: l) = (if a = c then z else [a]) ++ subst1 c z l := List.flatMap_cons
    rw [e, List.length_append, List.length_cons, Nat.mul_succ]
    have : (if a = c then z else [a]).length ≤ k + 1 := by
      split
      · exact hz
      · simp
    omega
theorem esc_free {l : List Nat} : 10 ∉ esc l := by
  induction l with
  | nil => exact List.not_mem_nil
  | cons c l ih =>
    rw [esc_cons]
    intro m
    rcases List.mem_append.mp m with m | m
    · unfold esc1 at m
      split at m
      · simp at m
      · split at m
        · simp at m
        · rename_i h
          exact h (List.mem_singleton.mp m).symm
    · exact ih m
theorem esc_lt {l : List Nat} (h : ∀ c ∈ l, c < 128) : ∀ c ∈ esc l, c < 128 := by
  induction l with
  | nil => intro c m; cases m
  | cons a l ih =>
    intro c m
    rw [esc_cons] at m
    rcases List.mem_append.mp m with m | m
    · have ha := h a List.mem_cons_self
      unfold esc1 at m
      split at m
      · simp at m; omega
      · split at m
        · simp at m; omega
        · rw [List.mem_singleton.mp m]
          exact ha
    · exact ih (fun c m => h c (List.mem_cons_of_mem _ m)) c m
def unesc : List Nat → Option (List Nat)
  | [] => some []
  | c :: r => if c = 10 then none else if c = 92 then
      (match r with
      | [] => none
      | d :: r' => if d = 92 then (unesc r').map (92 :: ·) else if d = 110 then (unesc r').map (10 :: ·) else none)
    else (unesc r).map (c :: ·)
theorem unesc_nl (r : List Nat) : unesc (10 :: r) = none := by rw [unesc.eq_def]; rfl
theorem unesc_bs (r : List Nat) : unesc (92 :: 92 :: r) = (unesc r).map (92 :: ·) := by rw [unesc]; rfl
theorem unesc_bn (r : List Nat) : unesc (92 :: 110 :: r) = (unesc r).map (10 :: ·) := by rw [unesc]; rfl
theorem unesc_b1 : unesc [92] = none := by rw [unesc]; rfl
theorem unesc_bx {d : Nat} (r : List Nat) (h1 : d ≠ 92) (h2 : d ≠ 110) : unesc (92 :: d :: r) = none := by
  rw [unesc.eq_def]
  show (if d = 92 then _ else if d = 110 then _ else none) = none
  rw [if_neg h1, if_neg h2]
theorem unesc_ot {c : Nat} (r : List Nat) (h1 : c ≠ 10) (h2 : c ≠ 92) : unesc (c :: r) = (unesc r).map (c :: ·) := by
  rw [unesc.eq_def]
  dsimp only
  rw [if_neg h1, if_neg h2]
theorem unesc_esc (f : List Nat) : unesc (esc f) = some f := by
  induction f with
  | nil => rw [esc]; rfl
  | cons c f ih =>
    rw [esc_cons]
    unfold esc1
    by_cases h : c = 92
    · subst h
      rw [if_pos rfl]
      show unesc (92 :: 92 :: esc f) = _
      rw [unesc_bs, ih]
      rfl
    · rw [if_neg h]
      by_cases k : c = 10
      · subst k
        rw [if_pos rfl]
        show unesc (92 :: 110 :: esc f) = _
        rw [unesc_bn, ih]
        rfl
      · rw [if_neg k]
        show unesc (c :: esc f) = _
        rw [unesc_ot _ k h, ih]
        rfl
theorem esc_unesc : ∀ (n : Nat) (l f : List Nat), l.length ≤ n → unesc l = some f → esc f = l
  | _, [], f, _, h => by
    rw [unesc] at h
    cases h
    rfl
  | 0, _ :: _, _, hn, _ => by simp at hn
  | n + 1, c :: r, f, hn, h => by
    have hn : r.length ≤ n := by simpa using hn
    by_cases k : c = 10
    · subst k
      rw [unesc_nl] at h
      cases h
    · by_cases b : c = 92
      · subst b
        cases r with
        | nil =>
          rw [unesc_b1] at h
          cases h
        | cons d r =>
          have hn' : r.length ≤ n := by simp at hn; omega
          by_cases h1 : d = 92
          · subst h1
            rw [unesc_bs] at h
            obtain ⟨g, hg, rfl⟩ := Option.map_eq_some_iff.mp h
            rw [esc_cons, esc_unesc n r g hn' hg]
            rfl
          · by_cases h2 : d = 110
            · subst h2
              rw [unesc_bn] at h
              obtain ⟨g, hg, rfl⟩ := Option.map_eq_some_iff.mp h
              rw [esc_cons, esc_unesc n r g hn' hg]
              rfl
            · rw [unesc_bx r h1 h2] at h
              cases h
      · rw [unesc_ot r k b] at h
        obtain ⟨g, hg, rfl⟩ := Option.map_eq_some_iff.mp h
        rw [esc_cons, esc_unesc n r g hn hg]
        unfold esc1
        rw [if_neg b, if_neg k]
        rfl
/-- sign by sign, as a law's hand reads -/
def scan1 (s : List Nat × Bool) (c : Nat) : List Nat × Bool := (if s.2 then s.1 ++ [if c = 110 then 10 else c] else if c = 92 then s.1 else s.1 ++ [c], decide (c = 92) && !s.2)
def scan (l : List Nat) : List Nat × Bool := l.foldl scan1 ([], false)
theorem scan_esc : ∀ (f g : List Nat), (esc f).foldl scan1 (g, false) = (g ++ f, false)
  | [], g => by simp [esc]
  | c :: f, g => by
    rw [esc_cons, List.foldl_append]
    have e : (esc1 c).foldl scan1 (g, false) = (g ++ [c], false) := by
      unfold esc1
      by_cases h : c = 92
      · subst h
        rfl
      · rw [if_neg h]
        by_cases k : c = 10
        · subst k
          rfl
        · rw [if_neg k]
          show (if c = 92 then g else g ++ [c], decide (c = 92) && true) = _
          rw [if_neg h, decide_eq_false h]
          rfl
    rw [e, scan_esc f (g ++ [c])]
    simp
theorem scan_unesc (l : List Nat) : (if (scan l).2 = false ∧ esc (scan l).1 = l then some (scan l).1 else none) = unesc l := by
  cases h : unesc l with
  | some f =>
    have e := esc_unesc l.length l f (Nat.le_refl _) h
    have s : scan l = (f, false) := by
      unfold scan
      rw [← e, scan_esc]
      rfl
    rw [s]
    exact if_pos ⟨rfl, e⟩
  | none =>
    refine if_neg fun ⟨_, e⟩ => ?_
    have := unesc_esc (scan l).1
    rw [e, h] at this
    cases this
theorem scan_len (l : List Nat) : ∀ s : List Nat × Bool, (l.foldl scan1 s).1.length ≤ s.1.length + l.length := by
  induction l with
  | nil => intro s; exact Nat.le_refl _
  | cons c l ih =>
    intro s
    refine Nat.le_trans (ih (scan1 s c)) ?_
    have : (scan1 s c).1.length ≤ s.1.length + 1 := by
      unfold scan1
      dsimp only
      split
      · simp
      · split <;> simp
    rw [List.length_cons]
    omega
theorem scan_lt (l : List Nat) : ∀ s : List Nat × Bool, (∀ c ∈ l, c < 128) → (∀ c ∈ s.1, c < 128) → ∀ c ∈ (l.foldl scan1 s).1, c < 128 := by
  induction l with
  | nil => intro s _ h; exact h
  | cons c l ih =>
    intro s h1 h2
    refine ih (scan1 s c) (fun c m => h1 c (List.mem_cons_of_mem _ m)) ?_
    have hc := h1 c List.mem_cons_self
    intro d m
    unfold scan1 at m
    dsimp only at m
    split at m
    · rcases List.mem_append.mp m with m | m
      · exact h2 d m
      · rw [List.mem_singleton.mp m]
        split <;> omega
    · split at m
      · exact h2 d m
      · rcases List.mem_append.mp m with m | m
        · exact h2 d m
        · rw [List.mem_singleton.mp m]
          exact hc
/-! checks -/
def chkN (l : List Nat) : Nat := l.foldl (fun m c => (m * 131 + c) % 9973) 1
theorem chkN_lt (l : List Nat) : chkN l < 9973 := by
  have h : ∀ (l : List Nat) (m : Nat), m < 9973 → l.foldl (fun m c => (m * 131 + c) % 9973) m < 9973 := by
    intro l
    induction l with
    | nil => intro m h; exact h
    | cons c l ih => intro m h; exact ih _ (Nat.mod_lt _ (by decide))
  exact h l 1 (by decide)
def chkT (l : List Nat) : List Nat := chk4 (chkN l)
theorem chkT_len (l : List Nat) : (chkT l).length = 4 := chk4_len (Nat.lt_trans (chkN_lt l) (by decide))
theorem chkT_fig (l : List Nat) : ∀ c ∈ chkT l, 48 ≤ c ∧ c ≤ 57 := chk4_fig
/-! records -/
inductive Deed where
  | add (l : List Nat)
  | drop (n : Nat)
def Deed.data : Deed → PyData
  | .add l => .tuple [.str "add", .str (S l)]
  | .drop n => .tuple [.str "drop", .int (n : Int)]
def bodyT : Deed → List Nat
  | .add l => 43 :: esc l
  | .drop n => 45 :: dig n
def sealT (b : List Nat) : List Nat := chkT b ++ b ++ [10]
def recT (d : Deed) : List Nat := sealT (bodyT d)
def FigOk (f : List Nat) : Prop := (1 ≤ f.length ∧ f.length ≤ 4) ∧ ∀ c ∈ f, 48 ≤ c ∧ c ≤ 57
instance (f : List Nat) : Decidable (FigOk f) := by unfold FigOk; exact inferInstance
/-- what stands behind the check -/
def readB (b : List Nat) : Option Deed :=
  if b.headD 0 = 43 then (unesc b.tail).map .add
  else if b.headD 0 = 45 ∧ FigOk b.tail ∧ ¬ (1 < b.tail.length ∧ b.tail.headD 0 = 48) then some (.drop (NumText.digitsVal b.tail)) else none
def rowN (r : List Nat) : Nat := (r.takeWhile fun c => !decide (c = 10)).length
def readR (r : List Nat) : Option (Deed × Nat) :=
  if rowN r = r.length then none else if ((r.take (rowN r)).drop 4).length = 0 ∨ r.take 4 ≠ chkT ((r.take (rowN r)).drop 4) then none else (readB ((r.take (rowN r)).drop 4)).map fun d => (d, rowN r + 1)
theorem rowN_le (r : List Nat) : rowN r ≤ r.length := (List.takeWhile_prefix _).length_le
theorem rowN_of : ∀ (r : List Nat) (n : Nat), (∀ k, k < n → r[k]? ≠ some 10) → (n = r.length ∨ r[n]? = some 10) → rowN r = n
  | [], n, _, h => by
    rcases h with h | h
    · exact h.symm
    · simp at h
  | c :: r, 0, _, h => by
    rcases h with h | h
    · simp at h
    · have : c = 10 := by simpa using h
      subst this
      rfl
  | c :: r, n + 1, h1, h => by
    have hc : c ≠ 10 := by simpa using h1 0 (by omega)
    have ih := rowN_of r n (fun k hk => by simpa using h1 (k + 1) (by omega)) (by simpa using h)
    unfold rowN at ih ⊢
    rw [List.takeWhile_cons, if_pos (by simpa using hc), List.length_cons, ih]
theorem rowN_app {a : List Nat} (h : 10 ∉ a) (t : List Nat) : rowN (a ++ 10 :: t) = a.length := by
  refine rowN_of _ _ (fun k hk e => h ?_) (.inr ?_)
  · rw [List.getElem?_append_left hk] at e
    exact List.mem_of_getElem? e
  · rw [List.getElem?_append_right (Nat.le_refl _)]
    simp
theorem rowN_free {a : List Nat} (h : 10 ∉ a) : rowN a = a.length := rowN_of _ _ (fun k _ e => h (List.mem_of_getElem? e)) (.inl rfl)
theorem chkT_free (l : List Nat) : 10 ∉ chkT l := fun m => by have := chkT_fig l 10 m; omega
def DeedOk : Deed → Prop
  | .add l => l.length ≤ 100 ∧ ∀ c ∈ l, c < 128
  | .drop n => n ∈ [0, 3, 7, 10, 999, 9999]
theorem bodyT_free {d : Deed} : 10 ∉ bodyT d := by
  cases d with
  | add l =>
    intro m
    rcases List.mem_cons.mp m with m | m
    · cases m
    · exact esc_free m
  | drop n =>
    intro m
    rcases List.mem_cons.mp m with m | m
    · cases m
    · have := dig_fig n 10 m
      omega
theorem readB_body {d : Deed} (h : DeedOk d) : readB (bodyT d) = some d := by
  cases d with
  | add l =>
    show (if (43 : Nat) = 43 then (unesc (esc l)).map Deed.add else _) = _
    rw [if_pos rfl, unesc_esc]
    rfl
  | drop n =>
    simp only [DeedOk, List.mem_cons, List.not_mem_nil, or_false] at h
    rcases h with rfl | rfl | rfl | rfl | rfl | rfl <;> rfl
theorem readR_rec {d : Deed} (h : DeedOk d) (t : List Nat) : readR (recT d ++ t) = some (d, (recT d).length) := by
  have hf : 10 ∉ chkT (bodyT d) ++ bodyT d := fun m => (List.mem_append.mp m).elim (chkT_free _) bodyT_free
  have e : recT d ++ t = (chkT (bodyT d) ++ bodyT d) ++ 10 :: t := by
    unfold recT sealT
    simp
  have hn : rowN (recT d ++ t) = (chkT (bodyT d) ++ bodyT d).length := by rw [e, rowN_app hf]
  have hb : ((recT d ++ t).take (rowN (recT d ++ t))).drop 4 = bodyT d := by
    rw [hn, e, List.take_append_of_le_length (Nat.le_refl _), List.take_length, List.drop_append_of_le_length (by rw [chkT_len]; exact Nat.le_refl _), ← chkT_len (bodyT d), List.drop_length]
    rfl
  have hc : (recT d ++ t).take 4 = chkT (bodyT d) := by
    rw [e, List.append_assoc, List.take_append_of_le_length (by rw [chkT_len]; exact Nat.le_refl _), ← chkT_len (bodyT d), List.take_length]
  have hp : 0 < (bodyT d).length := by cases d <;> exact Nat.succ_pos _
  unfold readR
  rw [hb, hc, if_neg, if_neg, readB_body h, hn]
  · show some (d, (chkT (bodyT d) ++ bodyT d).length + 1) = _
    unfold recT sealT
    simp only [List.length_append, List.length_singleton]
  · rintro (z | z)
    · omega
    · exact z rfl
  · rw [hn, e]
    simp
theorem readR_free {r : List Nat} (h : 10 ∉ r) : readR r = none := by
  unfold readR
  rw [if_pos (rowN_free h)]
def readD (at_ : Nat) : Option (Deed × Nat) → PyData
  | none => .none
  | some (d, n) => .tuple [d.data, .int ((at_ + n : Nat) : Int)]
def optD : Option (List Nat) → PyData
  | none => .none
  | some f => .str (S f)
end DL

/-! An own exception over ValueError whose __init__ begins with super().__init__(..). -/
namespace DL
open PySem PySem.Spec PyProof.Rows L2
/-- the scope of a method that has __class__ free -/
structure MScope (N ps : List Str) (sc : Scope) : Prop where
  kind : sc.kind = .function
  co : sc.isCoroutine = false
  gen : sc.isGenerator = false
  par : ∀ p ∈ ps, sc.names.lookup p = some .local
  noc : ∀ y ∈ sc.names, y.2 ≠ .cell
  fre : ∀ y ∈ sc.names, y.2 = .free → y.1 = "__class__"
  pre : N.take ps.length = ps
  nd : N.Nodup
  sup : sc.names.lookup ("super" : Str) = some .globalImplicit
  cls : sc.names.lookup ("__class__" : Str) = some .free
abbrev envM (qual : Str) (scope : Scope) (L f cda cc : Addr) : Env := PySem.W.ksEnv qual scope L f (.ref cda) cc
def cxM (P : Program) (w : World) (K : PySem.W.Frag) (mg : Str → Option Value) (base : Heap) (N : List Str) (qual : Str) (scope : Scope) (f cda cc : Addr) (A : Around) (outer : List Env) (s : Shared) (H : Hp) : Cx where
  prog := P
  w := w
  K := K
  mg := mg
  base := base
  A := A.deeper (envM qual scope s.heap.objs.size f cda cc)
  N := N
  s_0 := s
  H_0 := H
  env := envM qual scope s.heap.objs.size f cda cc
  outer := outer
  stack := envM qual scope s.heap.objs.size f cda cc :: outer
  ex := []
  calm := true
  fn := fun x => x != "__class__"
  pn := []
  xe := fun _ _ => False
section
variable {P : Program} {w : World} {K : PySem.W.Frag} {mg : Str → Option Value} {base : Heap} {N ps : List Str} {qual : Str} {scope : Scope} {f cda cc : Addr} {A : Around} {outer : List Env} {s s1 : Shared} {H : Hp} {us : List Value} {vs : List V}
theorem one_cell {x : Str} {c : Addr} (e : [(("__class__" : Str), cc)].lookup x = some c) : x = "__class__" ∧ c = cc := by
  by_cases h : x = "__class__"
  · subst h
    simp [List.lookup] at e
    exact ⟨rfl, e.symm⟩
  · have hb : (x == ("__class__" : Str)) = false := beq_eq_false_iff_ne.mpr h
    simp [List.lookup, hb] at e
theorem par_at {ps : List Str} {us : List Value} {i : Nat} {y : Str} {u : Value} (nd : ps.Nodup) (hp : ps[i]? = some y) (hu : us[i]? = some u) : (ps.zip us).reverse.lookup y = some u := by
  have b := bindL_get (kindOf := fun _ => some .local) (m := fun _ => none) nd hp hu rfl
  rw [bindL_loc _ _ fun _ _ => rfl] at b
  simpa using b
theorem invM (S : MScope N ps scope) (hd : A.handled = none) (e0 : Env0 P w K mg base A outer s H) (hl : vs.length = ps.length) (r : Vals vs us) {cl : Value} {cld : Option Addr} {v : Option Value} {csl : Array (Option Value)} (hcc : K.lookup cc = some ⟨cl, cld, .cell v, csl⟩)
    (hns : s1.heap.Ns s.heap.objs.size (fun x => (ps.zip us).reverse.lookup x)) (k : ∀ b o, s.heap.get? b = some o → s1.heap.get? b = some o) (hos : s1.os = s.os) (hg : s1.gens = s.gens) : Inv (cxM P w K mg base N qual scope f cda cc A outer s H) [] (L2.start N vs) H s1 := by
  have hpl : ps.length ≤ N.length := by
    have := congrArg List.length S.pre
    rw [List.length_take] at this
    omega
  have cb : base.get? cc = some ⟨cl, cld, .cell v, csl⟩ := e0.mod.kin _ _ hcc
  have cs := (e0.bs _ _ cb).1
  have noA : ∀ b : Addr, b ∉ (cxM P w K mg base N qual scope f cda cc A outer s H).ex := fun b z => absurd (show b ∈ ([] : List Addr) from z) (by simp)
  have free : ∀ y, scope.names.lookup y = some .free → y = "__class__" := fun y h => S.fre _ (PySem.mem_of_lookup h) rfl
  have ok : (cxM P w K mg base N qual scope f cda cc A outer s H).Ok := {
    mod := e0.mod
    kind := S.kind
    glob := rfl
    blt := rfl
    above := Nat.le_refl _
    inj := fun x y c h1 h2 => (one_cell h1).1.trans (one_cell h2).1.symm
    has := fun y hy => by
      rcases hy with hy | hy
      · exact absurd rfl (S.noc _ (PySem.mem_of_lookup (show scope.names.lookup y = some .cell from hy)))
      · rw [free y hy]
        exact ⟨cc, rfl⟩
    cab := fun x c h1 h2 => by
      rw [(one_cell h2).1] at h1
      cases h1
    hd := fun _ => hd
    frames := Around.frames_deeper e0.frames
    stk := .inr ⟨rfl, rfl⟩
    exf := fun b z => absurd z (noA b)
    bs := e0.bs
    bsz := e0.bsz
    noex := fun b _ _ => noA b
    exfs := fun b z => absurd z (noA b)
    funs := e0.funs
    frf := e0.frf }
  refine ⟨ok, hos, by rw [hg]; exact e0.bare, Un.kept k, ⟨_, hns, fun i y v h1 h2 h3 => ?_⟩, fun y c h => ⟨v, (show s1.heap.IsCell c v from (one_cell h).2 ▸ ⟨_, k _ _ cs, rfl⟩)⟩, e0.hok.fresh (Nat.le_refl _), fun y c h => by rw [(one_cell h).2]; exact (e0.bs _ _ cb).2, fun p hp => absurd (show p ∈ ([] : List (Addr × Obj)) from hp) (by simp), e0.hok.kept k, ?_⟩
  · have hi : i < vs.length := by
      unfold L2.start at h2
      by_cases hi : i < vs.length
      · exact hi
      · rw [List.getElem?_append_right (by simpa using hi), List.getElem?_replicate] at h2
        split at h2 <;> cases h2
    have ha : vs[i]? = some v := by
      unfold L2.start at h2
      rw [List.getElem?_append_left (by simpa using hi), List.getElem?_map] at h2
      cases e : vs[i]? with
      | none =>
        rw [e] at h2
        cases h2
      | some a =>
        rw [e] at h2
        cases h2
        rfl
    obtain ⟨u, hu, rv⟩ := r.get ha
    have hp : ps[i]? = some y := by
      rw [← S.pre, List.getElem?_take_of_lt (by omega)]
      exact h1
    have ndP : ps.Nodup := by
      rw [← S.pre]
      exact S.nd.sublist (List.take_sublist _ _)
    have hk := S.par y (List.mem_of_getElem? hp)
    exact ⟨u, rv, .inl ⟨hk, par_at ndP hp hu⟩⟩
  · show (L2.start N vs).length = N.length
    unfold L2.start
    rw [List.length_append, List.length_map, List.length_replicate]
    omega
theorem kth {α : Type} {l : List α} {x : α} (h : l.head? = some x) : ∃ r, l = x :: r := by
  cases l with
  | nil => cases h
  | cons a r =>
    cases h
    exact ⟨r, rfl⟩
/-- THE RULE: such an __init__, by what stands behind its first row -/
theorem init_super {CX : CXT} {k : Nat} {C : Addr} {name : Str} {params : Arguments} {dV kV doc pm ct oc ccl cl : Value} {an od cdd cld : Option Addr} {osl ccs csl : Array (Option Value)} {cvs : Array Value} {file : Str} {tf : Tok} {ar : Arg} {sp : Sp}
    {p0 p1 p2 p3 p4 : Pos} {e : Expr} {es : List Expr} {rest : List Stmt}
    (lk : K.lookup f = some ⟨oc, od, .func (PySem.W.ksFn name qual params (.Expr (.Call (.Attribute (.Call (.Name "super" p0) [] [] p1) "__init__" p2) (e :: es) [] p3) p4 :: rest) scope dV kV doc pm an (.ref cda) ct cc), osl⟩)
    (hcd : PySem.W.codeIn K (.ref cda) qual = true) (hco : K.lookup cda = some ⟨ccl, cdd, .fields cvs, ccs⟩) (hvs : cvs[2]? = some (.str file tf)) (hfile : ((P.main.file : Str) == file) = true)
    (hcell : K.lookup cc = some ⟨cl, cld, .cell (some (.ref C)), csl⟩) (T : OexC K C) (hsup : PySem.W.ks_superIn K C C "__init__" = some (some (.builtin "ValueError.__init__"))) (hmg : mg "super" = none)
    (htop : (P.main.scope.names.lookup ("super" : Str)).isSome = false) (hot : PySem.W.nsIn K cStatics "thirdparty.any" = some none) (hVE : PySem.W.subIn K (.ref C) (.type "ValueError") = some true) (hCC : PySem.W.mroIn K C (.ref C) = some true)
    (S : MScope N ps scope) (hpar : (params.posonlyargs ++ params.args).head? = some ar) (har : ps.head? = some ar.arg) (len : ∀ vs H Q E, sp vs H Q E → vs.length = ps.length)
    (hbody : ∀ (A : Around) (outer : List Env) (s : Shared) (H : Hp) (vs : List V) (Q : VK) (E : XK), Room k (A.deeper (envM qual scope s.heap.objs.size f cda cc)) → sp vs H Q E →
      ∃ ta t a ws, vs = .ref a :: ws ∧ H a = some (exo a C none) ∧ PA (cxM P w K mg base N qual scope f cda cc A outer s H) (e :: es) ta ∧ PSs (cxM P w K mg base N qual scope f cda cc A outer s H) rest t ∧
        ta (L2.start N vs) H fun us H1 => us.length ≤ 1000 ∧ H1 a = some (exo a C none) ∧ t { nx := fun _ H' => Q .non H', rt := Q } (L2.start N vs) H1)
    (he : ∀ env, starEach (e :: es) env = (false, eval e env) :: starEach es env) (hpl : ∀ env, (backTo p3 (starEach es env)).any (·.1) = false) {pl : Env → Sem Bool}
    (hce : ∀ env, eval (.Call (.Attribute (.Call (.Name "super" p0) [] [] p1) "__init__" p2) (e :: es) [] p3) env = (do
      let ov ← attributeBase (.Call (.Name "super" p0) [] [] p1) "__init__" env (eval (.Call (.Name "super" p0) [] [] p1) env)
      standAt p2.atName
      let (f, first) ← holding [ov] (getMethod ov "__init__" (pl env))
      callWith p3 f first (backTo p3 (starEach (e :: es) env)) [])) :
    FnOk P w K mg base CX (k + 1) f (PySem.W.ksFn name qual params (.Expr (.Call (.Attribute (.Call (.Name "super" p0) [] [] p1) "__init__" p2) (e :: es) [] p3) p4 :: rest) scope dV kV doc pm an (.ref cda) ct cc) ps sp := by
  refine ⟨len, fun A outer s H args us vs Q E hr e0 hb r hsp => ?_⟩
  have hl := len _ _ _ _ hsp
  have hul : us.length = ps.length := by rw [← r.length, hl]
  have KX : K.In s.heap := e0.mod.kin.keeps fun b o z => (e0.bs b o z).1
  have lim : s.heap.NoLimit := e0.mod.nolimit.keeps fun b o z => (e0.bs b o z).1
  have hloc : ∀ y ∈ ps.zip us, scope.names.lookup y.1 = some .local := fun ⟨n, v⟩ hy => S.par n (List.of_mem_zip hy).1
  refine PySem.ks_codeAny_call_defAt hr.depth (KX _ _ lk) rfl lim (PySem.W.codeRec_of KX hcd) rfl hb S.noc hloc (fun h1 hns hk => ?_) S.co S.gen S.kind
  show _root_.PySem.wpAt (model P w) (A.deeper (envM qual scope s.heap.objs.size f cda cc)) (.func _ (envM qual scope s.heap.objs.size f cda cc)) (execs _ (envM qual scope s.heap.objs.size f cda cc)) _ _ _
  obtain ⟨ta, t, a, ws, ev, ha, hpa, hpss, hq⟩ := hbody A outer s H vs Q E (hr.deeper _) hsp
  have I : Inv (cxM P w K mg base N qual scope f cda cc A outer s H) [] (L2.start N vs) H { s with heap := h1, toks := s.toks + (ps.zip us).length } := invM S hr.hd e0 hl r hcell hns hk rfl rfl
  have X1 : K.In h1 := KX.keeps hk
  obtain ⟨nm, q, Nn, bs, bm, sn, sub, ab, col, dd, k0, k1, k2, k3, k5, hC, hbm⟩ := T.cls
  obtain ⟨t1, ho⟩ := exo_at I.hok ha
  have ho : h1.get? a = _ := ho
  obtain ⟨mb, b1, b2⟩ := e0.mod.blt
  have kb : ∀ b o, base.get? b = some o → h1.get? b = some o := fun b o z => hk b o (e0.bs b o z).1
  obtain ⟨pr, epr⟩ := kth har
  obtain ⟨ur, eur⟩ : ∃ ur, us = .ref a :: ur := by
    subst ev
    cases r with
    | @cons _ u0 _ ur ra rw' =>
      obtain rfl : u0 = Value.ref a := ra
      exact ⟨ur, rfl⟩
  have ndP : ps.Nodup := by
    rw [← S.pre]
    exact S.nd.sublist (List.take_sublist _ _)
  have hself : (ps.zip us).reverse.lookup ar.arg = some (.ref a) := par_at (i := 0) ndP (by rw [epr]; rfl) (by rw [eur]; rfl)
  have hsl : scope.names.lookup ar.arg = some .local := S.par _ (by rw [epr]; exact List.mem_cons_self)
  have hcl : PySem.W.clsIn K C = some { name := nm, bases := bs, mro := .ref C :: bm, ns := Nn, qualname := q, hasDict := true, slotNames := sn, subclasses := sub, abstract := ab, collection := col, hasDel := false } := by
    unfold PySem.W.clsIn
    rw [hC] <;> rfl
  unfold PySem.W.ks_superIn at hsup
  rw [hcl] at hsup
  refine PySem.ks_wpAt_execs_cons (PySem.ks_wpAt_Expr_any (PySem.ks_wpAt_MethodCall ?_ (hce _)) I.quiet)
  refine PySem.ks_wpAt_super_base (env := envM qual scope s.heap.objs.size f cda cc) S.sup S.cls rfl rfl (X1 _ _ lk) rfl hpar rfl (X1 _ _ hco) rfl hvs hfile htop ?_
  refine PySem.W.ks_loadName_global S.kind S.sup (PySem.Calls.loadGlobal_builtin (env := envM qual scope s.heap.objs.size f cda cc) (e0.mod.glob.keeps kb) hmg (b1.keeps kb) ((b2 _ (by decide)).trans (show bootBuiltins "super" = some (.type "super") by decide +kernel)) ⟨rfl, ?_⟩)
  refine wpAny_loadName_free S.kind S.cls rfl ⟨_, X1 _ _ hcell, rfl⟩ (wpAny_loadName_local S.kind hsl hns hself ?_)
  refine PySem.ks_wpAny_isType_cls (X1 _ _ hC) rfl ⟨rfl, ?_⟩
  refine PySem.ks_wpAny_call_super (X1 _ _ hC) rfl ho rfl (fun c z => nomatch z) (PySem.W.looks_mroIn X1 hCC) (fun h2 e2 k2 => ?_)
  have X2 : K.In h2 := X1.keeps k2
  have in2 : PySem.W.InstAt h2 a _ C none := ⟨k2 _ _ ho, rfl, rfl, trivial⟩
  refine PySem.W.kxs_getMethod PySem.W.kxs_ValueError (l₀ := .ref C :: bm) e2 (PySem.W.looks_opaque X2 hot) (fun A Q E s k q => wpAny_bind ((PySem.W.looks_clsIn X2 hcl) A _ E s k (wpAny_pure q))) rfl X2 hsup (in2.type.andThen (PySem.W.looks_subIn X2 hVE)) (PySem.W.ks_ne X2 in2 hcl) rfl ?_
  have hu : (h2.push (PySem.W.kxs_mw "ValueError.__init__" a)).get? h2.objs.size = some (PySem.W.kxs_mw "ValueError.__init__" a) := Heap.get?_push_at rfl rfl
  have I2 : Inv (cxM P w K mg base N qual scope f cda cc A outer s H) [] (L2.start N vs) H { s with heap := h2, toks := s.toks + (ps.zip us).length } := I.kept k2
  have I3 : Inv (cxM P w K mg base N qual scope f cda cc A outer s H) [] (L2.start N vs) H { s with heap := h2.push (PySem.W.kxs_mw "ValueError.__init__" a), toks := s.toks + (ps.zip us).length + 1 } := I2.kept fun b o z => Heap.get?_push_of_some _ z
  have I4 := I3.pinned (fp := [h2.objs.size]) (fun b m => by
    rw [List.mem_singleton.mp m]
    exact I2.fpOk (Nat.le_refl _) (I2.hok.fresh (Nat.le_refl _))) (fun b m => by
    rw [List.mem_singleton.mp m]
    exact ⟨_, hu, fun v z => by cases z⟩)
  have hst := he (envM qual scope s.heap.objs.size f cda cc)
  have run := hpa.run p3 _ _ _ H _ I4 hq
  rw [show starEach (e :: es) (cxM P w K mg base N qual scope f cda cc A outer s H).env = _ from hst] at run
  rw [hst]
  refine PySem.W.kxs_callWith (i := "ValueError.__init__") (x := a) (by show (false || _) = false; rw [Bool.false_or]; exact hpl _) (Calls.evalArgs_plain (wpAny_mono run (fun us2 s4 z => ?_) fun _ _ z => z.elim))
  obtain ⟨vs2, H1, I5, r5, hz, ha5, hq5⟩ := z
  have hu5 := (I5.pin (h2.objs.size, PySem.W.kxs_mw "ValueError.__init__" a) (List.mem_append_right _ (mem_pinsAt List.mem_cons_self hu))).1
  refine ⟨hu5, ?_⟩
  have I6 : Inv (cxM P w K mg base N qual scope f cda cc A outer s H) [] (L2.start N vs) H1 s4 := I5.unpinned (pins := [])
  obtain ⟨h5, g5, d5, t5, os5⟩ := s4
  obtain ⟨t6, ho5⟩ := exo_at I6.hok ha5
  have X5 : K.In h5 := I6.kIn
  have hlen : us2.length ≤ sizeLine := by
    rw [← Paired.length r5, sizeLine_eq]
    omega
  refine wpAny_call (codeAny_of_tree ?_)
  show wpAny _ _ (callAny (.ref h2.objs.size) ⟨us2, []⟩) _ _ _
  simp only [callAny]
  refine wpAny_bind (wpAny_load (a := h2.objs.size) hu5 ?_)
  simp only [PySem.W.kxs_mw, if_true, show (Value.type "method-wrapper" == Value.type "method" || Value.type "method-wrapper" == Value.type "builtin_function_or_method" || Value.type "method-wrapper" == Value.type "method-wrapper") = true by decide]
  refine PySem.W.KFB.if_so (by decide) (wpAny_bind (PySem.W.check_bound_init F.excBase_ValueError.toExcCallFacts (X5 _ _ hC) ho5 rfl (wpAny_bind (wpAny_pure (wpAny_pure ⟨PySem.plainId_quiet F.excBase_ValueError.init.plain _, codeAny_builtin F.excBase_ValueError.initEntry ?_⟩)))))
  refine PySem.W.exc_init_tree (cls := .ref C) (t0 := t6) (dv := none) (c2 := .none) (c3 := .none) (b4 := .bool false) ho5 hlen fun h6 k6 x6 _ => ?_
  have J := I6.write (t' := t5) (x := a) (e := a) (o := exo a C none) (by rw [ha5]; exact True.intro) (.inl rfl) k6 ⟨_, x6⟩ (exo_ok x6)
  have eu : upd H1 a (exo a C none) = H1 := by
    funext b
    by_cases hb : b = a
    · rw [hb, upd_same, ha5]
    · rw [upd_ne hb]
  rw [eu] at J
  show _root_.PySem.wpAt _ _ _ (execs rest _) _ _ _
  refine wpAt_of_wpAny (wpAny_mono (hpss.run _ _ _ _ _ J hq5) (fun fl s' z => ?_) fun _ _ z => z.elim)
  have fin : ∀ {σ' : L2.St} {H' : Hp} {v : V} {u : Value}, Inv (cxM P w K mg base N qual scope f cda cc A outer s H) [] σ' H' s' → RelV v u → Q v H' → CE outer P w H s Q u s' :=
    fun {σ' H' v u} J rv q => ⟨v, H', J.os, J.bare, J.base, J.hok, rv, q⟩
  cases fl with
  | ret u =>
    obtain ⟨v, σ', H', J, rv, q⟩ := z
    exact fin J rv q
  | next =>
    obtain ⟨σ', H', J, q⟩ := z
    exact fin (v := V.non) (u := Value.none) J rfl q
  | brk =>
    obtain ⟨_, _, _, q⟩ := z
    exact q.elim
  | cont =>
    obtain ⟨_, _, _, q⟩ := z
    exact q.elim
end
end DL

/-! The data layer: statements that may raise an own exception. -/
namespace DL
open PySem PySem.Spec PyProof.Rows L2
/-- the exception of the class at C whose fields are ds -/
def XnOk (K : PySem.W.Frag) (Hb H : Hp) (C : Addr) (ds : List (Str × PyData)) (cls : Value) (d : Option Addr) : Prop := cls = .ref C ∧ ∃ dd fs, d = some dd ∧ H dd = some (.xd fs) ∧ ∀ f x, (f, x) ∈ ds → ∃ v, fs.lookup f = some v ∧ Da K Hb v x
abbrev XPT := Addr → List (Str × PyData) → DEnv → Prop
/-- what a raise comes to: an exception that XP lets is what W wishes -/
def XnK (K : PySem.W.Frag) (pr : List Nat) (ρ : DEnv) (XP : XPT) (W : WX) (σ : L2.St) (Hb H : Hp) : Prop :=
  ∀ C ds cls d σ' ρ' Hb2 H2 Hb3 H3, Fin K pr σ ρ Hb H σ' ρ' Hb2 H2 → Sub Hb3 H3 → Grow N0 Hb2 H2 Hb3 H3 → XnOk K Hb3 H3 C ds cls d → XP C ds ρ' → W cls d σ' H3
def tWX (K : PySem.W.Frag) (pr : List Nat) (ρ : DEnv) (D : DE) (XP : XPT) (W : WX) : TS := fun DD σ H => ∃ Hb, Ok K σ Hb H ρ ∧ (∀ σ' ρ' Hb2 H2, Fin K pr σ ρ Hb H σ' ρ' Hb2 H2 → D.nx ρ' → DD.nx σ' H2) ∧
  (∀ v r σ' ρ' Hb2 H2, Fin K pr σ ρ Hb H σ' ρ' Hb2 H2 → RDa K σ' ρ' H Hb2 H2 v r → D.rv r ρ' → DD.rt v H2) ∧ (∀ σ' ρ' Hb2 H2, Fin K pr σ ρ Hb H σ' ρ' Hb2 H2 → D.bk ρ' → DD.bk σ' H2) ∧ (∀ σ' ρ' Hb2 H2, Fin K pr σ ρ Hb H σ' ρ' Hb2 H2 → D.ct ρ' → DD.ct σ' H2) ∧ XnK K pr ρ XP W σ Hb H
def SX (X : Cx) (W : WX) (pr : List Nat) (st : Stmt) (ρ : DEnv) (D : DE) (XP : XPT) : Prop := PS X st (tWX X.K pr ρ D XP W)
def SsX (X : Cx) (W : WX) (pr : List Nat) (st : List Stmt) (ρ : DEnv) (D : DE) (XP : XPT) : Prop := PSs X st (tWX X.K pr ρ D XP W)
section
variable {X : Cx} {W : WX} {pr ts : List Nat} {ρ : DEnv} {D : DE} {XP : XPT} {pos : Pos} {tg it : Expr}
theorem XnK.back {K : PySem.W.Frag} {σ σ1 : L2.St} {ρ1 : DEnv} {Hb H Hb1 H1 : Hp} (k : XnK K pr ρ XP W σ Hb H) (f : Fin K pr σ ρ Hb H σ1 ρ1 Hb1 H1) : XnK K pr ρ1 XP W σ1 Hb1 H1 :=
  fun C ds cls d σ' ρ' Hb2 H2 Hb3 H3 f2 => k C ds cls d σ' ρ' Hb2 H2 Hb3 H3 (f.trans f2)
theorem SX.by {st : Stmt} {t : TS} (h : PS X st t) (w : ∀ DD σ H, tWX X.K pr ρ D XP W DD σ H → t DD σ H) : SX X W pr st ρ D XP := ⟨fun pins s σ H DD I q => h.run pins s σ H DD I (w DD σ H q)⟩
theorem SsX.by {st : List Stmt} {t : TS} (h : PSs X st t) (w : ∀ DD σ H, tWX X.K pr ρ D XP W DD σ H → t DD σ H) : SsX X W pr st ρ D XP := ⟨fun pins s σ H DD I q => h.run pins s σ H DD I (w DD σ H q)⟩
theorem SX.of {st : Stmt} (h : SW X pr st ρ D) : SX X W pr st ρ D XP := SX.by h fun DD σ H ⟨Hb, ok, k1, k2, k3, k4, _⟩ => ⟨Hb, ok, k1, k2, k3, k4⟩
theorem SsX.of {st : List Stmt} (h : SsW X pr st ρ D) : SsX X W pr st ρ D XP := SsX.by h fun DD σ H ⟨Hb, ok, k1, k2, k3, k4, _⟩ => ⟨Hb, ok, k1, k2, k3, k4⟩
theorem SsX.go {st : List Stmt} {D' : DE} {DD : Ends} {ρ1 : DEnv} {σ σ1 : L2.St} {Hb H Hb1 H1 : Hp} (h : SsX X W pr st ρ1 D' XP) (f : Fin X.K pr σ ρ Hb H σ1 ρ1 Hb1 H1) (kx : XnK X.K pr ρ XP W σ Hb H)
    (k1 : ∀ σ' ρ' Hb2 H2, Fin X.K pr σ ρ Hb H σ' ρ' Hb2 H2 → Same Hb1 Hb2 → D'.nx ρ' → DD.nx σ' H2) (k2 : ∀ v r σ' ρ' Hb2 H2, Fin X.K pr σ ρ Hb H σ' ρ' Hb2 H2 → RDa X.K σ' ρ' H Hb2 H2 v r → D'.rv r ρ' → DD.rt v H2) (k3 : ∀ σ' ρ' Hb2 H2, Fin X.K pr σ ρ Hb H σ' ρ' Hb2 H2 → D'.bk ρ' → DD.bk σ' H2) (k4 : ∀ σ' ρ' Hb2 H2, Fin X.K pr σ ρ Hb H σ' ρ' Hb2 H2 → Same Hb1 Hb2 → D'.ct ρ' → DD.ct σ' H2) : tAnySs X st DD σ1 H1 :=
  fun pins s I => h.run pins s σ1 H1 DD I ⟨Hb1, f.ok, fun σ' ρ' Hb2 H2 f2 => k1 σ' ρ' Hb2 H2 (f.trans f2) f2.gr.per, fun v d σ' ρ' Hb2 H2 f2 r => k2 v d σ' ρ' Hb2 H2 (f.trans f2) (r.back f), fun σ' ρ' Hb2 H2 f2 => k3 σ' ρ' Hb2 H2 (f.trans f2), fun σ' ρ' Hb2 H2 f2 => k4 σ' ρ' Hb2 H2 (f.trans f2) f2.gr.per, kx.back f⟩
theorem SX.go {st : Stmt} {D' : DE} {DD : Ends} {σ : L2.St} {Hb H : Hp} (h : SX X W pr st ρ D' XP) (ok : Ok X.K σ Hb H ρ) (kx : XnK X.K pr ρ XP W σ Hb H)
    (k1 : ∀ σ' ρ' Hb2 H2, Fin X.K pr σ ρ Hb H σ' ρ' Hb2 H2 → D'.nx ρ' → DD.nx σ' H2) (k2 : ∀ v r σ' ρ' Hb2 H2, Fin X.K pr σ ρ Hb H σ' ρ' Hb2 H2 → RDa X.K σ' ρ' H Hb2 H2 v r → D'.rv r ρ' → DD.rt v H2) (k3 : ∀ σ' ρ' Hb2 H2, Fin X.K pr σ ρ Hb H σ' ρ' Hb2 H2 → D'.bk ρ' → DD.bk σ' H2) (k4 : ∀ σ' ρ' Hb2 H2, Fin X.K pr σ ρ Hb H σ' ρ' Hb2 H2 → D'.ct ρ' → DD.ct σ' H2) : tAnyS X st DD σ H :=
  fun pins s I => h.run pins s σ H DD I ⟨Hb, ok, k1, k2, k3, k4, kx⟩
theorem ssx_cons {st : Stmt} {rest : List Stmt} (h : SX X W pr st ρ { D with nx := fun ρ' => SsX X W pr rest ρ' D XP } XP) : SsX X W pr (st :: rest) ρ D XP :=
  SsX.by (pss_cons (ps_any st) (pss_any rest)) fun DD σ H ⟨Hb, ok, k1, k2, k3, k4, kx⟩ => h.go ok kx (fun σ' ρ' Hb2 H2 f q => SsX.go q f kx (fun σ' ρ' Hb2 H2 f _ => k1 σ' ρ' Hb2 H2 f) k2 k3 fun σ' ρ' Hb2 H2 f _ => k4 σ' ρ' Hb2 H2 f) k2 k3 k4
theorem sx_if {c : Expr} {a b : List Stmt} (h : TW X c ρ fun k ρ1 => (k = true → SsX X W pr a ρ1 D XP) ∧ (k = false → SsX X W pr b ρ1 D XP)) : SX X W pr (.If c a b pos) ρ D XP := by
  refine SX.by (ps_if (pt_any c) (pss_any a) (pss_any b)) fun DD σ H ⟨Hb, ok, k1, k2, k3, k4, kx⟩ => ?_
  refine h.go ok (Grow.refl _ _ _) (Like.refl _) fun c Hb1 H1 ρ1 ok1 g1 _ l1 ⟨p1, p2⟩ => ?_
  cases c with
  | true => exact (p1 rfl).go (Fin.like ok1 g1 l1) kx (fun σ' ρ' Hb2 H2 f _ => k1 σ' ρ' Hb2 H2 f) k2 k3 fun σ' ρ' Hb2 H2 f _ => k4 σ' ρ' Hb2 H2 f
  | false => exact (p2 rfl).go (Fin.like ok1 g1 l1) kx (fun σ' ρ' Hb2 H2 f _ => k1 σ' ρ' Hb2 H2 f) k2 k3 fun σ' ρ' Hb2 H2 f _ => k4 σ' ρ' Hb2 H2 f
theorem sx_for {body : List Stmt} {pos : Pos} (hp : PassesOwn (model X.prog X.w) X.A X.env X.xe) (hc : X.calm = true) (hd : ∀ i ∈ pr, i ∉ ts)
    (h : IW X tg it ρ fun xs ρ1 => ∃ J : Nat → DEnv → Prop, J 0 ρ1 ∧ (∀ i x ρi, xs[i]? = some x → J i ρi → GW X ts tg x ρi fun ρ2 => SsX X W pr body ρ2 { D with nx := J (i + 1), ct := J (i + 1), bk := D.nx } XP) ∧ ∀ ρn, J xs.length ρn → D.nx ρn)
    (hs : ∀ x, foldedSetIterable it X.env x = pure x := by intro _; rfl) : SX X W pr (.For tg it body [] pos) ρ D XP := by
  refine SX.by (ps_for hp hc (pi_any tg it) (pg_any tg) (pss_any body) hs) fun DD σ H ⟨Hb, ok, k1, k2, k3, k4, kx⟩ => ?_
  refine h.go ok (Grow.refl _ _ _) (Like.refl _) fun I xs Hb1 H1 ρ1 ok1 g1 l1 j _ ⟨J, j0, js, jd⟩ => ?_
  refine ⟨fun i m σ' H' => m = xs.length - i ∧ i ≤ xs.length ∧ ∃ ρ' Hb', Fin X.K pr σ ρ Hb H σ' ρ' Hb' H' ∧ Same Hb1 Hb' ∧ J i ρ', ⟨xs.length, by simp, Nat.zero_le _, ρ1, Hb1, Fin.like ok1 g1 l1, Same.refl _, j0⟩, ?_⟩
  rintro i m σ' H' ⟨rfl, hi, ρ', Hb', f, sm, jj⟩
  obtain ⟨a1, a2, a3⟩ := j i Hb' H' sm f.ok.sub
  by_cases hlt : i < xs.length
  · refine .inr ⟨a1 hlt, fun σ2 H2 => ∃ ρ2 Hb2, Fin X.K pr σ ρ Hb H σ2 ρ2 Hb2 H2 ∧ Same Hb1 Hb2 ∧ J (i + 1) ρ2, fun σ2 H2 q => ⟨xs.length - (i + 1), by omega, rfl, hlt, q⟩, fun v H2 y => ?_⟩
    obtain ⟨d, Hb2, e, s2, g2, dv⟩ := a3 v H2 y hlt
    have f2 : Fin X.K pr σ ρ Hb H σ' ρ' Hb2 H2 := ⟨f.ok.grow g2 s2, f.gr.trans0 g2, f.ow, f.st⟩
    refine (js i d ρ' e jj).go f2 hd dv fun σ3 ρ3 Hb3 H3 f3 s3 p3 => ?_
    have sm3 := (sm.trans g2.per).trans s3
    exact SsX.go p3 f3 kx (fun σ4 ρ4 Hb4 H4 f4 s4 q => ⟨ρ4, Hb4, f4, sm3.trans s4, q⟩) k2 (fun σ4 ρ4 Hb4 H4 f4 q => k1 σ4 ρ4 Hb4 H4 f4 q) fun σ4 ρ4 Hb4 H4 f4 s4 q => ⟨ρ4, Hb4, f4, sm3.trans s4, q⟩
  · have ei : i = xs.length := by omega
    subst ei
    exact .inl ⟨a2 (Nat.le_refl _), k1 σ' ρ' Hb' H' f (jd ρ' jj)⟩
end
/-! ### raise C(e) -/
/-- an __init__ of self and one more that lays it as the field f -/
def SpI (K : PySem.W.Frag) (C : Addr) (f : Str) (ok : PyData → Prop) : Sp := fun vs H Q _ => ∃ a v d Hb, vs = [.ref a, v] ∧ Sub Hb H ∧ Hb a = none ∧ Da K Hb v d ∧ ok d ∧ H a = some (exo a C none) ∧
  ∀ Hb1 H1 dx, Sub Hb1 H1 → Grow N0 Hb H Hb1 H1 → H1 a = some (exo a C none) → H1 dx = none → dx ≠ a → Q .non (upd (upd H1 dx (exd dx [(f, v)])) a (exo a C (some dx)))
section
variable {X : Cx} {W : WX} {pr ts : List Nat} {ρ : DEnv} {D : DE} {XP : XPT} {pos : Pos}
theorem sx_raise {CX : CXT} {x : Str} {C fI : Addr} {k : Nat} {fd : FuncData} {ps : List Str} {f : Str} {ok : PyData → Prop} {e : Expr} {p p2 p3 : Pos} (T : OexC X.K C) (iC : PySem.W.findIn X.K (.ref C) "__init__" = some (some (.ref fI))) (tI : PySem.W.typeIn X.K (.ref fI) = some (.type "function"))
    (F1 : FnOk X.prog X.w X.K X.mg X.base CX k fI fd ps (SpI X.K C f ok)) (hr : Room (k + 1) X.A) (hb : Binds X.K fd ps []) (hx : Passes CX X (fun _ _ _ => False)) (hg : Gl X x) (hm : X.mg x = some (.ref C)) (hc : X.calm = true) (tk : Takes X W)
    (h : EW X e ρ fun dv ρ1 => ok dv ∧ XP C [(f, dv)] ρ1)
    (hdb : (x == ("__debug__" : Str)) = false := by decide) (he : starEach [e] X.env = (false, eval e X.env) :: starEach [] X.env := by rfl) (hpl : (backTo p2 (starEach [] X.env)).any (·.1) = false := by rfl) : SX X W pr (.Raise (some (.Call (.Name x p) [e] [] p2)) none p3) ρ D XP := by
  refine SX.by (ps_raise hc tk (pmk_oex (dvs := []) (ds := []) T iC tI F1 hr hb .nil hx hg hm (pa_any [e]) hdb he hpl)) fun DD σ H ⟨Hb, okk, k1, k2, k3, k4, kx⟩ => ?_
  have aw : AW X [e] ρ fun ds ρ' => ∃ dv, ds = [dv] ∧ ok dv ∧ XP C [(f, dv)] ρ' := by
    refine aw_cons ?_ he
    refine EW.by h fun σ H Q ⟨Hb, ok, k⟩ => ⟨Hb, ok, fun v d Hb2 H2 ρ' ok2 g2 l2 dv q => k v d Hb2 H2 ρ' ok2 g2 l2 dv (aw_nil ⟨d, rfl, q⟩)⟩
  refine aw.go okk (Grow.refl _ _ _) (Like.refl _) fun vs ds Hb1 H1 ρ1 ok1 g1 _ l1 dv ⟨d, e1, o1, xp⟩ => ?_
  subst e1
  cases dv with
  | @cons v _ _ _ dv t =>
    cases t
    refine ⟨Nat.le_of_ble_eq_true rfl, fun a na => ?_⟩
    have nb : Hb1 a = none := ok1.sub.no na
    refine ⟨a, v, d, Hb1, rfl, ok1.sub.newH nb, nb, dv, o1, upd_same, fun Hb2 H2 dx s2 g2 ea nd da => ⟨rfl, dx, [(f, v)], upd_same, ?_, ?_, ?_⟩⟩
    · rw [upd_ne da]
      exact upd_same
    · cases q : H1 dx with
      | none => rfl
      | some o =>
        have := g2.keep dx o (by rw [upd_ne da]; exact q) fun z => z
        rw [nd] at this
        cases this
    · have ndb : Hb2 dx = none := s2.no nd
      have nab : Hb2 a = none := g2.hid a (fun z => z) nb (by rw [upd_same]; simp)
      have eq : ∀ b, b ≠ a → b ≠ dx → upd (del (upd (upd H2 dx (exd dx [(f, v)])) a (exo a C (some dx))) a) dx (.xd [(f, v)]) b = H2 b := fun b h1 h2 => by
        rw [upd_ne h2, del_ne h1, upd_ne h1, upd_ne h2]
      refine kx C [(f, d)] _ _ σ ρ1 Hb1 H1 Hb2 _ (Fin.like ok1 g1 l1) (fun b u z => ?_) ⟨g2.per, fun b o z _ => ?_, fun b n z y => ?_, fun b z => ?_⟩ ⟨rfl, dx, _, rfl, upd_same, fun f' x m => ?_⟩ xp
      · rw [eq b (ne_of_none z nab) (ne_of_none z ndb)]
        exact s2 b u z
      · have hb : b ≠ a := ne_of_none z na
        have y := g2.keep b o (by rw [upd_ne hb]; exact z) fun z => z
        rw [eq b hb (ne_of_none y nd)]
        exact y
      · have hb : b ≠ a := fun w => y (w ▸ na)
        exact g2.hid b n z (by rw [upd_ne hb]; exact y)
      · have hb : b ≠ a := fun w => z (w ▸ na)
        have y := g2.there b (by rw [upd_ne hb]; exact z)
        rw [eq b hb (fun w => y (w ▸ nd))]
        exact y
      · have e2 := List.mem_singleton.mp m
        cases e2
        refine ⟨v, by simp [List.lookup], dv.mono (same_rd g2.per)⟩
end
end DL

/-! Defs that may raise, by data; isinstance of what is caught. -/
namespace DL
open PySem PySem.Spec PyProof.Rows L2
section
variable (P : Program) (w : World) (K : PySem.W.Frag) (mg : Str → Option Value) (base : Heap)
/-- a def keeps sp; an exception that it lets out is what E wishes -/
structure FnX (k : Nat) (f : Addr) (fd : FuncData) (ps : List Str) (sp : Sp) : Prop where
  long : ∀ vs H Q E, sp vs H Q E → vs.length = ps.length
  runs : ∀ A outer s H args us vs Q E, Room k A → A.guards = some [] → Env0 P w K mg base A outer s H → BindsTo s fd args (ps.zip us) → Vals vs us →
    sp vs H Q E → codeAny (model P w) A (.call (.ref f) args) (CR (L2.CX P w) outer P w H s Q E) s
end
section
variable {P : Program} {w : World} {K : PySem.W.Frag} {mg : Str → Option Value} {base : Heap} {j k : Nat} {f : Addr} {fd : FuncData} {ps : List Str} {sp : Sp}
theorem FnX.mono (F : FnX P w K mg base j f fd ps sp) (h : j ≤ k) : FnX P w K mg base k f fd ps sp :=
  ⟨F.long, fun A o s H a us vs Q E r => F.runs A o s H a us vs Q E (r.mono h)⟩
abbrev XCx (P : Program) (w : World) (K : PySem.W.Frag) (mg : Str → Option Value) (base : Heap) (N : List Str) (qual : Str) (sc : Scope) (f : Addr) (cdv : Value) (A : Around) (outer : List Env) (s : Shared) (H : Hp) (E : XK) : Cx := cxOf (L2.CX P w) P w K mg base N qual sc f cdv A outer s H E
theorem fnX_of {x qual : Str} {st : Stmt} {N : List Str} (F : Fun K x qual st f fd) (S : FnScope N ps (defScope st)) (long : ∀ vs H Q E, sp vs H Q E → vs.length = ps.length)
    (hb : ∀ (cdv : Value) (A : Around) (outer : List Env) (s : Shared) (H : Hp) (vs : List V) (Q : VK) (E : XK), Room k (A.deeper (envOfC qual (defScope st) s.heap.objs.size f cdv)) → (A.deeper (envOfC qual (defScope st) s.heap.objs.size f cdv)).guards = some [] → sp vs H Q E →
      ∃ t, PSs (XCx P w K mg base N qual (defScope st) f cdv A outer s H E) (defBody st) t ∧ t { nx := fun _ H' => Q .non H', rt := Q } (L2.start N vs) H) : FnX P w K mg base (k + 1) f fd ps sp where
  long := long
  runs A outer s H args us vs Q E hr hg e0 bt rv q := by
    obtain ⟨oc, od, kV, doc, pm, an, cdv, ct, osl, efd, lk, hcd⟩ := F.ex
    rw [efd] at lk bt
    have kp : ∀ b o, base.get? b = some o → s.heap.get? b = some o := fun b o e => (e0.bs b o e).1
    have cells : ∀ y ∈ ps.zip us, (defScope st).names.lookup y.1 = some .local ∨ ((defScope st).names.lookup y.1 = some .cell ∧ ((cellsFrom (s.heap.objs.size + 1) (defScope st).names []).lookup y.1).isSome = true) := fun y hy =>
      (S.par y.1 (List.of_mem_zip (show (y.1, y.2) ∈ ps.zip us from hy)).1).imp (fun z => z) fun z => ⟨z, PySem.W.cellsFrom_some _ _ _ (.inl z)⟩
    have KX := e0.mod.kin.keeps kp
    refine codeAny_call_function hr.depth (KX f _ lk) rfl S.co S.gen rfl (PySem.W.codeRec_of KX hcd) (bt _ _ _ _ (wpAny_newFunctionEnv_cells S.kind cells fun env he s1 x => ?_))
    subst he
    refine ⟨(e0.mod.nolimit.keeps kp).keeps x.toInCall.keep, codeAny_func ?_⟩
    obtain ⟨t, ht, hq⟩ := hb cdv A outer s H vs Q E (hr.deeper _) (guards_deeper hg) q
    have I := inv_start (CX := L2.CX P w) (f := f) (cd := cdv) (E := E) (qual := qual) S hr.hd e0 (long vs H Q E q) rv x
    have out : ∀ {σ' : L2.St} {H' : Hp} {v : V} {u : Value} {s' : Shared}, Inv (XCx P w K mg base N qual (defScope st) f cdv A outer s H E) [] σ' H' s' → RelV v u → Q v H' → CE outer P w H s Q u s' :=
      fun J ru z => ⟨_, _, J.os, J.bare, J.base, J.hok, ru, z⟩
    refine wpAny_mono (ht.run [] s1 (L2.start N vs) H _ I hq) (fun fl s' hs => ?_) fun _ _ z => z
    cases fl with
    | next => obtain ⟨_, _, J, z⟩ := hs; exact out (v := .non) (u := .none) J rfl z
    | ret u => obtain ⟨_, _, _, J, ru, z⟩ := hs; exact out J ru z
    | brk => obtain ⟨_, _, _, z⟩ := hs; exact (show False from z).elim
    | cont => obtain ⟨_, _, _, z⟩ := hs; exact (show False from z).elim
end
abbrev GX := List PyData → (PyData → Prop) → (Addr → List (Str × PyData) → Prop) → Prop
/-- what is let out -/
def RetX (K : PySem.W.Frag) (Hb H : Hp) (XR : Addr → List (Str × PyData) → Prop) (E : XK) : Prop := ∀ C ds cls d Hb3 H3, Sub Hb3 H3 → Grow N0 Hb H Hb3 H3 → XnOk K Hb3 H3 C ds cls d → XR C ds → E cls d H3
def SpX (K : PySem.W.Frag) (W : GX) : Sp := fun vs H Q E => ∃ Hb ds R XR, Sub Hb H ∧ DaAll K Hb vs ds ∧ W ds R XR ∧ Ret K Hb H R Q ∧ RetX K Hb H XR E
section
variable {P : Program} {w : World} {K : PySem.W.Frag} {mg : Str → Option Value} {base : Heap}
theorem fg_raise {x qual : Str} {st : Stmt} {f : Addr} {fd : FuncData} {N ps : List Str} {k : Nat} {W : GX} (F : Fun K x qual st f fd) (S : FnScope N ps (defScope st)) (len : ∀ ds R XR, W ds R XR → ds.length = ps.length)
    (hbody : ∀ (cdv : Value) (A : Around) (outer : List Env) (s : Shared) (H : Hp) (E : XK) (ds : List PyData) (post : PyData → Prop) (XR : Addr → List (Str × PyData) → Prop), Room k (A.deeper (envOfC qual (defScope st) s.heap.objs.size f cdv)) → (A.deeper (envOfC qual (defScope st) s.heap.objs.size f cdv)).guards = some [] → W ds post XR →
      Takes (XCx P w K mg base N qual (defScope st) f cdv A outer s H E) (fun cls d _ H => E cls d H) → PassesOwn (model P w) (A.deeper (envOfC qual (defScope st) s.heap.objs.size f cdv)) (envOfC qual (defScope st) s.heap.objs.size f cdv) (XCx P w K mg base N qual (defScope st) f cdv A outer s H E).xe →
      SsX (XCx P w K mg base N qual (defScope st) f cdv A outer s H E) (fun cls d _ H => E cls d H) [] (defBody st) (ds.map .pd ++ uns (N.length - ds.length)) { nx := fun _ => post .none, rt := fun d _ => post d } fun C ds _ => XR C ds) : FnX P w K mg base (k + 1) f fd ps (SpX K W) := by
  refine fnX_of F S (fun vs H Q E z => ?_) fun cdv A outer s H vs Q E hr hg z => ?_
  · obtain ⟨Hb, ds, R, XR, _, h, q, _⟩ := z
    exact h.length.trans (len ds _ _ q)
  · obtain ⟨Hb, ds, R, XR, sb, h, q, r, rx⟩ := z
    refine ⟨_, hbody cdv A outer s H E ds R XR hr hg q (takes_of rfl rfl rfl rfl) PassesOwn.leaving, ?_⟩
    have hpl : ps.length ≤ N.length := by
      have := congrArg List.length S.pre
      rw [List.length_take] at this
      omega
    have no : ∀ p, ¬ Owned (L2.start N vs) (ds.map Sl.pd ++ uns (N.length - ds.length)) p := fun p ⟨i, o, e, _⟩ => list_ne_ow i o e
    refine ⟨Hb, ok_start sb h (by rw [h.length, len ds _ _ q]; exact hpl), fun σ' ρ' Hb2 H2 f z => ?_, fun v r' σ' ρ' Hb2 H2 f dv z => ?_, fun _ _ _ _ _ z => z, fun _ _ _ _ _ z => z, fun C ds cls d σ' ρ' Hb2 H2 Hb3 H3 f s3 g3 xo z => rx C ds cls d Hb3 H3 s3 ((f.gr.wide no).trans0 g3) xo z⟩
    · exact r .non .none Hb2 H2 f.ok.sub (f.gr.wide no) .non z
    · cases r' with
      | d d => exact r v d Hb2 H2 f.ok.sub (f.gr.wide no) dv z
      | o o => exact (show False from z).elim
/-- the def called x keeps W, and may raise -/
structure CalX (P : Program) (w : World) (K : PySem.W.Frag) (mg : Str → Option Value) (base : Heap) (k : Nat) (x : Str) (W : GX) : Prop where
  ex : ∃ f fd ps, FnX P w K mg base k f fd ps (SpX K W) ∧ mg x = some (.ref f) ∧ PySem.W.keepIn K (.ref f) = true ∧ Binds K fd ps []
theorem CalX.mono {k j : Nat} {x : Str} {W : GX} (c : CalX P w K mg base j x W) (h : j ≤ k) : CalX P w K mg base k x W := by
  obtain ⟨f, fd, ps, F, r⟩ := c.ex
  exact ⟨f, fd, ps, F.mono h, r⟩
end
section
variable {X : Cx} {k : Nat} {f : Addr} {fd : FuncData} {ps : List Str} {sp : Sp} {x : Str} {p pos : Pos} {e : Expr} {es : List Expr} {ta : TA}
/-- a call of a def that may raise; what it lets out is wished at the slots -/
theorem pe_callX {W : WX} (F : FnX X.prog X.w X.K X.mg X.base k f fd ps sp) (tk : Takes X W) (hr : Room k X.A) (hgd : X.A.guards = some []) (hg : Gl X x) (hm : X.mg x = some (.ref f)) (hk : PySem.W.keepIn X.K (.ref f) = true) (hb : Binds X.K fd ps [])
    (ha : PA X (e :: es) ta) (hdb : (x == ("__debug__" : Str)) = false) (he : starEach (e :: es) X.env = (false, eval e X.env) :: starEach es X.env) (hpl : (backTo pos (starEach es X.env)).any (·.1) = false) :
    PE X (.Call (.Name x p) (e :: es) [] pos) (fun σ H Q => ta σ H fun vs H1 => sp vs H1 Q (fun cls d H' => W cls d σ H')) := by
  constructor
  intro pins s σ H Q I h
  refine wpAny_Call_Name_kw (ld_glob I hg hm (PySem.W.callWith_K (h₀ := X.base) I.ok.mod.kin hk (thn (ha.run pos pins s σ H _ I h) fun us s1 z => ?_) he hpl) hdb)
  obtain ⟨vs, H1, I1, r, q⟩ := z
  have el : us.length = ps.length := by rw [← r.length, F.long _ _ _ _ q]
  have bt := hb s1 us I1.kIn (by rw [List.append_nil]; exact el)
  rw [List.append_nil] at bt
  refine ⟨I1.kIn, wpAny_call (codeAny_mono (F.runs X.A X.stack s1 H1 ⟨us, []⟩ us vs Q _ hr hgd I1.env0 bt r q) fun rs s' c => ?_)⟩
  match rs, c with
  | .error er, c => exact tk er s' (XE.of_call I1 (fun _ _ _ z => z) c)
  | .ok (.ret u), c => exact I1.after c
  | .ok .next, c => exact (show False from c).elim
  | .ok .brk, c => exact (show False from c).elim
  | .ok .cont, c => exact (show False from c).elim
/-- isinstance(e, c), e the exception that the suite holds, its dict at hand -/
theorem call_isX {a D : Addr} {oe : Obj} {d : Option Addr} {pn : List (Addr × Obj)} (C : L2.ExcC X.K D) (hz : Zc (.ref D) d oe) (hf : ∃ vs, oe.data = .fields vs) : CallR (X.suite a ((a, oe) :: pn)) (.builtin "isinstance")
    (fun xs H Q => ∃ (c : V) (cv : Value) (b : Bool), xs = [.ref a, c] ∧ (∀ u, RelV c u → u = cv) ∧ PySem.W.kitOne X.K (.ref D) cv = some b ∧ (∃ dd fs, d = some dd ∧ H dd = some (.xd fs)) ∧ Q (.bl b) H) := by
  intro pins s σ H xs us Q I r h
  obtain ⟨c, cv, b, rfl, hcv, e, ⟨dd, fs, ed, ea⟩, q⟩ := h
  cases r with
  | cons rx rr =>
    cases rr with
    | cons rt rr =>
      cases rr
      cases rx
      have ec := hcv _ rt
      subst ec
      subst ed
      obtain ⟨hget, _⟩ := I.pin (a, oe) (List.mem_append.mpr (.inl List.mem_cons_self))
      obtain ⟨vs, hv⟩ := hf
      have ox : ObjOk X.prog X.w H s.heap dd (.xd fs) := I.hok dd _ ea
      obtain ⟨mA, hns, _⟩ := ox
      obtain ⟨od, ho, _⟩ := lookIn_ns hns
      have J : PySem.W.InstAt s.heap a oe D (some od) := ⟨hget, hz.1, by unfold PySem.W.notCls; rw [hv] <;> rfl, by rw [hz.2]; exact ho⟩
      have hcl : (PySem.W.clsIn X.K D).isSome = true := by
        obtain ⟨cd, hc, _⟩ := PySem.W.any_some C.hd
        rw [hc]
        rfl
      exact PySem.W.kia_one (PySem.W.kitx_exc hcl C.hg C.hk C.hs C.ha C.hn C.ht C.hm) I.kIn J e (fun z => nomatch z) fun tk => ⟨.bl b, H, I.kept (t' := tk) fun _ _ z => z, rfl, q⟩
end
end DL

/-! Splitting and joining lists of signs; list.insert, list.index, own lists of split. -/
namespace DL
open PySem PySem.Spec PyProof.Rows L2
def splitL (c : Nat) : List Nat → List (List Nat)
  | [] => [[]]
  | a :: l => if a = c then [] :: splitL c l else (a :: (splitL c l).headD []) :: (splitL c l).tail
def joinL (c : Nat) : List (List Nat) → List Nat
  | [] => []
  | [w] => w
  | w :: v :: r => w ++ c :: joinL c (v :: r)
theorem splitL_ne (c : Nat) (l : List Nat) : splitL c l ≠ [] := by
  cases l with
  | nil => exact List.cons_ne_nil _ _
  | cons a l =>
    unfold splitL
    split <;> exact List.cons_ne_nil _ _
theorem splitL_cons (c : Nat) (l : List Nat) : ∃ w r, splitL c l = w :: r := by
  cases h : splitL c l with
  | nil => exact absurd h (splitL_ne c l)
  | cons w r => exact ⟨w, r, rfl⟩
theorem joinL_cons (c : Nat) (w : List Nat) (r : List (List Nat)) (h : r ≠ []) : joinL c (w :: r) = w ++ c :: joinL c r := by
  cases r with
  | nil => exact absurd rfl h
  | cons v r => rfl
theorem join_splitL (c : Nat) : ∀ l, joinL c (splitL c l) = l
  | [] => rfl
  | a :: l => by
    have ih := join_splitL c l
    obtain ⟨w, r, e⟩ := splitL_cons c l
    unfold splitL
    by_cases h : a = c
    · rw [if_pos h, joinL_cons _ _ _ (splitL_ne c l), ih, h]
      rfl
    · rw [if_neg h]
      rw [e] at ih ⊢
      cases r with
      | nil => exact congrArg (a :: ·) ih
      | cons v r => exact congrArg (a :: ·) ih
theorem splitL_free (c : Nat) : ∀ l, ∀ w ∈ splitL c l, c ∉ w
  | [], w, m => by
    rw [List.mem_singleton.mp m]
    exact List.not_mem_nil
  | a :: l, w, m => by
    have ih := splitL_free c l
    obtain ⟨v, r, e⟩ := splitL_cons c l
    unfold splitL at m
    by_cases h : a = c
    · rw [if_pos h] at m
      rcases List.mem_cons.mp m with m | m
      · rw [m]
        exact List.not_mem_nil
      · exact ih w m
    · rw [if_neg h, e] at m
      rcases List.mem_cons.mp m with m | m
      · rw [m]
        intro z
        rcases List.mem_cons.mp z with z | z
        · exact h z.symm
        · exact ih v (e ▸ List.mem_cons_self) z
      · exact ih w (e ▸ List.mem_cons_of_mem _ m)
theorem splitL_of {c : Nat} : ∀ {l : List Nat}, c ∉ l → splitL c l = [l]
  | [], _ => rfl
  | a :: l, h => by
    have h1 : a ≠ c := fun e => h (e ▸ List.mem_cons_self)
    unfold splitL
    rw [if_neg h1, splitL_of fun m => h (List.mem_cons_of_mem _ m)]
    rfl
theorem splitL_app {c : Nat} : ∀ {w : List Nat} (_ : c ∉ w) (l : List Nat), splitL c (w ++ c :: l) = w :: splitL c l
  | [], _, l => by
    show splitL c (c :: l) = _
    rw [splitL, if_pos rfl]
  | a :: w, h, l => by
    have h1 : a ≠ c := fun e => h (e ▸ List.mem_cons_self)
    show splitL c (a :: (w ++ c :: l)) = _
    rw [splitL, if_neg h1, splitL_app (fun m => h (List.mem_cons_of_mem _ m)) l]
    rfl
theorem split_joinL {c : Nat} : ∀ {ws : List (List Nat)}, ws ≠ [] → (∀ w ∈ ws, c ∉ w) → splitL c (joinL c ws) = ws
  | [], h, _ => absurd rfl h
  | [w], _, f => splitL_of (f w List.mem_cons_self)
  | w :: v :: r, _, f => by
    show splitL c (w ++ c :: joinL c (v :: r)) = _
    rw [splitL_app (f w List.mem_cons_self), split_joinL (List.cons_ne_nil _ _) fun x m => f x (List.mem_cons_of_mem _ m)]
theorem S_joinL (c : Nat) : ∀ ws : List (List Nat), Str.join (S [c]) (ws.map S) = S (joinL c ws)
  | [] => rfl
  | [w] => rfl
  | w :: v :: r => by
    show S w ++ S [c] ++ Str.join (S [c]) ((v :: r).map S) = _
    rw [S_joinL c (v :: r), S_app, S_app, List.append_assoc]
    rfl
theorem split_S (l : List Nat) (c : Nat) : Txt.split (S l) (S [c]) = (splitL c l).map S := by
  have h1 := StrLaws.join_split (S l) (S [c])
  have h2 := StrLaws.split_free (S l) c
  generalize hys : Txt.split (S l) (S [c]) = ys at *
  have e : ys = (ys.map fun y => y.cps.toList).map S := by
    rw [List.map_map]
    exact (List.map_id ys).symm.trans (List.map_congr_left fun y _ => S_eta y)
  have hne : ys ≠ [] := by
    intro z
    rw [z] at h1 hys
    have : S l = S [] := h1.symm
    have := S_inj this
    subst this
    rw [show Txt.split (S []) (S [c]) = [S []] from rfl] at hys
    cases hys
  rw [e, S_joinL] at h1
  have h3 := S_inj h1
  rw [e]
  refine congrArg (List.map S) ?_
  rw [← h3, split_joinL (by simpa using hne)]
  intro w m
  obtain ⟨y, my, rfl⟩ := List.mem_map.mp m
  exact h2 y my
theorem joinL_len (c : Nat) : ∀ ws : List (List Nat), ∀ w ∈ ws, w.length ≤ (joinL c ws).length
  | [w], x, m => by rw [List.mem_singleton.mp m]; exact Nat.le_refl _
  | w :: v :: r, x, m => by
    show _ ≤ (w ++ c :: joinL c (v :: r)).length
    rw [List.length_append, List.length_cons]
    rcases List.mem_cons.mp m with m | m
    · rw [m]
      omega
    · have := joinL_len c (v :: r) x m
      omega
theorem joinL_mem (c : Nat) : ∀ ws : List (List Nat), ∀ w ∈ ws, ∀ a ∈ w, a ∈ joinL c ws
  | [w], x, m, a, ma => by
    rw [List.mem_singleton.mp m] at ma
    exact ma
  | w :: v :: r, x, m, a, ma => by
    show a ∈ w ++ c :: joinL c (v :: r)
    rcases List.mem_cons.mp m with m | m
    · rw [m] at ma
      exact List.mem_append_left _ ma
    · exact List.mem_append_right _ (List.mem_cons_of_mem _ (joinL_mem c (v :: r) x m a ma))
theorem splitL_mem (c : Nat) (l : List Nat) : ∀ w ∈ splitL c l, w.length ≤ l.length ∧ ∀ a ∈ w, a ∈ l := fun w m =>
  ⟨Nat.le_trans (joinL_len c _ w m) (by rw [join_splitL]; exact Nat.le_refl _), fun a ma => by have := joinL_mem c _ w m a ma; rw [join_splitL] at this; exact this⟩
theorem splitL_count (c : Nat) : ∀ l, (splitL c l).length ≤ l.length + 1
  | [] => Nat.le_refl _
  | a :: l => by
    have ih := splitL_count c l
    obtain ⟨w, r, e⟩ := splitL_cons c l
    unfold splitL
    split
    · rw [List.length_cons, List.length_cons]
      omega
    · rw [e] at ih ⊢
      simp only [List.length_cons, List.tail_cons] at ih ⊢
      omega
theorem joinL_size (c : Nat) : ∀ ws : List (List Nat), (joinL c ws).length ≤ (ws.map (·.length)).sum + ws.length
  | [] => Nat.le_refl _
  | [w] => by simp [joinL]
  | w :: v :: r => by
    have ih := joinL_size c (v :: r)
    show (w ++ c :: joinL c (v :: r)).length ≤ _
    rw [List.length_append, List.length_cons, List.map_cons, List.sum_cons, List.length_cons]
    omega
theorem joinL_lt {c : Nat} (hc : c < 128) : ∀ ws : List (List Nat), (∀ w ∈ ws, ∀ a ∈ w, a < 128) → ∀ a ∈ joinL c ws, a < 128
  | [], _, a, m => by cases m
  | [w], h, a, m => h w List.mem_cons_self a m
  | w :: v :: r, h, a, m => by
    rcases List.mem_append.mp (show a ∈ w ++ c :: joinL c (v :: r) from m) with m | m
    · exact h w List.mem_cons_self a m
    · rcases List.mem_cons.mp m with m | m
      · rw [m]
        exact hc
      · exact joinL_lt hc (v :: r) (fun w m => h w (List.mem_cons_of_mem _ m)) a m
section
variable {X : Cx} {ρ : DEnv} {pr : List Nat} {D : DE} {pos : Pos}
def rIns : V → List V → Hp → VK → Prop := fun x vs H Q => ∃ (l : Addr) (xs : List V) (i : Int) (y : V), x = .ref l ∧ vs = [.int i, y] ∧ H l = some (.lst xs) ∧ xs.length < sizeLine ∧ 0 ≤ i ∧ i < 2 ^ 63 ∧
    Q .non (upd H l (.lst (xs.take i.toNat ++ [y] ++ xs.drop i.toNat)))
theorem sw_insert {x : Str} {px apos cpos : Pos} {e1 e2 : Expr} (i : Nat) {o : OD} (hc : PE X (.Call (.Attribute (.Name x px) "insert" apos) [e1, e2] [] cpos) (tBM X.K "list" rIns (tVar i) (tCons (tAny X e1) (tCons (tAny X e2) tNil)))) (e0 : ρ[i]? = some (.ow o))
    (h : EW X e1 ρ fun d1 ρ1 => EW X e2 ρ1 fun d2 ρ2 => ∃ ds, ∃ n : Nat, ρ2[i]? = some (.ow (.lst ds)) ∧ d1 = .int n ∧ n ≤ 16777216 ∧ ds.length < 16777216 ∧ D.nx (ρ2.set i (.ow (.lst (ds.take n ++ [d2] ++ ds.drop n)))))
    (h0 : ∃ ds, o = .lst ds := by exact ⟨_, rfl⟩) (hsw : swapsWith (.Call (.Attribute (.Name x px) "insert" apos) [e1, e2] [] cpos) none pos.line X.env = pure false := by rfl) : SW X pr (.Expr (.Call (.Attribute (.Name x px) "insert" apos) [e1, e2] [] cpos) pos) ρ D := by
  refine SW.by (ps_expr hc hsw) fun DD σ H ⟨Hb, ok, k, _⟩ => ?_
  obtain ⟨ds0, rfl⟩ := h0
  obtain ⟨p, u, s1, s2, s3, vs0, s4, s5⟩ := ok.own e0
  subst s4
  refine ⟨.ref p, s1, .inl ⟨rfl, _, .inl (.inl s3)⟩, h.go ok (Grow.refl _ _ _) (Like.refl _) fun w dw Hb2 H2 ρ2 ok2 g2 t2 l2 d2 h2 => h2.go ok2 g2 l2 fun w' dw' Hb3 H3 ρ3 ok3 g3 t3 l3 d3 ⟨ds, n, r1, r2, r3, r4, r5⟩ => ?_⟩
  obtain ⟨p', u', f1, f2, f3, vs, f4, f5⟩ := ok3.own r1
  rw [s1] at f1
  cases f1
  subst f4
  subst r2
  cases d2
  obtain ⟨a, b, c⟩ := owSet (o' := .lst (ds.take n ++ [dw'] ++ ds.drop n)) (u := .lst (vs.take n ++ [w'] ++ vs.drop n)) ok3 g3 l3 r1 s1 ⟨_, rfl, ((f5.take n).append (.cons d3 .nil)).append (f5.drop n)⟩
  exact ⟨p, vs, _, w', rfl, rfl, f3, by rw [line_eq, f5.length]; exact r4, by omega, by omega, k σ _ Hb3 _ (Fin.like a b c) r5⟩
/-- a new own list of what a text falls into -/
theorem en_split {o e : Expr} {apos : Pos} {Post : OD → DEnv → Prop} (h : EW X o ρ fun d ρ1 => ∃ a, d = .str a ∧ EW X e ρ1 fun y ρ2 => ∃ b, y = .str b ∧ (b.length == 0) = false ∧ a.length + 2 ≤ 16777216 ∧ Post (.lst ((Txt.split a b).map .str)) ρ2)
    (hs : starEach [e] X.env = [(false, eval e X.env)] := by rfl) (hbase : attributeBase o "split" X.env (eval o X.env) = eval o X.env := by rfl) (hline : (apos.endLine == pos.line) = true := by rfl) : EN X (.Call (.Attribute o "split" apos) [e] [] pos) ρ Post := by
  refine EN.by (pe_m1 PySem.F.slot_str_split PySem.F.type_str_split mt_split (pe_any o) (pe_any e) hs hbase hline) fun σ H Q ⟨Hb, ok, k⟩ => ?_
  refine h.go ok (Grow.refl _ _ _) (Like.refl _) fun v d Hb1 H1 ρ1 ok1 g1 _ l1 d1 ⟨a, e1, h1⟩ => ?_
  subst e1
  cases d1
  refine ⟨⟨_, rfl⟩, h1.go ok1 g1 l1 fun w dw Hb2 H2 ρ2 ok2 g2 s2 l2 d2 ⟨b, e2, hb, hz, p2⟩ => ?_⟩
  subst e2
  cases d2
  exact ⟨a, b, rfl, rfl, hb, by rw [line_eq]; exact hz, fun p hp => fin0N (o := .lst _) k ok2 g2 l2 hp ⟨_, rfl, da_ofStrs _⟩ p2⟩
/-- xs.index(y) -/
theorem ew_lindex {o e : Expr} {apos : Pos} {Post : PyData → DEnv → Prop} (hu : X.A.units + 65 < cLine) (h : EW X o ρ fun d ρ1 => ∃ ds, d = .list ds ∧ EW X e ρ1 fun y ρ2 => SeqAt.shaped (.list ds) = true ∧ SeqAt.shaped y = true ∧ ∃ (j : Nat) (z : PyData), ds[j]? = some z ∧ PyData.eqv z y = true ∧ (∀ (m : Nat) (z' : PyData), m < j → ds[m]? = some z' → PyData.eqv z' y = false) ∧ Post (.int (j : Nat)) ρ2)
    (hc : PE X (.Call (.Attribute o "index" apos) [e] [] pos) (tBM X.K "list" (rIndexD X.K) (tAny X o) (tCons (tAny X e) tNil))) : EW X (.Call (.Attribute o "index" apos) [e] [] pos) ρ Post := by
  refine EW.by hc fun σ H Q ⟨Hb, ok, k⟩ => ?_
  refine h.go ok (Grow.refl _ _ _) (Like.refl _) fun v d Hb1 H1 ρ1 ok1 g1 _ l1 d1 ⟨ds, e1, h1⟩ => ?_
  subst e1
  cases d1 with
  | @lst a vs _ hs ha =>
    refine ⟨.inl ⟨rfl, _, (hs.mono ok1.sub.rd).sq⟩, h1.go ok1 g1 l1 fun w dw Hb2 H2 ρ2 ok2 g2 s2 l2 d2 ⟨sl, sy, j, z, hz, he, hn, p⟩ => ?_⟩
    have dl : Da X.K Hb2 (.ref a) (.list ds) := Da.mono (same_rd s2) (.lst hs ha)
    have c1 : (PyData.list ds).canLay0 = true := by simpa [PyData.canLay0] using SeqAt.canLay_of_shaped sl
    exact ⟨a, w, dw, ds, j, z, rfl, rfl, (dl.mono ok2.sub.rd).dp _ _ c1, (d2.mono ok2.sub.rd).dp _ _ (SeqAt.canLay_of_shaped sy), sl, sy, hz, he, hn, (fin0 k ok2 g2 l2).val ok2.sub (.int _) p⟩
end
end DL

/-! Calls without arguments; what a def needs of an exception class. -/
namespace DL
open PySem PySem.Spec PyProof.Rows L2
section
variable {X : Cx} {ρ : DEnv} {k : Nat} {f : Addr} {fd : FuncData} {ps : List Str} {sp : Sp} {x : Str} {p pos : Pos} {Post : PyData → DEnv → Prop}
theorem pe_callG0 (F : FnG X.prog X.w X.K X.mg X.base k f fd ps sp) (hr : Room k X.A) (hgd : X.A.guards = some []) (hg : Gl X x) (hm : X.mg x = some (.ref f)) (hk : PySem.W.keepIn X.K (.ref f) = true) (hb : Binds X.K fd ps []) (hdb : (x == ("__debug__" : Str)) = false) :
    PE X (.Call (.Name x p) [] [] pos) (fun σ H Q => sp [] H Q E0) := by
  constructor
  intro pins s σ H Q I h
  refine wpAny_Call_Name_kw (ld_glob I hg hm (PySem.W.callWith_K0 I.kIn hk ?_) hdb)
  have bt := hb s [] I.kIn (F.long _ _ _ _ h)
  refine wpAny_call (codeAny_mono (F.runs X.A X.stack s H ⟨[], []⟩ [] [] Q E0 hr hgd I.env0 bt .nil h) fun rs s' c => ?_)
  match rs, c with
  | .ok (.ret u), c => exact I.after c
  | .ok .next, c => exact (show False from c).elim
  | .ok .brk, c => exact (show False from c).elim
  | .ok .cont, c => exact (show False from c).elim
theorem ew_cal0 {W : GA} (c : CalP X.prog X.w X.K X.mg X.base k x W) (hr : Room k X.A) (hgd : X.A.guards = some []) (hg : Gl X x) (h : W [] fun d => Post d ρ) (hdb : (x == ("__debug__" : Str)) = false := by decide) : EW X (.Call (.Name x p) [] [] pos) ρ Post := by
  obtain ⟨f, fd, ps, F, hm, hk, hb⟩ := c.ex
  refine EW.by (pe_callG0 F hr hgd hg hm hk hb hdb) fun σ H Q ⟨Hb, ok, k⟩ => ?_
  exact ⟨Hb, [], _, ok.sub, .nil, h, fin0 k ok (Grow.refl _ _ _) (Like.refl _)⟩
end
/-- an exception class: its __init__ lays what it is given as the field f -/
structure ClsX (P : Program) (w : World) (K : PySem.W.Frag) (mg : Str → Option Value) (base : Heap) (k : Nat) (x : Str) (C : Addr) (f : Str) (ok : PyData → Prop) : Prop where
  oex : OexC K C
  nm : mg x = some (.ref C)
  ini : ∃ fI fd ps j, PySem.W.findIn K (.ref C) "__init__" = some (some (.ref fI)) ∧ PySem.W.typeIn K (.ref fI) = some (.type "function") ∧ FnOk P w K mg base CX0 j fI fd ps (SpI K C f ok) ∧ j + 1 ≤ k ∧ Binds K fd ps []
  isC : L2.ExcC K C
  xf : XfC K C
  nof : PySem.W.findIn K (.ref C) f = some none
  kit : PySem.W.kitOne K (.ref C) (.ref C) = some true
theorem ClsX.mono {P : Program} {w : World} {K : PySem.W.Frag} {mg : Str → Option Value} {base : Heap} {k j : Nat} {x : Str} {C : Addr} {f : Str} {ok : PyData → Prop} (c : ClsX P w K mg base j x C f ok) (h : j ≤ k) : ClsX P w K mg base k x C f ok := by
  obtain ⟨fI, fd, ps, i, a, b, F, hi, e⟩ := c.ini
  exact ⟨c.oex, c.nm, ⟨fI, fd, ps, i, a, b, F, by omega, e⟩, c.isC, c.xf, c.nof, c.kit⟩
theorem sx_raiseC {X : Cx} {W : WX} {pr : List Nat} {ρ : DEnv} {D : DE} {XP : XPT} {k : Nat} {x : Str} {C : Addr} {f : Str} {ok : PyData → Prop} {e : Expr} {p p2 p3 : Pos} (c : ClsX X.prog X.w X.K X.mg X.base k x C f ok) (hr : Room k X.A) (hg : Gl X x) (hc : X.calm = true) (tk : Takes X W)
    (h : EW X e ρ fun dv ρ1 => ok dv ∧ XP C [(f, dv)] ρ1)
    (hdb : (x == ("__debug__" : Str)) = false := by decide) (he : starEach [e] X.env = (false, eval e X.env) :: starEach [] X.env := by rfl) (hpl : (backTo p2 (starEach [] X.env)).any (·.1) = false := by rfl) : SX X W pr (.Raise (some (.Call (.Name x p) [e] [] p2)) none p3) ρ D XP := by
  obtain ⟨fI, fd, ps, i, a, b, F, hi, hb⟩ := c.ini
  exact sx_raise c.oex a b F (hr.mono hi) hb pass0 hg c.nm hc tk h hdb he hpl
end DL

/-! try: return (A, g(x)) except T as e: return (B, e.f) if isinstance(e, C) else .. -/
namespace DL
open PySem PySem.Spec PyProof.Rows L2
section
variable {X : Cx} {ρ : DEnv} {D : DE} {pr : List Nat} {k : Nat} {W : GX} {g T cn en x A B fld : Str} {C CT : Addr} {ok : PyData → Prop} {d : PyData} {j i : Nat} {Oth : Expr}
theorem Takes.none {X : Cx} : Takes X (fun _ _ _ _ => False) := fun e s h => (by
  obtain ⟨_, _, _, _, _, _, _, _, _, _, _, _, _, _, _, _, z⟩ := h
  first | exact z.elim | exact z)
theorem sw_tellX {a1 a3 b1 b3 : _} {a2 p1 px p2 p3 p4 p5 q1 q2 q3 q4 q5 q6 b2 q7 q8 q9 p10 p11 : Pos} (hs : X.stack = X.env :: X.outer) (hf : X.env.frame = some X.env.locals) (hN : X.N.Nodup) (hi : X.N[i]? = some en) (hln : X.env.kindOf en = some .local)
    (hT : Names X T (.ref CT)) (c : CalX X.prog X.w X.K X.mg X.base k g W) (hr : Room k X.A) (hgd : X.A.guards = some []) (gg : Gl X g)
    (cx : ClsX X.prog X.w X.K X.mg X.base k cn C fld ok) (gc : Gl X cn) (exm : PySem.W.exmOne X.K (.ref C) (.ref CT) = some true)
    (gi : Gl X "isinstance") (mi : X.mg "isinstance" = none)
    (hx : ∀ pn xe, PE (X.tr pn xe) (.Name x px) (tVar j)) (e : ρ[j]? = some (.pd d))
    (he : ∀ a pn, PE (X.suite a pn) (.Name en q2) (tVar i)) (he' : ∀ a pn, PE (X.suite a pn) (.Name en q5) (tVar i)) (hil : i < ρ.length)
    (h : W [d] (fun r => D.rt (.tuple [.str A, r]) ρ) (fun C' ds => C' = C ∧ ∃ v, ds = [(fld, v)] ∧ D.rt (.tuple [.str B, v]) ρ))
    (dg : (g == ("__debug__" : Str)) = false := by decide) (dc : (cn == ("__debug__" : Str)) = false := by decide) :
    SW X pr (.Try [.Return (some (.Tuple [.Constant (.str A) a1 a2, .Call (.Name g p1) [.Name x px] [] p2] a3 p3)) p4] [.ExceptHandler (some (.Name T p5)) (some en) [.Return (some (.IfExp (.Call (.Name "isinstance" q1) [.Name en q2, .Name cn q3] [] q4) (.Tuple [.Constant (.str B) b1 b2, .Attribute (.Name en q5) fld q6] b3 q7) Oth q8)) q9] p10] [] [] p11) ρ D := by
  obtain ⟨f, fd, ps, F, hm, hk, hb⟩ := c.ex
  refine SW.by (L2.ps_try_as hs hf hN hi hln hT (Wout := fun _ _ _ _ => False) Takes.none
    (fun W pn xe tk hp => pss_cons (ps_ret (pe_tup (pa_cons pe_str (pa_cons (pe_callX (X := X.tr pn xe) F tk hr hgd gg hm hk hb (pa_cons (hx pn xe) pa_nil) dg rfl rfl) pa_nil)))) pss_nil)
    (ts := fun a cls d DD σ H => cls = .ref C ∧ tSeq (tRet (tIf (tB (tCB (fun xs H Q => ∃ (c : V) (cv : Value) (b : Bool), xs = [.ref a, c] ∧ (∀ u, RelV c u → u = cv) ∧ PySem.W.kitOne X.K (.ref C) cv = some b ∧ (∃ dd fs, d = some dd ∧ H dd = some (.xd fs)) ∧ Q (.bl b) H) (tCons (tVar i) (tCons (tC (.ref C)) tNil))))
      (tTup (tCons (tC (.str B)) (tCons (tXf a (.ref C) d C fld (tVar i)) tNil))) (fun _ _ _ => False))) tNext DD σ H)
    (fun a oe cls d pn hz hf' => ⟨fun pins s σ H DD I h => ?_⟩)) fun DD σ H ⟨Hb, okk, _, k2, _, _⟩ => ?_
  · obtain ⟨rfl, h⟩ := h
    exact (pss_cons (ps_ret (pe_ifExp (pt_val (pe_callB (call_isX cx.isC hz hf') gi mi PyProof.Rows.boot_isinstance (pa_cons (he a _) (pa_cons (pe_glob (v := .ref C) gc cx.nm rfl dc) pa_nil)))) (pe_tup (pa_cons pe_str (pa_cons (pe_xf cx.xf cx.nof hz hf' (he' a _)) pa_nil))) (⟨fun _ _ _ _ _ _ z => z.elim⟩ : PE _ Oth fun _ _ _ => False))) pss_nil).run pins s σ H DD I h
  have ret : ∀ Hb2 H2, Sub Hb2 H2 → Grow N0 Hb H Hb2 H2 → Ret X.K Hb2 H2 (fun d => D.rt d ρ) DD.rt := fun Hb2 H2 s g v3 d3 Hb3 H3 s3 g3 dv3 p3 =>
    k2 v3 (.d d3) σ ρ Hb3 H3 (Fin.like ((okk.grow g s).grow g3 s3) (((Grow.refl _ _ _).trans0 g).trans0 g3) (Like.refl _)) dv3 p3
  obtain ⟨v, e1, dv⟩ := okk.sl j _ e
  refine ⟨v, e1, Hb, [d], _, _, okk.sub, .cons dv .nil, h, fun v2 d2 Hb2 H2 s2 g2 dv2 p2 => ?_, fun C' ds cls dd0 Hb3 H3 s3 g3 xo z => ?_⟩
  · exact ⟨small (show 2 ≤ 100000 by decide), fun p hp => (ret Hb2 H2 s2 g2).tup s2 hp (.cons (.str A) (.cons dv2 .nil)) p2⟩
  · obtain ⟨rfl, dd, fs, rfl, ea, hall⟩ := xo
    obtain ⟨rfl, y, rfl, pp⟩ := z
    obtain ⟨vv, ev, dvv⟩ := hall _ _ List.mem_cons_self
    refine ⟨true, exm, fun _ a na => ⟨rfl, ?_⟩, fun z => nomatch z⟩
    have es : (σ.set i (some (.ref a)))[i]? = some (some (.ref a)) := by
      rw [List.getElem?_set_self (by rw [← okk.len]; exact hil)]
    refine ⟨.ref a, es, .ref C', .ref C', true, rfl, fun u h => h, cx.kit, ⟨dd, fs, rfl, ea⟩, true, rfl, ?_⟩
    show tTup (tCons (tC (.str B)) (tCons (tXf a (.ref C') (some dd) C' fld (tVar i)) tNil)) _ _ _
    exact ⟨.ref a, es, rfl, rfl, dd, fs, vv, rfl, ea, ev, small (show 2 ≤ 100000 by decide), fun p hp => (ret Hb3 H3 s3 g3).tup s3 hp (.cons (.str B) (.cons dvv .nil)) pp⟩
end
end DL

/-! def __init__(self, x): super().__init__(e); self.f = x -/
namespace DL
open PySem PySem.Spec PyProof.Rows L2
section
variable {P : Program} {w : World} {K : PySem.W.Frag} {mg : Str → Option Value} {base : Heap} {qual : Str} {scope : Scope} {f cda cc : Addr}
theorem fn_init {CX : CXT} {k : Nat} {C : Addr} {name sl xn fld : Str} {params : Arguments} {dV kV doc pm ct oc ccl cl : Value} {an od cdd cld : Option Addr} {osl ccs csl : Array (Option Value)} {cvs : Array Value} {file : Str} {tf : Tok} {ar : Arg} {ok : PyData → Prop}
    {p0 p1 p2 p3 p4 q1 q2 q3 q4 : Pos} {e : Expr}
    (lk : K.lookup f = some ⟨oc, od, .func (PySem.W.ksFn name qual params [.Expr (.Call (.Attribute (.Call (.Name "super" p0) [] [] p1) "__init__" p2) [e] [] p3) p4, .Assign [.Attribute (.Name sl q1) fld q2] (.Name xn q3) q4] scope dV kV doc pm an (.ref cda) ct cc), osl⟩)
    (hcd : PySem.W.codeIn K (.ref cda) qual = true) (hco : K.lookup cda = some ⟨ccl, cdd, .fields cvs, ccs⟩) (hvs : cvs[2]? = some (.str file tf)) (hfile : ((P.main.file : Str) == file) = true)
    (hcell : K.lookup cc = some ⟨cl, cld, .cell (some (.ref C)), csl⟩) (T : OexC K C) (hsup : PySem.W.ks_superIn K C C "__init__" = some (some (.builtin "ValueError.__init__"))) (hmg : mg "super" = none)
    (htop : (P.main.scope.names.lookup ("super" : Str)).isSome = false) (hot : PySem.W.nsIn K cStatics "thirdparty.any" = some none) (hVE : PySem.W.subIn K (.ref C) (.type "ValueError") = some true) (hCC : PySem.W.mroIn K C (.ref C) = some true)
    (S : MScope [sl, xn] [sl, xn] scope) (hpar : (params.posonlyargs ++ params.args).head? = some ar) (har : sl = ar.arg) (hf : PySem.W.findIn K (.ref C) fld = some none)
    (ds : (sl == ("__debug__" : Str)) = false) (dsc : (sl == ("__classdict__" : Str)) = false) (dx : (xn == ("__debug__" : Str)) = false) (dxc : (xn == ("__classdict__" : Str)) = false)
    (read : ∀ (A : Around) (outer : List Env) (s : Shared) (H : Hp) (d : PyData), ok d → AW (cxM P w K mg base [sl, xn] qual scope f cda cc A outer s H) [e] [.un, .pd d] fun ds _ => ds.length ≤ 1000)
    (he : ∀ env, starEach [e] env = (false, eval e env) :: starEach [] env) (hpl : ∀ env, (backTo p3 (starEach [] env)).any (·.1) = false) {pl : Env → Sem Bool}
    (hce : ∀ env, eval (.Call (.Attribute (.Call (.Name "super" p0) [] [] p1) "__init__" p2) [e] [] p3) env = (do
      let ov ← attributeBase (.Call (.Name "super" p0) [] [] p1) "__init__" env (eval (.Call (.Name "super" p0) [] [] p1) env)
      standAt p2.atName
      let (f, first) ← holding [ov] (getMethod ov "__init__" (pl env))
      callWith p3 f first (backTo p3 (starEach [e] env)) []))
    (hsw : ∀ env, swapsWith (.Name xn q3) (some (.Attribute (.Name sl q1) fld q2)) q4.line env = pure false) :
    FnOk P w K mg base CX (k + 1) f (PySem.W.ksFn name qual params [.Expr (.Call (.Attribute (.Call (.Name "super" p0) [] [] p1) "__init__" p2) [e] [] p3) p4, .Assign [.Attribute (.Name sl q1) fld q2] (.Name xn q3) q4] scope dV kV doc pm an (.ref cda) ct cc) [sl, xn] (SpI K C fld ok) := by
  refine init_super lk hcd hco hvs hfile hcell T hsup hmg htop hot hVE hCC S hpar (by rw [← har]; rfl) (fun vs H Q E ⟨a, v, d, Hb, e, _⟩ => by rw [e]; rfl) (fun A outer s H vs Q E hr ⟨a, v, d, Hb, ev, sb, hba, dv, hok, ha, hq⟩ => ?_) he hpl hce
  subst ev
  have no : ∀ p, ¬ Owned (L2.start [sl, xn] [.ref a, v]) [.un, .pd d] p := fun p ⟨i, o, z, _⟩ => by
    rcases i with _ | _ | i
    · cases z
    · cases z
    · simp at z
  have o0 : Ok K (L2.start [sl, xn] [.ref a, v]) Hb H [.un, .pd d] := ⟨rfl, sb, fun i x z => by
    rcases i with _ | _ | i
    · cases z
      exact True.intro
    · cases z
      exact ⟨v, rfl, dv⟩
    · simp at z, fun i j o o' p z => absurd z (by
    rcases i with _ | _ | i
    · exact fun z => by cases z
    · exact fun z => by cases z
    · simp)⟩
  refine ⟨_, _, a, [v], rfl, ha, read A outer s H d hok, pss_one (ps_ost (pe_var (i := 0) rfl (.inl (S.par _ List.mem_cons_self)) ds dsc) (pe_var (i := 1) rfl (.inl (S.par _ (List.mem_cons_of_mem _ List.mem_cons_self))) dx dxc) (hsw _)), Hb, o0, fun us ds2 Hb2 H2 ρ' ok2 g2 l2 da hz => ?_⟩
  have ha2 : H2 a = some (exo a C none) := g2.keep a _ ha (no a)
  refine ⟨by rw [da.length]; exact hz, ha2, v, rfl, .ref a, rfl, a, C, rfl, T, hf, .inl ⟨ha2, fun dx h1 h2 => ?_⟩⟩
  exact hq Hb2 H2 dx ok2.sub (g2.wide no) ha2 h1 h2
end
end DL

/-! ClsX from what the written part says. -/
namespace DL
open PySem PySem.Spec PyProof.Rows L2
/-- the n-th statement of a class -/
def clsStmt (s : Stmt) (n : Nat) : Stmt := match s with
  | .ClassDef _ _ _ b _ _ _ _ _ _ _ => b.getD n (.Pass ⟨0, 0, 0, 0⟩)
  | _ => s
section
variable {P : Program} {w : World} {K : PySem.W.Frag} {mg : Str → Option Value} {base : Heap} {qual : Str} {f cda cc : Addr}
theorem clsX_init {k : Nat} {C : Addr} {st : Stmt} {x name sl xn fld : Str} {kV doc pm ct oc ccl cl : Value} {an od cdd cld : Option Addr} {osl ccs csl : Array (Option Value)} {cvs : Array Value} {file : Str} {tf : Tok} {ar : Arg} {ok : PyData → Prop}
    {p0 p1 p2 p3 p4 q1 q2 q3 q4 : Pos} {e : Expr} {nm q N bs bm sn sub ab col dd k0 k1 k2 k3 k5 : _}
    (mC : mg x = some (.ref C)) (lkC : K.lookup C = some (excClassObj nm q C N bs bm true sn sub ab col dd k0 k1 k2 k3 k5 "ValueError.__new__")) (rVE : PySem.HandSPX.refsVE bm = true)
    (sa : PySem.W.findIn K (.ref C) "__setattr__" = some (some (.builtin "object.__setattr__"))) (exC : PySem.W.subIn K (.ref C) (.type "BaseException") = some true) (tyC : PySem.W.typeIn K (.ref C) = some (.type "type")) (kC : PySem.W.keepIn K (.ref C) = true)
    (hg : PySem.W.findIn K (.ref C) "__getattribute__" = some (some (.builtin "BaseException.__getattribute__"))) (gk : PySem.W.findIn K (.ref C) "__getattr__" = some none) (hd : PySem.W.hasDictIn K C = true)
    (ha : PySem.W.findIn K (.ref C) "__class__" = some (some (.builtin "object.__class__"))) (hn : PySem.W.specialIn K (.builtin "object.__class__") "__get__" = some (some (.builtin "getset_descriptor.__get__"))) (ht : PySem.W.takesIn K (.builtin "object.__class__") = some true)
    (hm : PySem.W.mroIn K C (.type "object") = some true) (nof : PySem.W.findIn K (.ref C) fld = some none)
    (iC : PySem.W.findIn K (.ref C) "__init__" = some (some (.ref f))) (tI : PySem.W.typeIn K (.ref f) = some (.type "function"))
    (lk : K.lookup f = some ⟨oc, od, .func (PySem.W.ksFn name qual (defArgs st) (defBody st) (defScope st) .none kV doc pm an (.ref cda) ct cc), osl⟩)
    (hcd : PySem.W.codeIn K (.ref cda) qual = true) (hco : K.lookup cda = some ⟨ccl, cdd, .fields cvs, ccs⟩) (hvs : cvs[2]? = some (.str file tf)) (hfile : ((P.main.file : Str) == file) = true)
    (hcell : K.lookup cc = some ⟨cl, cld, .cell (some (.ref C)), csl⟩) (hsup : PySem.W.ks_superIn K C C "__init__" = some (some (.builtin "ValueError.__init__"))) (hmg : mg "super" = none)
    (htop : (P.main.scope.names.lookup ("super" : Str)).isSome = false) (hot : PySem.W.nsIn K cStatics "thirdparty.any" = some none) (hVE : PySem.W.subIn K (.ref C) (.type "ValueError") = some true) (hCC : PySem.W.mroIn K C (.ref C) = some true)
    (hbd : defBody st = [.Expr (.Call (.Attribute (.Call (.Name "super" p0) [] [] p1) "__init__" p2) [e] [] p3) p4, .Assign [.Attribute (.Name sl q1) fld q2] (.Name xn q3) q4])
    (S : MScope [sl, xn] [sl, xn] (defScope st)) (hpar : ((defArgs st).posonlyargs ++ (defArgs st).args).head? = some ar) (har : sl = ar.arg)
    (hb : ∀ (kV doc pm : Value) (an : Option Addr) (cdv ct : Value) (us : List Value), us.length = 2 → bindArgs (PySem.W.ksFn name qual (defArgs st) (defBody st) (defScope st) .none kV doc pm an cdv ct cc) ⟨us, []⟩ = pure ([sl, xn].zip us))
    (ds : (sl == ("__debug__" : Str)) = false) (dsc : (sl == ("__classdict__" : Str)) = false) (dx : (xn == ("__debug__" : Str)) = false) (dxc : (xn == ("__classdict__" : Str)) = false)
    (read : ∀ (A : Around) (outer : List Env) (s : Shared) (H : Hp) (d : PyData), ok d → AW (cxM P w K mg base [sl, xn] qual (defScope st) f cda cc A outer s H) [e] [.un, .pd d] fun ds _ => ds.length ≤ 1000)
    (he : ∀ env, starEach [e] env = (false, eval e env) :: starEach [] env) (hpl : ∀ env, (backTo p3 (starEach [] env)).any (·.1) = false) {pl : Env → Sem Bool}
    (hce : ∀ env, eval (.Call (.Attribute (.Call (.Name "super" p0) [] [] p1) "__init__" p2) [e] [] p3) env = (do
      let ov ← attributeBase (.Call (.Name "super" p0) [] [] p1) "__init__" env (eval (.Call (.Name "super" p0) [] [] p1) env)
      standAt p2.atName
      let (f, first) ← holding [ov] (getMethod ov "__init__" (pl env))
      callWith p3 f first (backTo p3 (starEach [e] env)) []))
    (hsw : ∀ env, swapsWith (.Name xn q3) (some (.Attribute (.Name sl q1) fld q2)) q4.line env = pure false) (hk : 2 ≤ k) : ClsX P w K mg base k x C fld ok := by
  have T : OexC K C := ⟨⟨nm, q, N, bs, bm, sn, sub, ab, col, dd, k0, k1, k2, k3, k5, lkC, rVE⟩, sa, exC, tyC, kC⟩
  have lk' := lk
  have hb' : Binds K (PySem.W.ksFn name qual (defArgs st) (defBody st) (defScope st) .none kV doc pm an (.ref cda) ct cc) [sl, xn] [] := .all (hb kV doc pm an (.ref cda) ct)
  rw [hbd] at lk' hb'
  exact ⟨T, mC, ⟨f, _, _, 1, iC, tI, fn_init (k := 0) lk' hcd hco hvs hfile hcell T hsup hmg htop hot hVE hCC S hpar har nof ds dsc dx dxc read he hpl hce hsw, hk, hb'⟩, ⟨hg, gk, exC, hd, ha, hn, ht, hm⟩, ⟨hg, gk, exC, hd⟩, nof, by unfold PySem.W.kitOne; rw [if_pos (beq_self_eq_true _)]⟩
/-- caught by the clause of another own class -/
theorem exm_of {C CT : Addr} (h1 : PySem.W.subIn K (.ref CT) (.type "BaseException") = some true) (h2 : PySem.W.hasDictIn K CT = true) (h3 : PySem.W.typeIn K (.ref CT) = some (.type "type")) (h4 : PySem.W.subIn K (.ref C) (.ref CT) = some true) : PySem.W.exmOne K (.ref C) (.ref CT) = some true := by
  have hcl : (PySem.W.clsIn K CT).isSome = true := by
    obtain ⟨cd, hc, _⟩ := PySem.W.any_some h2
    rw [hc]
    rfl
  have e : PySem.W.kitCls K (.ref C) (.ref CT) = some true := by
    show (if ((PySem.W.clsIn K CT).isSome && PySem.W.typeIn K (.ref CT) == some (.type "type")) = true then PySem.W.subIn K (.ref C) (.ref CT) else none) = _
    rw [h3, hcl, h4]
    rfl
  unfold PySem.W.exmOne
  rw [h1, e]
  rfl
end
end DL

open PySem PySem.Spec PyProof.Rows L2 DL
local macro_rules | `(tactic| walk_at "dlname") => `(tactic| first
  | refine ew_name 0 (pv 0) rfl ?_
  | refine ew_name 1 (pv 1) rfl ?_
  | refine ew_name 2 (pv 2) rfl ?_
  | refine ew_name 3 (pv 3) rfl ?_
  | refine ew_name 4 (pv 4) rfl ?_
  | refine ew_name 5 (pv 5) rfl ?_
  | refine ew_name 6 (pv 6) rfl ?_
  | refine ew_name 7 (pv 7) rfl ?_
  | refine ew_name 8 (pv 8) rfl ?_
  | refine ew_name 9 (pv 9) rfl ?_
  | refine ew_name 10 (pv 10) rfl ?_
  | refine ew_name 11 (pv 11) rfl ?_
  | refine ew_name 12 (pv 12) rfl ?_
  | refine ew_name 13 (pv 13) rfl ?_
  | refine ew_name 14 (pv 14) rfl ?_
  | refine ew_name 15 (pv 15) rfl ?_
  | refine ew_glob (v := .int _) rfl (by assumption) ⟨_, rfl⟩ (fun _ => .int _) ?_
  | refine ew_glob (v := .str _) rfl (by assumption) ⟨_, rfl⟩ (fun _ => .str _) ?_
  | refine ew_glob (v := .ref _) rfl (by assumption) rfl (by assumption) ?_)
local macro_rules | `(tactic| walk_at "dllen") => `(tactic| first
  | refine ew_lenO (l := PySem.Str.ofString "") 0 (pv 0) rfl rfl (by assumption) ?_
  | refine ew_lenO (l := PySem.Str.ofString "") 1 (pv 1) rfl rfl (by assumption) ?_
  | refine ew_lenO (l := PySem.Str.ofString "") 2 (pv 2) rfl rfl (by assumption) ?_
  | refine ew_lenO (l := PySem.Str.ofString "") 3 (pv 3) rfl rfl (by assumption) ?_
  | refine ew_lenO (l := PySem.Str.ofString "") 4 (pv 4) rfl rfl (by assumption) ?_
  | refine ew_lenO (l := PySem.Str.ofString "") 5 (pv 5) rfl rfl (by assumption) ?_
  | refine ew_lenO (l := PySem.Str.ofString "") 6 (pv 6) rfl rfl (by assumption) ?_
  | refine ew_lenO (l := PySem.Str.ofString "") 7 (pv 7) rfl rfl (by assumption) ?_
  | refine ew_lenO (l := PySem.Str.ofString "") 8 (pv 8) rfl rfl (by assumption) ?_
  | refine ew_lenO (l := PySem.Str.ofString "") 9 (pv 9) rfl rfl (by assumption) ?_
  | refine ew_lenO (l := PySem.Str.ofString "") 10 (pv 10) rfl rfl (by assumption) ?_
  | refine ew_lenO (l := PySem.Str.ofString "") 11 (pv 11) rfl rfl (by assumption) ?_
  | refine ew_callB cd_len rfl (by assumption) boot_len ?_)
local macro_rules | `(tactic| walk_at "dlix") => `(tactic| first
  | refine ew_ixO 0 (pv 0) rfl ?_ (fun _ _ => rfl)
  | refine ew_ixO 1 (pv 1) rfl ?_ (fun _ _ => rfl)
  | refine ew_ixO 2 (pv 2) rfl ?_ (fun _ _ => rfl)
  | refine ew_ixO 3 (pv 3) rfl ?_ (fun _ _ => rfl)
  | refine ew_ixO 4 (pv 4) rfl ?_ (fun _ _ => rfl)
  | refine ew_ixO 5 (pv 5) rfl ?_ (fun _ _ => rfl)
  | refine ew_ixO 6 (pv 6) rfl ?_ (fun _ _ => rfl)
  | refine ew_ixO 7 (pv 7) rfl ?_ (fun _ _ => rfl)
  | refine ew_ixO 8 (pv 8) rfl ?_ (fun _ _ => rfl)
  | refine ew_ixO 9 (pv 9) rfl ?_ (fun _ _ => rfl)
  | refine ew_ixO 10 (pv 10) rfl ?_ (fun _ _ => rfl)
  | refine ew_ixO 11 (pv 11) rfl ?_ (fun _ _ => rfl)
  | refine ew_ix ?_ (fun _ _ => rfl))
local macro_rules | `(tactic| walk_at "dlown") => `(tactic| first
  | refine ew_calO 0 (by assumption) (by assumption) (by assumption) rfl (pv 0) rfl ?_
  | refine ew_calO 1 (by assumption) (by assumption) (by assumption) rfl (pv 1) rfl ?_
  | refine ew_calO 2 (by assumption) (by assumption) (by assumption) rfl (pv 2) rfl ?_
  | refine ew_calO 3 (by assumption) (by assumption) (by assumption) rfl (pv 3) rfl ?_
  | refine ew_calO 4 (by assumption) (by assumption) (by assumption) rfl (pv 4) rfl ?_
  | refine ew_calO 5 (by assumption) (by assumption) (by assumption) rfl (pv 5) rfl ?_
  | refine ew_calO 6 (by assumption) (by assumption) (by assumption) rfl (pv 6) rfl ?_
  | refine ew_calO 7 (by assumption) (by assumption) (by assumption) rfl (pv 7) rfl ?_)
local macro_rules | `(tactic| walk_at "dlbuilt") => `(tactic| first
  | ((with_reducible show EW _ (.Call (.Name "len" _) _ _ _) _ _); walk_at "dllen")
  | ((with_reducible show EW _ (.Call (.Name "list" _) [.Call (.Name "range" _) [_] _ _] _ _) _ _); refine EN.ew ?_; refine en_listRg rfl rfl (by assumption) rfl (by assumption) ?_; try dsimp only [OD.data])
  | ((with_reducible show EW _ (.Call (.Name "int" _) _ _ _) _ _); refine ew_callT cd_int rfl (by assumption) (by decide +kernel) ?_)
  | ((with_reducible show EW _ (.Call (.Name "str" _) _ _ _) _ _); refine ew_callT cd_str rfl (by assumption) (by decide +kernel) ?_)
  | ((with_reducible show EW _ (.Call (.Name "tuple" _) _ _ _) _ _); refine ew_callT cd_tuple rfl (by assumption) (by decide +kernel) ?_)
  | ((with_reducible show EW _ (.Call (.Name "list" _) _ _ _) _ _); refine ew_callT cd_list rfl (by assumption) (by decide +kernel) ?_)
  | ((with_reducible show EW _ (.Call (.Name "repr" _) _ _ _) _ _); refine ew_callB (cd_reprA (by assumption) (by assumption)) rfl (by assumption) (by decide +kernel) ?_)
  | ((with_reducible show EW _ (.Call (.Name "ord" _) _ _ _) _ _); refine ew_callB cd_ord rfl (by assumption) (by decide +kernel) ?_)
  | ((with_reducible show EW _ (.Call (.Name "all" _) _ _ _) _ _); refine ew_callB (cd_all rfl) rfl (by assumption) (by decide +kernel) ?_)
  | ((with_reducible show EW _ (.Call (.Name "any" _) _ _ _) _ _); refine ew_callB (cd_any rfl) rfl (by assumption) (by decide +kernel) ?_)
  | ((with_reducible show EW _ (.Call (.Name "isinstance" _) [_, .Name "str" _] _ _) _ _); refine ew_isi (T := "str") rfl (by assumption) rfl (by assumption) (by decide +kernel) (by decide +kernel) ?_)
  | ((with_reducible show EW _ (.Call (.Name "isinstance" _) [_, .Name "int" _] _ _) _ _); refine ew_isi (T := "int") rfl (by assumption) rfl (by assumption) (by decide +kernel) (by decide +kernel) ?_)
  | ((with_reducible show EW _ (.Call (.Name "isinstance" _) [_, .Name "bool" _] _ _) _ _); refine ew_isi (T := "bool") rfl (by assumption) rfl (by assumption) (by decide +kernel) (by decide +kernel) ?_)
  | ((with_reducible show EW _ (.Call (.Name "isinstance" _) [_, .Name "tuple" _] _ _) _ _); refine ew_isi (T := "tuple") rfl (by assumption) rfl (by assumption) (by decide +kernel) (by decide +kernel) ?_)
  | ((with_reducible show EW _ (.Call (.Name "isinstance" _) [_, .Name "list" _] _ _) _ _); refine ew_isi (T := "list") rfl (by assumption) rfl (by assumption) (by decide +kernel) (by decide +kernel) ?_)
  | ((with_reducible show EW _ (.Call (.Name "isinstance" _) [_, .Name "dict" _] _ _) _ _); refine ew_isi (T := "dict") rfl (by assumption) rfl (by assumption) (by decide +kernel) (by decide +kernel) ?_))
local macro_rules | `(tactic| walk_at "dlcall") => `(tactic| first
  | ((with_reducible show EW _ (.Call (.Name _ _) [] _ _) _ _); refine ew_cal0 (by assumption) (by assumption) (by assumption) rfl ?_)
  | ((with_reducible show EW _ (.Call (.Name _ _) _ _ _) _ _); first | walk_at "dlbuilt" | (refine ew_calL (by with_reducible assumption) (by assumption) (by assumption) (by assumption) rfl ?_; try dsimp only [frz, List.set_cons_zero, List.set_cons_succ, List.map_cons, List.map_nil, frzS, OD.data]) | refine ew_cal (by assumption) (by assumption) (by assumption) rfl ?_ | walk_at "dlown" | (refine EN.ew ?_; refine en_cal (by assumption) (by assumption) (by assumption) rfl ?_; try dsimp only [OD.data]))
  | ((with_reducible show EW _ (.Call (.Attribute _ "join" _) _ _ _) _ _); refine ew_m1 PySem.F.slot_str_join PySem.F.type_str_join md_join ?_)
  | ((with_reducible show EW _ (.Call (.Attribute _ "split" _) _ _ _) _ _); refine ew_m1 PySem.F.slot_str_split PySem.F.type_str_split md_split ?_)
  | ((with_reducible show EW _ (.Call (.Attribute _ "index" _) _ _ _) _ _); refine ew_m1 PySem.F.slot_str_index PySem.F.type_str_index md_sindex ?_))
local macro_rules | `(tactic| walk_at "dlbin") => `(tactic| first
  | ((with_reducible show EW _ (.BinOp _ .Add _ _) _ _); refine ew_bin od_add ?_)
  | ((with_reducible show EW _ (.BinOp _ .Sub _ _) _ _); refine ew_bin od_sub ?_)
  | ((with_reducible show EW _ (.BinOp _ .Mult _ _) _ _); refine ew_bin od_mul ?_)
  | ((with_reducible show EW _ (.BinOp _ .FloorDiv _ _) _ _); refine ew_bin od_fdiv ?_)
  | ((with_reducible show EW _ (.BinOp _ .Mod _ _) _ _); refine ew_bin od_mod ?_)
  | ((with_reducible show EW _ (.BinOp _ .Pow _ _) _ _); refine ew_bin od_pow ?_))
local macro_rules | `(tactic| walk_at "dlcmp") => `(tactic| first
  | ((with_reducible show EW _ (.Compare _ [.Lt] [_] _) _ _); refine ew_cmp od_lt (nomark _) ?_)
  | ((with_reducible show EW _ (.Compare _ [.LtE] [_] _) _ _); refine ew_cmp od_le (nomark _) ?_)
  | ((with_reducible show EW _ (.Compare _ [.Gt] [_] _) _ _); refine ew_cmp od_gt (nomark _) ?_)
  | ((with_reducible show EW _ (.Compare _ [.GtE] [_] _) _ _); refine ew_cmp od_ge (nomark _) ?_)
  | ((with_reducible show EW _ (.Compare _ [.Eq] [_] _) _ _); refine ew_cmp (od_eq (by assumption)) (nomark _) ?_)
  | ((with_reducible show EW _ (.Compare _ [.NotEq] [_] _) _ _); refine ew_cmp (od_ne (by assumption)) (nomark _) ?_)
  | ((with_reducible show EW _ (.Compare _ [.Is] [_] _) _ _); refine ew_cmp od_is (nomark _) ?_)
  | ((with_reducible show EW _ (.Compare _ [.IsNot] [_] _) _ _); refine ew_cmp od_isNot (nomark _) ?_)
  | ((with_reducible show EW _ (.Compare _ [.In] [_] _) _ _); refine ew_cmp (od_in (by assumption)) rfl ?_)
  | ((with_reducible show EW _ (.Compare _ [.NotIn] [_] _) _ _); refine ew_cmp (od_notIn (by assumption)) rfl ?_)
  | ((with_reducible show EW _ (.Compare _ [.LtE, .LtE] [_, _] _) _ _); refine ew_chain od_le od_le rfl ?_))
local macro_rules | `(tactic| walk_at "dltcmp") => `(tactic| first
  | ((with_reducible show TW _ (.Compare _ [.Lt] [_] _) _ _); refine tw_cmp od_lt (nomark _) ?_)
  | ((with_reducible show TW _ (.Compare _ [.LtE] [_] _) _ _); refine tw_cmp od_le (nomark _) ?_)
  | ((with_reducible show TW _ (.Compare _ [.Gt] [_] _) _ _); refine tw_cmp od_gt (nomark _) ?_)
  | ((with_reducible show TW _ (.Compare _ [.GtE] [_] _) _ _); refine tw_cmp od_ge (nomark _) ?_)
  | ((with_reducible show TW _ (.Compare _ [.Eq] [_] _) _ _); refine tw_cmp (od_eq (by assumption)) (nomark _) ?_)
  | ((with_reducible show TW _ (.Compare _ [.NotEq] [_] _) _ _); refine tw_cmp (od_ne (by assumption)) (nomark _) ?_)
  | ((with_reducible show TW _ (.Compare _ [.Is] [_] _) _ _); refine tw_cmp od_is (nomark _) ?_)
  | ((with_reducible show TW _ (.Compare _ [.IsNot] [_] _) _ _); refine tw_cmp od_isNot (nomark _) ?_)
  | ((with_reducible show TW _ (.Compare _ [.In] [_] _) _ _); refine tw_cmp (od_in (by assumption)) rfl ?_)
  | ((with_reducible show TW _ (.Compare _ [.NotIn] [_] _) _ _); refine tw_cmp (od_notIn (by assumption)) rfl ?_)
  | ((with_reducible show TW _ (.Compare _ [.LtE, .LtE] [_, _] _) _ _); refine tw_chain od_le od_le rfl ?_))
local macro_rules | `(tactic| walk_at "dlconst") => `(tactic| first
  | ((with_reducible show EW _ (.Constant (.int _) _ _) _ _); refine ew_int ?_)
  | ((with_reducible show EW _ (.Constant (.bool _) _ _) _ _); refine ew_bl ?_)
  | ((with_reducible show EW _ (.Constant (.str _) _ _) _ _); refine ew_str ?_)
  | refine ew_non ?_)
local macro_rules | `(tactic| walk_at "dlbool") => `(tactic| first
  | ((with_reducible show EW _ (.BoolOp _ [_] _) _ _); refine ew_one ?_)
  | ((with_reducible show EW _ (.BoolOp .And _ _) _ _); refine ew_and ?_)
  | refine ew_or ?_)
local macro_rules | `(tactic| walk_at "dlE") => `(tactic| first
  | ((with_reducible show EW _ (.Name _ _) _ _); walk_at "dlname")
  | ((with_reducible show EW _ (.Constant _ _ _) _ _); walk_at "dlconst")
  | ((with_reducible show EW _ (.BinOp _ _ _ _) _ _); walk_at "dlbin")
  | ((with_reducible show EW _ (.Compare _ _ _ _) _ _); walk_at "dlcmp")
  | ((with_reducible show EW _ (.Call _ _ _ _) _ _); walk_at "dlcall")
  | ((with_reducible show EW _ (.Subscript _ (.Slice _ _ none _) _) _ _); refine ew_slice ?_)
  | ((with_reducible show EW _ (.Subscript _ _ _) _ _); walk_at "dlix")
  | ((with_reducible show EW _ (.Tuple _ _ _) _ _); refine ew_tup ?_)
  | ((with_reducible show EW _ (.List _ _) _ _); refine ew_lst ?_)
  | ((with_reducible show EW _ (.IfExp _ _ _ _) _ _); refine ew_ifExp ?_)
  | ((with_reducible show EW _ (.BoolOp _ _ _) _ _); walk_at "dlbool")
  | ((with_reducible show EW _ (.UnaryOp .Not _ _) _ _); refine ew_not ?_)
  | ((with_reducible show EW _ (.UnaryOp .USub _ _) _ _); refine ew_un ud_neg ?_)
  | ((with_reducible show EW _ (.JoinedStr (_ :: _ :: _) _) _ _); refine ew_joined ?_)
  | ((with_reducible show EW _ (.JoinedStr [_] _) _ _); refine ew_joined1 ?_)
  | ((with_reducible show EW _ (.FormattedValue _ _ none _) _ _); refine ew_fmt ?_)
  | ((with_reducible show EW _ (.FormattedValue _ _ (some _) _) _ _); refine ew_f04 ?_))
local macro_rules | `(tactic| walk_at "dlTW") => `(tactic| first
  | ((with_reducible show TWW _ (.BoolOp .And [_] _) _ _); refine tww_and1 ?_)
  | ((with_reducible show TWW _ (.BoolOp .Or [_] _) _ _); refine tww_or1 ?_)
  | ((with_reducible show TWW _ (.BoolOp .And _ _) _ _); refine tww_and ?_)
  | refine tww_or ?_)
local macro_rules | `(tactic| walk_at "dlT") => `(tactic| first
  | ((with_reducible show TW _ (.Compare _ _ _ _) _ _); walk_at "dltcmp")
  | ((with_reducible show TW _ (.BoolOp _ _ _) _ _); refine TWW.tw ?_)
  | ((with_reducible show TW _ (.UnaryOp .Not _ _) _ _); refine tw_not ?_)
  | refine tw_of (by intro _; rfl) ?_)
local macro_rules | `(tactic| walk_at "dlset") => `(tactic| first
  | ((have _ : Ow 0 := by with_reducible assumption); refine sw_setN 0 (ps_set (i := 0) (by assumption) rfl (.inl rfl) (pe_any _)) (by decide) (Nat.le_of_ble_eq_true rfl) ?_)
  | ((have _ : Ow 1 := by with_reducible assumption); refine sw_setN 1 (ps_set (i := 1) (by assumption) rfl (.inl rfl) (pe_any _)) (by decide) (Nat.le_of_ble_eq_true rfl) ?_)
  | ((have _ : Ow 2 := by with_reducible assumption); refine sw_setN 2 (ps_set (i := 2) (by assumption) rfl (.inl rfl) (pe_any _)) (by decide) (Nat.le_of_ble_eq_true rfl) ?_)
  | ((have _ : Ow 3 := by with_reducible assumption); refine sw_setN 3 (ps_set (i := 3) (by assumption) rfl (.inl rfl) (pe_any _)) (by decide) (Nat.le_of_ble_eq_true rfl) ?_)
  | ((have _ : Ow 4 := by with_reducible assumption); refine sw_setN 4 (ps_set (i := 4) (by assumption) rfl (.inl rfl) (pe_any _)) (by decide) (Nat.le_of_ble_eq_true rfl) ?_)
  | ((have _ : Ow 5 := by with_reducible assumption); refine sw_setN 5 (ps_set (i := 5) (by assumption) rfl (.inl rfl) (pe_any _)) (by decide) (Nat.le_of_ble_eq_true rfl) ?_)
  | ((have _ : Ow 6 := by with_reducible assumption); refine sw_setN 6 (ps_set (i := 6) (by assumption) rfl (.inl rfl) (pe_any _)) (by decide) (Nat.le_of_ble_eq_true rfl) ?_)
  | ((have _ : Ow 7 := by with_reducible assumption); refine sw_setN 7 (ps_set (i := 7) (by assumption) rfl (.inl rfl) (pe_any _)) (by decide) (Nat.le_of_ble_eq_true rfl) ?_)
  | ((have _ : Ow 8 := by with_reducible assumption); refine sw_setN 8 (ps_set (i := 8) (by assumption) rfl (.inl rfl) (pe_any _)) (by decide) (Nat.le_of_ble_eq_true rfl) ?_)
  | ((have _ : Ow 9 := by with_reducible assumption); refine sw_setN 9 (ps_set (i := 9) (by assumption) rfl (.inl rfl) (pe_any _)) (by decide) (Nat.le_of_ble_eq_true rfl) ?_)
  | ((have _ : Ow 10 := by with_reducible assumption); refine sw_setN 10 (ps_set (i := 10) (by assumption) rfl (.inl rfl) (pe_any _)) (by decide) (Nat.le_of_ble_eq_true rfl) ?_)
  | ((have _ : Ow 11 := by with_reducible assumption); refine sw_setN 11 (ps_set (i := 11) (by assumption) rfl (.inl rfl) (pe_any _)) (by decide) (Nat.le_of_ble_eq_true rfl) ?_)
  | ((have _ : Ow 12 := by with_reducible assumption); refine sw_setN 12 (ps_set (i := 12) (by assumption) rfl (.inl rfl) (pe_any _)) (by decide) (Nat.le_of_ble_eq_true rfl) ?_)
  | ((have _ : Ow 13 := by with_reducible assumption); refine sw_setN 13 (ps_set (i := 13) (by assumption) rfl (.inl rfl) (pe_any _)) (by decide) (Nat.le_of_ble_eq_true rfl) ?_)
  | ((have _ : Ow 14 := by with_reducible assumption); refine sw_setN 14 (ps_set (i := 14) (by assumption) rfl (.inl rfl) (pe_any _)) (by decide) (Nat.le_of_ble_eq_true rfl) ?_)
  | ((have _ : Ow 15 := by with_reducible assumption); refine sw_setN 15 (ps_set (i := 15) (by assumption) rfl (.inl rfl) (pe_any _)) (by decide) (Nat.le_of_ble_eq_true rfl) ?_)
  | ((have _ : Ow 0 := by with_reducible assumption); refine sw_setN 0 (ps_set (i := 0) (by assumption) rfl (.inr rfl) (pe_any _)) (by decide) (Nat.le_of_ble_eq_true rfl) ?_)
  | ((have _ : Ow 1 := by with_reducible assumption); refine sw_setN 1 (ps_set (i := 1) (by assumption) rfl (.inr rfl) (pe_any _)) (by decide) (Nat.le_of_ble_eq_true rfl) ?_)
  | ((have _ : Ow 2 := by with_reducible assumption); refine sw_setN 2 (ps_set (i := 2) (by assumption) rfl (.inr rfl) (pe_any _)) (by decide) (Nat.le_of_ble_eq_true rfl) ?_)
  | ((have _ : Ow 3 := by with_reducible assumption); refine sw_setN 3 (ps_set (i := 3) (by assumption) rfl (.inr rfl) (pe_any _)) (by decide) (Nat.le_of_ble_eq_true rfl) ?_)
  | ((have _ : Ow 4 := by with_reducible assumption); refine sw_setN 4 (ps_set (i := 4) (by assumption) rfl (.inr rfl) (pe_any _)) (by decide) (Nat.le_of_ble_eq_true rfl) ?_)
  | ((have _ : Ow 5 := by with_reducible assumption); refine sw_setN 5 (ps_set (i := 5) (by assumption) rfl (.inr rfl) (pe_any _)) (by decide) (Nat.le_of_ble_eq_true rfl) ?_)
  | ((have _ : Ow 6 := by with_reducible assumption); refine sw_setN 6 (ps_set (i := 6) (by assumption) rfl (.inr rfl) (pe_any _)) (by decide) (Nat.le_of_ble_eq_true rfl) ?_)
  | ((have _ : Ow 7 := by with_reducible assumption); refine sw_setN 7 (ps_set (i := 7) (by assumption) rfl (.inr rfl) (pe_any _)) (by decide) (Nat.le_of_ble_eq_true rfl) ?_)
  | ((have _ : Ow 8 := by with_reducible assumption); refine sw_setN 8 (ps_set (i := 8) (by assumption) rfl (.inr rfl) (pe_any _)) (by decide) (Nat.le_of_ble_eq_true rfl) ?_)
  | ((have _ : Ow 9 := by with_reducible assumption); refine sw_setN 9 (ps_set (i := 9) (by assumption) rfl (.inr rfl) (pe_any _)) (by decide) (Nat.le_of_ble_eq_true rfl) ?_)
  | ((have _ : Ow 10 := by with_reducible assumption); refine sw_setN 10 (ps_set (i := 10) (by assumption) rfl (.inr rfl) (pe_any _)) (by decide) (Nat.le_of_ble_eq_true rfl) ?_)
  | ((have _ : Ow 11 := by with_reducible assumption); refine sw_setN 11 (ps_set (i := 11) (by assumption) rfl (.inr rfl) (pe_any _)) (by decide) (Nat.le_of_ble_eq_true rfl) ?_)
  | ((have _ : Ow 12 := by with_reducible assumption); refine sw_setN 12 (ps_set (i := 12) (by assumption) rfl (.inr rfl) (pe_any _)) (by decide) (Nat.le_of_ble_eq_true rfl) ?_)
  | ((have _ : Ow 13 := by with_reducible assumption); refine sw_setN 13 (ps_set (i := 13) (by assumption) rfl (.inr rfl) (pe_any _)) (by decide) (Nat.le_of_ble_eq_true rfl) ?_)
  | ((have _ : Ow 14 := by with_reducible assumption); refine sw_setN 14 (ps_set (i := 14) (by assumption) rfl (.inr rfl) (pe_any _)) (by decide) (Nat.le_of_ble_eq_true rfl) ?_)
  | ((have _ : Ow 15 := by with_reducible assumption); refine sw_setN 15 (ps_set (i := 15) (by assumption) rfl (.inr rfl) (pe_any _)) (by decide) (Nat.le_of_ble_eq_true rfl) ?_)
  | refine sw_set 0 (ps_set (i := 0) (by assumption) rfl (.inl rfl) (pe_any _)) (by decide) ?_
  | refine sw_set 1 (ps_set (i := 1) (by assumption) rfl (.inl rfl) (pe_any _)) (by decide) ?_
  | refine sw_set 2 (ps_set (i := 2) (by assumption) rfl (.inl rfl) (pe_any _)) (by decide) ?_
  | refine sw_set 3 (ps_set (i := 3) (by assumption) rfl (.inl rfl) (pe_any _)) (by decide) ?_
  | refine sw_set 4 (ps_set (i := 4) (by assumption) rfl (.inl rfl) (pe_any _)) (by decide) ?_
  | refine sw_set 5 (ps_set (i := 5) (by assumption) rfl (.inl rfl) (pe_any _)) (by decide) ?_
  | refine sw_set 6 (ps_set (i := 6) (by assumption) rfl (.inl rfl) (pe_any _)) (by decide) ?_
  | refine sw_set 7 (ps_set (i := 7) (by assumption) rfl (.inl rfl) (pe_any _)) (by decide) ?_
  | refine sw_set 8 (ps_set (i := 8) (by assumption) rfl (.inl rfl) (pe_any _)) (by decide) ?_
  | refine sw_set 9 (ps_set (i := 9) (by assumption) rfl (.inl rfl) (pe_any _)) (by decide) ?_
  | refine sw_set 10 (ps_set (i := 10) (by assumption) rfl (.inl rfl) (pe_any _)) (by decide) ?_
  | refine sw_set 11 (ps_set (i := 11) (by assumption) rfl (.inl rfl) (pe_any _)) (by decide) ?_
  | refine sw_set 12 (ps_set (i := 12) (by assumption) rfl (.inl rfl) (pe_any _)) (by decide) ?_
  | refine sw_set 13 (ps_set (i := 13) (by assumption) rfl (.inl rfl) (pe_any _)) (by decide) ?_
  | refine sw_set 14 (ps_set (i := 14) (by assumption) rfl (.inl rfl) (pe_any _)) (by decide) ?_
  | refine sw_set 15 (ps_set (i := 15) (by assumption) rfl (.inl rfl) (pe_any _)) (by decide) ?_
  | refine sw_set 0 (ps_set (i := 0) (by assumption) rfl (.inr rfl) (pe_any _)) (by decide) ?_
  | refine sw_set 1 (ps_set (i := 1) (by assumption) rfl (.inr rfl) (pe_any _)) (by decide) ?_
  | refine sw_set 2 (ps_set (i := 2) (by assumption) rfl (.inr rfl) (pe_any _)) (by decide) ?_
  | refine sw_set 3 (ps_set (i := 3) (by assumption) rfl (.inr rfl) (pe_any _)) (by decide) ?_
  | refine sw_set 4 (ps_set (i := 4) (by assumption) rfl (.inr rfl) (pe_any _)) (by decide) ?_
  | refine sw_set 5 (ps_set (i := 5) (by assumption) rfl (.inr rfl) (pe_any _)) (by decide) ?_
  | refine sw_set 6 (ps_set (i := 6) (by assumption) rfl (.inr rfl) (pe_any _)) (by decide) ?_
  | refine sw_set 7 (ps_set (i := 7) (by assumption) rfl (.inr rfl) (pe_any _)) (by decide) ?_
  | refine sw_set 8 (ps_set (i := 8) (by assumption) rfl (.inr rfl) (pe_any _)) (by decide) ?_
  | refine sw_set 9 (ps_set (i := 9) (by assumption) rfl (.inr rfl) (pe_any _)) (by decide) ?_
  | refine sw_set 10 (ps_set (i := 10) (by assumption) rfl (.inr rfl) (pe_any _)) (by decide) ?_
  | refine sw_set 11 (ps_set (i := 11) (by assumption) rfl (.inr rfl) (pe_any _)) (by decide) ?_
  | refine sw_set 12 (ps_set (i := 12) (by assumption) rfl (.inr rfl) (pe_any _)) (by decide) ?_
  | refine sw_set 13 (ps_set (i := 13) (by assumption) rfl (.inr rfl) (pe_any _)) (by decide) ?_
  | refine sw_set 14 (ps_set (i := 14) (by assumption) rfl (.inr rfl) (pe_any _)) (by decide) ?_
  | refine sw_set 15 (ps_set (i := 15) (by assumption) rfl (.inr rfl) (pe_any _)) (by decide) ?_)
local macro_rules | `(tactic| walk_at "dlapp") => `(tactic| first
  | refine sw_append 0 (pe_bm PySem.F.plainAttrs_list PySem.F.slot_list_append PySem.F.type_list_append mt_append (pv 0) (pa_cons (pe_any _) pa_nil)) rfl ?_
  | refine sw_append 1 (pe_bm PySem.F.plainAttrs_list PySem.F.slot_list_append PySem.F.type_list_append mt_append (pv 1) (pa_cons (pe_any _) pa_nil)) rfl ?_
  | refine sw_append 2 (pe_bm PySem.F.plainAttrs_list PySem.F.slot_list_append PySem.F.type_list_append mt_append (pv 2) (pa_cons (pe_any _) pa_nil)) rfl ?_
  | refine sw_append 3 (pe_bm PySem.F.plainAttrs_list PySem.F.slot_list_append PySem.F.type_list_append mt_append (pv 3) (pa_cons (pe_any _) pa_nil)) rfl ?_
  | refine sw_append 4 (pe_bm PySem.F.plainAttrs_list PySem.F.slot_list_append PySem.F.type_list_append mt_append (pv 4) (pa_cons (pe_any _) pa_nil)) rfl ?_
  | refine sw_append 5 (pe_bm PySem.F.plainAttrs_list PySem.F.slot_list_append PySem.F.type_list_append mt_append (pv 5) (pa_cons (pe_any _) pa_nil)) rfl ?_
  | refine sw_append 6 (pe_bm PySem.F.plainAttrs_list PySem.F.slot_list_append PySem.F.type_list_append mt_append (pv 6) (pa_cons (pe_any _) pa_nil)) rfl ?_
  | refine sw_append 7 (pe_bm PySem.F.plainAttrs_list PySem.F.slot_list_append PySem.F.type_list_append mt_append (pv 7) (pa_cons (pe_any _) pa_nil)) rfl ?_
  | refine sw_append 8 (pe_bm PySem.F.plainAttrs_list PySem.F.slot_list_append PySem.F.type_list_append mt_append (pv 8) (pa_cons (pe_any _) pa_nil)) rfl ?_
  | refine sw_append 9 (pe_bm PySem.F.plainAttrs_list PySem.F.slot_list_append PySem.F.type_list_append mt_append (pv 9) (pa_cons (pe_any _) pa_nil)) rfl ?_
  | refine sw_append 10 (pe_bm PySem.F.plainAttrs_list PySem.F.slot_list_append PySem.F.type_list_append mt_append (pv 10) (pa_cons (pe_any _) pa_nil)) rfl ?_
  | refine sw_append 11 (pe_bm PySem.F.plainAttrs_list PySem.F.slot_list_append PySem.F.type_list_append mt_append (pv 11) (pa_cons (pe_any _) pa_nil)) rfl ?_
  | refine sw_append 12 (pe_bm PySem.F.plainAttrs_list PySem.F.slot_list_append PySem.F.type_list_append mt_append (pv 12) (pa_cons (pe_any _) pa_nil)) rfl ?_
  | refine sw_append 13 (pe_bm PySem.F.plainAttrs_list PySem.F.slot_list_append PySem.F.type_list_append mt_append (pv 13) (pa_cons (pe_any _) pa_nil)) rfl ?_
  | refine sw_append 14 (pe_bm PySem.F.plainAttrs_list PySem.F.slot_list_append PySem.F.type_list_append mt_append (pv 14) (pa_cons (pe_any _) pa_nil)) rfl ?_
  | refine sw_append 15 (pe_bm PySem.F.plainAttrs_list PySem.F.slot_list_append PySem.F.type_list_append mt_append (pv 15) (pa_cons (pe_any _) pa_nil)) rfl ?_)
local macro_rules | `(tactic| walk_at "dlsetix") => `(tactic| first
  | refine sw_setIx 0 (pv 0) rfl ?_
  | refine sw_setIx 1 (pv 1) rfl ?_
  | refine sw_setIx 2 (pv 2) rfl ?_
  | refine sw_setIx 3 (pv 3) rfl ?_
  | refine sw_setIx 4 (pv 4) rfl ?_
  | refine sw_setIx 5 (pv 5) rfl ?_
  | refine sw_setIx 6 (pv 6) rfl ?_
  | refine sw_setIx 7 (pv 7) rfl ?_
  | refine sw_setIx 8 (pv 8) rfl ?_
  | refine sw_setIx 9 (pv 9) rfl ?_
  | refine sw_setIx 10 (pv 10) rfl ?_
  | refine sw_setIx 11 (pv 11) rfl ?_
  | refine sw_setIx 12 (pv 12) rfl ?_
  | refine sw_setIx 13 (pv 13) rfl ?_
  | refine sw_setIx 14 (pv 14) rfl ?_
  | refine sw_setIx 15 (pv 15) rfl ?_)
local macro_rules | `(tactic| walk_at "dlaug") => `(tactic| first
  | refine sw_aug 0 (fun ti ho => ps_aug (by assumption) rfl (.inl rfl) (pe_any _) ho) id_add (by decide) rfl ?_
  | refine sw_aug 1 (fun ti ho => ps_aug (by assumption) rfl (.inl rfl) (pe_any _) ho) id_add (by decide) rfl ?_
  | refine sw_aug 2 (fun ti ho => ps_aug (by assumption) rfl (.inl rfl) (pe_any _) ho) id_add (by decide) rfl ?_
  | refine sw_aug 3 (fun ti ho => ps_aug (by assumption) rfl (.inl rfl) (pe_any _) ho) id_add (by decide) rfl ?_
  | refine sw_aug 4 (fun ti ho => ps_aug (by assumption) rfl (.inl rfl) (pe_any _) ho) id_add (by decide) rfl ?_
  | refine sw_aug 5 (fun ti ho => ps_aug (by assumption) rfl (.inl rfl) (pe_any _) ho) id_add (by decide) rfl ?_
  | refine sw_aug 6 (fun ti ho => ps_aug (by assumption) rfl (.inl rfl) (pe_any _) ho) id_add (by decide) rfl ?_
  | refine sw_aug 7 (fun ti ho => ps_aug (by assumption) rfl (.inl rfl) (pe_any _) ho) id_add (by decide) rfl ?_
  | refine sw_aug 8 (fun ti ho => ps_aug (by assumption) rfl (.inl rfl) (pe_any _) ho) id_add (by decide) rfl ?_
  | refine sw_aug 9 (fun ti ho => ps_aug (by assumption) rfl (.inl rfl) (pe_any _) ho) id_add (by decide) rfl ?_
  | refine sw_aug 10 (fun ti ho => ps_aug (by assumption) rfl (.inl rfl) (pe_any _) ho) id_add (by decide) rfl ?_
  | refine sw_aug 11 (fun ti ho => ps_aug (by assumption) rfl (.inl rfl) (pe_any _) ho) id_add (by decide) rfl ?_
  | refine sw_aug 12 (fun ti ho => ps_aug (by assumption) rfl (.inl rfl) (pe_any _) ho) id_add (by decide) rfl ?_
  | refine sw_aug 13 (fun ti ho => ps_aug (by assumption) rfl (.inl rfl) (pe_any _) ho) id_add (by decide) rfl ?_
  | refine sw_aug 14 (fun ti ho => ps_aug (by assumption) rfl (.inl rfl) (pe_any _) ho) id_add (by decide) rfl ?_
  | refine sw_aug 15 (fun ti ho => ps_aug (by assumption) rfl (.inl rfl) (pe_any _) ho) id_add (by decide) rfl ?_)
local macro_rules | `(tactic| walk_at "dlret") => `(tactic| first
  | ((have _ : OwR := by with_reducible assumption); refine sw_retO 0 (pv 0) rfl ?_)
  | ((have _ : OwR := by with_reducible assumption); refine sw_retO 1 (pv 1) rfl ?_)
  | ((have _ : OwR := by with_reducible assumption); refine sw_retO 2 (pv 2) rfl ?_)
  | ((have _ : OwR := by with_reducible assumption); refine sw_retO 3 (pv 3) rfl ?_)
  | ((have _ : OwR := by with_reducible assumption); refine sw_retO 4 (pv 4) rfl ?_)
  | ((have _ : OwR := by with_reducible assumption); refine sw_retO 5 (pv 5) rfl ?_)
  | ((have _ : OwR := by with_reducible assumption); refine sw_retO 6 (pv 6) rfl ?_)
  | ((have _ : OwR := by with_reducible assumption); refine sw_retO 7 (pv 7) rfl ?_)
  | ((have _ : OwR := by with_reducible assumption); refine sw_retO 8 (pv 8) rfl ?_)
  | ((have _ : OwR := by with_reducible assumption); refine sw_retO 9 (pv 9) rfl ?_)
  | ((have _ : OwR := by with_reducible assumption); refine sw_retO 10 (pv 10) rfl ?_)
  | ((have _ : OwR := by with_reducible assumption); refine sw_retO 11 (pv 11) rfl ?_)
  | ((have _ : OwR := by with_reducible assumption); refine sw_retO 12 (pv 12) rfl ?_)
  | ((have _ : OwR := by with_reducible assumption); refine sw_retO 13 (pv 13) rfl ?_)
  | ((have _ : OwR := by with_reducible assumption); refine sw_retO 14 (pv 14) rfl ?_)
  | ((have _ : OwR := by with_reducible assumption); refine sw_retO 15 (pv 15) rfl ?_)
  | ((have _ : OwR := by with_reducible assumption); refine sw_retE ?_)
  | refine sw_ret ?_)
local macro_rules | `(tactic| walk_at "dlSW") => `(tactic| first
  | ((with_reducible show SW _ _ (.Return (some _) _) _ _); walk_at "dlret")
  | ((with_reducible show SW _ _ (.If _ _ _ _) _ _); refine sw_if ?_)
  | ((with_reducible show SW _ _ (.Assign [.Name _ _] _ _) _ _); walk_at "dlset")
  | ((with_reducible show SW _ _ (.Assign [.Subscript _ _ _] _ _) _ _); walk_at "dlsetix")
  | ((with_reducible show SW _ _ (.Expr (.Call (.Attribute _ "append" _) _ _ _) _) _ _); walk_at "dlapp")
  | ((with_reducible show SW _ _ (.Expr _ _) _ _); refine sw_expr ?_)
  | ((with_reducible show SW _ _ (.Pass _) _ _); refine sw_pass ?_)
  | ((with_reducible show SW _ _ (.AugAssign (.Name _ _) .Add _ _) _ _); walk_at "dlaug")
  | ((with_reducible show SW _ _ (.Break _) _ _); refine sw_break ?_)
  | ((with_reducible show SW _ _ (.Continue _) _ _); refine sw_cont ?_)
  | ((with_reducible show SW _ _ (.Return none _) _ _); refine sw_retN ?_))
local macro_rules | `(tactic| walk_at "dlSs") => `(tactic| first
  | ((with_reducible show SsW _ _ _ (List.set _ _ _) _); dsimp only [List.set_cons_zero, List.set_cons_succ])
  | ((with_reducible show SsW _ _ [] _ _); refine ssw_nil ?_)
  | refine ssw_cons ?_)
local macro_rules | `(tactic| walk_at "dlEN") => `(tactic| first
  | ((with_reducible show EN _ (.List _ _) _ _); refine en_lst ?_)
  | ((with_reducible show EN _ (.IfExp _ _ _ _) _ _); refine en_ifExp ?_)
  | ((with_reducible show EN _ (.Call (.Name "list" _) [.Call (.Name "range" _) [_] _ _] _ _) _ _); refine en_listRg rfl rfl (by assumption) rfl (by assumption) ?_)
  | ((with_reducible show EN _ (.Call (.Name "list" _) [.Name _ _] _ _) _ _); refine en_listO 0 rfl (by assumption) (pv 0) rfl ?_)
  | ((with_reducible show EN _ (.Call (.Name "list" _) [.Name _ _] _ _) _ _); refine en_listO 1 rfl (by assumption) (pv 1) rfl ?_)
  | ((with_reducible show EN _ (.Call (.Name "list" _) [.Name _ _] _ _) _ _); refine en_listO 2 rfl (by assumption) (pv 2) rfl ?_)
  | ((with_reducible show EN _ (.Call (.Name "list" _) [.Name _ _] _ _) _ _); refine en_listO 3 rfl (by assumption) (pv 3) rfl ?_)
  | ((with_reducible show EN _ (.Call (.Name "list" _) [.Name _ _] _ _) _ _); refine en_listO 4 rfl (by assumption) (pv 4) rfl ?_)
  | ((with_reducible show EN _ (.Call (.Name "list" _) [.Name _ _] _ _) _ _); refine en_listO 5 rfl (by assumption) (pv 5) rfl ?_)
  | ((with_reducible show EN _ (.Call (.Name "list" _) [.Name _ _] _ _) _ _); refine en_listO 6 rfl (by assumption) (pv 6) rfl ?_)
  | ((with_reducible show EN _ (.Call (.Name "list" _) [.Name _ _] _ _) _ _); refine en_listO 7 rfl (by assumption) (pv 7) rfl ?_)
  | ((with_reducible show EN _ (.Call (.Name "list" _) [.Name _ _] _ _) _ _); refine en_listO 8 rfl (by assumption) (pv 8) rfl ?_)
  | ((with_reducible show EN _ (.Call (.Name "list" _) [.Name _ _] _ _) _ _); refine en_listO 9 rfl (by assumption) (pv 9) rfl ?_)
  | ((with_reducible show EN _ (.Call (.Name "list" _) [.Name _ _] _ _) _ _); refine en_listO 10 rfl (by assumption) (pv 10) rfl ?_)
  | ((with_reducible show EN _ (.Call (.Name "list" _) [.Name _ _] _ _) _ _); refine en_listO 11 rfl (by assumption) (pv 11) rfl ?_)
  | ((with_reducible show EN _ (.Call (.Name "list" _) [_] _ _) _ _); refine en_list rfl (by assumption) ?_)
  | ((with_reducible show EN _ (.Call (.Name _ _) _ _ _) _ _); refine en_cal (by assumption) (by assumption) (by assumption) rfl ?_))
local macro_rules | `(tactic| walk_at "dlO") => `(tactic| first
  | ((with_reducible show EN _ _ _ _); walk_at "dlEN")
  | ((with_reducible show AW _ [] _ _); refine aw_nil ?_)
  | ((with_reducible show AW _ (_ :: _) _ _); refine aw_cons ?_)
  | ((with_reducible show OW _ _ _ _); dsimp only [OW])
  | ((with_reducible show JW _ _ _ _ _); dsimp only [JW]))
local macro_rules | `(tactic| walk_at "dlD") => `(tactic| first
  | ((with_reducible show IsB _ _); refine isB_i ?_)
  | ((with_reducible show IsI _ _); refine isI_i ?_)
  | ((with_reducible show CmpW _ _ _ _ ); dsimp only [CmpW, OD.data])
  | ((with_reducible show AddW _ _ _ ); dsimp only [AddW, OD.data])
  | ((with_reducible show SubW _ _ _ ); dsimp only [SubW, OD.data])
  | ((with_reducible show MulW _ _ _ ); dsimp only [MulW, OD.data]; (try refine ⟨by first | exact .inl ⟨by decide, by decide⟩ | exact .inr ⟨by decide, by decide⟩, ?_⟩))
  | ((with_reducible show FdivW _ _ _ ); dsimp only [FdivW, OD.data]; (try refine ⟨⟨by decide, by decide⟩, ?_⟩))
  | ((with_reducible show ModW _ _ _ ); dsimp only [ModW, OD.data]; (try refine ⟨by decide, ?_⟩))
  | ((with_reducible show PowW _ _ _ ); dsimp only [PowW, OD.data]; (try refine ⟨by decide, ?_⟩))
  | ((with_reducible show IsW _ _ _ ); dsimp only [IsW, OD.data])
  | ((with_reducible show IsNotW _ _ _ ); dsimp only [IsNotW, OD.data])
  | ((with_reducible show InW _ _ _ ); dsimp only [InW, OD.data])
  | ((with_reducible show NotInW _ _ _ ); dsimp only [NotInW, OD.data])
  | ((with_reducible show LenW _ _ ); dsimp only [LenW, OD.data])
  | ((with_reducible show IntW _ _ ); dsimp only [IntW, OD.data])
  | ((with_reducible show StrW _ _ ); dsimp only [StrW, OD.data])
  | ((with_reducible show ReprAW _ _ ); dsimp only [ReprAW, OD.data])
  | ((with_reducible show OrdW _ _ ); dsimp only [OrdW, OD.data])
  | ((with_reducible show TupleW _ _ ); dsimp only [TupleW, OD.data])
  | ((with_reducible show ListW _ _ ); dsimp only [ListW, OD.data])
  | ((with_reducible show NegW _ _ ); dsimp only [NegW, OD.data])
  | ((with_reducible show JoinW _ _ _ ); dsimp only [JoinW, OD.data])
  | ((with_reducible show SplitW _ _ _ ); dsimp only [SplitW, OD.data])
  | ((with_reducible show ItW _ _ ); dsimp only [ItW, OD.data])
  | ((with_reducible show FmtW _ _ ); dsimp only [FmtW, OD.data])
  | ((with_reducible show NwLst _ _ ); dsimp only [NwLst, OD.data])
  | ((with_reducible show SlW _ _ _ _ ); dsimp only [SlW, OD.data])
  | ((with_reducible show EqW _ _ _ ); dsimp only [EqW, OD.data]; (try (refine ⟨rfl, rfl, Nat.le_of_ble_eq_true rfl, ?_⟩)))
  | ((with_reducible show NeW _ _ _ ); dsimp only [NeW, OD.data]; (try (refine ⟨rfl, rfl, Nat.le_of_ble_eq_true rfl, ?_⟩)))
  | ((with_reducible show IaddW _ _ _ ); dsimp only [IaddW, OD.data])
  | ((with_reducible show SindexW _ _ _ ); dsimp only [SindexW, OD.data])
  | ((with_reducible show AllW _ _ ); dsimp only [AllW, OD.data])
  | ((with_reducible show AnyW _ _ ); dsimp only [AnyW, OD.data])
  | ((with_reducible show List.length _ ≤ 1000 ∧ _); refine ⟨Nat.le_of_ble_eq_true rfl, ?_⟩)
  | ((with_reducible show ∃ ds j d, _[_]? = some (Sl.ow (OD.lst ds)) ∧ _ = PyData.int j ∧ _ = some d ∧ _); refine ⟨_, _, _, rfl, rfl, rfl, ?_⟩)
  | ((with_reducible show ∃ ds n m, _[_]? = some (Sl.ow (OD.lst ds)) ∧ _ = PyData.int n ∧ ixN _ n = some m ∧ _); refine ⟨_, _, _, rfl, rfl, rfl, ?_⟩)
  | ((with_reducible show (isT _ _ = true → _) ∧ (isT _ _ = false → _)); first | refine sp_t (by dsimp only [tyD]; decide +kernel) ?_ | refine sp_f (by dsimp only [tyD]; decide +kernel) ?_)
  | ((with_reducible show ((!isT _ _) = true → _) ∧ ((!isT _ _) = false → _)); first | refine sp_t (by dsimp only [tyD]; decide +kernel) ?_ | refine sp_f (by dsimp only [tyD]; decide +kernel) ?_)
  | ((with_reducible show FlatD _ ∧ _); refine ⟨trivial, ?_⟩)
  | ((with_reducible show (isN _ = true → _) ∧ (isN _ = false → _)); first | refine sp_t rfl ?_ | refine sp_f rfl ?_)
  | ((with_reducible show ((!isN _) = true → _) ∧ ((!isN _) = false → _)); first | refine sp_t rfl ?_ | refine sp_f rfl ?_)
  | ((with_reducible show (isBl _ _ = true → _) ∧ (isBl _ _ = false → _)); first | refine sp_t rfl ?_ | refine sp_f rfl ?_)
  | ((with_reducible show (true = true → _) ∧ (true = false → _)); refine sp_t rfl ?_)
  | ((with_reducible show (false = true → _) ∧ (false = false → _)); refine sp_f rfl ?_)
  | ((with_reducible show ((!true) = true → _) ∧ ((!true) = false → _)); refine sp_f rfl ?_)
  | ((with_reducible show ((!false) = true → _) ∧ ((!false) = false → _)); refine sp_t rfl ?_))
local macro_rules | `(tactic| walk_at "dlgn") => `(tactic| first
  | refine gw_name 0 (pg_name (i := 0) (by assumption) rfl (.inl rfl)) (by decide) ?_
  | refine gw_name 1 (pg_name (i := 1) (by assumption) rfl (.inl rfl)) (by decide) ?_
  | refine gw_name 2 (pg_name (i := 2) (by assumption) rfl (.inl rfl)) (by decide) ?_
  | refine gw_name 3 (pg_name (i := 3) (by assumption) rfl (.inl rfl)) (by decide) ?_
  | refine gw_name 4 (pg_name (i := 4) (by assumption) rfl (.inl rfl)) (by decide) ?_
  | refine gw_name 5 (pg_name (i := 5) (by assumption) rfl (.inl rfl)) (by decide) ?_
  | refine gw_name 6 (pg_name (i := 6) (by assumption) rfl (.inl rfl)) (by decide) ?_
  | refine gw_name 7 (pg_name (i := 7) (by assumption) rfl (.inl rfl)) (by decide) ?_
  | refine gw_name 8 (pg_name (i := 8) (by assumption) rfl (.inl rfl)) (by decide) ?_
  | refine gw_name 9 (pg_name (i := 9) (by assumption) rfl (.inl rfl)) (by decide) ?_
  | refine gw_name 10 (pg_name (i := 10) (by assumption) rfl (.inl rfl)) (by decide) ?_
  | refine gw_name 11 (pg_name (i := 11) (by assumption) rfl (.inl rfl)) (by decide) ?_
  | refine gw_name 12 (pg_name (i := 12) (by assumption) rfl (.inl rfl)) (by decide) ?_
  | refine gw_name 13 (pg_name (i := 13) (by assumption) rfl (.inl rfl)) (by decide) ?_
  | refine gw_name 14 (pg_name (i := 14) (by assumption) rfl (.inl rfl)) (by decide) ?_
  | refine gw_name 15 (pg_name (i := 15) (by assumption) rfl (.inl rfl)) (by decide) ?_
  | refine gw_name 0 (pg_name (i := 0) (by assumption) rfl (.inr rfl)) (by decide) ?_
  | refine gw_name 1 (pg_name (i := 1) (by assumption) rfl (.inr rfl)) (by decide) ?_
  | refine gw_name 2 (pg_name (i := 2) (by assumption) rfl (.inr rfl)) (by decide) ?_
  | refine gw_name 3 (pg_name (i := 3) (by assumption) rfl (.inr rfl)) (by decide) ?_
  | refine gw_name 4 (pg_name (i := 4) (by assumption) rfl (.inr rfl)) (by decide) ?_
  | refine gw_name 5 (pg_name (i := 5) (by assumption) rfl (.inr rfl)) (by decide) ?_
  | refine gw_name 6 (pg_name (i := 6) (by assumption) rfl (.inr rfl)) (by decide) ?_
  | refine gw_name 7 (pg_name (i := 7) (by assumption) rfl (.inr rfl)) (by decide) ?_
  | refine gw_name 8 (pg_name (i := 8) (by assumption) rfl (.inr rfl)) (by decide) ?_
  | refine gw_name 9 (pg_name (i := 9) (by assumption) rfl (.inr rfl)) (by decide) ?_
  | refine gw_name 10 (pg_name (i := 10) (by assumption) rfl (.inr rfl)) (by decide) ?_
  | refine gw_name 11 (pg_name (i := 11) (by assumption) rfl (.inr rfl)) (by decide) ?_
  | refine gw_name 12 (pg_name (i := 12) (by assumption) rfl (.inr rfl)) (by decide) ?_
  | refine gw_name 13 (pg_name (i := 13) (by assumption) rfl (.inr rfl)) (by decide) ?_
  | refine gw_name 14 (pg_name (i := 14) (by assumption) rfl (.inr rfl)) (by decide) ?_
  | refine gw_name 15 (pg_name (i := 15) (by assumption) rfl (.inr rfl)) (by decide) ?_)
local macro_rules | `(tactic| walk_at "dlI") => `(tactic| first
  | ((with_reducible show IW _ _ (.Call (.Name "range" _) [_] _ _) _ _); refine iw_rng1 rfl (by assumption) ?_)
  | ((with_reducible show IW _ _ (.Call (.Name "range" _) [_, _] _ _) _ _); refine iw_rng2 rfl (by assumption) ?_)
  | ((with_reducible show IW _ _ (.Call (.Name "enumerate" _) [_] _ _) _ _); refine iw_enum rfl (by assumption) ?_)
  | ((with_reducible show IW _ _ _ _ _); refine iw_seq ?_)
  | ((with_reducible show GW _ _ (.Name _ _) _ _ _); walk_at "dlgn")
  | ((with_reducible show GB _ _ _ _ _ _ _); refine fun _ _ _ _ _ => ?_)
  | ((with_reducible show TB _ _ [] _ _); refine tb_nil ?_)
  | ((with_reducible show TB _ _ [_] _ _); refine tb_one fun _ _ _ _ _ => ?_)
  | ((with_reducible show EB _ _ _ _ _); refine fun _ _ _ _ _ => ?_))
local macro_rules | `(tactic| walk_at "dlset0") => `(tactic| first
  | ((with_reducible show EW _ _ (List.set _ _ _) _); dsimp only [List.set_cons_zero, List.set_cons_succ])
  | ((with_reducible show TW _ _ (List.set _ _ _) _); dsimp only [List.set_cons_zero, List.set_cons_succ])
  | ((with_reducible show EN _ _ (List.set _ _ _) _); dsimp only [List.set_cons_zero, List.set_cons_succ])
  | ((with_reducible show AW _ _ (List.set _ _ _) _); dsimp only [List.set_cons_zero, List.set_cons_succ])
  | ((with_reducible show TWW _ _ (List.set _ _ _) _); dsimp only [List.set_cons_zero, List.set_cons_succ]))
local macro_rules | `(tactic| walk_at "dl1") => `(tactic| first
  | walk_at "dlset0"
  | ((with_reducible show EW _ _ _ _); walk_at "dlE")
  | ((with_reducible show TW _ _ _ _); walk_at "dlT")
  | ((with_reducible show TWW _ _ _ _); walk_at "dlTW")
  | ((with_reducible show SsW _ _ _ _ _); walk_at "dlSs")
  | ((with_reducible show SW _ _ _ _ _); walk_at "dlSW")
  | walk_at "dlI"
  | walk_at "dlO"
  | walk_at "dlD")
local macro_rules | `(tactic| walk_at "dl") => `(tactic| repeat' (walk_at "dl1"))
namespace K97
def topS (i : Nat) : Stmt := PySem.Challenge.pw_turnwise_k97_orders_read_and_written.main.body.getD i (.Pass ⟨0, 0, 0, 0⟩)
abbrev s_is_word : Stmt := topS 7
theorem sc_is_word : FnScope ["word", "letter"] ["word"] (defScope s_is_word) := ⟨rfl, rfl, rfl, by decide +kernel, rfl, by decide +kernel, by decide +kernel⟩
abbrev s_number_of : Stmt := topS 8
theorem sc_number_of : FnScope ["word", "figure"] ["word"] (defScope s_number_of) := ⟨rfl, rfl, rfl, by decide +kernel, rfl, by decide +kernel, by decide +kernel⟩
abbrev s_read_order : Stmt := topS 9
theorem sc_read_order : FnScope ["line", "words", "kind"] ["line"] (defScope s_read_order) := ⟨rfl, rfl, rfl, by decide +kernel, rfl, by decide +kernel, by decide +kernel⟩
abbrev s_read_orders : Stmt := topS 10
theorem sc_read_orders : FnScope ["text", "found", "number", "line", "order"] ["text"] (defScope s_read_orders) := ⟨rfl, rfl, rfl, by decide +kernel, rfl, by decide +kernel, by decide +kernel⟩
abbrev s_write_order : Stmt := topS 11
theorem sc_write_order : FnScope ["order", "part"] ["order"] (defScope s_write_order) := ⟨rfl, rfl, rfl, by decide +kernel, rfl, by decide +kernel, by decide +kernel⟩
abbrev s_write_orders : Stmt := topS 12
theorem sc_write_orders : FnScope ["orders", "order"] ["orders"] (defScope s_write_orders) := ⟨rfl, rfl, rfl, by decide +kernel, rfl, by decide +kernel, by decide +kernel⟩
abbrev s_Lcell : Stmt := topS 14
theorem sc_Lcell : FnScope ["script", "k"] ["script", "k"] (defScope s_Lcell) := ⟨rfl, rfl, rfl, by decide +kernel, rfl, by decide +kernel, by decide +kernel⟩
abbrev s_Ldigits : Stmt := topS 15
theorem sc_Ldigits : FnScope ["script", "first", "last", "digits", "k", "cell", "turn", "seed"] ["script", "first", "last"] (defScope s_Ldigits) := ⟨rfl, rfl, rfl, by decide +kernel, rfl, by decide +kernel, by decide +kernel⟩
abbrev s_Ldraw : Stmt := topS 16
theorem sc_Ldraw : FnScope ["box", "many"] ["box", "many"] (defScope s_Ldraw) := ⟨rfl, rfl, rfl, by decide +kernel, rfl, by decide +kernel, by decide +kernel⟩
abbrev s_Lpick : Stmt := topS 17
theorem sc_Lpick : FnScope ["box", "row"] ["box", "row"] (defScope s_Lpick) := ⟨rfl, rfl, rfl, by decide +kernel, rfl, by decide +kernel, by decide +kernel⟩
abbrev s_Lsame : Stmt := topS 18
theorem sc_Lsame : FnScope ["told", "due", "k"] ["told", "due"] (defScope s_Lsame) := ⟨rfl, rfl, rfl, by decide +kernel, rfl, by decide +kernel, by decide +kernel⟩
abbrev s_Lis_word : Stmt := topS 19
theorem sc_Lis_word : FnScope ["word", "letter"] ["word"] (defScope s_Lis_word) := ⟨rfl, rfl, rfl, by decide +kernel, rfl, by decide +kernel, by decide +kernel⟩
abbrev s_Lnumber : Stmt := topS 20
theorem sc_Lnumber : FnScope ["word", "fine", "worth", "sign"] ["word"] (defScope s_Lnumber) := ⟨rfl, rfl, rfl, by decide +kernel, rfl, by decide +kernel, by decide +kernel⟩
abbrev s_Lasked : Stmt := topS 21
theorem sc_Lasked : FnScope [] [] (defScope s_Lasked) := ⟨rfl, rfl, rfl, by decide +kernel, rfl, by decide +kernel, by decide +kernel⟩
abbrev s_Lread : Stmt := topS 22
theorem sc_Lread : FnScope ["text_row", "words", "kind", "many"] ["text_row"] (defScope s_Lread) := ⟨rfl, rfl, rfl, by decide +kernel, rfl, by decide +kernel, by decide +kernel⟩
abbrev s_Lword : Stmt := topS 23
theorem sc_Lword : FnScope ["box", "k"] ["box"] (defScope s_Lword) := ⟨rfl, rfl, rfl, by decide +kernel, rfl, by decide +kernel, by decide +kernel⟩
abbrev s_Lorder : Stmt := topS 24
theorem sc_Lorder : FnScope ["box", "one", "kind"] ["box"] (defScope s_Lorder) := ⟨rfl, rfl, rfl, by decide +kernel, rfl, by decide +kernel, by decide +kernel⟩
abbrev s_Lbent : Stmt := topS 25
theorem sc_Lbent : FnScope ["box", "text_row", "words", "at", "way"] ["box", "text_row"] (defScope s_Lbent) := ⟨rfl, rfl, rfl, by decide +kernel, rfl, by decide +kernel, by decide +kernel⟩
abbrev s_Ltext : Stmt := topS 26
theorem sc_Ltext : FnScope ["text", "e"] ["text"] (defScope s_Ltext) := ⟨rfl, rfl, rfl, by decide +kernel, rfl, by decide +kernel, by decide +kernel⟩
abbrev s_law : Stmt := topS 27
theorem sc_law : FnScope ["script", "box", "orders", "lines", "k", "turn", "bent", "text", "mixed", "told", "due", "order", "text_row", "part"] ["script"] (defScope s_law) := ⟨rfl, rfl, rfl, by decide +kernel, rfl, by decide +kernel, by decide +kernel⟩
section
variable {P : Program} {w : World} {K : PySem.W.Frag} {mg : Str → Option Value} {base : Heap} {n : Nat}
/-! ### what every law's text has: cell, digits, draw -/
def dI (ns : List Int) : List PyData := ns.map .int
theorem dI_len (ns : List Int) : (dI ns).length = ns.length := by simp [dI]
theorem dI_get {ns : List Int} {i : Nat} {z : Int} (h : ns[i]? = some z) : (dI ns)[i]? = some (.int z) := by
  unfold dI
  rw [List.getElem?_map, h]
  rfl
theorem dI_app (ns : List Int) (z : Int) : dI ns ++ [.int z] = dI (ns ++ [z]) := by simp [dI]
def w_Lcell : GA := fun ds P => ∃ (ns : List Int) (k : Nat), ds = [.list (dI ns), .int k] ∧ P (.int (ns.getD k 0))
theorem ok_Lcell {f : Addr} {fd : FuncData} (F : Fun K "_law_cell" "_law_cell" s_Lcell f fd) (m_len : mg "len" = none) : FnG P w K mg base (n + 1) f fd ["script", "k"] (SpP K w_Lcell) := by
  refine fg_pure F sc_Lcell (fun ds post ⟨ns, k, e, _⟩ => by rw [e]; rfl) fun cdv A outer s H E ds post hr hgd ⟨ns, k, e, q⟩ => ?_
  subst e
  have nd := sc_Lcell.nd
  refine ssw_cons ?_
  show SW _ _ _ [.pd (.list (dI ns)), .pd (.int k)] _
  walk_at "dl"
  rw [dI_len]
  refine ⟨fun h => ?_, fun h => ?_⟩
  · have h : (k : Int) < (ns.length : Int) := of_decide_eq_true h
    have hk : k < ns.length := by omega
    walk_at "dl"
    refine ⟨.int ns[k], atI_nat (dI_get (List.getElem?_eq_getElem hk)), ?_⟩
    rw [List.getD_eq_getElem?_getD, List.getElem?_eq_getElem hk] at q
    exact q
  · have h : ¬ (k : Int) < (ns.length : Int) := of_decide_eq_false h
    walk_at "dl"
    rw [List.getD_eq_getElem?_getD, List.getElem?_eq_none (by omega)] at q
    exact q
/-- some list of dI, none negative -/
def w_Ldigits : GA := fun ds P => ∃ (ns : List Int) (n : Nat), ds = [.list (dI ns), .int 0, .int n] ∧ n ≤ 100 ∧ ∀ gs : List Int, (∀ g ∈ gs, 0 ≤ g) → P (.list (dI gs))
theorem nn_app {gs : List Int} {z : Int} (h : ∀ g ∈ gs, 0 ≤ g) (hz : 0 ≤ z) : ∀ g ∈ gs ++ [z], 0 ≤ g := fun g m => by
  rcases List.mem_append.mp m with m | m
  · exact h g m
  · rw [List.mem_singleton.mp m]
    exact hz
theorem ok_Ldigits {f : Addr} {fd : FuncData} (F : Fun K "_law_digits" "_law_digits" s_Ldigits f fd) (m_range : mg "range" = none) (m_int : mg "int" = none) (c_Lcell : CalP P w K mg base n "_law_cell" w_Lcell) : FnG P w K mg base (n + 1) f fd ["script", "first", "last"] (SpP K w_Ldigits) := by
  refine fg_pure F sc_Ldigits (fun ds post ⟨ns, k, e, _⟩ => by rw [e]; rfl) fun cdv A outer s H E ds post hr hgd ⟨ns, n, e, hn, q⟩ => ?_
  subst e
  have nd := sc_Ldigits.nd
  have o3 : Ow 3 := trivial
  refine ssw_cons ?_
  show SW _ _ _ [.pd (.list (dI ns)), .pd (.int 0), .pd (.int n), .un, .un, .un, .un, .un] _
  walk_at "dl"
  refine sw_for (ts := [4]) PassesOwn.never rfl (by decide) (iw_rng2 rfl (by assumption) ?_)
  walk_at "dl"
  refine ⟨0, n, rfl, by omega, ?_⟩
  rw [show ((n : Int) - 0).toNat = n by omega]
  refine ⟨fun i ρ => ∃ gs a b c d, ρ = [.pd (.list (dI ns)), .pd (.int 0), .pd (.int n), .ow (.lst (dI gs)), a, b, c, d] ∧ gs.length ≤ 60 * i ∧ ∀ g ∈ gs, 0 ≤ g, ⟨[], .un, .un, .un, .un, rfl, Nat.le_refl _, by simp⟩, ?_, ?_⟩
  · rintro i x ρ hx ⟨gs, a, b, c, d, rfl, hl, hg⟩
    have hi : i < n := by
      have := (List.getElem?_eq_some_iff.mp hx).1
      rw [rangeD_length] at this
      exact this
    rw [rangeD_get hi, Int.zero_add] at hx
    cases hx
    refine gw_name 4 (pg_name (i := 4) nd rfl (.inl rfl)) (by decide) ?_
    walk_at "dl"
    refine ⟨ns, i, rfl, ?_⟩
    walk_at "dl"
    refine if_join (fun ρ' => ∃ cell : Int, 0 ≤ cell ∧ ρ' = [.pd (.list (dI ns)), .pd (.int 0), .pd (.int n), .ow (.lst (dI gs)), .pd (.int i), .pd (.int cell), c, d]) (fun h => ?_) (fun h => ?_) ?_
    · have h : ns.getD i 0 < 0 := of_decide_eq_true h
      walk_at "dl"
      exact ⟨_, by omega, rfl⟩
    · have h : ¬ ns.getD i 0 < 0 := of_decide_eq_false h
      walk_at "dl"
      exact ⟨_, by omega, rfl⟩
    · rintro ρ ⟨cell, hc, rfl⟩
      walk_at "dl"
      refine ⟨fun _ => ?_, fun h => ?_⟩
      · -- a great one
        walk_at "dl"
        refine sw_for (ts := [6]) PassesOwn.never rfl (by decide) (iw_rng1 rfl (by assumption) ?_)
        walk_at "dl"
        refine ⟨60, rfl, by decide, ?_⟩
        refine ⟨fun j ρ => ∃ gs cell t, ρ = [.pd (.list (dI ns)), .pd (.int 0), .pd (.int n), .ow (.lst (dI gs)), .pd (.int i), .pd (.int cell), t, d] ∧ gs.length ≤ 60 * i + j ∧ ∀ g ∈ gs, 0 ≤ g, ⟨gs, cell, c, rfl, by omega, hg⟩, ?_, ?_⟩
        · rintro j x ρ hx ⟨gs, cell, t, rfl, hl, hg⟩
          refine gw_name 6 (pg_name (i := 6) nd rfl (.inl rfl)) (by decide) ?_
          have hj := (List.getElem?_eq_some_iff.mp hx).1
          rw [rangeD_length] at hj
          walk_at "dl"
          refine ⟨fun h => ?_, fun h => ?_⟩
          · have h : 0 < cell := of_decide_eq_true h
            walk_at "dl"
            refine ⟨_, rfl, by rw [dI_len]; have := hj; omega, ?_⟩
            rw [dI_app]
            walk_at "dl"
            exact ⟨_, _, _, rfl, by rw [List.length_append, List.length_singleton]; omega, nn_app hg (Int.emod_nonneg _ (by decide))⟩
          · walk_at "dl"
            exact ⟨_, _, _, rfl, by omega, hg⟩
        · rintro ρ ⟨gs, cell, t, rfl, hl, hg⟩
          rw [rangeD_length] at hl
          walk_at "dl"
          exact ⟨gs, _, _, _, _, rfl, by have : (60 : Int).toNat = 60 := rfl; omega, hg⟩
      · -- a lesser one
        have h : ¬ (10 : Int) ^ (18 : Int).toNat ≤ cell := of_decide_eq_false h
        walk_at "dl"
        refine sw_for (ts := [6]) PassesOwn.never rfl (by decide) (iw_rng1 rfl (by assumption) ?_)
        walk_at "dl"
        refine ⟨12, rfl, by decide, ?_⟩
        refine ⟨fun j ρ => ∃ gs t seed, ρ = [.pd (.list (dI ns)), .pd (.int 0), .pd (.int n), .ow (.lst (dI gs)), .pd (.int i), .pd (.int cell), t, .pd (.int seed)] ∧ 0 ≤ seed ∧ gs.length ≤ 60 * i + j ∧ ∀ g ∈ gs, 0 ≤ g, ⟨gs, c, _, rfl, Int.emod_nonneg _ (by decide), by omega, hg⟩, ?_, ?_⟩
        · rintro j x ρ hx ⟨gs, t, seed, rfl, hs, hl, hg⟩
          have hj := (List.getElem?_eq_some_iff.mp hx).1
          rw [rangeD_length] at hj
          rw [rangeD_get hj] at hx
          cases hx
          refine gw_name 6 (pg_name (i := 6) nd rfl (.inl rfl)) (by decide) ?_
          walk_at "dl"
          refine ⟨_, rfl, by rw [dI_len]; have := hj; omega, ?_⟩
          rw [dI_app]
          walk_at "dl"
          exact ⟨_, _, _, rfl, Int.emod_nonneg _ (by decide), by rw [List.length_append, List.length_singleton]; omega, nn_app hg (Int.emod_nonneg _ (by decide))⟩
        · rintro ρ ⟨gs, t, seed, rfl, hs, hl, hg⟩
          rw [rangeD_length] at hl
          walk_at "dl"
          exact ⟨gs, _, _, _, _, rfl, by have : (12 : Int).toNat = 12 := rfl; omega, hg⟩
  · rintro ρ ⟨gs, a, b, c, d, rfl, hl, hg⟩
    refine freeze 3 rfl ?_
    walk_at "dl"
    exact q gs hg

end
section
variable {P : Program} {w : World} {K : PySem.W.Frag} {mg : Str → Option Value} {base : Heap} {n : Nat}
def BoxOk (bs : List PyData) : Prop := ∃ (gs : List Int) (p : Nat), bs = [.list (dI gs), .int p] ∧ ∀ g ∈ gs, 0 ≤ g
def w_Ldraw : GAB := fun bs ds P => ∃ m : Int, ds = [.int m] ∧ 0 < m ∧ BoxOk bs ∧ ∀ (r : Nat) bs', (r : Int) < m → BoxOk bs' → P (.int r) bs'
theorem nat_of {z : Int} (h : 0 ≤ z) : ∃ n : Nat, z = n := ⟨z.toNat, by omega⟩
theorem mod_fits {z m : Int} (hm : 0 < m) : ∃ r : Nat, z % m = r ∧ (r : Int) < m := ⟨(z % m).toNat, by have := Int.emod_nonneg z (by omega : m ≠ 0); omega, by have := Int.emod_nonneg z (by omega : m ≠ 0); have := Int.emod_lt_of_pos z hm; omega⟩
theorem ok_Ldraw {f : Addr} {fd : FuncData} (F : Fun K "_law_draw" "_law_draw" s_Ldraw f fd) (m_len : mg "len" = none) (m_int : mg "int" = none) : FnG P w K mg base (n + 1) f fd ["box", "many"] (SpB K w_Ldraw) := by
  refine fg_box F sc_Ldraw (fun bs ds post ⟨m, e, _⟩ => by rw [e]; rfl) fun cdv A outer s H E bs ds post hr hgd ⟨m, e, hm, hb, q⟩ => ?_
  subst e
  obtain ⟨gs, p, rfl, hg⟩ := hb
  have nd := sc_Ldraw.nd
  refine ssw_cons ?_
  show SW _ _ _ [.ow (.lst [.list (dI gs), .int p]), .pd (.int m)] _
  walk_at "dl"
  have hbox : BoxOk [.list (dI gs), .int ((p : Int) + 1)] := ⟨gs, p + 1, rfl, hg⟩
  refine ⟨fun h => ?_, fun h => ?_⟩
  · walk_at "dl"
    refine ⟨by omega, ?_⟩
    obtain ⟨r, e, hr⟩ := mod_fits (z := ((p : Int) + 1) * 7 + 3) hm
    exact ⟨_, rfl, by rw [e]; exact q r _ hr hbox⟩
  · have h : ¬ ((dI gs).length : Int) < (p : Int) + 1 := of_decide_eq_false h
    rw [dI_len] at h
    have hp : p < gs.length := by omega
    walk_at "dl"
    refine ⟨.int gs[p], ?_, ?_⟩
    · rw [show (p : Int) + 1 - 1 = p by omega]
      exact atI_nat (dI_get (List.getElem?_eq_getElem hp))
    walk_at "dl"
    refine ⟨by omega, ?_⟩
    obtain ⟨r, e, hr⟩ := mod_fits (z := gs[p]) hm
    exact ⟨_, rfl, by rw [e]; exact q r _ hr hbox⟩
end
section
variable {P : Program} {w : World} {K : PySem.W.Frag} {mg : Str → Option Value} {base : Heap} {n : Nat}
def v_Lsame (m : Nat) : GA := fun ds P => ∃ d, ds = [d, d] ∧ SameOk m d ∧ P (.bool true)
def w_Lsame : GA := v_Lsame 30
theorem ok_Lsame {f : Addr} {fd : FuncData} (F : Fun K "_law_same" "_law_same" s_Lsame f fd) (m_isinstance : mg "isinstance" = none) (m_str : mg "str" = none) (m_int : mg "int" = none) (m_range : mg "range" = none) (m_len : mg "len" = none) (m_tuple : mg "tuple" = none) (m_list : mg "list" = none) (m_repr : mg "repr" = none) (m_bool : mg "bool" = none) {m : Nat} (c_Lsame : ∀ m', m = m' + 1 → CalP P w K mg base n "_law_same" (v_Lsame m')) : FnG P w K mg base (n + 1) f fd ["told", "due"] (SpP K (v_Lsame m)) := by
  refine fg_pure F sc_Lsame (fun ds post ⟨d, e, _⟩ => by rw [e]; rfl) fun cdv A outer s H E ds post hr hgd ⟨d, e, ok, q⟩ => ?_
  subst e
  have nd := sc_Lsame.nd
  have hu := hu_room hr
  refine ssw_cons ?_
  show SW _ _ _ [.pd d, .pd d, .un] _
  cases d with
  | none =>
    walk_at "dl"
    exact q
  | bool b =>
    cases b
    · walk_at "dl"
      exact q
    · walk_at "dl"
      exact q
  | int i =>
    have ok : i.natAbs.log2 < 1920 := by cases m <;> exact ok
    walk_at "dl"
    refine ⟨ok, ?_⟩
    walk_at "dl"
    refine ⟨ok, ?_⟩
    walk_at "dl"
    rw [decide_eq_true rfl]
    exact q
  | str z =>
    have ok : (reprText z).length ≤ 16777216 := by cases m <;> exact ok
    walk_at "dl"
    refine ⟨ok, ?_⟩
    walk_at "dl"
    refine ⟨ok, ?_⟩
    walk_at "dl"
    rw [decide_eq_true rfl]
    exact q
  | dict kv => cases m <;> exact ok.elim
  | list xs =>
    cases m with
    | zero => exact ok.elim
    | succ m =>
    have c_Lsame := c_Lsame m rfl
    walk_at "dl"
    rw [decide_eq_true rfl]
    walk_at "dl"
    refine sw_for (ts := [2]) PassesOwn.never rfl (by decide) (iw_rng1 rfl (by assumption) ?_)
    walk_at "dl"
    refine ⟨xs.length, rfl, by have := ok.1; omega, ?_⟩
    rw [show ((xs.length : Int)).toNat = xs.length by omega]
    refine ⟨fun i ρ => ∃ a, ρ = [.pd (.list xs), .pd (.list xs), a], ⟨_, rfl⟩, ?_, ?_⟩
    · rintro j x ρ hx ⟨a, rfl⟩
      have hj := (List.getElem?_eq_some_iff.mp hx).1
      rw [rangeD_length] at hj
      rw [rangeD_get hj, Int.zero_add] at hx
      cases hx
      refine gw_name 2 (pg_name (i := 2) nd rfl (.inl rfl)) (by decide) ?_
      walk_at "dl"
      refine ⟨xs[j], atI_nat (List.getElem?_eq_getElem hj), ?_⟩
      walk_at "dl"
      refine ⟨xs[j], atI_nat (List.getElem?_eq_getElem hj), ?_⟩
      walk_at "dl"
      refine ⟨_, rfl, ok.2 _ (List.getElem_mem hj), ?_⟩
      walk_at "dl"
      exact ⟨_, rfl⟩
    · rintro ρ ⟨a, rfl⟩
      walk_at "dl"
      exact q
  | tuple xs =>
    cases m with
    | zero => exact ok.elim
    | succ m =>
    have c_Lsame := c_Lsame m rfl
    walk_at "dl"
    rw [decide_eq_true rfl]
    walk_at "dl"
    refine sw_for (ts := [2]) PassesOwn.never rfl (by decide) (iw_rng1 rfl (by assumption) ?_)
    walk_at "dl"
    refine ⟨xs.length, rfl, by have := ok.1; omega, ?_⟩
    rw [show ((xs.length : Int)).toNat = xs.length by omega]
    refine ⟨fun i ρ => ∃ a, ρ = [.pd (.tuple xs), .pd (.tuple xs), a], ⟨_, rfl⟩, ?_, ?_⟩
    · rintro j x ρ hx ⟨a, rfl⟩
      have hj := (List.getElem?_eq_some_iff.mp hx).1
      rw [rangeD_length] at hj
      rw [rangeD_get hj, Int.zero_add] at hx
      cases hx
      refine gw_name 2 (pg_name (i := 2) nd rfl (.inl rfl)) (by decide) ?_
      walk_at "dl"
      refine ⟨xs[j], atI_nat (List.getElem?_eq_getElem hj), ?_⟩
      walk_at "dl"
      refine ⟨xs[j], atI_nat (List.getElem?_eq_getElem hj), ?_⟩
      walk_at "dl"
      refine ⟨_, rfl, ok.2 _ (List.getElem_mem hj), ?_⟩
      walk_at "dl"
      exact ⟨_, rfl⟩
    · rintro ρ ⟨a, rfl⟩
      walk_at "dl"
      exact q
end
section
variable {P : Program} {w : World} {K : PySem.W.Frag} {mg : Str → Option Value} {base : Heap} {n : Nat}
/-! ### texts -/
theorem l0 : Str.ofString "" = S [] := by decide +kernel
theorem lNl : Str.ofString "\n" = S [10] := by decide +kernel
theorem lBs : Str.ofString "\\" = S [92] := by decide +kernel
theorem lBb : Str.ofString "\\\\" = S [92, 92] := by decide +kernel
theorem lBn : Str.ofString "\\n" = S [92, 110] := by decide +kernel
theorem lN : Str.ofString "n" = S [110] := by decide +kernel
theorem lPl : Str.ofString "+" = S [43] := by decide +kernel
theorem lMi : Str.ofString "-" = S [45] := by decide +kernel
theorem l00 : Str.ofString "0" = S [48] := by decide +kernel
theorem l000 : Str.ofString "000" = S (List.replicate 3 48) := by decide +kernel
theorem sgn_eq (c k : Nat) : decide ((⟨#[c]⟩ : Str) = S [k]) = decide (c = k) := by
  rw [show (⟨#[c]⟩ : Str) = S [c] from rfl, S_dec]
  simp
theorem sgnL {x : Str} {c k : Nat} (e : x = S [k]) : decide ((⟨#[c]⟩ : Str) = x) = decide (c = k) := by rw [e, sgn_eq]
theorem s_size (l : List Nat) : l.toArray.size = l.length := by simp
theorem tx_ok {l : List Nat} (h : ∀ c ∈ l, c < 128) : PyData.strOk (S l) = true := by
  unfold PyData.strOk
  rw [Array.all_eq_true_iff_forall_mem]
  intro c hc
  have hc : c ∈ l := by simpa [S] using hc
  have := h c hc
  simp only [decide_eq_true_eq]
  omega
theorem fold_take {α β : Type} {f : β → α → β} {b : β} {l : List α} {i : Nat} {c : α} (h : l[i]? = some c) : (l.take (i + 1)).foldl f b = f ((l.take i).foldl f b) c := by
  rw [List.take_add_one, h, List.foldl_append]
  rfl
theorem lFigs : Str.ofString "0123456789" = S [48, 49, 50, 51, 52, 53, 54, 55, 56, 57] := by decide +kernel
theorem figs_in (c : Nat) : decide (c ∈ [48, 49, 50, 51, 52, 53, 54, 55, 56, 57]) = decide (48 ≤ c ∧ c ≤ 57) := by
  refine decide_eq_decide.mpr ⟨fun h => ?_, fun h => ?_⟩
  · simp only [List.mem_cons, List.not_mem_nil, or_false] at h
    omega
  · simp only [List.mem_cons, List.not_mem_nil, or_false]
    omega
def dN (ns : List Nat) : List PyData := ns.map fun (k : Nat) => PyData.int (k : Int)
theorem dN_lay : ∀ ns : List Nat, PyData.canLayAll0 (dN ns) = true
  | [] => rfl
  | n :: ns => by
    show (PyData.canLay0 (.int (n : Int)) && PyData.canLayAll0 (dN ns)) = true
    rw [dN_lay ns]
    rfl
theorem eqv_lnil (xs : List PyData) : PyData.eqv (.list xs) (.list []) = xs.isEmpty := by
  cases xs <;> simp [PyData.eqv, PyData.eqvAll]
theorem fig_at {i c : Nat} (h : [48, 49, 50, 51, 52, 53, 54, 55, 56, 57][i]? = some c) : c = 48 + i := by
  rcases i with _ | _ | _ | _ | _ | _ | _ | _ | _ | _ | i <;> simp at h <;> omega
theorem cT3 (l : List Nat) : cutS (S l) none (some 3) = S (l.take 3) := S_cutT l 3
theorem cT4 (l : List Nat) : cutS (S l) none (some 4) = S (l.take 4) := S_cutT l 4
theorem cD1 (l : List Nat) : cutS (S l) (some 1) none = S (l.drop 1) := S_cutD l 1
theorem cD4 (l : List Nat) : cutS (S l) (some 4) none = S (l.drop 4) := S_cutD l 4
theorem cD5 (l : List Nat) : cutS (S l) (some 5) none = S (l.drop 5) := S_cutD l 5
theorem sm_tx {D : Nat} {l : List Nat} (hc : ∀ c ∈ l, c < 128) (hl : l.length ≤ 4000) : Sm D 4000 (.str (S l)) := sm_str (tx_ok hc) (by rw [S_len]; exact hl)
theorem same_tx {l : List Nat} (hc : ∀ c ∈ l, c < 128) (hl : l.length ≤ 4000) : SameOk 30 (.str (S l)) := Sm.same (W := 4000) (by decide) 30 (by decide) (sm_tx hc hl)
theorem val_lt {f : List Nat} (h : FigOk f) : NumText.digitsVal f < 1000000 := by
  obtain ⟨⟨h1, h2⟩, h3⟩ := h
  match f, h1, h2, h3 with
  | [a], _, _, h3 =>
    have := h3 a (by simp)
    show (0 * 10 + (a - 48)) < _
    omega
  | [a, b], _, _, h3 =>
    have := h3 a (by simp)
    have := h3 b (by simp)
    show ((0 * 10 + (a - 48)) * 10 + (b - 48)) < _
    omega
  | [a, b, c], _, _, h3 =>
    have := h3 a (by simp)
    have := h3 b (by simp)
    have := h3 c (by simp)
    show (((0 * 10 + (a - 48)) * 10 + (b - 48)) * 10 + (c - 48)) < _
    omega
  | [a, b, c, d], _, _, h3 =>
    have := h3 a (by simp)
    have := h3 b (by simp)
    have := h3 c (by simp)
    have := h3 d (by simp)
    show ((((0 * 10 + (a - 48)) * 10 + (b - 48)) * 10 + (c - 48)) * 10 + (d - 48)) < _
    omega
  | _ :: _ :: _ :: _ :: _ :: r, _, h2, _ => simp at h2
theorem lt_app {a b : List Nat} (ha : ∀ c ∈ a, c < 128) (hb : ∀ c ∈ b, c < 128) : ∀ c ∈ a ++ b, c < 128 := fun c m => (List.mem_append.mp m).elim (ha c) (hb c)
theorem flat1 (x : List Nat) : (x.map fun c => [c]).flatten = x := by
  induction x with
  | nil => rfl
  | cons c x ih =>
    rw [List.map_cons, List.flatten_cons, ih]
    rfl
theorem join1 (x : List Nat) : Txt.join (Str.ofString "") (x.map fun c => S [c]) = S x := by
  have h : Txt.join (Str.ofString "") ((x.map fun c => [c]).map S) = S (x.map fun c => [c]).flatten := by
    rw [l0]
    exact (StrLaws.glued_eq_join _ _).trans (S_join0 _)
  rw [flat1, List.map_map] at h
  exact h
end
section
variable {P : Program} {w : World} {K : PySem.W.Frag} {mg : Str → Option Value} {base : Heap} {n : Nat}
def w_Lpick : GAB := fun bs ds P => ∃ d, ds = [d] ∧ BoxOk bs ∧ ((∃ l : List Nat, d = .str (S l) ∧ (0 < l.length ∧ l.length ≤ 1000) ∧ ∀ c bs', c ∈ l → BoxOk bs' → P (.str (S [c])) bs') ∨ ∃ xs, d = .list xs ∧ (0 < xs.length ∧ xs.length ≤ 1000) ∧ ∀ x bs', x ∈ xs → BoxOk bs' → P x bs')
theorem ok_Lpick {f : Addr} {fd : FuncData} (F : Fun K "_law_pick" "_law_pick" s_Lpick f fd) (m_int : mg "int" = none) (m_len : mg "len" = none) (c_Ldraw : CalB P w K mg base n "_law_draw" w_Ldraw) : FnG P w K mg base (n + 1) f fd ["box", "row"] (SpB K w_Lpick) := by
  refine fg_box F sc_Lpick (fun bs ds post ⟨d, e, _⟩ => by rw [e]; rfl) fun cdv A outer s H E bs ds post hr hgd ⟨d, e, hb, q⟩ => ?_
  subst e
  have nd := sc_Lpick.nd
  refine ssw_cons ?_
  show SW _ _ _ [.ow (.lst bs), .pd d] _
  rcases q with ⟨l, rfl, ⟨h0, h1⟩, q⟩ | ⟨xs, rfl, ⟨h0, h1⟩, q⟩
  · walk_at "dl"
    refine ⟨_, rfl, _, rfl, by decide, hb, fun r bs hr hb => ?_⟩
    walk_at "dl"
    rw [S_len]
    refine ⟨by omega, ?_⟩
    walk_at "dl"
    refine ⟨by omega, ?_⟩
    obtain ⟨j, e, hj⟩ := mod_fits (z := (r : Int)) (m := (l.length : Int)) (by omega)
    rw [e]
    have hj : j < l.length := by omega
    walk_at "dl"
    refine ⟨by rw [S_len]; omega, l[j], S_at (List.getElem?_eq_getElem hj), ?_⟩
    exact ⟨_, rfl, q _ _ (List.getElem_mem hj) hb⟩
  · walk_at "dl"
    refine ⟨_, rfl, _, rfl, by decide, hb, fun r bs hr hb => ?_⟩
    walk_at "dl"
    refine ⟨by omega, ?_⟩
    obtain ⟨j, e, hj⟩ := mod_fits (z := (r : Int)) (m := (xs.length : Int)) (by omega)
    rw [e]
    have hj : j < xs.length := by omega
    walk_at "dl"
    refine ⟨xs[j], atI_nat (List.getElem?_eq_getElem hj), ?_⟩
    exact ⟨_, rfl, q _ _ (List.getElem_mem hj) hb⟩
/-- a text of few signs -/
def TxD (n : Nat) (d : PyData) : Prop := ∃ t : List Nat, d = .str (S t) ∧ t.length ≤ n ∧ ∀ c ∈ t, c < 128
theorem txd_lits (n : Nat) (ss : List String) (h : (ss.all fun s => decide (s.toList.length ≤ n) && s.toList.all fun c => decide (c.toNat < 128)) = true) : ∀ x ∈ ss.map fun s => PyData.str (Str.ofString s), TxD n x := by
  intro x m
  obtain ⟨s, hs, rfl⟩ := List.mem_map.mp m
  have h := List.all_eq_true.mp h s hs
  simp only [Bool.and_eq_true, decide_eq_true_eq, List.all_eq_true] at h
  refine ⟨s.toList.map Char.toNat, congrArg PyData.str (S_lit s), by rw [List.length_map]; exact h.1, fun c m => ?_⟩
  obtain ⟨d, hd, rfl⟩ := List.mem_map.mp m
  exact h.2 d hd
theorem pick_tx {n : Nat} {ss : List String} {bs : List PyData} {P : PyData → List PyData → Prop} (hb : BoxOk bs) (hl : 0 < ss.length ∧ ss.length ≤ 1000) (h : (ss.all fun s => decide (s.toList.length ≤ n) && s.toList.all fun c => decide (c.toNat < 128)) = true)
    (q : ∀ t bs', t.length ≤ n → (∀ c ∈ t, c < 128) → BoxOk bs' → P (.str (S t)) bs') : w_Lpick bs [.list (ss.map fun s => PyData.str (Str.ofString s))] P :=
  ⟨_, rfl, hb, .inr ⟨_, rfl, by rw [List.length_map]; exact hl, fun x bs' m hb' => by
    obtain ⟨t, rfl, h1, h2⟩ := txd_lits n ss h x m
    exact q t bs' h1 h2 hb'⟩⟩
def okLine : PyData → Prop := fun d => ∃ n : Nat, d = .int n ∧ n < 10000
def SmallL (w : List Nat) : Prop := (1 ≤ w.length ∧ w.length ≤ 8) ∧ ∀ c ∈ w, 97 ≤ c ∧ c ≤ 122
instance (w : List Nat) : Decidable (SmallL w) := by unfold SmallL; exact inferInstance
def abcL : List Nat := (List.range 26).map (97 + ·)
theorem lAbc : Str.ofString "abcdefghijklmnopqrstuvwxyz" = S abcL := by decide +kernel
theorem abc_in (c : Nat) : decide (c ∈ abcL) = decide (97 ≤ c ∧ c ≤ 122) := by
  refine decide_eq_decide.mpr ⟨fun h => ?_, fun h => ?_⟩
  · obtain ⟨i, hi, rfl⟩ := List.mem_map.mp h
    have := List.mem_range.mp hi
    omega
  · exact List.mem_map.mpr ⟨c - 97, List.mem_range.mpr (by omega), by omega⟩
theorem all_dec {q : Nat → Prop} [DecidablePred q] (l : List Nat) : ((l.map fun c => decide (q c)).all fun b => b) = decide (∀ c ∈ l, q c) := by
  rw [List.all_map, Bool.eq_iff_iff, List.all_eq_true, decide_eq_true_eq]
  exact ⟨fun h c m => of_decide_eq_true (h c m), fun h c m => decide_eq_true (h c m)⟩
def w_is_word : GA := fun ds P => ∃ l : List Nat, ds = [.str (S l)] ∧ (l.length ≤ 1000 ∧ ∀ c ∈ l, c < 128) ∧ P (.bool (decide (SmallL l)))
theorem ok_is_word {f : Addr} {fd : FuncData} (F : Fun K "is_word" "is_word" s_is_word f fd) (m_all : mg "all" = none) (m_len : mg "len" = none) {t_SMALL : Tok} (m_SMALL : mg "SMALL" = some (.str "abcdefghijklmnopqrstuvwxyz" t_SMALL)) : FnG P w K mg base (n + 1) f fd ["word"] (SpP K w_is_word) := by
  refine fg_pure F sc_is_word (fun ds post ⟨l, e, _⟩ => by rw [e]; rfl) fun cdv A outer s H E ds post hr hgd ⟨l, e, ⟨hl, hc⟩, q⟩ => ?_
  subst e
  have nd := sc_is_word.nd
  have hu := hu_room hr
  refine ssw_cons ?_
  show SW _ _ _ [.pd (.str (S l)), .un] _
  walk_at "dl"
  rw [S_len]
  refine ⟨by omega, ?_⟩
  walk_at "dl"
  refine ⟨fun h1 => ?_, fun h1 => ?_⟩
  rotate_left
  · have h1 := of_decide_eq_false h1
    rw [decide_eq_false (fun z => by have := z.1.1; omega)] at q
    exact ⟨false, rfl, fun z => Bool.noConfusion z, fun _ => q⟩
  walk_at "dl"
  refine ⟨fun h2 => ?_, fun h2 => ?_⟩
  rotate_left
  · have h2 := of_decide_eq_false h2
    rw [decide_eq_false (fun z => by have := z.1.2; omega)] at q
    exact q
  have h1 := of_decide_eq_true h1
  have h2 := of_decide_eq_true h2
  walk_at "dl"
  refine EN.ew (en_lcM [("letter", 1)] rfl nd (blkOk_of sc_is_word rfl rfl (by decide +kernel)) ?_)
  walk_at "dl"
  refine ⟨by rw [S_len]; omega, ?_⟩
  rw [S_sgn]
  refine ⟨noOw1 rfl, Nat, l, fun c => .str (S [c]), fun _ => true, fun c => .bool (decide (97 ≤ c ∧ c ≤ 122)), rfl, fun z hz => ?_, ?_⟩
  · walk_at "dl"
    refine ⟨rfl, rfl, fun _ => ?_⟩
    walk_at "dl"
    refine ⟨rfl, congrArg PyData.bool ?_⟩
    rw [lAbc]
    exact (S_in _ z).trans (abc_in z)
  show AW _ [] _ _
  walk_at "dl"
  refine ⟨l.map fun c => decide (97 ≤ c ∧ c ≤ 122), by rw [filter_true, List.map_map]; rfl, ?_⟩
  rw [all_dec]
  rw [show decide (SmallL l) = decide (∀ c ∈ l, 97 ≤ c ∧ c ≤ 122) from decide_eq_decide.mpr ⟨fun z => z.2, fun z => ⟨by omega, z⟩⟩] at q
  exact q
def w_Lis_word : GA := w_is_word
theorem ok_Lis_word {f : Addr} {fd : FuncData} (F : Fun K "_law_is_word" "_law_is_word" s_Lis_word f fd) (m_len : mg "len" = none) : FnG P w K mg base (n + 1) f fd ["word"] (SpP K w_Lis_word) := by
  refine fg_pure F sc_Lis_word (fun ds post ⟨l, e, _⟩ => by rw [e]; rfl) fun cdv A outer s H E ds post hr hgd ⟨l, e, ⟨hl, hc⟩, q⟩ => ?_
  subst e
  have nd := sc_Lis_word.nd
  have hu := hu_room hr
  refine ssw_cons ?_
  show SW _ _ _ [.pd (.str (S l)), .un] _
  walk_at "dl"
  rw [S_len]
  refine ⟨by omega, ?_⟩
  walk_at "dl"
  refine ⟨fun h1 => ?_, fun h1 => ?_⟩
  rotate_left
  · have h1 := of_decide_eq_false h1
    rw [decide_eq_false (fun z => by have := z.1.1; omega)] at q
    exact ⟨false, rfl, fun z => Bool.noConfusion z, fun _ => q⟩
  walk_at "dl"
  refine ⟨fun h2 => ?_, fun h2 => ?_⟩
  rotate_left
  · have h2 := of_decide_eq_false h2
    rw [decide_eq_false (fun z => by have := z.1.2; omega)] at q
    exact q
  have h1 := of_decide_eq_true h1
  have h2 := of_decide_eq_true h2
  walk_at "dl"
  refine EN.ew (en_lcM [("letter", 1)] rfl nd (blkOk_of sc_Lis_word rfl rfl (by decide +kernel)) ?_)
  walk_at "dl"
  refine ⟨by rw [S_len]; omega, ?_⟩
  rw [S_sgn]
  refine ⟨noOw1 rfl, Nat, l, fun c => .str (S [c]), fun c => !decide (97 ≤ c ∧ c ≤ 122), fun c => .str (S [c]), rfl, fun z hz => ?_, ?_⟩
  · walk_at "dl"
    refine ⟨rfl, ?_, fun _ => ?_⟩
    · rw [lAbc]
      exact congrArg (! ·) ((S_in _ z).trans (abc_in z))
    walk_at "dl"
    exact ⟨rfl, rfl⟩
  show EW _ _ _ _
  have hfil : ((l.filter fun c => !decide (97 ≤ c ∧ c ≤ 122)).map fun c => PyData.str (S [c])).isEmpty = decide (∀ c ∈ l, 97 ≤ c ∧ c ≤ 122) := by
    rw [List.isEmpty_map, Bool.eq_iff_iff, List.isEmpty_iff, List.filter_eq_nil_iff, decide_eq_true_eq]
    exact ⟨fun h c m => by simpa using h c m, fun h c m => by simpa using h c m⟩
  walk_at "dl"
  refine ⟨?_, rfl, Nat.le_trans (Nat.min_le_right _ _) (by decide), ?_⟩
  · simp only [PyData.canLay0]
    refine all_lay fun x m => ?_
    obtain ⟨c, hm, rfl⟩ := List.mem_map.mp m
    simp only [PyData.canLay0]
    exact tx_ok fun d m => by rw [List.mem_singleton.mp m]; exact hc c (List.mem_filter.mp hm).1
  rw [eqv_lnil, hfil]
  rw [show decide (SmallL l) = decide (∀ c ∈ l, 97 ≤ c ∧ c ≤ 122) from decide_eq_decide.mpr ⟨fun z => z.2, fun z => ⟨by omega, z⟩⟩] at q
  exact q
end
section
variable {P : Program} {w : World} {K : PySem.W.Frag} {mg : Str → Option Value} {base : Heap} {n : Nat}
def NumL (v : List Nat) : Prop := FigOk v ∧ ¬ (1 < v.length ∧ v.headD 0 = 48)
instance (v : List Nat) : Decidable (NumL v) := by unfold NumL; exact inferInstance
def numD (v : List Nat) : PyData := if NumL v then .int (NumText.digitsVal v : Nat) else .none
def w_number_of : GA := fun ds P => ∃ l : List Nat, ds = [.str (S l)] ∧ (l.length ≤ 1000 ∧ ∀ c ∈ l, c < 128) ∧ P (numD l)
theorem ok_number_of {f : Addr} {fd : FuncData} (F : Fun K "number_of" "number_of" s_number_of f fd) (m_int : mg "int" = none) (m_all : mg "all" = none) (m_len : mg "len" = none) : FnG P w K mg base (n + 1) f fd ["word"] (SpP K w_number_of) := by
  refine fg_pure F sc_number_of (fun ds post ⟨l, e, _⟩ => by rw [e]; rfl) fun cdv A outer s H E ds post hr hgd ⟨l, e, ⟨hl, hc⟩, q⟩ => ?_
  subst e
  have nd := sc_number_of.nd
  have hu := hu_room hr
  unfold numD at q
  refine ssw_cons ?_
  show SW _ _ _ [.pd (.str (S l)), .un] _
  walk_at "dl"
  rw [S_len]
  refine ⟨by omega, ?_⟩
  walk_at "dl"
  refine ⟨fun h1 => ?_, fun h1 => ?_⟩
  rotate_left
  · have h1 := of_decide_eq_false h1
    rw [if_neg (fun z => by have := z.1.1.1; omega)] at q
    walk_at "dl"
    exact q
  have h1 := of_decide_eq_true h1
  walk_at "dl"
  refine ⟨fun h2 => ?_, fun h2 => ?_⟩
  · have h2 : ¬ (l.length : Int) ≤ 4 := by simpa using h2
    rw [if_neg (fun z => by have := z.1.1.2; omega)] at q
    walk_at "dl"
    exact q
  have h2 : (l.length : Int) ≤ 4 := by simpa using h2
  walk_at "dl"
  refine EN.ew (en_lcM [("figure", 1)] rfl nd (blkOk_of sc_number_of rfl rfl (by decide +kernel)) ?_)
  walk_at "dl"
  refine ⟨by rw [S_len]; omega, ?_⟩
  rw [S_sgn]
  refine ⟨noOw1 rfl, Nat, l, fun c => .str (S [c]), fun _ => true, fun c => .bool (decide (48 ≤ c ∧ c ≤ 57)), rfl, fun z hz => ?_, ?_⟩
  · walk_at "dl"
    refine ⟨rfl, rfl, fun _ => ?_⟩
    walk_at "dl"
    refine ⟨rfl, congrArg PyData.bool ?_⟩
    rw [lFigs]
    exact (S_in _ z).trans (figs_in z)
  show AW _ [] _ _
  walk_at "dl"
  refine ⟨l.map fun c => decide (48 ≤ c ∧ c ≤ 57), by rw [filter_true, List.map_map]; rfl, ?_⟩
  rw [all_dec]
  walk_at "dl"
  refine ⟨fun h3 => ?_, fun h3 => ?_⟩
  · have h3 : ¬ ∀ c ∈ l, 48 ≤ c ∧ c ≤ 57 := fun z => by rw [decide_eq_true z] at h3; cases h3
    rw [if_neg (fun z => h3 z.1.2)] at q
    walk_at "dl"
    exact q
  have h3 : ∀ c ∈ l, 48 ≤ c ∧ c ≤ 57 := by
    by_cases z : ∀ c ∈ l, 48 ≤ c ∧ c ≤ 57
    · exact z
    · rw [decide_eq_false z] at h3
      cases h3
  have hfig : FigOk l := ⟨by omega, h3⟩
  have last : ¬ (1 < l.length ∧ l.headD 0 = 48) → SsW (DCx P w K mg base ["word", "figure"] "number_of" (defScope s_number_of) f cdv A outer s H E) [] ((defBody s_number_of).drop 2) [.pd (.str (S l)), .un] { nx := fun _ => post .none, rt := fun d _ => post d } := fun hh => by
    rw [if_pos ⟨hfig, hh⟩] at q
    refine ssw_cons ?_
    walk_at "dl"
    refine ⟨_, intText_digits (x := S l) (fun c m => h3 c (by simpa [S] using m)) (by simpa [S] using (by rintro rfl; simp at h1 : l ≠ [])) (by rw [S_len]; omega), by rw [S_len]; omega, ?_⟩
    exact q
  walk_at "dl"
  rw [S_len]
  refine ⟨by omega, ?_⟩
  walk_at "dl"
  refine ⟨fun h4 => ?_, fun h4 => ?_⟩
  · have h4 := of_decide_eq_true h4
    cases l with
    | nil => simp at h4
    | cons d r =>
      walk_at "dl"
      refine ⟨by rw [S_len]; omega, d, S_at (l := d :: r) (i := 0) rfl, ?_⟩
      walk_at "dl"
      rw [sgnL l00]
      refine ⟨fun h5 => ?_, fun h5 => ?_⟩
      · have h5 := of_decide_eq_true h5
        rw [if_neg (fun z => z.2 ⟨by omega, h5⟩)] at q
        walk_at "dl"
        exact q
      · exact ssw_nil (last fun z => of_decide_eq_false h5 z.2)
  · have h4 := of_decide_eq_false h4
    exact ⟨fun z => Bool.noConfusion z, fun _ => ssw_nil (last fun z => h4 (by omega))⟩
def w_Lnumber : GA := w_number_of
theorem ok_Lnumber {f : Addr} {fd : FuncData} (F : Fun K "_law_number" "_law_number" s_Lnumber f fd) (m_len : mg "len" = none) : FnG P w K mg base (n + 1) f fd ["word"] (SpP K w_Lnumber) := by
  refine fg_pure F sc_Lnumber (fun ds post ⟨l, e, _⟩ => by rw [e]; rfl) fun cdv A outer s H E ds post hr hgd ⟨l, e, ⟨hl, hc⟩, q⟩ => ?_
  subst e
  have nd := sc_Lnumber.nd
  have hu := hu_room hr
  unfold numD at q
  refine ssw_cons ?_
  show SW _ _ _ [.pd (.str (S l)), .un, .un, .un] _
  walk_at "dl"
  rw [S_len]
  refine ⟨by omega, ?_⟩
  walk_at "dl"
  have nofine : ¬ FigOk l → SsW (DCx P w K mg base ["word", "fine", "worth", "sign"] "_law_number" (defScope s_Lnumber) f cdv A outer s H E) [] ((defBody s_Lnumber).drop 1) [.pd (.str (S l)), .pd (.bool false), .un, .un] { nx := fun _ => post .none, rt := fun d _ => post d } := fun hh => by
    rw [if_neg (fun z => hh z.1)] at q
    refine ssw_cons ?_
    walk_at "dl"
    exact q
  refine ⟨fun h1 => ?_, fun h1 => ?_⟩
  rotate_left
  · exact ⟨false, rfl, fun z => Bool.noConfusion z, fun _ => nofine fun z => by have := of_decide_eq_false h1; have := z.1.1; omega⟩
  have h1 := of_decide_eq_true h1
  walk_at "dl"
  refine ⟨fun h2 => ?_, fun h2 => ?_⟩
  rotate_left
  · exact nofine fun z => by have := of_decide_eq_false h2; have := z.1.2; omega
  have h2 := of_decide_eq_true h2
  walk_at "dl"
  refine EN.ew (en_lcM [("sign", 3)] rfl nd (blkOk_of sc_Lnumber rfl rfl (by decide +kernel)) ?_)
  walk_at "dl"
  refine ⟨by rw [S_len]; omega, ?_⟩
  rw [S_sgn]
  refine ⟨noOw1 rfl, Nat, l, fun c => .str (S [c]), fun c => !decide (48 ≤ c ∧ c ≤ 57), fun c => .str (S [c]), rfl, fun z hz => ?_, ?_⟩
  · walk_at "dl"
    refine ⟨rfl, ?_, fun _ => ?_⟩
    · rw [lFigs]
      exact congrArg (! ·) ((S_in _ z).trans (figs_in z))
    walk_at "dl"
    exact ⟨rfl, rfl⟩
  show EW _ _ _ _
  have hfil : ((l.filter fun c => !decide (48 ≤ c ∧ c ≤ 57)).map fun c => PyData.str (S [c])).isEmpty = decide (∀ c ∈ l, 48 ≤ c ∧ c ≤ 57) := by
    rw [List.isEmpty_map, Bool.eq_iff_iff, List.isEmpty_iff, List.filter_eq_nil_iff, decide_eq_true_eq]
    exact ⟨fun h c m => by simpa using h c m, fun h c m => by simpa using h c m⟩
  walk_at "dl"
  refine ⟨?_, rfl, Nat.le_trans (Nat.min_le_right _ _) (by decide), ?_⟩
  · simp only [PyData.canLay0]
    refine all_lay fun x m => ?_
    obtain ⟨c, hm, rfl⟩ := List.mem_map.mp m
    simp only [PyData.canLay0]
    exact tx_ok fun d m => by rw [List.mem_singleton.mp m]; exact hc c (List.mem_filter.mp hm).1
  rw [eqv_lnil, hfil]
  by_cases hff : ∀ c ∈ l, 48 ≤ c ∧ c ≤ 57
  rotate_left
  · rw [decide_eq_false hff]
    exact nofine fun z => hff z.2
  rw [decide_eq_true hff]
  have hfig : FigOk l := ⟨by omega, hff⟩
  have last : ¬ (1 < l.length ∧ l.headD 0 = 48) → SsW (DCx P w K mg base ["word", "fine", "worth", "sign"] "_law_number" (defScope s_Lnumber) f cdv A outer s H E) [] ((defBody s_Lnumber).drop 2) [.pd (.str (S l)), .pd (.bool true), .un, .un] { nx := fun _ => post .none, rt := fun d _ => post d } := fun hh => by
    rw [if_pos ⟨hfig, hh⟩] at q
    refine ssw_cons ?_
    walk_at "dl"
    refine sw_for (ts := [3]) PassesOwn.never rfl (by decide) ?_
    walk_at "dl"
    refine ⟨by rw [S_len]; omega, ?_⟩
    rw [S_sgn]
    refine mpJ (fun i ρ => ∃ a, ρ = [.pd (.str (S l)), .pd (.bool true), .pd (.int ((NumText.digitsVal (l.take i) : Nat) : Int)), a]) ⟨_, rfl⟩ ?_ ?_
    · rintro i c ρ hcc ⟨a, rfl⟩
      have hm := hff c (List.mem_of_getElem? hcc)
      have hin : c ∈ [48, 49, 50, 51, 52, 53, 54, 55, 56, 57] := of_decide_eq_true ((figs_in c).trans (decide_eq_true hm))
      obtain ⟨j, rest2, ho, hj, _⟩ := S_index hin
      have hj := fig_at hj
      walk_at "dl"
      rw [lFigs]
      refine ⟨⟨_, rfl⟩, ?_⟩
      walk_at "dl"
      refine ⟨j, rest2, ho, ?_⟩
      walk_at "dl"
      have e : NumText.digitsVal (l.take (i + 1)) = NumText.digitsVal (l.take i) * 10 + j := by
        unfold NumText.digitsVal
        rw [fold_take hcc]
        show _ * 10 + (c - 48) = _
        omega
      rw [e]
      exact ⟨_, rfl⟩
    · rintro ρ ⟨a, rfl⟩
      rw [List.take_length]
      walk_at "dl"
      exact q
  cases l with
  | nil => simp at h1
  | cons d r =>
    walk_at "dl"
    refine ⟨by rw [S_len]; omega, d, S_at (l := d :: r) (i := 0) rfl, ?_⟩
    walk_at "dl"
    rw [sgnL l00]
    refine ⟨fun h5 => ?_, fun h5 => ?_⟩
    · have h5 := of_decide_eq_true h5
      walk_at "dl"
      rw [S_len]
      refine ⟨by omega, ?_⟩
      walk_at "dl"
      refine ⟨fun h4 => ?_, fun h4 => ?_⟩
      · have h4 := of_decide_eq_true h4
        rw [if_neg (fun z => z.2 ⟨by omega, h5⟩)] at q
        walk_at "dl"
        exact q
      · exact ssw_nil (last fun z => of_decide_eq_false h4 (by omega))
    · exact ⟨fun z => Bool.noConfusion z, fun _ => ssw_nil (last fun z => of_decide_eq_false h5 z.2)⟩
end
section
variable {P : Program} {w : World} {K : PySem.W.Frag} {mg : Str → Option Value} {base : Heap} {n : Nat}
def lw (s : String) : List Nat := s.toList.map Char.toNat
theorem S_lw (s : String) : Str.ofString s = S (lw s) := S_lit s
theorem eqL (k : List Nat) (s : String) : decide (S k = Str.ofString s) = decide (k = lw s) := by rw [S_lw, S_dec]
theorem inD_lits (k : List Nat) (ss : List String) : inD (.str (S k)) (ss.map fun s => PyData.str (Str.ofString s)) = decide (k ∈ ss.map lw) := by
  unfold inD
  rw [List.any_map, Bool.eq_iff_iff]
  simp only [List.any_eq_true, Function.comp, eqv_str, decide_eq_true_eq, List.mem_map]
  constructor
  · rintro ⟨s, hs, e⟩
    exact ⟨s, hs, S_inj (by rw [← e, S_lw])⟩
  · rintro ⟨s, hs, rfl⟩
    exact ⟨s, hs, S_lw s⟩
theorem lay_lits : ∀ ss : List String, PyData.canLayAll0 (ss.map fun s => PyData.str (Str.ofString s)) = true
  | [] => rfl
  | s :: ss => by
    show (PyData.canLay0 (.str (Str.ofString s)) && PyData.canLayAll0 _) = true
    rw [lay_lits ss]
    simp only [PyData.canLay0, strOk_lit, Bool.and_self]
inductive Part where
  | t (l : List Nat)
  | n (k : Nat)
def Part.data : Part → PyData
  | .t l => .str (S l)
  | .n k => .int (k : Int)
def odata (o : List Part) : PyData := .tuple (o.map Part.data)
def optO : Option (List Part) → PyData
  | none => .none
  | some o => odata o
def BAREs : List (List Nat) := ["books", "begin", "end", "drop"].map lw
def ASKs : List (List Nat) := ["text", "side", "moves", "turns", "sights", "good", "flat", "size", "paper"].map lw
def TWOs : List (List Nat) := ["book", "forget", "undo"].map lw
def CPs : List (List Nat) := ["copy", "alike"].map lw
def readW : List (List Nat) → Option (List Part)
  | [] => none
  | [k] => if k ∈ BAREs then some [.t k] else none
  | k :: w :: r => if ¬ SmallL w then none else
    match r with
    | [] => if k ∈ TWOs then some [.t k, .t w] else none
    | v :: r' => if k = lw "add" then some [.t (lw "add"), .t w, .t (joinL 32 (v :: r'))] else if r' ≠ [] then none
      else if k = lw "take" then (if NumL v then some [.t (lw "take"), .t w, .n (NumText.digitsVal v)] else none)
      else if k = lw "ask" then (if v ∈ ASKs then some [.t (lw "ask"), .t w, .t v] else none)
      else if k ∈ CPs then (if SmallL v then some [.t k, .t w, .t v] else none) else none
def readO (l : List Nat) : Option (List Part) := readW (splitL 32 l)
def wD (ws : List (List Nat)) : List PyData := ws.map fun w => PyData.str (S w)
theorem wD_split (l : List Nat) : (Txt.split (S l) (S [32])).map PyData.str = wD (splitL 32 l) := by
  rw [split_S, List.map_map]
  rfl
theorem lSp : Str.ofString " " = S [32] := by decide +kernel
theorem cutD_2 {α : Type} (a b : α) (r : List α) : DL.cutD (a :: b :: r) (some 2) none = r := by
  unfold DL.cutD
  have e : HT.sIx (a :: b :: r).length 0 (some 2) = 2 := by
    have z := HT.sIx_nat (a :: b :: r).length 0 2
    rw [Nat.min_eq_left (by simp)] at z
    exact z
  rw [e, HT.sIx_none]
  exact List.take_of_length_le (by simp)
theorem join32 (ws : List (List Nat)) : Txt.join (Str.ofString " ") (ws.map S) = S (joinL 32 ws) := by
  rw [lSp]
  exact (StrLaws.glued_eq_join _ _).trans (S_joinL 32 ws)
theorem join32S (ws : List (List Nat)) : Txt.join (S [32]) (ws.map S) = S (joinL 32 ws) := (StrLaws.glued_eq_join _ _).trans (S_joinL 32 ws)
theorem sum_S (ws : List (List Nat)) : ((ws.map S).map fun s => s.length).sum = (ws.map (·.length)).sum := by
  rw [List.map_map]
  refine congrArg List.sum (List.map_congr_left fun w _ => S_len w)
theorem joinL_sum (c : Nat) : ∀ ws : List (List Nat), (ws.map (·.length)).sum + ws.length ≤ (joinL c ws).length + 1
  | [] => by simp [joinL]
  | [w] => by simp [joinL]
  | w :: v :: r => by
    have ih := joinL_sum c (v :: r)
    show _ ≤ (w ++ c :: joinL c (v :: r)).length + 1
    simp only [List.length_append, List.length_cons, List.map_cons, List.sum_cons] at ih ⊢
    omega
def w_read_order : GA := fun ds P => ∃ l : List Nat, ds = [.str (S l)] ∧ (l.length ≤ 900 ∧ ∀ c ∈ l, c < 128) ∧ P (optO (readO l))
theorem ok_read_order {f : Addr} {fd : FuncData} (F : Fun K "read_order" "read_order" s_read_order f fd) (m_len : mg "len" = none) {t_BARE : Addr} (m_BARE : mg "BARE" = some (.ref t_BARE)) (d_BARE : ∀ Hb, Da K Hb (.ref t_BARE) (.tuple [.str "books", .str "begin", .str "end", .str "drop"])) {t_ASKED : Addr} (m_ASKED : mg "ASKED" = some (.ref t_ASKED)) (d_ASKED : ∀ Hb, Da K Hb (.ref t_ASKED) (.tuple [.str "text", .str "side", .str "moves", .str "turns", .str "sights", .str "good", .str "flat", .str "size", .str "paper"])) (c_is_word : CalP P w K mg base n "is_word" w_is_word) (c_number_of : CalP P w K mg base n "number_of" w_number_of) : FnG P w K mg base (n + 1) f fd ["line"] (SpP K w_read_order) := by
  refine fg_pure F sc_read_order (fun ds post ⟨l, e, _⟩ => by rw [e]; rfl) fun cdv A outer s H E ds post hr hgd ⟨l, e, ⟨hl, hc⟩, q⟩ => ?_
  subst e
  have nd := sc_read_order.nd
  have hu := hu_room hr
  unfold readO at q
  have hw := splitL_mem 32 l
  have hj := join_splitL 32 l
  have hne := splitL_ne 32 l
  refine ssw_cons ?_
  show SW _ _ _ [.pd (.str (S l)), .un, .un] _
  walk_at "dl"
  refine ⟨⟨_, rfl⟩, ?_⟩
  walk_at "dl"
  refine ⟨rfl, by rw [S_len]; omega, ?_⟩
  rw [lSp, wD_split]
  generalize splitL 32 l = ws at *
  have hlay : ∀ k ∈ ws, (PyData.str (S k)).canLay0 = true := fun k m => by
    simp only [PyData.canLay0]
    exact tx_ok fun c mc => hc c ((hw k m).2 c mc)
  match ws, hne, q, hw, hj, hlay with
  | [k], _, q, hw, hj, hlay =>
    walk_at "dl"
    refine sp_t rfl ?_
    walk_at "dl"
    refine ⟨.str (S k), atI_nat (j := 0) rfl, ?_⟩
    walk_at "dl"
    refine ⟨hlay k List.mem_cons_self, lay_lits ["books", "begin", "end", "drop"], Nat.zero_le _, ?_⟩
    rw [show inD (.str (S k)) [.str "books", .str "begin", .str "end", .str "drop"] = decide (k ∈ BAREs) from inD_lits k ["books", "begin", "end", "drop"]]
    walk_at "dl"
    refine ⟨fun h => ?_, fun h => ?_⟩
    · rw [readW, if_pos (of_decide_eq_true h)] at q
      walk_at "dl"
      refine ⟨.str (S k), atI_nat (j := 0) rfl, ?_⟩
      walk_at "dl"
      exact q
    · rw [readW, if_neg (of_decide_eq_false h)] at q
      walk_at "dl"
      refine sp_t rfl ?_
      walk_at "dl"
      exact q
  | k :: w :: r, _, q, hw, hj, hlay =>
    have hlk := hw k List.mem_cons_self
    have hlw := hw w (List.mem_cons_of_mem _ List.mem_cons_self)
    have h0 : atI (wD (k :: w :: r)) 0 = some (.str (S k)) := atI_nat (j := 0) rfl
    have h1 : atI (wD (k :: w :: r)) 1 = some (.str (S w)) := atI_nat (j := 1) rfl
    have hlen : (wD (k :: w :: r)).length = r.length + 2 := by simp [wD]
    walk_at "dl"
    rw [hlen]
    refine sp_f (decide_eq_false (by omega)) ?_
    walk_at "dl"
    rw [hlen]
    refine sp_f (decide_eq_false (by omega)) ?_
    walk_at "dl"
    refine ⟨.str (S w), h1, ?_⟩
    walk_at "dl"
    refine ⟨w, rfl, ⟨by omega, fun c m => hc c (hlw.2 c m)⟩, ?_⟩
    walk_at "dl"
    refine ⟨fun h => ?_, fun h => ?_⟩
    · have h : ¬ SmallL w := by simpa using h
      rw [readW.eq_def] at q
      dsimp only at q
      rw [if_pos h] at q
      walk_at "dl"
      exact q
    have hsw : SmallL w := by simpa using h
    rw [readW.eq_def] at q
    dsimp only at q
    rw [if_neg (fun z => z hsw)] at q
    walk_at "dl"
    refine ⟨.str (S k), h0, ?_⟩
    walk_at "dl"
    rw [hlen]
    cases r with
    | nil =>
      refine sp_t (decide_eq_true rfl) ?_
      walk_at "dl"
      refine ⟨hlay k List.mem_cons_self, lay_lits ["book", "forget", "undo"], Nat.zero_le _, ?_⟩
      rw [show inD (.str (S k)) [.str "book", .str "forget", .str "undo"] = decide (k ∈ TWOs) from inD_lits k ["book", "forget", "undo"]]
      walk_at "dl"
      refine ⟨fun h => ?_, fun h => ?_⟩
      · rw [if_pos (of_decide_eq_true h)] at q
        walk_at "dl"
        refine ⟨.str (S w), h1, ?_⟩
        walk_at "dl"
        exact q
      · rw [if_neg (of_decide_eq_false h)] at q
        walk_at "dl"
        rw [eqL]
        have n2 : (2 : Int) < ((([] : List (List Nat)).length + 2 : Nat) : Int) ↔ False := by simp
        refine ⟨fun h => ?_, fun h => ?_⟩
        · walk_at "dl"
          rw [hlen]
          refine sp_f (decide_eq_false (by simp)) ?_
          walk_at "dl"
          rw [hlen]
          refine sp_f (decide_eq_false (by simp)) ?_
          walk_at "dl"
          rw [hlen]
          refine sp_f (decide_eq_false (by simp)) ?_
          walk_at "dl"
          rw [hlen]
          refine sp_f (decide_eq_false (by simp)) ?_
          walk_at "dl"
          exact q
        · walk_at "dl"
          rw [hlen]
          refine sp_f (decide_eq_false (by simp)) ?_
          walk_at "dl"
          rw [hlen]
          refine sp_f (decide_eq_false (by simp)) ?_
          walk_at "dl"
          rw [hlen]
          refine sp_f (decide_eq_false (by simp)) ?_
          walk_at "dl"
          exact q
    | cons v r =>
      have hlv := hw v (List.mem_cons_of_mem _ (List.mem_cons_of_mem _ List.mem_cons_self))
      have h2 : atI (wD (k :: w :: v :: r)) 2 = some (.str (S v)) := atI_nat (j := 2) rfl
      dsimp only at q
      have hjl : (joinL 32 (v :: r)).length ≤ l.length := by
        rw [← hj, joinL_cons _ _ _ (List.cons_ne_nil _ _), joinL_cons _ _ _ (List.cons_ne_nil _ _)]
        simp only [List.length_append, List.length_cons]
        omega
      have hsum := joinL_sum 32 (v :: r)
      refine sp_f (decide_eq_false (by simp; omega)) ?_
      walk_at "dl"
      rw [eqL]
      by_cases hadd : k = lw "add"
      · rw [if_pos hadd] at q
        refine sp_t (decide_eq_true hadd) ?_
        walk_at "dl"
        rw [hlen]
        refine sp_t (decide_eq_true (by simp; omega)) ?_
        walk_at "dl"
        refine ⟨.str (S w), h1, ?_⟩
        walk_at "dl"
        refine ⟨⟨_, rfl⟩, ?_⟩
        walk_at "dl"
        rw [show DL.cutD (wD (k :: w :: v :: r)) (some 2) none = wD (v :: r) from cutD_2 _ _ _]
        refine ⟨(v :: r).map S, by unfold wD; rw [List.map_map]; rfl, ?_, ?_⟩
        · rw [sum_S, List.length_map, S_len]
          show _ + _ * 1 ≤ _
          omega
        rw [join32S]
        walk_at "dl"
        rw [S_lw "add"]
        exact q
      rw [if_neg hadd] at q
      refine sp_f (decide_eq_false hadd) ?_
      walk_at "dl"
      rw [hlen]
      cases r with
      | cons u r =>
        rw [if_pos (List.cons_ne_nil _ _)] at q
        refine sp_f (decide_eq_false (by simp; omega)) ?_
        walk_at "dl"
        rw [hlen]
        refine sp_f (decide_eq_false (by simp; omega)) ?_
        walk_at "dl"
        rw [hlen]
        refine sp_f (decide_eq_false (by simp; omega)) ?_
        walk_at "dl"
        exact q
      | nil =>
        rw [if_neg (fun z => z rfl)] at q
        have hvs : v.length ≤ 1000 ∧ ∀ c ∈ v, c < 128 := ⟨by omega, fun c m => hc c (hlv.2 c m)⟩
        have hkl := hlay k List.mem_cons_self
        have hvl := hlay v (List.mem_cons_of_mem _ (List.mem_cons_of_mem _ List.mem_cons_self))
        have hcpl := lay_lits ["copy", "alike"]
        have hcpi : inD (.str (S k)) [.str "copy", .str "alike"] = decide (k ∈ CPs) := inD_lits k ["copy", "alike"]
        refine sp_t (decide_eq_true rfl) ?_
        walk_at "dl"
        rw [eqL]
        by_cases htake : k = lw "take"
        · rw [if_pos htake] at q
          refine sp_t (decide_eq_true htake) ?_
          walk_at "dl"
          refine ⟨.str (S v), h2, ?_⟩
          walk_at "dl"
          refine ⟨v, rfl, hvs, ?_⟩
          by_cases hnum : NumL v
          · rw [if_pos hnum] at q
            rw [show numD v = .int (NumText.digitsVal v : Nat) from if_pos hnum]
            walk_at "dl"
            refine ⟨.str (S w), h1, ?_⟩
            walk_at "dl"
            refine ⟨.str (S v), h2, ?_⟩
            walk_at "dl"
            refine ⟨v, rfl, hvs, ?_⟩
            rw [show numD v = .int (NumText.digitsVal v : Nat) from if_pos hnum]
            walk_at "dl"
            rw [S_lw "take"]
            exact q
          · rw [if_neg hnum] at q
            rw [show numD v = .none from if_neg hnum]
            walk_at "dl"
            rw [hlen]
            refine sp_t (decide_eq_true rfl) ?_
            walk_at "dl"
            rw [eqL]
            refine sp_f (decide_eq_false (by rw [htake]; decide)) ?_
            walk_at "dl"
            rw [hlen]
            refine sp_t (decide_eq_true rfl) ?_
            walk_at "dl"
            refine ⟨hkl, hcpl, Nat.zero_le _, ?_⟩
            rw [hcpi]
            walk_at "dl"
            refine sp_f (decide_eq_false (by rw [htake]; decide)) ?_
            walk_at "dl"
            exact q
        rw [if_neg htake] at q
        refine sp_f (decide_eq_false htake) ?_
        walk_at "dl"
        rw [hlen]
        refine sp_t (decide_eq_true rfl) ?_
        walk_at "dl"
        rw [eqL]
        by_cases hask : k = lw "ask"
        · rw [if_pos hask] at q
          refine sp_t (decide_eq_true hask) ?_
          walk_at "dl"
          refine ⟨.str (S v), h2, ?_⟩
          walk_at "dl"
          refine ⟨hvl, lay_lits ["text", "side", "moves", "turns", "sights", "good", "flat", "size", "paper"], Nat.zero_le _, ?_⟩
          rw [show inD (.str (S v)) [.str "text", .str "side", .str "moves", .str "turns", .str "sights", .str "good", .str "flat", .str "size", .str "paper"] = decide (v ∈ ASKs) from inD_lits v ["text", "side", "moves", "turns", "sights", "good", "flat", "size", "paper"]]
          walk_at "dl"
          by_cases hv : v ∈ ASKs
          · rw [if_pos hv] at q
            refine sp_t (decide_eq_true hv) ?_
            walk_at "dl"
            refine ⟨.str (S w), h1, ?_⟩
            walk_at "dl"
            refine ⟨.str (S v), h2, ?_⟩
            walk_at "dl"
            rw [S_lw "ask"]
            exact q
          · rw [if_neg hv] at q
            refine sp_f (decide_eq_false hv) ?_
            walk_at "dl"
            rw [hlen]
            refine sp_t (decide_eq_true rfl) ?_
            walk_at "dl"
            refine ⟨hkl, hcpl, Nat.zero_le _, ?_⟩
            rw [hcpi]
            walk_at "dl"
            refine sp_f (decide_eq_false (by rw [hask]; decide)) ?_
            walk_at "dl"
            exact q
        rw [if_neg hask] at q
        refine sp_f (decide_eq_false hask) ?_
        walk_at "dl"
        rw [hlen]
        refine sp_t (decide_eq_true rfl) ?_
        walk_at "dl"
        refine ⟨hkl, hcpl, Nat.zero_le _, ?_⟩
        rw [hcpi]
        walk_at "dl"
        by_cases hcp : k ∈ CPs
        · rw [if_pos hcp] at q
          refine sp_t (decide_eq_true hcp) ?_
          walk_at "dl"
          refine ⟨.str (S v), h2, ?_⟩
          walk_at "dl"
          refine ⟨v, rfl, hvs, ?_⟩
          walk_at "dl"
          by_cases hv : SmallL v
          · rw [if_pos hv] at q
            refine sp_t (decide_eq_true hv) ?_
            walk_at "dl"
            refine ⟨.str (S w), h1, ?_⟩
            walk_at "dl"
            refine ⟨.str (S v), h2, ?_⟩
            walk_at "dl"
            exact q
          · rw [if_neg hv] at q
            refine sp_f (decide_eq_false hv) ?_
            walk_at "dl"
            exact q
        · rw [if_neg hcp] at q
          refine sp_f (decide_eq_false hcp) ?_
          walk_at "dl"
          exact q
end
section
variable {P : Program} {w : World} {K : PySem.W.Frag} {mg : Str → Option Value} {base : Heap} {n : Nat}
def w_Lasked : GA := fun ds P => ds = [] ∧ P (.list (["text", "side", "moves", "turns", "sights", "good", "flat", "size", "paper"].map fun s => PyData.str (Str.ofString s)))
theorem ok_Lasked {f : Addr} {fd : FuncData} (F : Fun K "_law_asked" "_law_asked" s_Lasked f fd) : FnG P w K mg base (n + 1) f fd [] (SpP K w_Lasked) := by
  refine fg_pure F sc_Lasked (fun ds post ⟨e, _⟩ => by rw [e]; rfl) fun cdv A outer s H E ds post hr hgd ⟨e, q⟩ => ?_
  subst e
  have nd := sc_Lasked.nd
  refine ssw_cons ?_
  show SW _ _ _ [] _
  walk_at "dl"
  exact q
def w_Lread : GA := w_read_order
theorem ok_Lread {f : Addr} {fd : FuncData} (F : Fun K "_law_read" "_law_read" s_Lread f fd) (m_len : mg "len" = none) (c_Lis_word : CalP P w K mg base n "_law_is_word" w_Lis_word) (c_Lnumber : CalP P w K mg base n "_law_number" w_Lnumber) (c_Lasked : CalP P w K mg base n "_law_asked" w_Lasked) : FnG P w K mg base (n + 1) f fd ["text_row"] (SpP K w_Lread) := by
  refine fg_pure F sc_Lread (fun ds post ⟨l, e, _⟩ => by rw [e]; rfl) fun cdv A outer s H E ds post hr hgd ⟨l, e, ⟨hl, hc⟩, q⟩ => ?_
  subst e
  have nd := sc_Lread.nd
  have hu := hu_room hr
  unfold readO at q
  have hw := splitL_mem 32 l
  have hj := join_splitL 32 l
  have hne := splitL_ne 32 l
  refine ssw_cons ?_
  show SW _ _ _ [.pd (.str (S l)), .un, .un, .un] _
  walk_at "dl"
  refine ⟨⟨_, rfl⟩, ?_⟩
  walk_at "dl"
  refine ⟨rfl, by rw [S_len]; omega, ?_⟩
  rw [lSp, wD_split]
  generalize splitL 32 l = ws at *
  have hlay : ∀ k ∈ ws, (PyData.str (S k)).canLay0 = true := fun k m => by
    simp only [PyData.canLay0]
    exact tx_ok fun c mc => hc c ((hw k m).2 c mc)
  walk_at "dl"
  refine sw_par 2 3 (ps_par rfl nd rfl rfl (by decide) rfl rfl (pa_any _) rfl) (by decide) (by decide) ?_
  walk_at "dl"
  match ws, hne, q, hw, hj, hlay with
  | [k], _, q, hw, hj, hlay =>
    refine ⟨.str (S k), atI_nat (j := 0) rfl, ?_⟩
    walk_at "dl"
    refine ⟨_, _, rfl, ?_⟩
    walk_at "dl"
    refine sp_t rfl ?_
    walk_at "dl"
    refine ⟨hlay k List.mem_cons_self, lay_lits ["books", "begin", "end", "drop"], Nat.zero_le _, ?_⟩
    rw [show inD (.str (S k)) [.str "books", .str "begin", .str "end", .str "drop"] = decide (k ∈ BAREs) from inD_lits k ["books", "begin", "end", "drop"]]
    walk_at "dl"
    refine ⟨fun h => ?_, fun h => ?_⟩
    · rw [readW, if_pos (of_decide_eq_true h)] at q
      walk_at "dl"
      exact q
    · rw [readW, if_neg (of_decide_eq_false h)] at q
      walk_at "dl"
      exact q
  | k :: wd :: r, _, q, hw, hj, hlay =>
    have hlk := hw k List.mem_cons_self
    have hlw := hw wd (List.mem_cons_of_mem _ List.mem_cons_self)
    have h0 : atI (wD (k :: wd :: r)) 0 = some (.str (S k)) := atI_nat (j := 0) rfl
    have h1 : atI (wD (k :: wd :: r)) 1 = some (.str (S wd)) := atI_nat (j := 1) rfl
    have hlen : (wD (k :: wd :: r)).length = r.length + 2 := by simp [wD]
    refine ⟨.str (S k), h0, ?_⟩
    walk_at "dl"
    rw [hlen]
    refine ⟨_, _, rfl, ?_⟩
    walk_at "dl"
    refine sp_f (decide_eq_false (by omega)) ?_
    walk_at "dl"
    refine ⟨.str (S wd), h1, ?_⟩
    walk_at "dl"
    refine ⟨wd, rfl, ⟨by omega, fun c m => hc c (hlw.2 c m)⟩, ?_⟩
    walk_at "dl"
    refine ⟨fun h => ?_, fun h => ?_⟩
    · have h : ¬ SmallL wd := by simpa using h
      rw [readW.eq_def] at q
      dsimp only at q
      rw [if_pos h] at q
      walk_at "dl"
      exact q
    have hsw : SmallL wd := by simpa using h
    rw [readW.eq_def] at q
    dsimp only at q
    rw [if_neg (fun z => z hsw)] at q
    have hcpl := lay_lits ["copy", "alike"]
    have htwl := lay_lits ["book", "forget", "undo"]
    have hcpi : inD (.str (S k)) [.str "copy", .str "alike"] = decide (k ∈ CPs) := inD_lits k ["copy", "alike"]
    have htwi : inD (.str (S k)) [.str "book", .str "forget", .str "undo"] = decide (k ∈ TWOs) := inD_lits k ["book", "forget", "undo"]
    have hkl := hlay k List.mem_cons_self
    walk_at "dl"
    rw [eqL]
    cases r with
    | nil =>
      have tail : SsW (DCx P w K mg base ["text_row", "words", "kind", "many"] "_law_read" (defScope s_Lread) f cdv A outer s H E) [] ((defBody s_Lread).drop 5) [.pd (.str (S l)), .pd (.list (wD [k, wd])), .pd (.str (S k)), .pd (.int ((2 : Nat) : Int))] { nx := fun _ => post .none, rt := fun d _ => post d } := by
        refine ssw_cons ?_
        walk_at "dl"
        refine sp_t (decide_eq_true rfl) ?_
        walk_at "dl"
        refine ⟨hkl, htwl, Nat.zero_le _, ?_⟩
        rw [htwi]
        walk_at "dl"
        by_cases htw : k ∈ TWOs
        · rw [if_pos htw] at q
          refine sp_t (decide_eq_true htw) ?_
          walk_at "dl"
          refine ⟨.str (S wd), h1, ?_⟩
          walk_at "dl"
          exact q
        · rw [if_neg htw] at q
          refine sp_f (decide_eq_false htw) ?_
          walk_at "dl"
          refine sp_t rfl ?_
          walk_at "dl"
          exact q
      by_cases hadd : k = lw "add"
      · refine sp_t (decide_eq_true hadd) ?_
        walk_at "dl"
        refine sp_f (decide_eq_false (by simp)) ?_
        first | exact ssw_nil tail | exact ⟨fun z => Bool.noConfusion z, fun _ => ssw_nil tail⟩
      · refine sp_f (decide_eq_false hadd) ?_
        first | exact ssw_nil tail | exact ⟨fun z => Bool.noConfusion z, fun _ => ssw_nil tail⟩
    | cons v r =>
      have hlv := hw v (List.mem_cons_of_mem _ (List.mem_cons_of_mem _ List.mem_cons_self))
      have h2 : atI (wD (k :: wd :: v :: r)) 2 = some (.str (S v)) := atI_nat (j := 2) rfl
      dsimp only at q
      by_cases hadd : k = lw "add"
      · rw [if_pos hadd] at q
        refine sp_t (decide_eq_true hadd) ?_
        walk_at "dl"
        refine sp_t (decide_eq_true (by simp; omega)) ?_
        walk_at "dl"
        refine ⟨.str (S wd), h1, ?_⟩
        walk_at "dl"
        refine ⟨.str (S wd), h1, ?_⟩
        walk_at "dl"
        rw [S_len]
        refine ⟨by omega, ?_⟩
        walk_at "dl"
        refine ⟨by rw [S_len]; omega, ?_⟩
        have e5 : l.drop (wd.length + 5) = joinL 32 (v :: r) := by
          rw [← hj, hadd, joinL_cons _ _ _ (List.cons_ne_nil _ _), joinL_cons _ _ _ (List.cons_ne_nil _ _)]
          rw [show lw "add" ++ 32 :: (wd ++ 32 :: joinL 32 (v :: r)) = (lw "add" ++ 32 :: (wd ++ [32])) ++ joinL 32 (v :: r) by simp]
          refine List.drop_left' ?_
          rw [show lw "add" = [97, 100, 100] by decide +kernel]
          simp
        rw [show (wd.length : Int) + 5 = ((wd.length + 5 : Nat) : Int) from rfl, S_cutD, e5]
        walk_at "dl"
        rw [S_lw "add"]
        exact q
      rw [if_neg hadd] at q
      refine sp_f (decide_eq_false hadd) ?_
      walk_at "dl"
      refine sp_f (decide_eq_false (by simp; omega)) ?_
      walk_at "dl"
      cases r with
      | cons u r =>
        rw [if_pos (List.cons_ne_nil _ _)] at q
        refine sp_t (by rw [decide_eq_false (by simp; omega)]; rfl) ?_
        walk_at "dl"
        exact q
      | nil =>
        rw [if_neg (fun z => z rfl)] at q
        have hvs : v.length ≤ 1000 ∧ ∀ c ∈ v, c < 128 := ⟨by omega, fun c m => hc c (hlv.2 c m)⟩
        have hvl := hlay v (List.mem_cons_of_mem _ (List.mem_cons_of_mem _ List.mem_cons_self))
        refine sp_f rfl ?_
        walk_at "dl"
        rw [eqL]
        by_cases htake : k = lw "take"
        · rw [if_pos htake] at q
          refine sp_t (decide_eq_true htake) ?_
          walk_at "dl"
          refine ⟨.str (S v), h2, ?_⟩
          walk_at "dl"
          refine ⟨v, rfl, hvs, ?_⟩
          by_cases hnum : NumL v
          · rw [if_pos hnum] at q
            rw [show numD v = .int (NumText.digitsVal v : Nat) from if_pos hnum]
            walk_at "dl"
            refine ⟨.str (S wd), h1, ?_⟩
            walk_at "dl"
            refine ⟨.str (S v), h2, ?_⟩
            walk_at "dl"
            refine ⟨v, rfl, hvs, ?_⟩
            rw [show numD v = .int (NumText.digitsVal v : Nat) from if_pos hnum]
            walk_at "dl"
            rw [S_lw "take"]
            exact q
          · rw [if_neg hnum] at q
            rw [show numD v = .none from if_neg hnum]
            walk_at "dl"
            exact q
        rw [if_neg htake] at q
        refine sp_f (decide_eq_false htake) ?_
        walk_at "dl"
        rw [eqL]
        by_cases hask : k = lw "ask"
        · rw [if_pos hask] at q
          refine sp_t (decide_eq_true hask) ?_
          walk_at "dl"
          refine ⟨.str (S v), h2, ?_⟩
          walk_at "dl"
          refine ⟨rfl, ?_⟩
          walk_at "dl"
          refine ⟨hvl, lay_lits ["text", "side", "moves", "turns", "sights", "good", "flat", "size", "paper"], Nat.zero_le _, ?_⟩
          rw [inD_lits]
          walk_at "dl"
          by_cases hv : v ∈ ASKs
          · rw [if_pos hv] at q
            refine sp_t (decide_eq_true hv) ?_
            walk_at "dl"
            refine ⟨.str (S wd), h1, ?_⟩
            walk_at "dl"
            refine ⟨.str (S v), h2, ?_⟩
            walk_at "dl"
            rw [S_lw "ask"]
            exact q
          · rw [if_neg hv] at q
            refine sp_f (decide_eq_false hv) ?_
            walk_at "dl"
            exact q
        rw [if_neg hask] at q
        refine sp_f (decide_eq_false hask) ?_
        walk_at "dl"
        refine ⟨hkl, hcpl, Nat.zero_le _, ?_⟩
        rw [hcpi]
        walk_at "dl"
        by_cases hcp : k ∈ CPs
        · rw [if_pos hcp] at q
          refine sp_t (decide_eq_true hcp) ?_
          walk_at "dl"
          refine ⟨.str (S v), h2, ?_⟩
          walk_at "dl"
          refine ⟨v, rfl, hvs, ?_⟩
          walk_at "dl"
          by_cases hv : SmallL v
          · rw [if_pos hv] at q
            refine sp_t (decide_eq_true hv) ?_
            walk_at "dl"
            refine ⟨.str (S wd), h1, ?_⟩
            walk_at "dl"
            refine ⟨.str (S v), h2, ?_⟩
            walk_at "dl"
            exact q
          · rw [if_neg hv] at q
            refine sp_f (decide_eq_false hv) ?_
            walk_at "dl"
            exact q
        · rw [if_neg hcp] at q
          refine sp_f (decide_eq_false hcp) ?_
          walk_at "dl"
          exact q
end
section
variable {P : Program} {w : World} {K : PySem.W.Frag} {mg : Str → Option Value} {base : Heap} {n : Nat}
def Part.tx : Part → List Nat
  | .t l => l
  | .n k => dig k
def Part.Ok : Part → Prop
  | .t l => l.length ≤ 100 ∧ ∀ c ∈ l, c < 128
  | .n k => k < 10000
def OrdOk (o : List Part) : Prop := (1 ≤ o.length ∧ o.length ≤ 3) ∧ ∀ p ∈ o, p.Ok
def lineO (o : List Part) : List Nat := joinL 32 (o.map Part.tx)
theorem Part.Ok.len {p : Part} (h : p.Ok) : p.tx.length ≤ 100 := by
  cases p with
  | t l => exact h.1
  | n k => exact Nat.le_trans (dig_le h) (by decide)
theorem sum_le {l : List (List Nat)} {b : Nat} (h : ∀ w ∈ l, w.length ≤ b) : (l.map (·.length)).sum ≤ b * l.length := by
  induction l with
  | nil => exact Nat.zero_le _
  | cons w l ih =>
    have := ih fun w m => h w (List.mem_cons_of_mem _ m)
    have := h w List.mem_cons_self
    simp only [List.map_cons, List.sum_cons, List.length_cons, Nat.mul_succ]
    omega
def w_write_order : GA := fun ds P => ∃ o : List Part, ds = [odata o] ∧ OrdOk o ∧ P (.str (S (lineO o)))
theorem ok_write_order {f : Addr} {fd : FuncData} (F : Fun K "write_order" "write_order" s_write_order f fd) (m_str : mg "str" = none) : FnG P w K mg base (n + 1) f fd ["order"] (SpP K w_write_order) := by
  refine fg_pure F sc_write_order (fun ds post ⟨l, e, _⟩ => by rw [e]; rfl) fun cdv A outer s H E ds post hr hgd ⟨o, e, ho, q⟩ => ?_
  subst e
  have nd := sc_write_order.nd
  refine ssw_cons ?_
  show SW _ _ _ [.pd (.tuple (o.map Part.data)), .un] _
  walk_at "dl"
  refine ⟨⟨_, rfl⟩, ?_⟩
  walk_at "dl"
  refine EN.ew (en_lcM [("part", 1)] rfl nd (blkOk_of sc_write_order rfl rfl (by decide +kernel)) ?_)
  walk_at "dl"
  refine ⟨noOw1 rfl, Part, o, Part.data, fun _ => true, fun p => .str (S p.tx), rfl, fun z hz => ?_, ?_⟩
  · walk_at "dl"
    refine ⟨rfl, rfl, fun _ => ?_⟩
    have hz := ho.2 z hz
    cases z with
    | t l =>
      dsimp only [Part.data]
      walk_at "dl"
      exact ⟨rfl, rfl⟩
    | n k =>
      dsimp only [Part.data]
      walk_at "dl"
      have hz : k < 10000 := hz
      refine ⟨log_ok (Nat.lt_trans hz (by decide)), ?_⟩
      rw [dig_str]
      exact ⟨rfl, rfl⟩
  have e1 : (o.filter fun _ => true).map (fun p => PyData.str (S p.tx)) = ((o.map Part.tx).map S).map PyData.str := by
    rw [filter_true, List.map_map, List.map_map]
    rfl
  have hs := sum_le (l := o.map Part.tx) (b := 100) (fun w m => by
    obtain ⟨p, hp, rfl⟩ := List.mem_map.mp m
    exact (ho.2 p hp).len)
  rw [List.length_map] at hs
  have ho3 := ho.1.2
  refine ⟨_, e1, ?_, ?_⟩
  · rw [sum_S, List.length_map, List.length_map, lSp, S_len]
    show _ + _ * 1 ≤ _
    omega
  rw [join32]
  exact q
def w_write_orders : GA := fun ds P => ∃ os : List (List Part), ds = [.list (os.map odata)] ∧ os.length ≤ 20 ∧ (∀ o ∈ os, OrdOk o) ∧ P (.str (S (joinL 10 (os.map lineO))))
theorem lineO_len {o : List Part} (h : OrdOk o) : (lineO o).length ≤ 400 := by
  have h1 := joinL_size 32 (o.map Part.tx)
  have h2 := sum_le (l := o.map Part.tx) (b := 100) (fun w m => by
    obtain ⟨p, hp, rfl⟩ := List.mem_map.mp m
    exact (h.2 p hp).len)
  rw [List.length_map] at h1 h2
  have := h.1.2
  unfold lineO
  omega
theorem join10 (ws : List (List Nat)) : Txt.join (Str.ofString "\n") (ws.map S) = S (joinL 10 ws) := by
  rw [lNl]
  exact (StrLaws.glued_eq_join _ _).trans (S_joinL 10 ws)
theorem ok_write_orders {f : Addr} {fd : FuncData} (F : Fun K "write_orders" "write_orders" s_write_orders f fd) (c_write_order : CalP P w K mg base n "write_order" w_write_order) : FnG P w K mg base (n + 1) f fd ["orders"] (SpP K w_write_orders) := by
  refine fg_pure F sc_write_orders (fun ds post ⟨l, e, _⟩ => by rw [e]; rfl) fun cdv A outer s H E ds post hr hgd ⟨os, e, hl, ho, q⟩ => ?_
  subst e
  have nd := sc_write_orders.nd
  refine ssw_cons ?_
  show SW _ _ _ [.pd (.list (os.map odata)), .un] _
  walk_at "dl"
  refine ⟨⟨_, rfl⟩, ?_⟩
  walk_at "dl"
  refine EN.ew (en_lcM [("order", 1)] rfl nd (blkOk_of sc_write_orders rfl rfl (by decide +kernel)) ?_)
  walk_at "dl"
  refine ⟨noOw1 rfl, List Part, os, odata, fun _ => true, fun o => .str (S (lineO o)), rfl, fun z hz => ?_, ?_⟩
  · walk_at "dl"
    refine ⟨rfl, rfl, fun _ => ?_⟩
    walk_at "dl"
    refine ⟨z, rfl, ho z hz, ?_⟩
    walk_at "dl"
    exact ⟨rfl, rfl⟩
  have e1 : (os.filter fun _ => true).map (fun o => PyData.str (S (lineO o))) = ((os.map lineO).map S).map PyData.str := by
    rw [filter_true, List.map_map, List.map_map]
    rfl
  have hs := sum_le (l := os.map lineO) (b := 400) (fun w m => by
    obtain ⟨p, hp, rfl⟩ := List.mem_map.mp m
    exact lineO_len (ho p hp))
  rw [List.length_map] at hs
  refine ⟨_, e1, ?_, ?_⟩
  · rw [sum_S, List.length_map, List.length_map, lNl, S_len]
    show _ + _ * 1 ≤ _
    omega
  rw [join10]
  exact q
end
section
variable {P : Program} {w : World} {K : PySem.W.Frag} {mg : Str → Option Value} {base : Heap} {n : Nat}
theorem enumD_get {xs : List PyData} {i : Nat} {x : PyData} (h : (enumD xs)[i]? = some x) : ∃ y, xs[i]? = some y ∧ x = .tuple [.int (i : Nat), y] := by
  unfold enumD at h
  rw [List.getElem?_map] at h
  cases e : (List.range xs.length)[i]? with
  | none =>
    rw [e] at h
    cases h
  | some j =>
    rw [e] at h
    obtain ⟨hl, hj⟩ := List.getElem?_eq_some_iff.mp e
    rw [List.getElem_range] at hj
    subst hj
    rw [List.length_range] at hl
    cases h
    exact ⟨xs[i], List.getElem?_eq_getElem hl, by show PyData.tuple [.int (i : Nat), xs.getD i .none] = _; rw [List.getD_eq_getElem?_getD, List.getElem?_eq_getElem hl]; rfl⟩
theorem enumD_len (xs : List PyData) : (enumD xs).length = xs.length := by simp [enumD]
def w_read_orders (C : Addr) : GX := fun ds R XR => ∃ l : List Nat, ds = [.str (S l)] ∧ (l.length ≤ 9000 ∧ (∀ c ∈ l, c < 128) ∧ ∀ v ∈ splitL 10 l, v.length ≤ 900) ∧ (l = [] → R (.list [])) ∧ (l ≠ [] → (∀ v ∈ splitL 10 l, readO v ≠ none) → R (.list ((splitL 10 l).map fun v => optO (readO v)))) ∧
  (l ≠ [] → ∀ i v, (splitL 10 l)[i]? = some v → readO v = none → (∀ u ∈ (splitL 10 l).take i, readO u ≠ none) → XR C [("line", .int ((i + 1 : Nat) : Int))])
theorem ok_read_orders {f : Addr} {fd : FuncData} (F : Fun K "read_orders" "read_orders" s_read_orders f fd) (m_enumerate : mg "enumerate" = none) {C_BadOrder : Addr} (k_BadOrder : ClsX P w K mg base n "BadOrder" C_BadOrder "line" okLine) (c_read_order : CalP P w K mg base n "read_order" w_read_order) : FnX P w K mg base (n + 1) f fd ["text"] (SpX K (w_read_orders C_BadOrder)) := by
  refine fg_raise F sc_read_orders (fun ds R XR ⟨l, e, _⟩ => by rw [e]; rfl) fun cdv A outer s H E ds post XR hr hgd ⟨l, e, ⟨hl, hc, hv⟩, q0, q1, q2⟩ tk hp => ?_
  subst e
  have nd := sc_read_orders.nd
  have hu := hu_room hr
  have o1 : Ow 1 := trivial
  have hmem := splitL_mem 10 l
  have hcnt := splitL_count 10 l
  refine ssx_cons (SX.of ?_)
  show SW _ _ _ [.pd (.str (S l)), .un, .un, .un, .un] _
  walk_at "dl"
  show SsX _ _ _ _ [.pd (.str (S l)), .ow (.lst []), .un, .un, .un] _ _
  refine ssx_cons (sx_if ?_)
  walk_at "dl"
  rw [l0, S_dec]
  refine ⟨fun h => ?_, fun h => ?_⟩
  · refine SsX.of (freeze 1 rfl ?_)
    walk_at "dl"
    exact q0 (of_decide_eq_true h)
  have hne : l ≠ [] := of_decide_eq_false h
  refine SsX.of (ssw_nil ?_)
  show SsX _ _ _ _ [.pd (.str (S l)), .ow (.lst []), .un, .un, .un] _ _
  refine ssx_cons (sx_for (ts := [2, 3]) hp rfl (by decide) ?_)
  walk_at "dl"
  refine ⟨⟨_, rfl⟩, ?_⟩
  walk_at "dl"
  refine ⟨rfl, by rw [S_len]; omega, ?_⟩
  rw [lNl, split_S, List.map_map, show (PyData.str ∘ S) = fun v => PyData.str (S v) from rfl]
  generalize splitL 10 l = ls at *
  walk_at "dl"
  refine ⟨_, rfl, by rw [List.length_map]; omega, ?_⟩
  refine ⟨fun i ρ => ∃ a b c, (∀ u ∈ ls.take i, readO u ≠ none) ∧ ρ = [.pd (.str (S l)), .ow (.lst ((ls.take i).map fun v => optO (readO v))), a, b, c], ⟨_, _, _, by simp, rfl⟩, ?_, ?_⟩
  · rintro i x ρ hx ⟨a, b, c, hg, rfl⟩
    obtain ⟨y, hy, rfl⟩ := enumD_get hx
    rw [List.getElem?_map] at hy
    cases hlv : ls[i]? with
    | none =>
      rw [hlv] at hy
      cases hy
    | some v =>
      rw [hlv] at hy
      cases hy
      have hvm := List.mem_of_getElem? hlv
      have hi := (List.getElem?_eq_some_iff.mp hlv).1
      have etk : ls.take (i + 1) = ls.take i ++ [v] := by rw [List.take_add_one, hlv]; rfl
      refine gw_tup2 2 3 (pg_name (i := 2) nd rfl (.inl rfl)) (pg_name (i := 3) nd rfl (.inl rfl)) rfl (by decide) (by decide) ?_
      refine ssx_cons (SX.of ?_)
      show SW _ _ _ [.pd (.str (S l)), .ow (.lst ((ls.take i).map fun v => optO (readO v))), .pd (.int (i : Nat)), .pd (.str (S v)), c] _
      walk_at "dl"
      refine ⟨v, rfl, ⟨hv v hvm, fun c m => hc c ((hmem v hvm).2 c m)⟩, ?_⟩
      show SsX _ _ _ _ [.pd (.str (S l)), .ow (.lst ((ls.take i).map fun v => optO (readO v))), .pd (.int (i : Nat)), .pd (.str (S v)), .pd (optO (readO v))] _ _
      refine ssx_cons (sx_if ?_)
      cases hro : readO v with
      | none =>
        rw [show optO none = .none from rfl]
        walk_at "dl"
        refine ssx_cons (sx_raiseC k_BadOrder hr rfl rfl tk ?_)
        walk_at "dl"
        exact ⟨⟨i + 1, rfl, by omega⟩, q2 hne i v hlv hro hg⟩
      | some o =>
        rw [show optO (some o) = .tuple (o.map Part.data) from rfl]
        walk_at "dl"
        refine SsX.of (ssw_nil ?_)
        show SsX _ _ _ _ [.pd (.str (S l)), .ow (.lst ((ls.take i).map fun v => optO (readO v))), .pd (.int (i : Nat)), .pd (.str (S v)), .pd (.tuple (o.map Part.data))] _ _
        refine SsX.of ?_
        walk_at "dl"
        refine ⟨_, rfl, by rw [List.length_map, List.length_take]; omega, ?_⟩
        walk_at "dl"
        rw [etk, List.map_append, List.map_singleton, hro]
        refine ⟨_, _, _, fun u m => ?_, rfl⟩
        rcases List.mem_append.mp m with m | m
        · exact hg u m
        · rw [List.mem_singleton.mp m, hro]
          exact fun z => by cases z
  · rintro ρ ⟨a, b, c, hg, rfl⟩
    rw [enumD_len, List.length_map] at hg ⊢
    rw [List.take_length] at hg ⊢
    refine SsX.of (freeze 1 rfl ?_)
    walk_at "dl"
    exact q1 hne hg
end
section
variable {P : Program} {w : World} {K : PySem.W.Frag} {mg : Str → Option Value} {base : Heap} {n : Nat}
def w_Lword : GAB := fun bs ds P => ds = [] ∧ BoxOk bs ∧ ∀ l bs', SmallL l → BoxOk bs' → P (.str (S l)) bs'
theorem ok_Lword {f : Addr} {fd : FuncData} (F : Fun K "_law_word" "_law_word" s_Lword f fd) (m_range : mg "range" = none) (c_Lpick : CalB P w K mg base n "_law_pick" w_Lpick) : FnG P w K mg base (n + 1) f fd ["box"] (SpB K w_Lword) := by
  refine fg_box F sc_Lword (fun bs ds post ⟨e, _⟩ => by rw [e]; rfl) fun cdv A outer s H E bs ds post hr hgd ⟨e, hb, q⟩ => ?_
  subst e
  have nd := sc_Lword.nd
  refine ssw_cons ?_
  show SW _ _ _ [.ow (.lst bs), .un] _
  walk_at "dl"
  refine ⟨⟨_, rfl⟩, ?_⟩
  walk_at "dl"
  refine EN.ew (en_lc (own := [("k", 1)]) rfl nd (blkOk_of sc_Lword rfl rfl (by decide +kernel)) ?_)
  walk_at "dl"
  refine ⟨_, rfl, _, rfl, hb, .inr ⟨_, rfl, ⟨by decide, by decide⟩, fun x bs hx hb => ?_⟩⟩
  have hx : ∃ n : Nat, x = .int (n : Int) ∧ 1 ≤ n ∧ n ≤ 8 := by
    simp only [List.mem_cons, List.not_mem_nil, or_false] at hx
    rcases hx with rfl | rfl | rfl | rfl | rfl
    · exact ⟨1, rfl, by decide, by decide⟩
    · exact ⟨2, rfl, by decide, by decide⟩
    · exact ⟨3, rfl, by decide, by decide⟩
    · exact ⟨5, rfl, by decide, by decide⟩
    · exact ⟨8, rfl, by decide, by decide⟩
  obtain ⟨n, rfl, hn1, hn⟩ := hx
  show AW _ [] _ _
  walk_at "dl"
  refine ⟨(n : Int), rfl, by omega, noOw1 rfl, ?_⟩
  rw [show ((n : Int)).toNat = n by omega]
  refine rgL (fun k acc ρ => ∃ bs x, (BoxOk bs ∧ x.length = k ∧ ∀ c ∈ x, 97 ≤ c ∧ c ≤ 122) ∧ acc = (x.map fun c => PyData.str (S [c])) ∧ ρ = [.ow (.lst bs), .un]) ⟨bs, [], ⟨hb, rfl, by simp⟩, rfl, rfl⟩ ?_ ?_
  · rintro k acc ρ hk ⟨bs, x, ⟨hb, hxl, hxc⟩, rfl, rfl⟩
    walk_at "dl"
    refine ⟨_, rfl, _, rfl, hb, .inl ⟨_, congrArg PyData.str lAbc, ⟨by decide, by decide⟩, fun c bs hc hb => ?_⟩⟩
    have hc : 97 ≤ c ∧ c ≤ 122 := of_decide_eq_true ((abc_in c).symm.trans (decide_eq_true hc))
    refine ⟨bs, x ++ [c], ⟨hb, by rw [List.length_append, List.length_singleton]; omega, fun d m => ?_⟩, by simp, rfl⟩
    rcases List.mem_append.mp m with m | m
    · exact hxc d m
    · rw [List.mem_singleton.mp m]
      exact hc
  · rintro acc ρ ⟨bs, x, ⟨hb, hxl, hxc⟩, rfl, rfl⟩
    refine ⟨x.map fun c => S [c], ?_, ?_, ?_⟩
    · rw [List.map_map]
      rfl
    · have e : ∀ x : List Nat, ((x.map fun c => S [c]).map fun s => s.length).sum = x.length := fun x => by
        induction x with
        | nil => rfl
        | cons c x ih =>
          rw [List.map_cons, List.map_cons, List.sum_cons, ih, S_len, List.length_cons, List.length_nil, List.length_cons]
          omega
      rw [e, l0, S_len]
      simp
      omega
    rw [join1]
    exact ⟨bs, rfl, q x bs ⟨by omega, hxc⟩ hb⟩
/-- a word without blanks and newlines -/
def Wd (w : List Nat) : Prop := w.length ≤ 100 ∧ ∀ c ∈ w, c < 128 ∧ c ≠ 32 ∧ c ≠ 10
instance (w : List Nat) : Decidable (Wd w) := by unfold Wd; exact inferInstance
theorem SmallL.wd {w : List Nat} (h : SmallL w) : Wd w := ⟨by have := h.1.2; omega, fun c m => by have := h.2 c m; omega⟩
theorem wd_dig {n : Nat} (h : n < 10000) : Wd (dig n) := ⟨Nat.le_trans (dig_le h) (by decide), fun c m => by have := dig_fig n c m; omega⟩
theorem joinL_in (c : Nat) : ∀ ws : List (List Nat), ∀ a ∈ joinL c ws, a = c ∨ ∃ w ∈ ws, a ∈ w
  | [], a, m => by cases m
  | [w], a, m => .inr ⟨w, List.mem_cons_self, m⟩
  | w :: v :: r, a, m => by
    rcases List.mem_append.mp (show a ∈ w ++ c :: joinL c (v :: r) from m) with m | m
    · exact .inr ⟨w, List.mem_cons_self, m⟩
    · rcases List.mem_cons.mp m with m | m
      · exact .inl m
      · rcases joinL_in c (v :: r) a m with h | ⟨x, hx, h⟩
        · exact .inl h
        · exact .inr ⟨x, List.mem_cons_of_mem _ hx, h⟩
/-- a line -/
def LnOk (b : Nat) (l : List Nat) : Prop := l.length ≤ b ∧ (∀ c ∈ l, c < 128) ∧ 10 ∉ l
def OrdGood (o : List Part) : Prop := OrdOk o ∧ readO (lineO o) = some o ∧ LnOk 400 (lineO o)
theorem line_ok {o : List Part} (h : OrdOk o) (hw : ∀ p ∈ o, ∀ c ∈ p.tx, c < 128 ∧ c ≠ 10) : LnOk 400 (lineO o) := by
  refine ⟨lineO_len h, fun c m => ?_, fun m => ?_⟩
  · rcases joinL_in 32 _ c m with z | ⟨w, hm, z⟩
    · omega
    · obtain ⟨p, hp, rfl⟩ := List.mem_map.mp hm
      exact (hw p hp c z).1
  · rcases joinL_in 32 _ 10 m with z | ⟨w, hm, z⟩
    · omega
    · obtain ⟨p, hp, rfl⟩ := List.mem_map.mp hm
      exact (hw p hp 10 z).2 rfl
/-- an order of words alone -/
theorem good_wd {o : List Part} (hl : 1 ≤ o.length ∧ o.length ≤ 3) (hok : ∀ p ∈ o, p.Ok) (hw : ∀ p ∈ o, Wd p.tx) (hr : readW (o.map Part.tx) = some o) : OrdGood o := by
  refine ⟨⟨hl, hok⟩, ?_, line_ok ⟨hl, hok⟩ fun p hp c m => ⟨((hw p hp).2 c m).1, ((hw p hp).2 c m).2.2⟩⟩
  unfold readO lineO
  rw [split_joinL]
  · exact hr
  · intro z
    have := congrArg List.length z
    rw [List.length_map] at this
    simp at this
    rw [this] at hl
    simp at hl
  · intro w m z
    obtain ⟨p, hp, rfl⟩ := List.mem_map.mp m
    exact ((hw p hp).2 32 z).2.1 rfl
theorem Wd.ok {w : List Nat} (h : Wd w) : (Part.t w).Ok := ⟨h.1, fun c m => (h.2 c m).1⟩
theorem bare_wd : ∀ k ∈ BAREs, Wd k := by decide +kernel
theorem two_wd : ∀ k ∈ TWOs, Wd k ∧ k ≠ lw "add" := by decide +kernel
theorem cp_wd : ∀ k ∈ CPs, Wd k ∧ k ≠ lw "add" ∧ k ≠ lw "take" ∧ k ≠ lw "ask" := by decide +kernel
theorem ask_wd : ∀ k ∈ ASKs, Wd k := by decide +kernel
theorem good1 {k : List Nat} (h : k ∈ BAREs) : OrdGood [.t k] := by
  have hw := bare_wd k h
  refine good_wd ⟨Nat.le_of_ble_eq_true rfl, Nat.le_of_ble_eq_true rfl⟩ (fun p m => by rw [List.mem_singleton.mp m]; exact hw.ok) (fun p m => by rw [List.mem_singleton.mp m]; exact hw) ?_
  show readW [k] = _
  rw [readW, if_pos h]
theorem good2 {k w : List Nat} (h : k ∈ TWOs) (hs : SmallL w) : OrdGood [.t k, .t w] := by
  have hw := (two_wd k h).1
  refine good_wd ⟨Nat.le_of_ble_eq_true rfl, Nat.le_of_ble_eq_true rfl⟩ (fun p m => ?_) (fun p m => ?_) ?_
  · rcases List.mem_cons.mp m with m | m
    · rw [m]
      exact hw.ok
    · rw [List.mem_singleton.mp m]
      exact hs.wd.ok
  · rcases List.mem_cons.mp m with m | m
    · rw [m]
      exact hw
    · rw [List.mem_singleton.mp m]
      exact hs.wd
  show readW [k, w] = _
  rw [readW.eq_def]
  dsimp only
  rw [if_neg (fun z => z hs), if_pos h]
theorem good3 {a b : List Nat} {p : Part} (ha : Wd a) (hs : SmallL b) (hp : Wd p.tx) (hok : p.Ok) (hr : readW [a, b, p.tx] = some [.t a, .t b, p]) : OrdGood [.t a, .t b, p] := by
  refine good_wd ⟨Nat.le_of_ble_eq_true rfl, Nat.le_of_ble_eq_true rfl⟩ (fun x m => ?_) (fun x m => ?_) hr
  · rcases List.mem_cons.mp m with m | m
    · rw [m]
      exact ha.ok
    · rcases List.mem_cons.mp m with m | m
      · rw [m]
        exact hs.wd.ok
      · rw [List.mem_singleton.mp m]
        exact hok
  · rcases List.mem_cons.mp m with m | m
    · rw [m]
      exact ha
    · rcases List.mem_cons.mp m with m | m
      · rw [m]
        exact hs.wd
      · rw [List.mem_singleton.mp m]
        exact hp
theorem readW3 {k w v : List Nat} (hs : SmallL w) (h : k ≠ lw "add") : readW [k, w, v] = if k = lw "take" then (if NumL v then some [.t (lw "take"), .t w, .n (NumText.digitsVal v)] else none)
      else if k = lw "ask" then (if v ∈ ASKs then some [.t (lw "ask"), .t w, .t v] else none)
      else if k ∈ CPs then (if SmallL v then some [.t k, .t w, .t v] else none) else none := by
  rw [readW.eq_def]
  dsimp only
  rw [if_neg (fun z => z hs), if_neg h, if_neg (fun z => z rfl)]
theorem take_ok : ∀ n ∈ [0, 1, 10, 9999, 305], NumL (dig n) ∧ NumText.digitsVal (dig n) = n ∧ n < 10000 := by decide +kernel
theorem good_take {w : List Nat} {n : Nat} (hs : SmallL w) (hn : n ∈ [0, 1, 10, 9999, 305]) : OrdGood [.t (lw "take"), .t w, .n n] := by
  obtain ⟨h1, h2, h3⟩ := take_ok n hn
  refine good3 (by decide +kernel) hs (wd_dig h3) h3 ?_
  show readW [lw "take", w, dig n] = _
  rw [readW3 hs (by decide +kernel), if_pos rfl, if_pos h1, h2]
theorem good_ask {w v : List Nat} (hs : SmallL w) (hv : v ∈ ASKs) : OrdGood [.t (lw "ask"), .t w, .t v] := by
  refine good3 (by decide +kernel) hs (ask_wd v hv) (ask_wd v hv).ok ?_
  show readW [lw "ask", w, v] = _
  rw [readW3 hs (by decide +kernel), if_neg (by decide +kernel), if_pos rfl, if_pos hv]
theorem good_cp {k w v : List Nat} (hk : k ∈ CPs) (hs : SmallL w) (hv : SmallL v) : OrdGood [.t k, .t w, .t v] := by
  obtain ⟨h1, h2, h3, h4⟩ := cp_wd k hk
  refine good3 h1 hs hv.wd hv.wd.ok ?_
  show readW [k, w, v] = _
  rw [readW3 hs h2, if_neg h3, if_neg h4, if_pos hk, if_pos hv]
theorem good_add {w v : List Nat} (hs : SmallL w) (hv : v.length ≤ 100 ∧ (∀ c ∈ v, c < 128 ∧ c ≠ 10)) : OrdGood [.t (lw "add"), .t w, .t v] := by
  have ha : Wd (lw "add") := by decide +kernel
  have hok : OrdOk [.t (lw "add"), .t w, .t v] := by
    refine ⟨⟨Nat.le_of_ble_eq_true rfl, Nat.le_of_ble_eq_true rfl⟩, fun x m => ?_⟩
    rcases List.mem_cons.mp m with m | m
    · rw [m]
      exact ha.ok
    · rcases List.mem_cons.mp m with m | m
      · rw [m]
        exact hs.wd.ok
      · rw [List.mem_singleton.mp m]
        exact ⟨hv.1, fun c m => (hv.2 c m).1⟩
  refine ⟨hok, ?_, line_ok hok fun x m => ?_⟩
  · unfold readO lineO
    rw [show joinL 32 ([Part.t (lw "add"), .t w, .t v].map Part.tx) = lw "add" ++ 32 :: (w ++ 32 :: v) from rfl, splitL_app (fun m => (ha.2 32 m).2.1 rfl), splitL_app (fun m => (hs.wd.2 32 m).2.1 rfl)]
    obtain ⟨x, r, e⟩ := splitL_cons 32 v
    have hj := join_splitL 32 v
    rw [e] at hj ⊢
    rw [readW.eq_def]
    dsimp only
    rw [if_neg (fun z => z hs), if_pos rfl, hj]
  · rcases List.mem_cons.mp m with m | m
    · rw [m]
      exact fun c m => ⟨(ha.2 c m).1, (ha.2 c m).2.2⟩
    · rcases List.mem_cons.mp m with m | m
      · rw [m]
        exact fun c m => ⟨(hs.wd.2 c m).1, (hs.wd.2 c m).2.2⟩
      · rw [List.mem_singleton.mp m]
        exact hv.2
end
section
variable {P : Program} {w : World} {K : PySem.W.Frag} {mg : Str → Option Value} {base : Heap} {n : Nat}
/-- one of some written words -/
theorem pick_lw {ss : List String} {bs : List PyData} {P : PyData → List PyData → Prop} (hb : BoxOk bs) (hl : 0 < ss.length ∧ ss.length ≤ 1000) (q : ∀ t bs', t ∈ ss.map lw → BoxOk bs' → P (.str (S t)) bs') : w_Lpick bs [.list (ss.map fun s => PyData.str (Str.ofString s))] P :=
  ⟨_, rfl, hb, .inr ⟨_, rfl, by rw [List.length_map]; exact hl, fun x bs' m hb' => by
    obtain ⟨s, hs, rfl⟩ := List.mem_map.mp m
    have := q (lw s) bs' (List.mem_map.mpr ⟨s, hs, rfl⟩) hb'
    rw [← S_lw] at this
    exact this⟩⟩
theorem add_ok : ∀ v ∈ ["all a.", "need a -> b.", " all a.", "some b. ", "", " ", "need  a. ask c", "some x sees y z."].map lw, v.length ≤ 100 ∧ (∀ c ∈ v, c < 128 ∧ c ≠ 10) := by decide +kernel
def w_Lorder : GAB := fun bs ds P => ds = [] ∧ BoxOk bs ∧ ∀ o bs', OrdGood o → BoxOk bs' → P (odata o) bs'
theorem ok_Lorder {f : Addr} {fd : FuncData} (F : Fun K "_law_order" "_law_order" s_Lorder f fd) (c_Lword : CalB P w K mg base n "_law_word" w_Lword) (c_Ldraw : CalB P w K mg base n "_law_draw" w_Ldraw) (c_Lpick : CalB P w K mg base n "_law_pick" w_Lpick) (c_Lasked : CalP P w K mg base n "_law_asked" w_Lasked) : FnG P w K mg base (n + 1) f fd ["box"] (SpB K w_Lorder) := by
  refine fg_box F sc_Lorder (fun bs ds post ⟨e, _⟩ => by rw [e]; rfl) fun cdv A outer s H E bs ds post hr hgd ⟨e, hb, q⟩ => ?_
  subst e
  have nd := sc_Lorder.nd
  have hu := hu_room hr
  refine ssw_cons ?_
  show SW _ _ _ [.ow (.lst bs), .un, .un] _
  walk_at "dl"
  refine ⟨_, rfl, rfl, hb, fun one bs hone hb => ?_⟩
  walk_at "dl"
  refine ⟨_, rfl, _, rfl, by decide, hb, fun r bs hr2 hb => ?_⟩
  walk_at "dl"
  refine ⟨fun h => ?_, fun h => ?_⟩
  · walk_at "dl"
    refine ⟨_, rfl, pick_lw (ss := ["books", "begin", "end", "drop"]) hb ⟨by decide, by decide⟩ fun t bs ht hb => ?_⟩
    walk_at "dl"
    exact ⟨_, rfl, q [.t t] _ (good1 ht) hb⟩
  walk_at "dl"
  refine ⟨fun h => ?_, fun h => ?_⟩
  · walk_at "dl"
    refine ⟨_, rfl, pick_lw (ss := ["book", "forget", "undo"]) hb ⟨by decide, by decide⟩ fun t bs ht hb => ?_⟩
    walk_at "dl"
    exact ⟨_, rfl, q [.t t, .t one] _ (good2 ht hone) hb⟩
  walk_at "dl"
  refine ⟨fun h => ?_, fun h => ?_⟩
  · walk_at "dl"
    refine ⟨_, rfl, _, rfl, hb, .inr ⟨_, rfl, ⟨by decide, by decide⟩, fun x bs hx hb => ?_⟩⟩
    have hx : ∃ n : Nat, x = .int (n : Int) ∧ n ∈ [0, 1, 10, 9999, 305] := by
      simp only [List.mem_cons, List.not_mem_nil, or_false] at hx
      rcases hx with rfl | rfl | rfl | rfl | rfl
      · exact ⟨0, rfl, by decide⟩
      · exact ⟨1, rfl, by decide⟩
      · exact ⟨10, rfl, by decide⟩
      · exact ⟨9999, rfl, by decide⟩
      · exact ⟨305, rfl, by decide⟩
    obtain ⟨nn, rfl, hnn⟩ := hx
    show AW _ [] _ _
    walk_at "dl"
    rw [S_lw "take"]
    exact ⟨_, rfl, q [.t (lw "take"), .t one, .n nn] _ (good_take hone hnn) hb⟩
  walk_at "dl"
  refine ⟨fun h => ?_, fun h => ?_⟩
  · walk_at "dl"
    refine ⟨rfl, ?_⟩
    walk_at "dl"
    refine ⟨_, rfl, pick_lw hb ⟨by decide, by decide⟩ fun t bs ht hb => ?_⟩
    walk_at "dl"
    rw [S_lw "ask"]
    exact ⟨_, rfl, q [.t (lw "ask"), .t one, .t t] _ (good_ask hone ht) hb⟩
  walk_at "dl"
  refine ⟨fun h => ?_, fun h => ?_⟩
  · walk_at "dl"
    refine ⟨_, rfl, pick_lw (ss := ["copy", "alike"]) hb ⟨by decide, by decide⟩ fun t bs ht hb => ?_⟩
    walk_at "dl"
    refine ⟨_, rfl, rfl, hb, fun two bs htwo hb => ?_⟩
    walk_at "dl"
    exact ⟨_, rfl, q [.t t, .t one, .t two] _ (good_cp ht hone htwo) hb⟩
  walk_at "dl"
  refine ⟨_, rfl, pick_lw (ss := ["all a.", "need a -> b.", " all a.", "some b. ", "", " ", "need  a. ask c", "some x sees y z."]) hb ⟨by decide, by decide⟩ fun t bs ht hb => ?_⟩
  walk_at "dl"
  rw [S_lw "add"]
  exact ⟨_, rfl, q [.t (lw "add"), .t one, .t t] _ (good_add hone (add_ok t ht)) hb⟩
end
section
variable {P : Program} {w : World} {K : PySem.W.Frag} {mg : Str → Option Value} {base : Heap} {n : Nat}
def mS (ws : List (List Nat)) : Nat := (ws.map (·.length)).sum + ws.length
theorem mS_app (a b : List (List Nat)) : mS (a ++ b) = mS a + mS b := by
  unfold mS
  rw [List.map_append, List.sum_append, List.length_append]
  omega
theorem mS_cut (ws : List (List Nat)) (n : Nat) : mS (ws.take n) + mS (ws.drop n) = mS ws := by
  rw [← mS_app, List.take_append_drop]
theorem mS_drop (ws : List (List Nat)) (n : Nat) : mS (ws.drop (n + 1)) ≤ mS (ws.drop n) := by
  have h := mS_cut (ws.drop n) 1
  rw [List.drop_drop] at h
  omega
theorem mS_one (w : List Nat) : mS [w] = w.length + 1 := by simp [mS]
theorem cutD_T {α : Type} (xs : List α) (n : Nat) : DL.cutD xs none (some (n : Int)) = xs.take n := by
  unfold DL.cutD
  rw [HT.sIx_none, HT.sIx_nat, List.drop_zero, Nat.sub_zero]
  by_cases h : n ≤ xs.length
  · rw [Nat.min_eq_left h]
  · rw [Nat.min_eq_right (by omega), List.take_length, List.take_of_length_le (by omega)]
theorem cutD_D {α : Type} (xs : List α) (n : Nat) : DL.cutD xs (some (n : Int)) none = xs.drop n := by
  unfold DL.cutD
  rw [HT.sIx_none, HT.sIx_nat]
  by_cases h : n ≤ xs.length
  · rw [Nat.min_eq_left h, List.take_of_length_le (by rw [List.length_drop]; omega)]
  · rw [Nat.min_eq_right (by omega), List.drop_length, List.drop_of_length_le (by omega), List.take_nil]
def Cln (ws : List (List Nat)) : Prop := mS ws ≤ 900 ∧ ∀ w ∈ ws, ∀ c ∈ w, c < 128 ∧ c ≠ 10
theorem wD_app (a b : List (List Nat)) : wD a ++ wD b = wD (a ++ b) := (List.map_append ..).symm
theorem wD_take (a : List (List Nat)) (n : Nat) : (wD a).take n = wD (a.take n) := (List.map_take ..).symm
theorem wD_drop (a : List (List Nat)) (n : Nat) : (wD a).drop n = wD (a.drop n) := (List.map_drop ..).symm
theorem wD_set (a : List (List Nat)) (n : Nat) (t : List Nat) : (wD a).set n (.str (S t)) = wD (a.set n t) := (List.map_set ..).symm
theorem mS_set (ws : List (List Nat)) (n : Nat) (t : List Nat) : mS (ws.set n t) ≤ mS ws + t.length + 1 := by
  rw [List.set_eq_take_append_cons_drop]
  split
  · rw [show t :: ws.drop (n + 1) = [t] ++ ws.drop (n + 1) from rfl, mS_app, mS_app, mS_one]
    have := mS_cut ws n
    have := mS_drop ws n
    omega
  · omega
theorem lit_cl : ∀ t ∈ ["9999", "10000", "0", "01", "-1", "00", "1x", "ask", "add", "take", "tell", "copy", "alike", "book", "books", "side", "text", "begin", "abcdefgh", "abcdefghi", "aB", "a1", "z", "7", "1", "x", "", "3"].map lw, t.length ≤ 10 ∧ ∀ c ∈ t, c < 128 ∧ c ≠ 10 := by decide +kernel
theorem addw_pre {t : List Nat} {s : Str} {Q : PyData → Prop} (hs : s.length ≤ 10) (ht : t.length ≤ 1000) (h : Q (.str (s ++ S t))) : AddW (.str s) (.str (S t)) Q := ⟨by rw [S_len t]; omega, h⟩
theorem len_post {t : List Nat} {s : Str} (hs : s.length ≤ 10) (ht : t.length ≤ 1000) : (S t).length + s.length ≤ 16777216 := by rw [S_len t]; omega
theorem bent_tx {wa : List Nat} {x : PyData} (hl : wa.length ≤ 400) (hc : ∀ c ∈ wa, c < 128 ∧ c ≠ 10) (h : x ∈ [PyData.str (Str.ofString ""), .str (Str.ofString "0" ++ S wa), .str (Str.ofString "-" ++ S wa), .str (S wa ++ Str.ofString "0"), .str (S wa ++ Str.ofString "\t")]) :
    ∃ t, x = .str (S t) ∧ t.length ≤ 410 ∧ ∀ c ∈ t, c < 128 ∧ c ≠ 10 := by
  simp only [List.mem_cons, List.not_mem_nil, or_false] at h
  have one : ∀ a : Nat, (a < 128 ∧ a ≠ 10) → ([a] ++ wa).length ≤ 410 ∧ ∀ c ∈ [a] ++ wa, c < 128 ∧ c ≠ 10 := fun a ha => ⟨by rw [List.length_append, List.length_singleton]; omega, fun c m => by
    rcases List.mem_append.mp m with m | m
    · exact List.mem_singleton.mp m ▸ ha
    · exact hc c m⟩
  have two : ∀ a : Nat, (a < 128 ∧ a ≠ 10) → (wa ++ [a]).length ≤ 410 ∧ ∀ c ∈ wa ++ [a], c < 128 ∧ c ≠ 10 := fun a ha => ⟨by rw [List.length_append, List.length_singleton]; omega, fun c m => by
    rcases List.mem_append.mp m with m | m
    · exact hc c m
    · exact List.mem_singleton.mp m ▸ ha⟩
  rcases h with rfl | rfl | rfl | rfl | rfl
  · exact ⟨[], rfl, by decide, by decide⟩
  · exact ⟨[48] ++ wa, by rw [← S_app]; rfl, one 48 ⟨by decide, by decide⟩⟩
  · exact ⟨[45] ++ wa, by rw [← S_app]; rfl, one 45 ⟨by decide, by decide⟩⟩
  · exact ⟨wa ++ [48], by rw [← S_app]; rfl, two 48 ⟨by decide, by decide⟩⟩
  · exact ⟨wa ++ [9], by rw [← S_app]; rfl, two 9 ⟨by decide, by decide⟩⟩
theorem in3 : ∀ t ∈ ["9999", "10000", "0", "01", "-1", "00", "1x"].map lw, t ∈ ["9999", "10000", "0", "01", "-1", "00", "1x", "ask", "add", "take", "tell", "copy", "alike", "book", "books", "side", "text", "begin", "abcdefgh", "abcdefghi", "aB", "a1", "z", "7", "1", "x", "", "3"].map lw := by decide +kernel
theorem in4 : ∀ t ∈ ["ask", "add", "take", "tell", "copy", "alike", "book", "books", "side", "text", "begin"].map lw, t ∈ ["9999", "10000", "0", "01", "-1", "00", "1x", "ask", "add", "take", "tell", "copy", "alike", "book", "books", "side", "text", "begin", "abcdefgh", "abcdefghi", "aB", "a1", "z", "7", "1", "x", "", "3"].map lw := by decide +kernel
theorem in5 : ∀ t ∈ ["abcdefgh", "abcdefghi", "aB", "a1", "z", "7"].map lw, t ∈ ["9999", "10000", "0", "01", "-1", "00", "1x", "ask", "add", "take", "tell", "copy", "alike", "book", "books", "side", "text", "begin", "abcdefgh", "abcdefghi", "aB", "a1", "z", "7", "1", "x", "", "3"].map lw := by decide +kernel
theorem in7 : ∀ t ∈ ["1", "x", "", "3"].map lw, t ∈ ["9999", "10000", "0", "01", "-1", "00", "1x", "ask", "add", "take", "tell", "copy", "alike", "book", "books", "side", "text", "begin", "abcdefgh", "abcdefghi", "aB", "a1", "z", "7", "1", "x", "", "3"].map lw := by decide +kernel
def w_Lbent : GAB := fun bs ds P => ∃ l : List Nat, ds = [.str (S l)] ∧ LnOk 400 l ∧ BoxOk bs ∧ ∀ r bs', LnOk 900 r → BoxOk bs' → P (.str (S r)) bs'
theorem ok_Lbent {f : Addr} {fd : FuncData} (F : Fun K "_law_bent" "_law_bent" s_Lbent f fd) (m_len : mg "len" = none) (c_Ldraw : CalB P w K mg base n "_law_draw" w_Ldraw) (c_Lpick : CalB P w K mg base n "_law_pick" w_Lpick) : FnG P w K mg base (n + 1) f fd ["box", "text_row"] (SpB K w_Lbent) := by
  refine fg_box F sc_Lbent (fun bs ds post ⟨l, e, _⟩ => by rw [e]; rfl) fun cdv A outer s H E bs ds post hr hgd ⟨l, e, ⟨hl, hc, h10⟩, hb, q⟩ => ?_
  subst e
  have nd := sc_Lbent.nd
  have hu := hu_room hr
  refine ssw_cons ?_
  show SW _ _ _ [.ow (.lst bs), .pd (.str (S l)), .un, .un, .un] _
  refine sw_setN 2 (ps_set (i := 2) nd rfl (.inl rfl) (pe_any _)) (by decide) (Nat.le_of_ble_eq_true rfl) (en_split ?_)
  walk_at "dl"
  refine ⟨_, rfl, ?_⟩
  walk_at "dl"
  refine ⟨_, rfl, rfl, by rw [S_len]; omega, ?_⟩
  rw [lSp, wD_split]
  have hw := splitL_mem 32 l
  have hj := join_splitL 32 l
  have hne := splitL_ne 32 l
  have hms : mS (splitL 32 l) ≤ 401 := by
    have := joinL_sum 32 (splitL 32 l)
    rw [hj] at this
    unfold mS
    omega
  generalize splitL 32 l = ws at *
  have hws : ∀ w ∈ ws, ∀ c ∈ w, c < 128 ∧ c ≠ 10 := fun w m c mc => ⟨hc c ((hw w m).2 c mc), fun z => h10 (z ▸ (hw w m).2 c mc)⟩
  have hlen : (wD ws).length = ws.length := by simp [wD]
  have hcount : ws.length ≤ 401 := by unfold mS at hms; omega
  have hpos : 0 < ws.length := List.length_pos_iff.mpr hne
  show SsW _ _ _ [.ow (.lst bs), .pd (.str (S l)), .ow (.lst (wD ws)), .un, .un] _
  walk_at "dl"
  refine ⟨_, rfl, _, rfl, by rw [hlen]; omega, hb, fun at_ bs hat hb => ?_⟩
  rw [hlen] at hat
  have hat : at_ < ws.length := by omega
  have hget : ws[at_]? = some ws[at_] := List.getElem?_eq_getElem hat
  have hgD : atI (wD ws) (at_ : Int) = some (.str (S ws[at_])) := atI_nat (by unfold wD; rw [List.getElem?_map, hget]; rfl)
  have hix : ixN (wD ws).length (at_ : Int) = some at_ := by
    rw [hlen]
    unfold ixN
    rw [if_pos (by omega), if_pos (by omega), Int.toNat_natCast]
  have hwl := (hw ws[at_] (List.getElem_mem hat)).1
  have hwc := hws ws[at_] (List.getElem_mem hat)
  generalize ws[at_] = wa at *
  have hd1 := mS_drop ws at_
  have hct := mS_cut ws at_
  walk_at "dl"
  refine ⟨_, rfl, _, rfl, by decide, hb, fun way bs hway hb => ?_⟩
  walk_at "dl"
  refine if_join (fun ρ' => ∃ bs ws', BoxOk bs ∧ Cln ws' ∧ ρ' = [.ow (.lst bs), .pd (.str (S l)), .pd (.list (wD ws')), .pd (.int (at_ : Nat)), .pd (.int (way : Nat))]) (fun h => ?_) (fun h => ?_) ?_
  · refine freeze 2 rfl ?_
    walk_at "dl"
    rw [cutD_T, show (at_ : Int) + 1 = ((at_ + 1 : Nat) : Int) from rfl, cutD_D, wD_take, wD_drop]
    refine ⟨by simp [wD]; omega, ?_⟩
    rw [wD_app]
    walk_at "dl"
    refine ⟨bs, ws.take at_ ++ ws.drop (at_ + 1), hb, ⟨by rw [mS_app]; omega, fun w m => ?_⟩, rfl⟩
    rcases List.mem_append.mp m with m | m
    · exact hws w (List.mem_of_mem_take m)
    · exact hws w (List.mem_of_mem_drop m)
  · walk_at "dl"
    have hset : ∀ t : List Nat, t.length ≤ 410 → (∀ c ∈ t, c < 128 ∧ c ≠ 10) → Cln (ws.set at_ t) := fun t h1 h2 => by
      have := mS_set ws at_ t
      refine ⟨by omega, fun w m => ?_⟩
      rcases List.mem_or_eq_of_mem_set m with m | m
      · exact hws w m
      · exact m ▸ h2
    have hlit : ∀ t ∈ ["9999", "10000", "0", "01", "-1", "00", "1x", "ask", "add", "take", "tell", "copy", "alike", "book", "books", "side", "text", "begin", "abcdefgh", "abcdefghi", "aB", "a1", "z", "7", "1", "x", "", "3"].map lw, Cln (ws.set at_ t) := fun t m => hset t (by have := (lit_cl t m).1; omega) (lit_cl t m).2
    have hst : ∀ t : List Nat, (wD ws).set at_ (.str (S t)) = wD (ws.set at_ t) := wD_set ws at_
    refine ⟨fun h1 => ?_, fun h1 => ?_⟩
    · refine freeze 2 rfl ?_
      walk_at "dl"
      rw [cutD_T]
      walk_at "dl"
      refine ⟨_, hgD, ?_⟩
      walk_at "dl"
      refine ⟨by simp [wD]; omega, ?_⟩
      walk_at "dl"
      rw [cutD_D, wD_take, wD_drop, show [PyData.str (S wa)] = wD [wa] from rfl, wD_app]
      refine ⟨by simp [wD]; omega, ?_⟩
      rw [wD_app]
      walk_at "dl"
      refine ⟨bs, ws.take at_ ++ [wa] ++ ws.drop at_, hb, ⟨by rw [mS_app, mS_app, mS_one]; omega, fun w m => ?_⟩, rfl⟩
      rcases List.mem_append.mp m with m | m
      · rcases List.mem_append.mp m with m | m
        · exact hws w (List.mem_of_mem_take m)
        · exact List.mem_singleton.mp m ▸ hwc
      · exact hws w (List.mem_of_mem_drop m)
    walk_at "dl"
    refine ⟨fun h2 => ?_, fun h2 => ?_⟩
    · walk_at "dl"
      refine ⟨_, _, _, rfl, rfl, hgD, addw_pre (by decide +kernel) (by omega) ?_⟩
      walk_at "dl"
      refine ⟨_, _, _, rfl, rfl, hgD, addw_pre (by decide +kernel) (by omega) ?_⟩
      walk_at "dl"
      refine ⟨_, _, _, rfl, rfl, hgD, ?_⟩
      walk_at "dl"
      refine ⟨len_post (s := Str.ofString "0") (by decide +kernel) (by omega), ?_⟩
      walk_at "dl"
      refine ⟨_, _, _, rfl, rfl, hgD, ?_⟩
      walk_at "dl"
      refine ⟨len_post (s := Str.ofString "\t") (by decide +kernel) (by omega), ?_⟩
      walk_at "dl"
      refine ⟨_, rfl, _, rfl, hb,   .inr ⟨_, rfl, ⟨Nat.succ_pos _, by show 5 ≤ 1000; omega⟩, fun x bs hx hb => ?_⟩⟩
      obtain ⟨t, rfl, ht1, ht2⟩ := bent_tx (by omega : wa.length ≤ 400) hwc hx
      walk_at "dl"
      refine ⟨_, _, _, rfl, rfl, hix, ?_⟩
      rw [hst]
      refine freeze (o := .lst (wD (ws.set at_ t))) 2 rfl ?_
      walk_at "dl"
      exact ⟨bs, _, hb, hset t ht1 ht2, rfl⟩
    walk_at "dl"
    refine ⟨fun h3 => ?_, fun h3 => ?_⟩
    · walk_at "dl"
      refine ⟨_, rfl, pick_lw (ss := ["9999", "10000", "0", "01", "-1", "00", "1x"]) hb ⟨by decide, by decide⟩ fun t bs ht hb => ?_⟩
      walk_at "dl"
      refine ⟨_, _, _, rfl, rfl, hix, ?_⟩
      rw [hst]
      refine freeze (o := .lst (wD (ws.set at_ t))) 2 rfl ?_
      walk_at "dl"
      exact ⟨bs, _, hb, hlit t (in3 t ht), rfl⟩
    walk_at "dl"
    refine ⟨fun h4 => ?_, fun h4 => ?_⟩
    · walk_at "dl"
      refine ⟨_, rfl, pick_lw (ss := ["ask", "add", "take", "tell", "copy", "alike", "book", "books", "side", "text", "begin"]) hb ⟨by decide, by decide⟩ fun t bs ht hb => ?_⟩
      walk_at "dl"
      refine ⟨_, _, _, rfl, rfl, hix, ?_⟩
      rw [hst]
      refine freeze (o := .lst (wD (ws.set at_ t))) 2 rfl ?_
      walk_at "dl"
      exact ⟨bs, _, hb, hlit t (in4 t ht), rfl⟩
    walk_at "dl"
    refine ⟨fun h5 => ?_, fun h5 => ?_⟩
    · walk_at "dl"
      refine ⟨_, rfl, pick_lw (ss := ["abcdefgh", "abcdefghi", "aB", "a1", "z", "7"]) hb ⟨by decide, by decide⟩ fun t bs ht hb => ?_⟩
      walk_at "dl"
      refine ⟨_, _, _, rfl, rfl, hix, ?_⟩
      rw [hst]
      refine freeze (o := .lst (wD (ws.set at_ t))) 2 rfl ?_
      walk_at "dl"
      exact ⟨bs, _, hb, hlit t (in5 t ht), rfl⟩
    walk_at "dl"
    refine ⟨fun h6 => ?_, fun h6 => ?_⟩
    · refine ssw_cons ?_
      refine sw_insert 2 (pe_bm PySem.F.plainAttrs_list PySem.F.slot_list_insert PySem.F.type_list_insert mt_insert (pv 2) (pa_cons (pe_any _) (pa_cons (pe_any _) pa_nil))) rfl ?_
      walk_at "dl"
      refine ⟨_, _, rfl, rfl, by omega, by omega, ?_⟩
      rw [wD_take, wD_drop, show [PyData.str (Str.ofString "")] = wD [[]] from rfl, wD_app, wD_app]
      refine freeze (o := .lst (wD (ws.take at_ ++ [[]] ++ ws.drop at_))) 2 rfl ?_
      walk_at "dl"
      refine ⟨bs, _, hb, ⟨by rw [mS_app, mS_app, mS_one]; show _ + (0 + 1) + _ ≤ _; omega, fun w m => ?_⟩, rfl⟩
      rcases List.mem_append.mp m with m | m
      · rcases List.mem_append.mp m with m | m
        · exact hws w (List.mem_of_mem_take m)
        · rw [List.mem_singleton.mp m]
          exact fun c mc => nomatch mc
      · exact hws w (List.mem_of_mem_drop m)
    walk_at "dl"
    refine ⟨_, rfl, pick_lw (ss := ["1", "x", "", "3"]) hb ⟨by decide, by decide⟩ fun t bs ht hb => ?_⟩
    have ht := lit_cl t (in7 t ht)
    walk_at "dl"
    refine ⟨_, rfl, by omega, ?_⟩
    rw [show [PyData.str (S t)] = wD [t] from rfl, wD_app]
    refine freeze (o := .lst (wD (ws ++ [t]))) 2 rfl ?_
    walk_at "dl"
    refine ⟨bs, _, hb, ⟨by rw [mS_app, mS_one]; have := ht.1; omega, fun w m => ?_⟩, rfl⟩
    rcases List.mem_append.mp m with m | m
    · exact hws w m
    · rw [List.mem_singleton.mp m]
      exact ht.2
  · rintro ρ ⟨bs, ws', hb, ⟨hm, hcl⟩, rfl⟩
    walk_at "dl"
    refine ⟨⟨_, rfl⟩, ?_⟩
    walk_at "dl"
    have hsz := joinL_size 32 ws'
    unfold mS at hm
    refine ⟨ws'.map S, by unfold wD; rw [List.map_map]; rfl, ?_, ?_⟩
    · rw [sum_S, List.length_map, S_len]
      show _ + _ * 1 ≤ _
      omega
    rw [join32S]
    refine ⟨bs, rfl, q _ _ ⟨by omega, fun c m => ?_, fun m => ?_⟩ hb⟩
    · rcases joinL_in 32 _ c m with z | ⟨w, hw, z⟩
      · omega
      · exact (hcl w hw c z).1
    · rcases joinL_in 32 _ 10 m with z | ⟨w, hw, z⟩
      · omega
      · exact (hcl w hw 10 z).2 rfl
end
section
variable {P : Program} {w : World} {K : PySem.W.Frag} {mg : Str → Option Value} {base : Heap} {n : Nat}
def w_Ltext : GA := fun ds P => ∃ l : List Nat, ds = [.str (S l)] ∧ (l.length ≤ 9000 ∧ (∀ c ∈ l, c < 128) ∧ ∀ v ∈ splitL 10 l, v.length ≤ 900) ∧ (l = [] → P (.tuple [.str "told", .list []])) ∧ (l ≠ [] → (∀ v ∈ splitL 10 l, readO v ≠ none) → P (.tuple [.str "told", .list ((splitL 10 l).map fun v => optO (readO v))])) ∧
  (l ≠ [] → ∀ i v, (splitL 10 l)[i]? = some v → readO v = none → (∀ u ∈ (splitL 10 l).take i, readO u ≠ none) → P (.tuple [.str "wrong", .int ((i + 1 : Nat) : Int)]))
theorem ok_Ltext {f : Addr} {fd : FuncData} (F : Fun K "_law_text" "_law_text" s_Ltext f fd) (m_isinstance : mg "isinstance" = none) {C_BadOrder : Addr} (k_BadOrder : ClsX P w K mg base n "BadOrder" C_BadOrder "line" okLine) {C_T : Addr} (m_TurnError : mg "TurnError" = some (.ref C_T)) (x_T : PySem.W.exmOne K (.ref C_BadOrder) (.ref C_T) = some true) (c_read_orders : CalX P w K mg base n "read_orders" (w_read_orders C_BadOrder)) : FnG P w K mg base (n + 1) f fd ["text"] (SpP K w_Ltext) := by
  refine fg_pure F sc_Ltext (fun ds post ⟨l, e, _⟩ => by rw [e]; rfl) fun cdv A outer s H E ds post hr hgd ⟨l, e, hb, q0, q1, q2⟩ => ?_
  subst e
  have nd := sc_Ltext.nd
  refine ssw_cons ?_
  show SW _ _ _ [.pd (.str (S l)), .un] _
  refine sw_tellX (i := 1) (j := 0) rfl rfl nd rfl rfl ⟨rfl, rfl, .inl m_TurnError⟩ c_read_orders hr hgd rfl k_BadOrder rfl x_T rfl m_isinstance (fun pn xe => pv 0) rfl (fun a pn => pv 1) (fun a pn => pv 1) (by show 1 < 2; decide) ?_
  exact ⟨l, rfl, hb, q0, q1, fun h i v h1 h2 h3 => ⟨rfl, _, rfl, q2 h i v h1 h2 h3⟩⟩
end
section
variable {P : Program} {w : World} {K : PySem.W.Frag} {mg : Str → Option Value} {base : Heap} {n : Nat}
theorem PartB {v : List Nat} {o : List Part} (h : readO v = some o) (hl : v.length ≤ 900) (hc : ∀ c ∈ v, c < 128) : o.length ≤ 3 ∧ ∀ p ∈ o, (∃ t, p = .t t ∧ t.length ≤ 900 ∧ ∀ c ∈ t, c < 128) ∨ ∃ n, p = .n n ∧ n < 1000000 := by
  have hm := splitL_mem 32 v
  have hj := join_splitL 32 v
  unfold readO at h
  generalize splitL 32 v = ws at *
  have tx : ∀ w ∈ ws, ∃ t, Part.t w = .t t ∧ t.length ≤ 900 ∧ ∀ c ∈ t, c < 128 := fun w m => ⟨w, rfl, by have := (hm w m).1; omega, fun c mc => hc c ((hm w m).2 c mc)⟩
  have li : ∀ k ∈ ["books", "add", "take", "ask"].map lw, ∃ t, Part.t k = .t t ∧ t.length ≤ 900 ∧ ∀ c ∈ t, c < 128 := fun k m => ⟨k, rfl, (by decide +kernel : ∀ k ∈ ["books", "add", "take", "ask"].map lw, k.length ≤ 900 ∧ ∀ c ∈ k, c < 128) k m⟩
  match ws, h with
  | [], h => cases h
  | [k], h =>
    simp only [readW] at h
    split at h
    · cases h
      exact ⟨by simp, fun p m => .inl (List.mem_singleton.mp m ▸ tx k (by simp))⟩
    · cases h
  | [k, w], h =>
    simp only [readW] at h
    split at h
    · cases h
    split at h
    · cases h
      refine ⟨by simp, fun p m => .inl ?_⟩
      rcases List.mem_cons.mp m with rfl | m
      · exact tx k (by simp)
      · exact List.mem_singleton.mp m ▸ tx w (by simp)
    · cases h
  | k :: w :: x :: r, h =>
    simp only [readW] at h
    split at h
    · cases h
    split at h
    · cases h
      refine ⟨by simp, fun p m => .inl ?_⟩
      rcases List.mem_cons.mp m with rfl | m
      · exact li _ (by decide +kernel)
      rcases List.mem_cons.mp m with rfl | m
      · exact tx w (by simp)
      · refine ⟨_, List.mem_singleton.mp m, ?_, fun c mc => hc c ?_⟩
        · have e : (joinL 32 (k :: w :: x :: r)).length = v.length := by rw [hj]
          have : (joinL 32 (k :: w :: x :: r)).length = k.length + ((w.length + ((joinL 32 (x :: r)).length + 1)) + 1) := by
            show (k ++ 32 :: (w ++ 32 :: joinL 32 (x :: r))).length = _
            simp only [List.length_append, List.length_cons]
          omega
        · rw [← hj]
          show c ∈ k ++ 32 :: (w ++ 32 :: joinL 32 (x :: r))
          simp only [List.mem_append, List.mem_cons]
          exact .inr (.inr (.inr (.inr mc)))
    split at h
    · cases h
    split at h
    · split at h
      · rename_i hn
        cases h
        refine ⟨by simp, fun p m => ?_⟩
        rcases List.mem_cons.mp m with rfl | m
        · exact .inl (li _ (by decide +kernel))
        rcases List.mem_cons.mp m with rfl | m
        · exact .inl (tx w (by simp))
        · exact .inr ⟨_, List.mem_singleton.mp m, val_lt hn.1⟩
      · cases h
    split at h
    · split at h
      · cases h
        refine ⟨by simp, fun p m => .inl ?_⟩
        rcases List.mem_cons.mp m with rfl | m
        · exact li _ (by decide +kernel)
        rcases List.mem_cons.mp m with rfl | m
        · exact tx w (by simp)
        · exact List.mem_singleton.mp m ▸ tx x (by simp)
      · cases h
    split at h
    · split at h
      · cases h
        refine ⟨by simp, fun p m => .inl ?_⟩
        rcases List.mem_cons.mp m with rfl | m
        · exact tx k (by simp)
        rcases List.mem_cons.mp m with rfl | m
        · exact tx w (by simp)
        · exact List.mem_singleton.mp m ▸ tx x (by simp)
      · cases h
    · cases h
theorem sm_order {o : List Part} (h : o.length ≤ 3 ∧ ∀ p ∈ o, (∃ t, p = .t t ∧ t.length ≤ 900 ∧ ∀ c ∈ t, c < 128) ∨ ∃ n, p = .n n ∧ n < 1000000) : Sm 2 4000 (odata o) := by
  refine sm_tuple (D := 1) (W := 1000) (n := 3) (fun x m => ?_) (by rw [List.length_map]; exact h.1) (Nat.le_refl _) (by decide)
  obtain ⟨p, hp, rfl⟩ := List.mem_map.mp m
  rcases h.2 p hp with ⟨t, rfl, h1, h2⟩ | ⟨n, rfl, h1⟩
  · exact sm_str (tx_ok h2) (by rw [S_len]; omega)
  · exact sm_nat (by omega) (by decide)
theorem sm_opt {v : List Nat} (h : LnOk 900 v) : Sm 2 4000 (optO (readO v)) := by
  cases e : readO v with
  | none => exact sm_none
  | some o => exact sm_order (PartB e h.1 h.2.1)
theorem OrdGood.sm {o : List Part} (h : OrdGood o) : Sm 2 4000 (odata o) := by
  have := sm_opt (v := lineO o) ⟨Nat.le_trans h.2.2.1 (by decide), h.2.2.2⟩
  rw [h.2.1] at this
  exact this
theorem sm_same {d : PyData} (h : Sm 2 4000 d) : SameOk 30 d := Sm.same (W := 4000) (by decide) 30 (by decide) (h.mono (by decide) (Nat.le_refl _))
theorem same_told {xs : List PyData} (h : ∀ x ∈ xs, Sm 2 4000 x) (hn : xs.length ≤ 9) : SameOk 30 (.tuple [.str (Str.ofString "told"), .list xs]) :=
  Sm.same (W := 100000) (by decide) 30 (by decide) ((sm_tuple (D := 3) (W := 40000) (n := 2) (D' := 4) (W' := 100000) (fun x m => by
    rcases List.mem_cons.mp m with m | m
    · rw [m]
      exact sm_str (strOk_lit _) (by decide +kernel)
    · rw [List.mem_singleton.mp m]
      exact sm_list (D := 2) (W := 4000) (n := 9) h hn (by decide) (by decide)) (Nat.le_refl _) (by decide) (by decide)).mono (by decide) (Nat.le_refl _))
theorem same_wrong {n : Nat} (h : n < 1000000) : SameOk 30 (.tuple [.str (Str.ofString "wrong"), .int (n : Int)]) :=
  Sm.same (W := 100000) (by decide) 30 (by decide) ((sm_tuple (D := 3) (W := 40000) (n := 2) (D' := 4) (W' := 100000) (fun x m => by
    rcases List.mem_cons.mp m with m | m
    · rw [m]
      exact sm_str (strOk_lit _) (by decide +kernel)
    · rw [List.mem_singleton.mp m]
      exact sm_nat (by omega) (by decide)) (Nat.le_refl _) (by decide) (by decide)).mono (by decide) (Nat.le_refl _))
theorem LnOk.mono {a b : Nat} {l : List Nat} (h : LnOk a l) (e : a ≤ b) : LnOk b l := ⟨Nat.le_trans h.1 e, h.2⟩
theorem join_ok {b n : Nat} {ls : List (List Nat)} (h : ∀ v ∈ ls, LnOk b v) (hn : ls.length ≤ n) : (joinL 10 ls).length ≤ (b + 1) * n ∧ ∀ c ∈ joinL 10 ls, c < 128 := by
  refine ⟨?_, fun c m => ?_⟩
  · have h1 := joinL_size 10 ls
    have h2 := sum_le (l := ls) (b := b) fun w m => (h w m).1
    have h3 : (b + 1) * ls.length ≤ (b + 1) * n := Nat.mul_le_mul_left _ hn
    rw [Nat.add_mul, Nat.one_mul] at h3
    omega
  · rcases joinL_in 10 ls c m with rfl | ⟨w, hw, z⟩
    · decide
    · exact (h w hw).2.1 c z
theorem ltext_of {ls : List (List Nat)} {P : PyData → Prop} (h : ∀ v ∈ ls, LnOk 900 v) (hn : ls.length ≤ 9) (h0 : ls ≠ []) (h1 : ls ≠ [[]]) (q1 : (∀ v ∈ ls, readO v ≠ none) → P (.tuple [.str (Str.ofString "told"), .list (ls.map fun v => optO (readO v))]))
    (q2 : ∀ i v, ls[i]? = some v → readO v = none → (∀ u ∈ ls.take i, readO u ≠ none) → P (.tuple [.str (Str.ofString "wrong"), .int ((i + 1 : Nat) : Int)])) : w_Ltext [.str (S (joinL 10 ls))] P := by
  have e := split_joinL h0 fun w m => (h w m).2.2
  have hne : joinL 10 ls ≠ [] := fun z => by
    rw [z] at e
    exact h1 e.symm
  obtain ⟨j1, j2⟩ := join_ok h hn
  exact ⟨_, rfl, ⟨by omega, j2, by rw [e]; exact fun v m => (h v m).1⟩, fun z => absurd z hne, fun _ => by rw [e]; exact q1, fun _ => by rw [e]; exact q2⟩
theorem readO_nil : readO [] = none := by decide +kernel
theorem told_eqs {os : List (List Part)} (h : ∀ o ∈ os, OrdGood o) : (os.map lineO).map (fun v => optO (readO v)) = os.map odata := by
  rw [List.map_map]
  refine List.map_congr_left fun o m => ?_
  show optO (readO (lineO o)) = _
  rw [(h o m).2.1]
  rfl
theorem joinL_snoc (c : Nat) : ∀ {ws : List (List Nat)}, ws ≠ [] → joinL c ws ++ [c] = joinL c (ws ++ [[]])
  | [], h => absurd rfl h
  | [w], _ => rfl
  | w :: v :: r, _ => by
    show (w ++ c :: joinL c (v :: r)) ++ [c] = w ++ c :: joinL c ((v :: r) ++ [[]])
    rw [List.append_assoc, List.cons_append, joinL_snoc c (List.cons_ne_nil _ _)]
theorem none_in {ls : List (List Nat)} : inD .none (ls.map fun v => optO (readO v)) = decide (∃ v ∈ ls, readO v = none) := by
  unfold inD
  rw [List.any_map, Bool.eq_iff_iff, List.any_eq_true, decide_eq_true_eq]
  refine ⟨fun ⟨v, m, e⟩ => ⟨v, m, ?_⟩, fun ⟨v, m, e⟩ => ⟨v, m, ?_⟩⟩
  · cases h : readO v with
    | none => rfl
    | some o =>
      rw [Function.comp, h] at e
      simp [optO, odata, PyData.eqv] at e
  · rw [Function.comp, e]
    rfl
theorem first_none : ∀ {ls : List (List Nat)}, (∃ v ∈ ls, readO v = none) → ∃ i v, ls[i]? = some v ∧ readO v = none ∧ ∀ u ∈ ls.take i, readO u ≠ none
  | [], ⟨v, m, _⟩ => nomatch m
  | w :: r, h => by
    by_cases e : readO w = none
    · exact ⟨0, w, rfl, e, by simp⟩
    · obtain ⟨v, m, hv⟩ := h
      obtain ⟨i, v, h1, h2, h3⟩ := first_none (ls := r) ⟨v, (List.mem_cons.mp m).resolve_left (fun z => e (z ▸ hv)), hv⟩
      refine ⟨i + 1, v, h1, h2, fun u m => ?_⟩
      rcases List.mem_cons.mp (show u ∈ w :: r.take i from m) with rfl | m
      · exact e
      · exact h3 u m
end
section
variable {P : Program} {w : World} {K : PySem.W.Frag} {mg : Str → Option Value} {base : Heap} {n : Nat}
theorem blkOk_in {X : Cx} {N : List Str} {sc scope : Scope} {own : List (Str × Nat)} (hN : X.N = N) (hs : X.env.scope = sc) (h : blkC N sc scope own = true) : BlkOk X.N X.env.scope scope own := by
  rw [hN, hs]
  exact blkOk_by h
def DueOk (us : List (List Nat)) (d : PyData) : Prop := ((∀ v ∈ us, readO v ≠ none) → PyData.tuple [.str (Str.ofString "told"), .list (us.map fun v => optO (readO v))] = d) ∧ (∀ i v, us[i]? = some v → readO v = none → (∀ u ∈ us.take i, readO u ≠ none) → PyData.tuple [.str (Str.ofString "wrong"), .int ((i + 1 : Nat) : Int)] = d) ∧ SameOk 30 d
theorem first_le {us : List (List Nat)} {i j : Nat} {u : List Nat} (h1 : us[i]? = some u) (h2 : readO u = none) (h3 : ∀ z ∈ us.take j, readO z ≠ none) : j ≤ i := Nat.le_of_not_lt fun h => h3 u (List.mem_of_getElem? (by rw [List.getElem?_take_of_lt h]; exact h1)) h2
theorem due_wrong {us : List (List Nat)} {j : Nat} {v : List Nat} (hn : us.length ≤ 9) (h1 : us[j]? = some v) (h2 : readO v = none) (h3 : ∀ z ∈ us.take j, readO z ≠ none) : DueOk us (.tuple [.str (Str.ofString "wrong"), .int ((j : Int) + 1)]) := by
  refine ⟨fun h => absurd h2 (h v (List.mem_of_getElem? h1)), fun i u a b c => ?_, same_wrong (n := j + 1) (by have := (List.getElem?_eq_some_iff.mp h1).1; omega)⟩
  have e : i = j := Nat.le_antisymm (first_le h1 h2 c) (first_le a b h3)
  rw [e]
  rfl
theorem due_told {us : List (List Nat)} (hn : us.length ≤ 9) (h : ¬ ∃ v ∈ us, readO v = none) (hs : ∀ v ∈ us, LnOk 900 v) : DueOk us (.tuple [.str (Str.ofString "told"), .list (us.map fun v => optO (readO v))]) :=
  ⟨fun _ => rfl, fun i u a b c => absurd ⟨u, List.mem_of_getElem? a, b⟩ h, same_told (fun x m => by
    obtain ⟨v, mv, rfl⟩ := List.mem_map.mp m
    exact sm_opt (hs v mv)) (by rw [List.length_map]; exact hn)⟩
theorem not_blank {us : List (List Nat)} (h : (!PyData.eqv (.list (wD us)) (.list [.str (Str.ofString "")])) = true) : us ≠ [[]] := by
  rintro rfl
  have e := PySem.SeqAt.eqv_refl (.list [.str (Str.ofString "")]) (by decide +kernel)
  rw [show PyData.list (wD [[]]) = .list [.str (Str.ofString "")] from rfl, e] at h
  cases h
theorem wD_eq (ws : List (List Nat)) : wD ws = (ws.map S).map PyData.str := by unfold wD; rw [List.map_map]; rfl
abbrev NLAW : List Str := ["script", "box", "orders", "lines", "k", "turn", "bent", "text", "mixed", "told", "due", "order", "text_row", "part"]
def w_law : GA := fun ds P => ∃ ns : List Int, ds = [.list (dI ns)] ∧ P (.bool true)
theorem ok_law {f : Addr} {fd : FuncData} (F : Fun K "law" "law" s_law f fd) (m_range : mg "range" = none) (m_len : mg "len" = none) (m_str : mg "str" = none) (m_list : mg "list" = none) (c_Lsame : CalP P w K mg base n "_law_same" w_Lsame) (c_Ldigits : CalP P w K mg base n "_law_digits" w_Ldigits) (c_Lorder : CalB P w K mg base n "_law_order" w_Lorder) (c_Ltext : CalP P w K mg base n "_law_text" w_Ltext) (c_Lread : CalP P w K mg base n "_law_read" w_Lread) (c_Lbent : CalB P w K mg base n "_law_bent" w_Lbent) (c_write_orders : CalP P w K mg base n "write_orders" w_write_orders) (c_Ldraw : CalB P w K mg base n "_law_draw" w_Ldraw) (c_write_order : CalP P w K mg base n "write_order" w_write_order) (c_read_order : CalP P w K mg base n "read_order" w_read_order) : FnG P w K mg base (n + 1) f fd ["script"] (SpP K w_law) := by
  refine fg_pure F sc_law (fun ds post ⟨b, e, _⟩ => by rw [e]; rfl) fun cdv A outer s H E ds post hr hgd ⟨ns, e, q⟩ => ?_
  subst e
  have nd := sc_law.nd
  have hu := hu_room hr
  have o1 : Ow 1 := trivial
  refine ssw_cons ?_
  show SW _ _ _ [.pd (.list (dI ns)), .un, .un, .un, .un, .un, .un, .un, .un, .un, .un, .un, .un, .un] _
  walk_at "dl"
  refine ⟨ns, 60, rfl, by decide, fun gs hgs => ?_⟩
  walk_at "dl"
  refine sw_lc 2 rfl nd rfl rfl (sw_true rfl rfl rfl (by decide +kernel)) (own := [("turn", 5)]) (blkOk_of sc_law rfl rfl (by decide +kernel)) (by decide) (Nat.le_of_ble_eq_true rfl) false ?_
  walk_at "dl"
  refine ⟨_, rfl, _, rfl, by decide, ⟨gs, 0, rfl, hgs⟩, fun r bs hrr hb => ?_⟩
  walk_at "dl"
  refine ⟨_, rfl, by omega, noOw1 rfl, ?_⟩
  rw [show ((1 : Int) + (r : Int)).toNat = r + 1 by omega]
  refine rgL (fun k acc ρ => ∃ bs os, (BoxOk bs ∧ os.length = k ∧ ∀ o ∈ os, OrdGood o) ∧ acc = os.map odata ∧ ρ = [.pd (.list (dI ns)), .ow (.lst bs), .un, .un, .un, .un, .un, .un, .un, .un, .un, .un, .un, .un]) ⟨bs, [], ⟨hb, rfl, by simp⟩, rfl, rfl⟩ ?_ ?_
  · rintro k acc ρ hk ⟨bs, os, ⟨hb, hol, ho⟩, rfl, rfl⟩
    walk_at "dl"
    refine ⟨_, rfl, rfl, hb, fun o bs hg hb => ?_⟩
    refine ⟨bs, os ++ [o], ⟨hb, by rw [List.length_append, List.length_singleton]; omega, fun p m => ?_⟩, by simp, rfl⟩
    rcases List.mem_append.mp m with m | m
    · exact ho p m
    · exact List.mem_singleton.mp m ▸ hg
  rintro acc ρ ⟨bs, os, ⟨hb, hol, ho⟩, rfl, rfl⟩
  have hol : 1 ≤ os.length ∧ os.length ≤ 8 := by omega
  show SsW _ _ _ [.pd (.list (dI ns)), .ow (.lst bs), .pd (.list (os.map odata)), .un, .un, .un, .un, .un, .un, .un, .un, .un, .un, .un] _
  walk_at "dl"
  refine sw_lcM 3 [("order", 11)] rfl nd rfl rfl (sw_true rfl rfl rfl (by decide +kernel)) (blkOk_of sc_law rfl rfl (by decide +kernel)) (by decide) (Nat.le_of_ble_eq_true rfl) ?_
  walk_at "dl"
  refine ⟨noOw1 rfl, List Part, os, odata, fun _ => true, fun o => .str (S (lineO o)), rfl, fun o hm => ?_, ?_⟩
  · walk_at "dl"
    refine ⟨rfl, rfl, fun _ => ?_⟩
    walk_at "dl"
    refine ⟨⟨_, rfl⟩, ?_⟩
    have ho1 := (ho o hm).1
    rw [show odata o = .tuple (o.map Part.data) from rfl]
    refine EN.ew (en_lcM [("part", 13)] rfl nd (blkOk_in (N := NLAW) (sc := { kind := .function, names := [(Str.ofString ".0", .local), (Str.ofString "order", .local)], isGenerator := false, isCoroutine := false }) rfl rfl (by decide +kernel)) ?_)
    walk_at "dl"
    refine ⟨noOw1 rfl, Part, o, Part.data, fun _ => true, fun p => .str (S p.tx), rfl, fun z hz => ?_, ?_⟩
    · walk_at "dl"
      refine ⟨rfl, rfl, fun _ => ?_⟩
      have hz := ho1.2 z hz
      cases z with
      | t l =>
        dsimp only [Part.data]
        walk_at "dl"
        exact ⟨rfl, rfl⟩
      | n k =>
        dsimp only [Part.data]
        walk_at "dl"
        have hz : k < 10000 := hz
        refine ⟨log_ok (Nat.lt_trans hz (by decide)), ?_⟩
        rw [dig_str]
        exact ⟨rfl, rfl⟩
    have e1 : (o.filter fun _ => true).map (fun p => PyData.str (S p.tx)) = ((o.map Part.tx).map S).map PyData.str := by
      rw [filter_true, List.map_map, List.map_map]
      rfl
    have hs := sum_le (l := o.map Part.tx) (b := 100) (fun w m => by
      obtain ⟨p, hp, rfl⟩ := List.mem_map.mp m
      exact (ho1.2 p hp).len)
    rw [List.length_map] at hs
    have ho3 := ho1.1.2
    refine ⟨_, e1, ?_, ?_⟩
    · rw [sum_S, List.length_map, List.length_map, lSp, S_len]
      show _ + _ * 1 ≤ _
      omega
    rw [join32]
    exact ⟨rfl, rfl⟩
  rw [filter_true, show (os.map fun o => PyData.str (S (lineO o))) = wD (os.map lineO) by unfold wD; rw [List.map_map]; rfl]
  have hgl : ∀ k (h : k < os.length), atI (wD (os.map lineO)) (k : Int) = some (.str (S (lineO os[k]))) := fun k h => atI_nat (by unfold wD; rw [List.map_map, List.getElem?_map, List.getElem?_eq_getElem h]; rfl)
  have hgo : ∀ k (h : k < os.length), atI (os.map odata) (k : Int) = some (odata os[k]) := fun k h => atI_nat (by rw [List.getElem?_map, List.getElem?_eq_getElem h]; rfl)
  have hln : (wD (os.map lineO)).length = os.length := by simp [wD]
  show SsW _ _ _ [.pd (.list (dI ns)), .ow (.lst bs), .pd (.list (os.map odata)), .pd (.list (wD (os.map lineO))), .un, .un, .un, .un, .un, .un, .un, .un, .un, .un] _
  walk_at "dl"
  refine sw_for (ts := [4]) PassesOwn.never rfl (by decide) ?_
  walk_at "dl"
  refine ⟨_, rfl, by rw [List.length_map]; omega, ?_⟩
  rw [List.length_map, Int.toNat_natCast]
  refine rgJ0 (fun i ρ => ∃ bs a4 a5 a6, BoxOk bs ∧ ρ = [.pd (.list (dI ns)), .ow (.lst bs), .pd (.list (os.map odata)), .pd (.list (wD (os.map lineO))), a4, a5, a6, .un, .un, .un, .un, .un, .un, .un]) ⟨_, _, _, _, hb, rfl⟩ ?_ ?_
  · rintro i ρ hi ⟨bs, a4, a5, a6, hb, rfl⟩
    have hg := ho os[i] (List.getElem_mem hi)
    have g1 := hgl i hi
    have g2 := hgo i hi
    generalize os[i] = o at *
    have hlo : (lineO o).length ≤ 900 ∧ ∀ c ∈ lineO o, c < 128 := ⟨Nat.le_trans hg.2.2.1 (by decide), hg.2.2.2.1⟩
    walk_at "dl"
    refine ⟨_, g2, ?_⟩
    walk_at "dl"
    refine ⟨o, rfl, hg.1, ?_⟩
    walk_at "dl"
    refine ⟨_, g1, ?_⟩
    walk_at "dl"
    refine ⟨_, rfl, same_tx hlo.2 (by omega), ?_⟩
    walk_at "dl"
    refine ⟨_, g1, ?_⟩
    walk_at "dl"
    refine ⟨_, rfl, hlo, ?_⟩
    rw [hg.2.1]
    walk_at "dl"
    refine ⟨_, g2, ?_⟩
    walk_at "dl"
    refine ⟨_, rfl, sm_same hg.sm, ?_⟩
    walk_at "dl"
    refine ⟨_, g1, ?_⟩
    walk_at "dl"
    refine ⟨_, rfl, hlo, ?_⟩
    rw [hg.2.1]
    walk_at "dl"
    refine ⟨_, g2, ?_⟩
    refine ⟨hg.sm.lay, hg.sm.lay, Nat.le_trans (Nat.min_le_left _ _) (Nat.le_trans hg.sm.dep (by decide)), ?_⟩
    rw [show PyData.eqv (optO (some o)) (odata o) = true from PySem.SeqAt.eqv_refl _ hg.sm.lay]
    walk_at "dl"
    refine sw_for (ts := [5]) PassesOwn.never rfl (by decide) ?_
    walk_at "dl"
    refine ⟨3, rfl, by decide, ?_⟩
    rw [show Int.toNat 3 = 3 from rfl]
    refine rgJ0 (fun t ρ => ∃ bs a5 a6, BoxOk bs ∧ ρ = [.pd (.list (dI ns)), .ow (.lst bs), .pd (.list (os.map odata)), .pd (.list (wD (os.map lineO))), .pd (.int (i : Nat)), a5, a6, .un, .un, .un, .un, .un, .un, .un]) ⟨_, _, _, hb, rfl⟩ ?_ ?_
    · rintro t ρ ht ⟨bs, a5, a6, hb, rfl⟩
      walk_at "dl"
      refine ⟨_, g1, ?_⟩
      walk_at "dl"
      refine ⟨_, rfl, _, rfl, hg.2.2, hb, fun v bs hv hb => ?_⟩
      walk_at "dl"
      refine ⟨v, rfl, ⟨hv.1, hv.2.1⟩, ?_⟩
      walk_at "dl"
      refine ⟨v, rfl, ⟨hv.1, hv.2.1⟩, ?_⟩
      walk_at "dl"
      refine ⟨_, rfl, sm_same (sm_opt hv), ?_⟩
      walk_at "dl"
      exact ⟨bs, _, _, hb, rfl⟩
    · rintro ρ ⟨bs, a5, a6, hb, rfl⟩
      walk_at "dl"
      exact ⟨bs, _, _, _, hb, rfl⟩
  rintro ρ ⟨bs, a4, a5, a6, hb, rfl⟩
  walk_at "dl"
  refine ⟨⟨_, rfl⟩, ?_⟩
  walk_at "dl"
  have hlk : ∀ v ∈ os.map lineO, LnOk 400 v := fun v m => by
    obtain ⟨o, mo, rfl⟩ := List.mem_map.mp m
    exact (ho o mo).2.2
  have hlL : (os.map lineO).length ≤ 8 := by rw [List.length_map]; exact hol.2
  have hL0 : os.map lineO ≠ [] := fun z => by
    have := congrArg List.length z
    rw [List.length_map] at this
    have : ([] : List (List Nat)).length = 0 := rfl
    omega
  have hL1 : os.map lineO ≠ [[]] := fun z => by
    have m : ([] : List Nat) ∈ os.map lineO := by rw [z]; exact List.mem_cons_self
    obtain ⟨o, mo, e⟩ := List.mem_map.mp m
    have := (ho o mo).2.1
    rw [e, readO_nil] at this
    cases this
  have hsum := sum_le (l := os.map lineO) (b := 400) fun w m => (hlk w m).1
  obtain ⟨hj1, hj2⟩ := join_ok hlk hlL
  have e1 := wD_eq (os.map lineO)
  refine ⟨_, e1, ?_, ?_⟩
  · rw [sum_S, List.length_map, lNl, S_len]
    show _ + _ * 1 ≤ _
    omega
  rw [join10]
  walk_at "dl"
  have hgood : ∀ v ∈ os.map lineO, readO v ≠ none := fun v m => by
    obtain ⟨o, mo, rfl⟩ := List.mem_map.mp m
    rw [(ho o mo).2.1]
    exact fun z => nomatch z
  have hsm : ∀ x ∈ os.map odata, Sm 2 4000 x := fun x m => by
    obtain ⟨o, mo, rfl⟩ := List.mem_map.mp m
    exact (ho o mo).sm
  refine ⟨os, rfl, by omega, fun o m => (ho o m).1, ?_⟩
  walk_at "dl"
  refine ⟨_, rfl, same_tx hj2 (by omega), ?_⟩
  walk_at "dl"
  refine ltext_of (fun v m => (hlk v m).mono (by decide)) (by omega) hL0 hL1 (fun _ => ?_) (fun i v h1 h2 => absurd h2 (hgood v (List.mem_of_getElem? h1)))
  rw [told_eqs ho]
  walk_at "dl"
  refine ⟨_, rfl, same_told hsm (by rw [List.length_map]; omega), ?_⟩
  walk_at "dl"
  refine sw_for (ts := [5]) PassesOwn.never rfl (by decide) ?_
  walk_at "dl"
  refine ⟨3, rfl, by decide, ?_⟩
  rw [show Int.toNat 3 = 3 from rfl]
  generalize hLL : os.map lineO = L at *
  refine rgJ0 (fun i ρ => ∃ bs a4 a5 a6 a8 a9 a10, BoxOk bs ∧ ρ = [.pd (.list (dI ns)), .ow (.lst bs), .pd (.list (os.map odata)), .pd (.list (wD L)), a4, a5, a6, .pd (.str (S (joinL 10 L))), a8, a9, a10, .un, .un, .un]) ⟨_, _, _, _, _, _, _, hb, rfl⟩ ?_ ?_
  · rintro t ρ ht ⟨bs, a4, a5, a6, a8, a9, a10, hb, rfl⟩
    walk_at "dl"
    refine sw_lc 8 rfl nd rfl rfl (sw_true rfl rfl rfl (by decide +kernel)) (own := [("text_row", 12)]) (blkOk_of sc_law rfl rfl (by decide +kernel)) (by decide) (Nat.le_of_ble_eq_true rfl) false ?_
    walk_at "dl"
    refine ⟨noOw1 rfl, fun k acc ρ => ∃ bs us, (BoxOk bs ∧ us.length = k ∧ ∀ u ∈ us, LnOk 900 u) ∧ acc = wD us ∧ ρ = [.pd (.list (dI ns)), .ow (.lst bs), .pd (.list (os.map odata)), .pd (.list (wD L)), a4, .pd (.int (t : Nat)), a6, .pd (.str (S (joinL 10 L))), a8, a9, a10, .un, .un, .un], ⟨bs, [], ⟨hb, rfl, by simp⟩, rfl, rfl⟩, ?_, ?_⟩
    · rintro k x acc ρ hx ⟨bs, us, ⟨hb, hul, hu9⟩, rfl, rfl⟩
      have hx : ∃ v, v ∈ L ∧ x = .str (S v) := by
        obtain ⟨v, m, rfl⟩ := List.mem_map.mp (List.mem_of_getElem? hx)
        exact ⟨v, m, rfl⟩
      obtain ⟨v, hv, rfl⟩ := hx
      have hv := hlk v hv
      have put : ∀ u, LnOk 900 u → (us ++ [u]).length = k + 1 ∧ ∀ z ∈ us ++ [u], LnOk 900 z := fun u h => ⟨by rw [List.length_append, List.length_singleton]; omega, fun z m => (List.mem_append.mp m).elim (hu9 z) fun m => List.mem_singleton.mp m ▸ h⟩
      walk_at "dl"
      refine ⟨_, rfl, _, rfl, by decide, hb, fun r bs hr hb => ?_⟩
      walk_at "dl"
      refine ⟨fun h => ?_, fun h => ?_⟩
      · walk_at "dl"
        refine ⟨_, rfl, _, rfl, hv, hb, fun u bs hu hb => ?_⟩
        exact ⟨bs, us ++ [u], ⟨hb, put u hu⟩, by simp [wD], rfl⟩
      · walk_at "dl"
        exact ⟨bs, us ++ [v], ⟨hb, put v (hv.mono (by decide))⟩, by simp [wD], rfl⟩
    rintro acc ρ ⟨bs, us, ⟨hb, hul, hu9⟩, rfl, rfl⟩
    have hul : us.length = L.length := by rw [hul]; simp [wD]
    show SsW _ _ _ [.pd (.list (dI ns)), .ow (.lst bs), .pd (.list (os.map odata)), .pd (.list (wD L)), a4, .pd (.int (t : Nat)), a6, .pd (.str (S (joinL 10 L))), .pd (.list (wD us)), a9, a10, .un, .un, .un] _
    walk_at "dl"
    refine sw_lcM 9 [("text_row", 12)] rfl nd rfl rfl (sw_true rfl rfl rfl (by decide +kernel)) (blkOk_of sc_law rfl rfl (by decide +kernel)) (by decide) (Nat.le_of_ble_eq_true rfl) ?_
    walk_at "dl"
    refine ⟨noOw1 rfl, List Nat, us, fun v => .str (S v), fun _ => true, fun v => optO (readO v), rfl, fun v hm => ?_, ?_⟩
    · walk_at "dl"
      refine ⟨rfl, rfl, fun _ => ?_⟩
      walk_at "dl"
      exact ⟨v, rfl, ⟨(hu9 v hm).1, (hu9 v hm).2.1⟩, rfl, rfl⟩
    rw [filter_true]
    have hsmu : ∀ x ∈ us.map (fun v => optO (readO v)), Sm 2 4000 x := fun x m => by
      obtain ⟨v, mv, rfl⟩ := List.mem_map.mp m
      exact sm_opt (hu9 v mv)
    show SsW _ _ _ [.pd (.list (dI ns)), .ow (.lst bs), .pd (.list (os.map odata)), .pd (.list (wD L)), a4, .pd (.int (t : Nat)), a6, .pd (.str (S (joinL 10 L))), .pd (.list (wD us)), .pd (.list (us.map fun v => optO (readO v))), a10, .un, .un, .un] _
    walk_at "dl"
    have hun : us.length ≤ 9 := by omega
    have hus0 : us ≠ [] := fun z => hL0 (List.length_eq_zero_iff.mp (by rw [← hul, z]; rfl))
    have hlay : PyData.canLayAll0 (us.map fun v => optO (readO v)) = true := all_lay fun x m => (hsmu x m).lay
    have hsl : Sm 3 40000 (.list (us.map fun v => optO (readO v))) := sm_list (D := 2) (W := 4000) (n := 9) hsmu (by rw [List.length_map]; exact hun) (by decide) (by decide)
    have hwl : Sm 1 20000 (.list (wD us)) := sm_list (D := 0) (W := 1000) (n := 9) (fun x m => by
      obtain ⟨v, mv, rfl⟩ := List.mem_map.mp m
      exact sm_str (tx_ok (hu9 v mv).2.1) (by rw [S_len]; have := (hu9 v mv).1; omega)) (by unfold wD; rw [List.length_map]; exact hun) (by decide) (by decide)
    refine ⟨rfl, hlay, by decide, ?_⟩
    rw [none_in]
    refine ⟨_, rfl, fun h => ?_, fun h => ?_⟩
    · obtain ⟨j, v, f1, f2, f3⟩ := first_none (of_decide_eq_true h)
      have hd := due_wrong hun f1 f2 f3
      refine ew_tup ?_
      refine aw_cons ?_
      refine ew_str ?_
      refine aw_cons ?_
      refine ew_bin od_add ?_
      refine ew_lindex hu ?_ (pe_bm PySem.F.plainAttrs_list PySem.F.slot_list_index PySem.F.type_list_index (mt_indexD hu) (pe_any _) (pa_cons (pe_any _) pa_nil))
      refine ew_name 9 (pv 9) rfl ?_
      refine ⟨_, rfl, ?_⟩
      refine ew_non ?_
      refine ⟨Bool.and_eq_true_iff.mpr ⟨hsl.lay, decide_eq_true (Nat.le_trans hsl.dep (by decide))⟩, rfl, j, .none, by rw [List.getElem?_map, f1]; show some (optO (readO v)) = _; rw [f2]; rfl, rfl, fun m z' hm hz => ?_, ?_⟩
      · rw [List.getElem?_map] at hz
        cases hum : us[m]? with
        | none =>
          rw [hum] at hz
          cases hz
        | some u =>
          rw [hum] at hz
          cases hz
          cases hro : readO u with
          | none => exact absurd hro (f3 u (List.mem_of_getElem? (by rw [List.getElem?_take_of_lt hm]; exact hum)))
          | some o =>
            show PyData.eqv (optO (readO u)) .none = false
            rw [hro]
            simp [optO, odata, PyData.eqv]
      refine ew_int ?_
      dsimp only [AddW]
      refine aw_nil ⟨Nat.le_of_ble_eq_true rfl, ?_⟩
      revert hd
      generalize PyData.tuple [.str (Str.ofString "wrong"), .int ((j : Int) + 1)] = d
      intro hd
      show SsW _ _ _ [.pd (.list (dI ns)), .ow (.lst bs), .pd (.list (os.map odata)), .pd (.list (wD L)), a4, .pd (.int (t : Nat)), a6, .pd (.str (S (joinL 10 L))), .pd (.list (wD us)), .pd (.list (us.map fun v => optO (readO v))), .pd d, .un, .un, .un] _
      walk_at "dl"
      refine ⟨hwl.lay, by decide +kernel, Nat.le_trans (Nat.min_le_left _ _) (Nat.le_trans hwl.dep (by decide)), ?_⟩
      walk_at "dl"
      refine ⟨fun hb1 => ?_, fun hb1 => ?_⟩
      · walk_at "dl"
        refine ⟨⟨_, rfl⟩, ?_⟩
        walk_at "dl"
        refine ⟨_, wD_eq us, ?_, ?_⟩
        · have := sum_le (b := 900) (l := us) fun w m => (hu9 w m).1
          rw [sum_S, List.length_map, lNl, S_len]
          show _ + _ * 1 ≤ _
          omega
        rw [join10]
        walk_at "dl"
        refine ltext_of hu9 hun hus0 (not_blank hb1) (fun z => ?_) (fun i v a b c => ?_)
        · rw [hd.1 z]
          walk_at "dl"
          refine ⟨_, rfl, hd.2.2, ?_⟩
          walk_at "dl"
          exact ⟨bs, _, _, _, _, _, _, hb, rfl⟩
        · rw [hd.2.1 i v a b c]
          walk_at "dl"
          refine ⟨_, rfl, hd.2.2, ?_⟩
          walk_at "dl"
          exact ⟨bs, _, _, _, _, _, _, hb, rfl⟩
      · walk_at "dl"
        exact ⟨bs, _, _, _, _, _, _, hb, rfl⟩
    · have hd := due_told hun (of_decide_eq_false h) hu9
      refine ew_tup ?_
      refine aw_cons ?_
      refine ew_str ?_
      refine aw_cons ?_
      refine ew_name 9 (pv 9) rfl ?_
      refine aw_nil ⟨Nat.le_of_ble_eq_true rfl, ?_⟩
      revert hd
      generalize PyData.tuple [.str (Str.ofString "told"), .list (us.map fun v => optO (readO v))] = d
      intro hd
      show SsW _ _ _ [.pd (.list (dI ns)), .ow (.lst bs), .pd (.list (os.map odata)), .pd (.list (wD L)), a4, .pd (.int (t : Nat)), a6, .pd (.str (S (joinL 10 L))), .pd (.list (wD us)), .pd (.list (us.map fun v => optO (readO v))), .pd d, .un, .un, .un] _
      walk_at "dl"
      refine ⟨hwl.lay, by decide +kernel, Nat.le_trans (Nat.min_le_left _ _) (Nat.le_trans hwl.dep (by decide)), ?_⟩
      walk_at "dl"
      refine ⟨fun hb1 => ?_, fun hb1 => ?_⟩
      · walk_at "dl"
        refine ⟨⟨_, rfl⟩, ?_⟩
        walk_at "dl"
        refine ⟨_, wD_eq us, ?_, ?_⟩
        · have := sum_le (b := 900) (l := us) fun w m => (hu9 w m).1
          rw [sum_S, List.length_map, lNl, S_len]
          show _ + _ * 1 ≤ _
          omega
        rw [join10]
        walk_at "dl"
        refine ltext_of hu9 hun hus0 (not_blank hb1) (fun z => ?_) (fun i v a b c => ?_)
        · rw [hd.1 z]
          walk_at "dl"
          refine ⟨_, rfl, hd.2.2, ?_⟩
          walk_at "dl"
          exact ⟨bs, _, _, _, _, _, _, hb, rfl⟩
        · rw [hd.2.1 i v a b c]
          walk_at "dl"
          refine ⟨_, rfl, hd.2.2, ?_⟩
          walk_at "dl"
          exact ⟨bs, _, _, _, _, _, _, hb, rfl⟩
      · walk_at "dl"
        exact ⟨bs, _, _, _, _, _, _, hb, rfl⟩
  rintro ρ ⟨bs, a4, a5, a6, a8, a9, a10, hb, rfl⟩
  walk_at "dl"
  have hLn : (wD L).length = L.length := by simp [wD]
  refine ⟨by rw [lNl, S_len, S_len]; show _ + 1 ≤ _; omega, ?_⟩
  rw [show S (joinL 10 L) ++ Str.ofString "\n" = S (joinL 10 (L ++ [[]])) by rw [lNl, S_app, joinL_snoc 10 hL0]]
  walk_at "dl"
  refine ltext_of (ls := L ++ [[]]) (fun v m => ?_) (by rw [List.length_append, List.length_singleton]; omega) (by simp) (fun z => ?_) (fun h => absurd readO_nil (h [] (by simp))) (fun i v h1 h2 h3 => ?_)
  · rcases List.mem_append.mp m with m | m
    · exact (hlk v m).mono (by decide)
    · rw [List.mem_singleton.mp m]
      exact ⟨by decide, by decide, by decide⟩
  · have := congrArg List.length z
    rw [List.length_append] at this
    have h2 : ([[]] : List (List Nat)).length = 1 := rfl
    exact hL0 (List.length_eq_zero_iff.mp (by omega))
  have hi : i = L.length := by
    have hlt := (List.getElem?_eq_some_iff.mp h1).1
    rw [List.length_append, List.length_singleton] at hlt
    by_cases hc : i < L.length
    · rw [List.getElem?_append_left hc] at h1
      exact absurd h2 (hgood v (List.mem_of_getElem? h1))
    · omega
  subst hi
  walk_at "dl"
  rw [hLn]
  walk_at "dl"
  refine ⟨_, rfl, same_wrong (n := L.length + 1) (by omega), ?_⟩
  walk_at "dl"
  refine ⟨[], rfl, ⟨by decide, by decide, by decide⟩, fun _ => ?_, fun z => absurd rfl z, fun z => absurd rfl z⟩
  walk_at "dl"
  exact ⟨_, rfl, same_told (xs := []) (by simp) (by decide), q⟩
end
section
variable {P : Program} {w : World} {K : PySem.W.Frag} {mg : Str → Option Value} {base : Heap} {n : Nat}
abbrev s_BadOrder : Stmt := clsStmt (topS 2) 0
theorem ms_BadOrder : MScope ["self", "line"] ["self", "line"] (defScope s_BadOrder) := ⟨rfl, rfl, rfl, by decide +kernel, by decide +kernel, by decide +kernel, rfl, by decide +kernel, rfl, rfl⟩
theorem k_mk {C f cda cc : Addr} {kV doc pm ct oc ccl cl : Value} {an od cdd cld : Option Addr} {osl ccs csl : Array (Option Value)} {cvs : Array Value} {file : Str} {tf : Tok} {nm q N bs bm sn sub ab col dd k0 k1 k2 k3 k5 : _}
    (mC : mg "BadOrder" = some (.ref C)) (lkC : K.lookup C = some (excClassObj nm q C N bs bm true sn sub ab col dd k0 k1 k2 k3 k5 "ValueError.__new__")) (rVE : PySem.HandSPX.refsVE bm = true)
    (sa : PySem.W.findIn K (.ref C) "__setattr__" = some (some (.builtin "object.__setattr__"))) (exC : PySem.W.subIn K (.ref C) (.type "BaseException") = some true) (tyC : PySem.W.typeIn K (.ref C) = some (.type "type")) (kC : PySem.W.keepIn K (.ref C) = true)
    (hg : PySem.W.findIn K (.ref C) "__getattribute__" = some (some (.builtin "BaseException.__getattribute__"))) (gk : PySem.W.findIn K (.ref C) "__getattr__" = some none) (hd : PySem.W.hasDictIn K C = true)
    (ha : PySem.W.findIn K (.ref C) "__class__" = some (some (.builtin "object.__class__"))) (hn : PySem.W.specialIn K (.builtin "object.__class__") "__get__" = some (some (.builtin "getset_descriptor.__get__"))) (ht : PySem.W.takesIn K (.builtin "object.__class__") = some true)
    (hm : PySem.W.mroIn K C (.type "object") = some true) (nof : PySem.W.findIn K (.ref C) "line" = some none)
    (iC : PySem.W.findIn K (.ref C) "__init__" = some (some (.ref f))) (tI : PySem.W.typeIn K (.ref f) = some (.type "function"))
    (lk : K.lookup f = some ⟨oc, od, .func (PySem.W.ksFn "__init__" "BadOrder.__init__" (defArgs s_BadOrder) (defBody s_BadOrder) (defScope s_BadOrder) .none kV doc pm an (.ref cda) ct cc), osl⟩)
    (hcd : PySem.W.codeIn K (.ref cda) "BadOrder.__init__" = true) (hco : K.lookup cda = some ⟨ccl, cdd, .fields cvs, ccs⟩) (hvs : cvs[2]? = some (.str file tf)) (hfile : ((P.main.file : Str) == file) = true)
    (hcell : K.lookup cc = some ⟨cl, cld, .cell (some (.ref C)), csl⟩) (hsup : PySem.W.ks_superIn K C C "__init__" = some (some (.builtin "ValueError.__init__"))) (hmg : mg "super" = none)
    (htop : (P.main.scope.names.lookup ("super" : Str)).isSome = false) (hot : PySem.W.nsIn K cStatics "thirdparty.any" = some none) (hVE : PySem.W.subIn K (.ref C) (.type "ValueError") = some true) (hCC : PySem.W.mroIn K C (.ref C) = some true) : ClsX P w K mg base 2 "BadOrder" C "line" okLine := by
  refine clsX_init (st := s_BadOrder) (sl := "self") (xn := "line") (name := "__init__") (qual := "BadOrder.__init__") (ar := ⟨"self", none, _⟩) mC lkC rVE sa exC tyC kC hg gk hd ha hn ht hm nof iC tI lk hcd hco hvs hfile hcell hsup hmg htop hot hVE hCC rfl ms_BadOrder rfl rfl (fun _ _ _ _ _ _ us hl => match us, hl with | [_, _], _ => rfl) rfl rfl rfl rfl (fun A outer s H d hd => ?_) (fun _ => rfl) (fun _ => rfl) (fun _ => rfl) (fun _ => rfl) (by decide)
  obtain ⟨n, rfl, hn⟩ := hd
  walk_at "dl"
  refine ⟨_, rfl, by decide +kernel, ?_⟩
  walk_at "dl"
  refine ⟨log_ok (Nat.lt_trans hn (by decide)), ?_⟩
  rw [show (Str.ofString (toString ((n : Nat) : Int))) = S (dig n) from dig_str n]
  have h2 := dig_le hn
  refine ⟨_, rfl, ?_, ?_⟩
  · rw [show (Str.empty ++ Str.ofString "line ") = S [108, 105, 110, 101, 32] from by decide +kernel, S_app, S_len, List.length_append]
    show 5 + _ ≤ _
    omega
  walk_at "dl"
  exact Nat.le_of_ble_eq_true rfl
end
section
variable {P : Program} {w : World} {K : PySem.W.Frag} {mg : Str → Option Value} {base : Heap} {n : Nat}
theorem da_ints {K : PySem.W.Frag} {Hb : Hp} : ∀ ns : List Int, DaAll K Hb (ns.map V.int) (dI ns)
  | [] => .nil
  | _ :: ns => .cons (.int _) (da_ints ns)
theorem law_in (w : World) (K : PySem.W.Frag) (H : Hp) (a : Addr) (ns : List Int) (h : RlK K H a (ns.map V.int)) : SpP K w_law [.ref a] H (fun v _ => v = .bl true) fun _ _ _ => False := by
  refine ⟨H, _, fun d => d = .bool true, Sub.refl H, .cons (.lst h (da_ints ns)) .nil, ⟨ns, rfl, rfl⟩, fun v d Hb2 H2 s g da e => ?_⟩
  subst e
  cases da
  rfl
theorem all_mk {l : PySem.W.OpenLaw} {w : World} {K : PySem.W.Frag} {h : Heap} {mg : Str → Option Value} {fa : Addr} (X : K.In h) (G : h.Ns mainGlobals mg) (hfa : mg "law" = some (.ref fa))
    {f_Lsame : Addr} {od_Lsame an_Lsame : Option Addr} {sl_Lsame : Array (Option Value)} {oc_Lsame kV_Lsame dc_Lsame pm_Lsame cd_Lsame ct_Lsame : Value}
    (a_Lsame : PySem.W.nsIn K mainGlobals "_law_same" = some (some (.ref f_Lsame))) (l_Lsame : K.lookup f_Lsame = some ⟨oc_Lsame, od_Lsame, .func (PySem.W.fnOf "_law_same" "_law_same" (defArgs s_Lsame) (defBody s_Lsame) (defScope s_Lsame) .none kV_Lsame dc_Lsame pm_Lsame an_Lsame cd_Lsame ct_Lsame), sl_Lsame⟩) (c_Lsame : PySem.W.codeIn K cd_Lsame "_law_same" = true) (k_Lsame : PySem.W.keepIn K (.ref f_Lsame) = true)
    {f_Lcell : Addr} {od_Lcell an_Lcell : Option Addr} {sl_Lcell : Array (Option Value)} {oc_Lcell kV_Lcell dc_Lcell pm_Lcell cd_Lcell ct_Lcell : Value}
    (a_Lcell : PySem.W.nsIn K mainGlobals "_law_cell" = some (some (.ref f_Lcell))) (l_Lcell : K.lookup f_Lcell = some ⟨oc_Lcell, od_Lcell, .func (PySem.W.fnOf "_law_cell" "_law_cell" (defArgs s_Lcell) (defBody s_Lcell) (defScope s_Lcell) .none kV_Lcell dc_Lcell pm_Lcell an_Lcell cd_Lcell ct_Lcell), sl_Lcell⟩) (c_Lcell : PySem.W.codeIn K cd_Lcell "_law_cell" = true) (k_Lcell : PySem.W.keepIn K (.ref f_Lcell) = true)
    {f_Ldigits : Addr} {od_Ldigits an_Ldigits : Option Addr} {sl_Ldigits : Array (Option Value)} {oc_Ldigits kV_Ldigits dc_Ldigits pm_Ldigits cd_Ldigits ct_Ldigits : Value}
    (a_Ldigits : PySem.W.nsIn K mainGlobals "_law_digits" = some (some (.ref f_Ldigits))) (l_Ldigits : K.lookup f_Ldigits = some ⟨oc_Ldigits, od_Ldigits, .func (PySem.W.fnOf "_law_digits" "_law_digits" (defArgs s_Ldigits) (defBody s_Ldigits) (defScope s_Ldigits) .none kV_Ldigits dc_Ldigits pm_Ldigits an_Ldigits cd_Ldigits ct_Ldigits), sl_Ldigits⟩) (c_Ldigits : PySem.W.codeIn K cd_Ldigits "_law_digits" = true) (k_Ldigits : PySem.W.keepIn K (.ref f_Ldigits) = true)
    {f_Ldraw : Addr} {od_Ldraw an_Ldraw : Option Addr} {sl_Ldraw : Array (Option Value)} {oc_Ldraw kV_Ldraw dc_Ldraw pm_Ldraw cd_Ldraw ct_Ldraw : Value}
    (a_Ldraw : PySem.W.nsIn K mainGlobals "_law_draw" = some (some (.ref f_Ldraw))) (l_Ldraw : K.lookup f_Ldraw = some ⟨oc_Ldraw, od_Ldraw, .func (PySem.W.fnOf "_law_draw" "_law_draw" (defArgs s_Ldraw) (defBody s_Ldraw) (defScope s_Ldraw) .none kV_Ldraw dc_Ldraw pm_Ldraw an_Ldraw cd_Ldraw ct_Ldraw), sl_Ldraw⟩) (c_Ldraw : PySem.W.codeIn K cd_Ldraw "_law_draw" = true) (k_Ldraw : PySem.W.keepIn K (.ref f_Ldraw) = true)
    {f_Lpick : Addr} {od_Lpick an_Lpick : Option Addr} {sl_Lpick : Array (Option Value)} {oc_Lpick kV_Lpick dc_Lpick pm_Lpick cd_Lpick ct_Lpick : Value}
    (a_Lpick : PySem.W.nsIn K mainGlobals "_law_pick" = some (some (.ref f_Lpick))) (l_Lpick : K.lookup f_Lpick = some ⟨oc_Lpick, od_Lpick, .func (PySem.W.fnOf "_law_pick" "_law_pick" (defArgs s_Lpick) (defBody s_Lpick) (defScope s_Lpick) .none kV_Lpick dc_Lpick pm_Lpick an_Lpick cd_Lpick ct_Lpick), sl_Lpick⟩) (c_Lpick : PySem.W.codeIn K cd_Lpick "_law_pick" = true) (k_Lpick : PySem.W.keepIn K (.ref f_Lpick) = true)
    {f_Lword : Addr} {od_Lword an_Lword : Option Addr} {sl_Lword : Array (Option Value)} {oc_Lword kV_Lword dc_Lword pm_Lword cd_Lword ct_Lword : Value}
    (a_Lword : PySem.W.nsIn K mainGlobals "_law_word" = some (some (.ref f_Lword))) (l_Lword : K.lookup f_Lword = some ⟨oc_Lword, od_Lword, .func (PySem.W.fnOf "_law_word" "_law_word" (defArgs s_Lword) (defBody s_Lword) (defScope s_Lword) .none kV_Lword dc_Lword pm_Lword an_Lword cd_Lword ct_Lword), sl_Lword⟩) (c_Lword : PySem.W.codeIn K cd_Lword "_law_word" = true) (k_Lword : PySem.W.keepIn K (.ref f_Lword) = true)
    {f_Lasked : Addr} {od_Lasked an_Lasked : Option Addr} {sl_Lasked : Array (Option Value)} {oc_Lasked kV_Lasked dc_Lasked pm_Lasked cd_Lasked ct_Lasked : Value}
    (a_Lasked : PySem.W.nsIn K mainGlobals "_law_asked" = some (some (.ref f_Lasked))) (l_Lasked : K.lookup f_Lasked = some ⟨oc_Lasked, od_Lasked, .func (PySem.W.fnOf "_law_asked" "_law_asked" (defArgs s_Lasked) (defBody s_Lasked) (defScope s_Lasked) .none kV_Lasked dc_Lasked pm_Lasked an_Lasked cd_Lasked ct_Lasked), sl_Lasked⟩) (c_Lasked : PySem.W.codeIn K cd_Lasked "_law_asked" = true) (k_Lasked : PySem.W.keepIn K (.ref f_Lasked) = true)
    {f_Lorder : Addr} {od_Lorder an_Lorder : Option Addr} {sl_Lorder : Array (Option Value)} {oc_Lorder kV_Lorder dc_Lorder pm_Lorder cd_Lorder ct_Lorder : Value}
    (a_Lorder : PySem.W.nsIn K mainGlobals "_law_order" = some (some (.ref f_Lorder))) (l_Lorder : K.lookup f_Lorder = some ⟨oc_Lorder, od_Lorder, .func (PySem.W.fnOf "_law_order" "_law_order" (defArgs s_Lorder) (defBody s_Lorder) (defScope s_Lorder) .none kV_Lorder dc_Lorder pm_Lorder an_Lorder cd_Lorder ct_Lorder), sl_Lorder⟩) (c_Lorder : PySem.W.codeIn K cd_Lorder "_law_order" = true) (k_Lorder : PySem.W.keepIn K (.ref f_Lorder) = true)
    {f_is_word : Addr} {od_is_word an_is_word : Option Addr} {sl_is_word : Array (Option Value)} {oc_is_word kV_is_word dc_is_word pm_is_word cd_is_word ct_is_word : Value}
    (a_is_word : PySem.W.nsIn K mainGlobals "is_word" = some (some (.ref f_is_word))) (l_is_word : K.lookup f_is_word = some ⟨oc_is_word, od_is_word, .func (PySem.W.fnOf "is_word" "is_word" (defArgs s_is_word) (defBody s_is_word) (defScope s_is_word) .none kV_is_word dc_is_word pm_is_word an_is_word cd_is_word ct_is_word), sl_is_word⟩) (c_is_word : PySem.W.codeIn K cd_is_word "is_word" = true) (k_is_word : PySem.W.keepIn K (.ref f_is_word) = true)
    {f_number_of : Addr} {od_number_of an_number_of : Option Addr} {sl_number_of : Array (Option Value)} {oc_number_of kV_number_of dc_number_of pm_number_of cd_number_of ct_number_of : Value}
    (a_number_of : PySem.W.nsIn K mainGlobals "number_of" = some (some (.ref f_number_of))) (l_number_of : K.lookup f_number_of = some ⟨oc_number_of, od_number_of, .func (PySem.W.fnOf "number_of" "number_of" (defArgs s_number_of) (defBody s_number_of) (defScope s_number_of) .none kV_number_of dc_number_of pm_number_of an_number_of cd_number_of ct_number_of), sl_number_of⟩) (c_number_of : PySem.W.codeIn K cd_number_of "number_of" = true) (k_number_of : PySem.W.keepIn K (.ref f_number_of) = true)
    {f_read_order : Addr} {od_read_order an_read_order : Option Addr} {sl_read_order : Array (Option Value)} {oc_read_order kV_read_order dc_read_order pm_read_order cd_read_order ct_read_order : Value}
    (a_read_order : PySem.W.nsIn K mainGlobals "read_order" = some (some (.ref f_read_order))) (l_read_order : K.lookup f_read_order = some ⟨oc_read_order, od_read_order, .func (PySem.W.fnOf "read_order" "read_order" (defArgs s_read_order) (defBody s_read_order) (defScope s_read_order) .none kV_read_order dc_read_order pm_read_order an_read_order cd_read_order ct_read_order), sl_read_order⟩) (c_read_order : PySem.W.codeIn K cd_read_order "read_order" = true) (k_read_order : PySem.W.keepIn K (.ref f_read_order) = true)
    {f_read_orders : Addr} {od_read_orders an_read_orders : Option Addr} {sl_read_orders : Array (Option Value)} {oc_read_orders kV_read_orders dc_read_orders pm_read_orders cd_read_orders ct_read_orders : Value}
    (a_read_orders : PySem.W.nsIn K mainGlobals "read_orders" = some (some (.ref f_read_orders))) (l_read_orders : K.lookup f_read_orders = some ⟨oc_read_orders, od_read_orders, .func (PySem.W.fnOf "read_orders" "read_orders" (defArgs s_read_orders) (defBody s_read_orders) (defScope s_read_orders) .none kV_read_orders dc_read_orders pm_read_orders an_read_orders cd_read_orders ct_read_orders), sl_read_orders⟩) (c_read_orders : PySem.W.codeIn K cd_read_orders "read_orders" = true) (k_read_orders : PySem.W.keepIn K (.ref f_read_orders) = true)
    {f_Ltext : Addr} {od_Ltext an_Ltext : Option Addr} {sl_Ltext : Array (Option Value)} {oc_Ltext kV_Ltext dc_Ltext pm_Ltext cd_Ltext ct_Ltext : Value}
    (a_Ltext : PySem.W.nsIn K mainGlobals "_law_text" = some (some (.ref f_Ltext))) (l_Ltext : K.lookup f_Ltext = some ⟨oc_Ltext, od_Ltext, .func (PySem.W.fnOf "_law_text" "_law_text" (defArgs s_Ltext) (defBody s_Ltext) (defScope s_Ltext) .none kV_Ltext dc_Ltext pm_Ltext an_Ltext cd_Ltext ct_Ltext), sl_Ltext⟩) (c_Ltext : PySem.W.codeIn K cd_Ltext "_law_text" = true) (k_Ltext : PySem.W.keepIn K (.ref f_Ltext) = true)
    {f_Lis_word : Addr} {od_Lis_word an_Lis_word : Option Addr} {sl_Lis_word : Array (Option Value)} {oc_Lis_word kV_Lis_word dc_Lis_word pm_Lis_word cd_Lis_word ct_Lis_word : Value}
    (a_Lis_word : PySem.W.nsIn K mainGlobals "_law_is_word" = some (some (.ref f_Lis_word))) (l_Lis_word : K.lookup f_Lis_word = some ⟨oc_Lis_word, od_Lis_word, .func (PySem.W.fnOf "_law_is_word" "_law_is_word" (defArgs s_Lis_word) (defBody s_Lis_word) (defScope s_Lis_word) .none kV_Lis_word dc_Lis_word pm_Lis_word an_Lis_word cd_Lis_word ct_Lis_word), sl_Lis_word⟩) (c_Lis_word : PySem.W.codeIn K cd_Lis_word "_law_is_word" = true) (k_Lis_word : PySem.W.keepIn K (.ref f_Lis_word) = true)
    {f_Lnumber : Addr} {od_Lnumber an_Lnumber : Option Addr} {sl_Lnumber : Array (Option Value)} {oc_Lnumber kV_Lnumber dc_Lnumber pm_Lnumber cd_Lnumber ct_Lnumber : Value}
    (a_Lnumber : PySem.W.nsIn K mainGlobals "_law_number" = some (some (.ref f_Lnumber))) (l_Lnumber : K.lookup f_Lnumber = some ⟨oc_Lnumber, od_Lnumber, .func (PySem.W.fnOf "_law_number" "_law_number" (defArgs s_Lnumber) (defBody s_Lnumber) (defScope s_Lnumber) .none kV_Lnumber dc_Lnumber pm_Lnumber an_Lnumber cd_Lnumber ct_Lnumber), sl_Lnumber⟩) (c_Lnumber : PySem.W.codeIn K cd_Lnumber "_law_number" = true) (k_Lnumber : PySem.W.keepIn K (.ref f_Lnumber) = true)
    {f_Lread : Addr} {od_Lread an_Lread : Option Addr} {sl_Lread : Array (Option Value)} {oc_Lread kV_Lread dc_Lread pm_Lread cd_Lread ct_Lread : Value}
    (a_Lread : PySem.W.nsIn K mainGlobals "_law_read" = some (some (.ref f_Lread))) (l_Lread : K.lookup f_Lread = some ⟨oc_Lread, od_Lread, .func (PySem.W.fnOf "_law_read" "_law_read" (defArgs s_Lread) (defBody s_Lread) (defScope s_Lread) .none kV_Lread dc_Lread pm_Lread an_Lread cd_Lread ct_Lread), sl_Lread⟩) (c_Lread : PySem.W.codeIn K cd_Lread "_law_read" = true) (k_Lread : PySem.W.keepIn K (.ref f_Lread) = true)
    {f_Lbent : Addr} {od_Lbent an_Lbent : Option Addr} {sl_Lbent : Array (Option Value)} {oc_Lbent kV_Lbent dc_Lbent pm_Lbent cd_Lbent ct_Lbent : Value}
    (a_Lbent : PySem.W.nsIn K mainGlobals "_law_bent" = some (some (.ref f_Lbent))) (l_Lbent : K.lookup f_Lbent = some ⟨oc_Lbent, od_Lbent, .func (PySem.W.fnOf "_law_bent" "_law_bent" (defArgs s_Lbent) (defBody s_Lbent) (defScope s_Lbent) .none kV_Lbent dc_Lbent pm_Lbent an_Lbent cd_Lbent ct_Lbent), sl_Lbent⟩) (c_Lbent : PySem.W.codeIn K cd_Lbent "_law_bent" = true) (k_Lbent : PySem.W.keepIn K (.ref f_Lbent) = true)
    {f_write_order : Addr} {od_write_order an_write_order : Option Addr} {sl_write_order : Array (Option Value)} {oc_write_order kV_write_order dc_write_order pm_write_order cd_write_order ct_write_order : Value}
    (a_write_order : PySem.W.nsIn K mainGlobals "write_order" = some (some (.ref f_write_order))) (l_write_order : K.lookup f_write_order = some ⟨oc_write_order, od_write_order, .func (PySem.W.fnOf "write_order" "write_order" (defArgs s_write_order) (defBody s_write_order) (defScope s_write_order) .none kV_write_order dc_write_order pm_write_order an_write_order cd_write_order ct_write_order), sl_write_order⟩) (c_write_order : PySem.W.codeIn K cd_write_order "write_order" = true) (k_write_order : PySem.W.keepIn K (.ref f_write_order) = true)
    {f_write_orders : Addr} {od_write_orders an_write_orders : Option Addr} {sl_write_orders : Array (Option Value)} {oc_write_orders kV_write_orders dc_write_orders pm_write_orders cd_write_orders ct_write_orders : Value}
    (a_write_orders : PySem.W.nsIn K mainGlobals "write_orders" = some (some (.ref f_write_orders))) (l_write_orders : K.lookup f_write_orders = some ⟨oc_write_orders, od_write_orders, .func (PySem.W.fnOf "write_orders" "write_orders" (defArgs s_write_orders) (defBody s_write_orders) (defScope s_write_orders) .none kV_write_orders dc_write_orders pm_write_orders an_write_orders cd_write_orders ct_write_orders), sl_write_orders⟩) (c_write_orders : PySem.W.codeIn K cd_write_orders "write_orders" = true) (k_write_orders : PySem.W.keepIn K (.ref f_write_orders) = true)
    {f_law : Addr} {od_law an_law : Option Addr} {sl_law : Array (Option Value)} {oc_law kV_law dc_law pm_law cd_law ct_law : Value}
    (a_law : PySem.W.nsIn K mainGlobals "law" = some (some (.ref f_law))) (l_law : K.lookup f_law = some ⟨oc_law, od_law, .func (PySem.W.fnOf "law" "law" (defArgs s_law) (defBody s_law) (defScope s_law) .none kV_law dc_law pm_law an_law cd_law ct_law), sl_law⟩) (c_law : PySem.W.codeIn K cd_law "law" = true) (k_law : PySem.W.keepIn K (.ref f_law) = true)
    {t_ASKED : Addr} {e0_ASKED e1_ASKED e2_ASKED e3_ASKED e4_ASKED e5_ASKED e6_ASKED e7_ASKED e8_ASKED : Tok} {od_ASKED : Option Addr} {nn_ASKED : Nat} {sl_ASKED : Array (Option Value)} (y_ASKED : PySem.W.nsIn K mainGlobals "ASKED" = some (some (.ref t_ASKED))) (j_ASKED : K.lookup t_ASKED = some ⟨.type "tuple", od_ASKED, .seq #[.str "text" e0_ASKED, .str "side" e1_ASKED, .str "moves" e2_ASKED, .str "turns" e3_ASKED, .str "sights" e4_ASKED, .str "good" e5_ASKED, .str "flat" e6_ASKED, .str "size" e7_ASKED, .str "paper" e8_ASKED] nn_ASKED, sl_ASKED⟩)
    {t_BARE : Addr} {e0_BARE e1_BARE e2_BARE e3_BARE : Tok} {od_BARE : Option Addr} {nn_BARE : Nat} {sl_BARE : Array (Option Value)} (y_BARE : PySem.W.nsIn K mainGlobals "BARE" = some (some (.ref t_BARE))) (j_BARE : K.lookup t_BARE = some ⟨.type "tuple", od_BARE, .seq #[.str "books" e0_BARE, .str "begin" e1_BARE, .str "end" e2_BARE, .str "drop" e3_BARE] nn_BARE, sl_BARE⟩)
    {t_SMALL : Tok} (y_SMALL : PySem.W.nsIn K mainGlobals "SMALL" = some (some (.str "abcdefghijklmnopqrstuvwxyz" t_SMALL)))
    {C_BadOrder f cda cc : Addr} {kV doc pm ct oc ccl cl : Value} {an od cdd cld : Option Addr} {osl ccs csl : Array (Option Value)} {cvs : Array Value} {file : Str} {tf : Tok} {nm q N bs bm sn sub ab col dd k0 k1 k2 k3 k5 : _}
    (mC : PySem.W.nsIn K mainGlobals "BadOrder" = some (some (.ref C_BadOrder))) (lkC : K.lookup C_BadOrder = some (excClassObj nm q C_BadOrder N bs bm true sn sub ab col dd k0 k1 k2 k3 k5 "ValueError.__new__")) (rVE : PySem.HandSPX.refsVE bm = true)
    (sa : PySem.W.findIn K (.ref C_BadOrder) "__setattr__" = some (some (.builtin "object.__setattr__"))) (exC : PySem.W.subIn K (.ref C_BadOrder) (.type "BaseException") = some true) (tyC : PySem.W.typeIn K (.ref C_BadOrder) = some (.type "type")) (kC : PySem.W.keepIn K (.ref C_BadOrder) = true)
    (hg : PySem.W.findIn K (.ref C_BadOrder) "__getattribute__" = some (some (.builtin "BaseException.__getattribute__"))) (gk : PySem.W.findIn K (.ref C_BadOrder) "__getattr__" = some none) (hd : PySem.W.hasDictIn K C_BadOrder = true)
    (ha : PySem.W.findIn K (.ref C_BadOrder) "__class__" = some (some (.builtin "object.__class__"))) (hn : PySem.W.specialIn K (.builtin "object.__class__") "__get__" = some (some (.builtin "getset_descriptor.__get__"))) (ht : PySem.W.takesIn K (.builtin "object.__class__") = some true)
    (hm : PySem.W.mroIn K C_BadOrder (.type "object") = some true) (nof : PySem.W.findIn K (.ref C_BadOrder) "line" = some none)
    (iC : PySem.W.findIn K (.ref C_BadOrder) "__init__" = some (some (.ref f))) (tI : PySem.W.typeIn K (.ref f) = some (.type "function"))
    (lk : K.lookup f = some ⟨oc, od, .func (PySem.W.ksFn "__init__" "BadOrder.__init__" (defArgs s_BadOrder) (defBody s_BadOrder) (defScope s_BadOrder) .none kV doc pm an (.ref cda) ct cc), osl⟩)
    (hcd : PySem.W.codeIn K (.ref cda) "BadOrder.__init__" = true) (hco : K.lookup cda = some ⟨ccl, cdd, .fields cvs, ccs⟩) (hvs : cvs[2]? = some (.str file tf)) (hfile : ((l.prog.main.file : Str) == file) = true)
    (hcell : K.lookup cc = some ⟨cl, cld, .cell (some (.ref C_BadOrder)), csl⟩) (hsup : PySem.W.ks_superIn K C_BadOrder C_BadOrder "__init__" = some (some (.builtin "ValueError.__init__"))) (hmg : PySem.W.nsIn K mainGlobals "super" = some none)
    (htop : (l.prog.main.scope.names.lookup ("super" : Str)).isSome = false) (hot : PySem.W.nsIn K cStatics "thirdparty.any" = some none) (hVE : PySem.W.subIn K (.ref C_BadOrder) (.type "ValueError") = some true) (hCC : PySem.W.mroIn K C_BadOrder (.ref C_BadOrder) = some true)
    {C_T : Addr} (b_TurnError : PySem.W.nsIn K mainGlobals "TurnError" = some (some (.ref C_T))) (t1 : PySem.W.subIn K (.ref C_T) (.type "BaseException") = some true) (t2 : PySem.W.hasDictIn K C_T = true) (t3 : PySem.W.typeIn K (.ref C_T) = some (.type "type")) (t4 : PySem.W.subIn K (.ref C_BadOrder) (.ref C_T) = some true)
    (z_all : PySem.W.nsIn K mainGlobals "all" = some none)
    (z_bool : PySem.W.nsIn K mainGlobals "bool" = some none)
    (z_enumerate : PySem.W.nsIn K mainGlobals "enumerate" = some none)
    (z_int : PySem.W.nsIn K mainGlobals "int" = some none)
    (z_isinstance : PySem.W.nsIn K mainGlobals "isinstance" = some none)
    (z_len : PySem.W.nsIn K mainGlobals "len" = some none)
    (z_list : PySem.W.nsIn K mainGlobals "list" = some none)
    (z_range : PySem.W.nsIn K mainGlobals "range" = some none)
    (z_repr : PySem.W.nsIn K mainGlobals "repr" = some none)
    (z_str : PySem.W.nsIn K mainGlobals "str" = some none)
    (z_tuple : PySem.W.nsIn K mainGlobals "tuple" = some none)
    : ∃ fd : FuncData, (∀ (s : Shared) (v : Value), BindsTo s fd ⟨[v], []⟩ [("script", v)]) ∧ ∀ base : Heap, K.In base → base.Ns mainGlobals mg → FnG l.prog w K mg base 32 fa fd ["script"] (SpP K w_law) := by
  have e := hfa.symm.trans (PySem.W.mg_of X G a_law)
  cases e
  refine ⟨PySem.W.fnOf "law" "law" (defArgs s_law) (defBody s_law) (defScope s_law) .none kV_law dc_law pm_law an_law cd_law ct_law, fun s v => .of_eq rfl, fun base _ _ => ?_⟩
  have m_ASKED : mg "ASKED" = some (.ref t_ASKED) := PySem.W.mg_of X G y_ASKED
  have d_ASKED : ∀ Hb, Da K Hb (.ref t_ASKED) (.tuple [.str "text", .str "side", .str "moves", .str "turns", .str "sights", .str "good", .str "flat", .str "size", .str "paper"]) := fun Hb => .tup (xs := [.str "text", .str "side", .str "moves", .str "turns", .str "sights", .str "good", .str "flat", .str "size", .str "paper"]) (.inr ⟨_, _, _, j_ASKED, rfl, rfl, Nat.le_of_ble_eq_true rfl, (.cons ⟨_, rfl⟩ (.cons ⟨_, rfl⟩ (.cons ⟨_, rfl⟩ (.cons ⟨_, rfl⟩ (.cons ⟨_, rfl⟩ (.cons ⟨_, rfl⟩ (.cons ⟨_, rfl⟩ (.cons ⟨_, rfl⟩ (.cons ⟨_, rfl⟩ .nil)))))))))⟩) (.cons (.str _) (.cons (.str _) (.cons (.str _) (.cons (.str _) (.cons (.str _) (.cons (.str _) (.cons (.str _) (.cons (.str _) (.cons (.str _) .nil)))))))))
  have m_BARE : mg "BARE" = some (.ref t_BARE) := PySem.W.mg_of X G y_BARE
  have d_BARE : ∀ Hb, Da K Hb (.ref t_BARE) (.tuple [.str "books", .str "begin", .str "end", .str "drop"]) := fun Hb => .tup (xs := [.str "books", .str "begin", .str "end", .str "drop"]) (.inr ⟨_, _, _, j_BARE, rfl, rfl, Nat.le_of_ble_eq_true rfl, (.cons ⟨_, rfl⟩ (.cons ⟨_, rfl⟩ (.cons ⟨_, rfl⟩ (.cons ⟨_, rfl⟩ .nil))))⟩) (.cons (.str _) (.cons (.str _) (.cons (.str _) (.cons (.str _) .nil))))
  have m_SMALL : mg "SMALL" = some (.str "abcdefghijklmnopqrstuvwxyz" t_SMALL) := PySem.W.mg_of X G y_SMALL
  have m_all : mg "all" = none := PySem.W.mg_none_of X G z_all
  have m_bool : mg "bool" = none := PySem.W.mg_none_of X G z_bool
  have m_enumerate : mg "enumerate" = none := PySem.W.mg_none_of X G z_enumerate
  have m_int : mg "int" = none := PySem.W.mg_none_of X G z_int
  have m_isinstance : mg "isinstance" = none := PySem.W.mg_none_of X G z_isinstance
  have m_len : mg "len" = none := PySem.W.mg_none_of X G z_len
  have m_list : mg "list" = none := PySem.W.mg_none_of X G z_list
  have m_range : mg "range" = none := PySem.W.mg_none_of X G z_range
  have m_repr : mg "repr" = none := PySem.W.mg_none_of X G z_repr
  have m_str : mg "str" = none := PySem.W.mg_none_of X G z_str
  have m_tuple : mg "tuple" = none := PySem.W.mg_none_of X G z_tuple
  have k_BadOrder : ClsX l.prog w K mg base 2 "BadOrder" C_BadOrder "line" okLine := k_mk (PySem.W.mg_of X G mC) lkC rVE sa exC tyC kC hg gk hd ha hn ht hm nof iC tI lk hcd hco hvs hfile hcell hsup (PySem.W.mg_none_of X G hmg) htop hot hVE hCC
  have m_TurnError : mg "TurnError" = some (.ref C_T) := PySem.W.mg_of X G b_TurnError
  have x_T : PySem.W.exmOne K (.ref C_BadOrder) (.ref C_T) = some true := exm_of t1 t2 t3 t4
  have F_Lsame := fun_mk (st := s_Lsame) l_Lsame c_Lsame k_Lsame
  have c_Lsame : CalP l.prog w K mg base 31 "_law_same" w_Lsame := by
    have go : ∀ m, CalP l.prog w K mg base (0 + m + 1) "_law_same" (v_Lsame m) := fun m => by
      induction m with
      | zero => exact ⟨f_Lsame, _, _, ok_Lsame (n := 0) F_Lsame m_isinstance m_str m_int m_range m_len m_tuple m_list m_repr m_bool (fun _ h => nomatch h), PySem.W.mg_of X G a_Lsame, F_Lsame.kp, F_Lsame.binds (ps := ["told", "due"]) fun _ _ _ _ _ _ us hl => match us, hl with | [_, _], _ => rfl⟩
      | succ m ih => exact ⟨f_Lsame, _, _, ok_Lsame (n := 0 + m + 1) F_Lsame m_isinstance m_str m_int m_range m_len m_tuple m_list m_repr m_bool (fun _ h => by cases h; exact ih), PySem.W.mg_of X G a_Lsame, F_Lsame.kp, F_Lsame.binds (ps := ["told", "due"]) fun _ _ _ _ _ _ us hl => match us, hl with | [_, _], _ => rfl⟩
    exact go 30
  have F_Lcell := fun_mk (st := s_Lcell) l_Lcell c_Lcell k_Lcell
  have c_Lcell : CalP l.prog w K mg base 1 "_law_cell" w_Lcell := ⟨f_Lcell, _, _, ok_Lcell (n := 0)  F_Lcell m_len, PySem.W.mg_of X G a_Lcell, F_Lcell.kp, F_Lcell.binds (ps := ["script", "k"]) fun _ _ _ _ _ _ us hl => match us, hl with | [_, _], _ => rfl⟩
  have F_Ldigits := fun_mk (st := s_Ldigits) l_Ldigits c_Ldigits k_Ldigits
  have c_Ldigits : CalP l.prog w K mg base 2 "_law_digits" w_Ldigits := ⟨f_Ldigits, _, _, ok_Ldigits (n := 1)  F_Ldigits m_range m_int (c_Lcell.mono (by decide)), PySem.W.mg_of X G a_Ldigits, F_Ldigits.kp, F_Ldigits.binds (ps := ["script", "first", "last"]) fun _ _ _ _ _ _ us hl => match us, hl with | [_, _, _], _ => rfl⟩
  have F_Ldraw := fun_mk (st := s_Ldraw) l_Ldraw c_Ldraw k_Ldraw
  have c_Ldraw : CalB l.prog w K mg base 1 "_law_draw" w_Ldraw := ⟨f_Ldraw, _, _, ok_Ldraw (n := 0)  F_Ldraw m_len m_int, PySem.W.mg_of X G a_Ldraw, F_Ldraw.kp, F_Ldraw.binds (ps := ["box", "many"]) fun _ _ _ _ _ _ us hl => match us, hl with | [_, _], _ => rfl⟩
  have F_Lpick := fun_mk (st := s_Lpick) l_Lpick c_Lpick k_Lpick
  have c_Lpick : CalB l.prog w K mg base 2 "_law_pick" w_Lpick := ⟨f_Lpick, _, _, ok_Lpick (n := 1)  F_Lpick m_int m_len (c_Ldraw.mono (by decide)), PySem.W.mg_of X G a_Lpick, F_Lpick.kp, F_Lpick.binds (ps := ["box", "row"]) fun _ _ _ _ _ _ us hl => match us, hl with | [_, _], _ => rfl⟩
  have F_Lword := fun_mk (st := s_Lword) l_Lword c_Lword k_Lword
  have c_Lword : CalB l.prog w K mg base 3 "_law_word" w_Lword := ⟨f_Lword, _, _, ok_Lword (n := 2)  F_Lword m_range (c_Lpick.mono (by decide)), PySem.W.mg_of X G a_Lword, F_Lword.kp, F_Lword.binds (ps := ["box"]) fun _ _ _ _ _ _ us hl => match us, hl with | [_], _ => rfl⟩
  have F_Lasked := fun_mk (st := s_Lasked) l_Lasked c_Lasked k_Lasked
  have c_Lasked : CalP l.prog w K mg base 1 "_law_asked" w_Lasked := ⟨f_Lasked, _, _, ok_Lasked (n := 0)  F_Lasked , PySem.W.mg_of X G a_Lasked, F_Lasked.kp, F_Lasked.binds (ps := []) fun _ _ _ _ _ _ us hl => match us, hl with | [], _ => rfl⟩
  have F_Lorder := fun_mk (st := s_Lorder) l_Lorder c_Lorder k_Lorder
  have c_Lorder : CalB l.prog w K mg base 4 "_law_order" w_Lorder := ⟨f_Lorder, _, _, ok_Lorder (n := 3)  F_Lorder (c_Lword.mono (by decide)) (c_Ldraw.mono (by decide)) (c_Lpick.mono (by decide)) (c_Lasked.mono (by decide)), PySem.W.mg_of X G a_Lorder, F_Lorder.kp, F_Lorder.binds (ps := ["box"]) fun _ _ _ _ _ _ us hl => match us, hl with | [_], _ => rfl⟩
  have F_is_word := fun_mk (st := s_is_word) l_is_word c_is_word k_is_word
  have c_is_word : CalP l.prog w K mg base 1 "is_word" w_is_word := ⟨f_is_word, _, _, ok_is_word (n := 0)  F_is_word m_all m_len m_SMALL, PySem.W.mg_of X G a_is_word, F_is_word.kp, F_is_word.binds (ps := ["word"]) fun _ _ _ _ _ _ us hl => match us, hl with | [_], _ => rfl⟩
  have F_number_of := fun_mk (st := s_number_of) l_number_of c_number_of k_number_of
  have c_number_of : CalP l.prog w K mg base 1 "number_of" w_number_of := ⟨f_number_of, _, _, ok_number_of (n := 0)  F_number_of m_int m_all m_len, PySem.W.mg_of X G a_number_of, F_number_of.kp, F_number_of.binds (ps := ["word"]) fun _ _ _ _ _ _ us hl => match us, hl with | [_], _ => rfl⟩
  have F_read_order := fun_mk (st := s_read_order) l_read_order c_read_order k_read_order
  have c_read_order : CalP l.prog w K mg base 2 "read_order" w_read_order := ⟨f_read_order, _, _, ok_read_order (n := 1)  F_read_order m_len m_BARE d_BARE m_ASKED d_ASKED (c_is_word.mono (by decide)) (c_number_of.mono (by decide)), PySem.W.mg_of X G a_read_order, F_read_order.kp, F_read_order.binds (ps := ["line"]) fun _ _ _ _ _ _ us hl => match us, hl with | [_], _ => rfl⟩
  have F_read_orders := fun_mk (st := s_read_orders) l_read_orders c_read_orders k_read_orders
  have c_read_orders : CalX l.prog w K mg base 3 "read_orders" (w_read_orders C_BadOrder) := ⟨f_read_orders, _, _, ok_read_orders (n := 2)  F_read_orders m_enumerate (k_BadOrder.mono (by decide)) (c_read_order.mono (by decide)), PySem.W.mg_of X G a_read_orders, F_read_orders.kp, F_read_orders.binds (ps := ["text"]) fun _ _ _ _ _ _ us hl => match us, hl with | [_], _ => rfl⟩
  have F_Ltext := fun_mk (st := s_Ltext) l_Ltext c_Ltext k_Ltext
  have c_Ltext : CalP l.prog w K mg base 4 "_law_text" w_Ltext := ⟨f_Ltext, _, _, ok_Ltext (n := 3)  F_Ltext m_isinstance (k_BadOrder.mono (by decide)) m_TurnError x_T (c_read_orders.mono (by decide)), PySem.W.mg_of X G a_Ltext, F_Ltext.kp, F_Ltext.binds (ps := ["text"]) fun _ _ _ _ _ _ us hl => match us, hl with | [_], _ => rfl⟩
  have F_Lis_word := fun_mk (st := s_Lis_word) l_Lis_word c_Lis_word k_Lis_word
  have c_Lis_word : CalP l.prog w K mg base 1 "_law_is_word" w_Lis_word := ⟨f_Lis_word, _, _, ok_Lis_word (n := 0)  F_Lis_word m_len, PySem.W.mg_of X G a_Lis_word, F_Lis_word.kp, F_Lis_word.binds (ps := ["word"]) fun _ _ _ _ _ _ us hl => match us, hl with | [_], _ => rfl⟩
  have F_Lnumber := fun_mk (st := s_Lnumber) l_Lnumber c_Lnumber k_Lnumber
  have c_Lnumber : CalP l.prog w K mg base 1 "_law_number" w_Lnumber := ⟨f_Lnumber, _, _, ok_Lnumber (n := 0)  F_Lnumber m_len, PySem.W.mg_of X G a_Lnumber, F_Lnumber.kp, F_Lnumber.binds (ps := ["word"]) fun _ _ _ _ _ _ us hl => match us, hl with | [_], _ => rfl⟩
  have F_Lread := fun_mk (st := s_Lread) l_Lread c_Lread k_Lread
  have c_Lread : CalP l.prog w K mg base 2 "_law_read" w_Lread := ⟨f_Lread, _, _, ok_Lread (n := 1)  F_Lread m_len (c_Lis_word.mono (by decide)) (c_Lnumber.mono (by decide)) (c_Lasked.mono (by decide)), PySem.W.mg_of X G a_Lread, F_Lread.kp, F_Lread.binds (ps := ["text_row"]) fun _ _ _ _ _ _ us hl => match us, hl with | [_], _ => rfl⟩
  have F_Lbent := fun_mk (st := s_Lbent) l_Lbent c_Lbent k_Lbent
  have c_Lbent : CalB l.prog w K mg base 3 "_law_bent" w_Lbent := ⟨f_Lbent, _, _, ok_Lbent (n := 2)  F_Lbent m_len (c_Ldraw.mono (by decide)) (c_Lpick.mono (by decide)), PySem.W.mg_of X G a_Lbent, F_Lbent.kp, F_Lbent.binds (ps := ["box", "text_row"]) fun _ _ _ _ _ _ us hl => match us, hl with | [_, _], _ => rfl⟩
  have F_write_order := fun_mk (st := s_write_order) l_write_order c_write_order k_write_order
  have c_write_order : CalP l.prog w K mg base 1 "write_order" w_write_order := ⟨f_write_order, _, _, ok_write_order (n := 0)  F_write_order m_str, PySem.W.mg_of X G a_write_order, F_write_order.kp, F_write_order.binds (ps := ["order"]) fun _ _ _ _ _ _ us hl => match us, hl with | [_], _ => rfl⟩
  have F_write_orders := fun_mk (st := s_write_orders) l_write_orders c_write_orders k_write_orders
  have c_write_orders : CalP l.prog w K mg base 2 "write_orders" w_write_orders := ⟨f_write_orders, _, _, ok_write_orders (n := 1)  F_write_orders (c_write_order.mono (by decide)), PySem.W.mg_of X G a_write_orders, F_write_orders.kp, F_write_orders.binds (ps := ["orders"]) fun _ _ _ _ _ _ us hl => match us, hl with | [_], _ => rfl⟩
  exact ok_law (n := 31) (fun_mk (st := s_law) l_law c_law k_law) m_range m_len m_str m_list (c_Lsame.mono (by decide)) (c_Ldigits.mono (by decide)) (c_Lorder.mono (by decide)) (c_Ltext.mono (by decide)) (c_Lread.mono (by decide)) (c_Lbent.mono (by decide)) (c_write_orders.mono (by decide)) (c_Ldraw.mono (by decide)) (c_write_order.mono (by decide)) (c_read_order.mono (by decide))
end

end K97
open PySem PySem.W PyProof.Rows
set_option maxHeartbeats 0 in
theorem PySem.Challenge.cw_turnwise_k97_orders_read_and_written_holds : PySem.Challenge.rw_turnwise_k97_orders_read_and_written.Holds := by
  w_on; o_law; k_head; (case hw => w_witness2)
  k_fill
  refine DL.walkG (l := PySem.Challenge.rw_turnwise_k97_orders_read_and_written) (n := 63) (k := 32) (x := "script") (sp := fun w => DL.SpP _ K97.w_law) rfl (by decide) rfl ⟨rfl, by decide, by decide⟩ (fun w h Y => PySem.W.kIn_of Y) ?F (fun w H a ns _ _ hS => K97.law_in w _ H a ns hS)
  case F =>
    intro w mg fa h KX G hmg
    refine' K97.all_mk KX G hmg ?a_Lsame ?l_Lsame ?c_Lsame ?k_Lsame ?a_Lcell ?l_Lcell ?c_Lcell ?k_Lcell ?a_Ldigits ?l_Ldigits ?c_Ldigits ?k_Ldigits ?a_Ldraw ?l_Ldraw ?c_Ldraw ?k_Ldraw ?a_Lpick ?l_Lpick ?c_Lpick ?k_Lpick ?a_Lword ?l_Lword ?c_Lword ?k_Lword ?a_Lasked ?l_Lasked ?c_Lasked ?k_Lasked ?a_Lorder ?l_Lorder ?c_Lorder ?k_Lorder ?a_is_word ?l_is_word ?c_is_word ?k_is_word ?a_number_of ?l_number_of ?c_number_of ?k_number_of ?a_read_order ?l_read_order ?c_read_order ?k_read_order ?a_read_orders ?l_read_orders ?c_read_orders ?k_read_orders ?a_Ltext ?l_Ltext ?c_Ltext ?k_Ltext ?a_Lis_word ?l_Lis_word ?c_Lis_word ?k_Lis_word ?a_Lnumber ?l_Lnumber ?c_Lnumber ?k_Lnumber ?a_Lread ?l_Lread ?c_Lread ?k_Lread ?a_Lbent ?l_Lbent ?c_Lbent ?k_Lbent ?a_write_order ?l_write_order ?c_write_order ?k_write_order ?a_write_orders ?l_write_orders ?c_write_orders ?k_write_orders ?a_law ?l_law ?c_law ?k_law ?y_ASKED ?j_ASKED ?y_BARE ?j_BARE ?y_SMALL ?mC ?lkC ?rVE ?sa ?exC ?tyC ?kC ?hg ?gk ?hd ?ha ?hn ?ht ?hm ?nof ?iC ?tI ?lk ?hcd ?hco ?hvs ?hfile ?hcell ?hsup ?hmg ?htop ?hot ?hVE ?hCC ?b_TurnError ?t1 ?t2 ?t3 ?t4 ?z_all ?z_bool ?z_enumerate ?z_int ?z_isinstance ?z_len ?z_list ?z_range ?z_repr ?z_str ?z_tuple
    all_goals first | k_is | ks_is | exact rfl | decide +kernel | skip
